import Derived.Test.YtmgonkaadhbnpaaGreatDoorStA
import Derived.Test.YtmgonkaadhbnpaaGreatDoorScB
set_option linter.all false
set_option maxHeartbeats 4000000
open List renaming length→L
open Option renaming some→U,none→O
open Bool renaming true→Y,false→J
open Go renaming Value→V
open Go.Value renaming int→I,slice→M
open Go.IntKind renaming i64→X
open Go.Ab.Blk renaming cells→S
noncomputable section
namespace Go.Proofs.YtmgonkaadhbnpaaGreatDoor
open Go Go.Ab
set_option maxRecDepth 100000
variable{x:Nat}{xs:List Nat}{n:Nat}(hs:List Nat){l:List Nat}{i:Nat}(a:Nat)(b:Nat){tr:Tr V}{g:N}{tv:V}{hv:V}(h:N)(K:KP)
abbrev tW:TypeId:=191
def Uzv(x y:Int):uP x y=uP y x:=by unfold uP;grind
attribute [local simp] Qw p6 p7 X0 p_ p9 p5 qd qc Q6 Qt Yg Y6 jm Qg iD Ab.g0 gv gs Q8 Qd iH kH lr Qh Tr.H St.put Tm.put flat iS Y5 Qm Qp Qn Qo Qk Ql Qj Qq Qi Q7 Q9 pZ pX pW pY qn qk qj qf qg qi qq Qz.putAll Qr Q0 Qa Wa ku Yk Jn Yo Nat.testBit Y0 loadAt Ab.runT Ym Yb Yh
section
attribute [local simp] Qgm
def Uo3(x n:Nat)(T:CO n)(h:N)(K:KP)(j:K (.ret (iG (Bl.rot x n))) h):FK b 216 [iG x,I .u64 (n:Int)] h K:=by
 refine ip b (Qgm b) Jl4 rfl ?_;have e:∀ m s:Nat,s<=32->m=32-s->uP ((Int.ofNat x).fdiv (2 ^ m)) (IntKind.u32.wrap (Int.ofNat x*2 ^ s))=Int.ofNat (Bl.rot x m):=fun m s hs P=>by
  subst P;rw[Uzv,<- Ump x s hs];rfl
 rcases T with rfl | rfl | rfl | rfl
 ·have C:=e 16 16 kA rfl;simp only[iG]at j ⊢;rw[<- C]at j;simp[Gi,Hm,EH,U1w,NX,BY,show IntKind.u64.wrap 16=16 from rfl];exact j
 ·have C:=e 12 20 kA rfl;simp only[iG]at j ⊢;rw[<- C]at j;simp[Gi,Hm,EH,U2j,U26,BY,show IntKind.u64.wrap 20=20 from rfl];exact j
 ·have C:=e 8 24 kA rfl;simp only[iG]at j ⊢;rw[<- C]at j;simp[Gi,Hm,EH,Wak,NP,BY,show IntKind.u64.wrap 24=24 from rfl];exact j
 ·have C:=e 7 25 kA rfl;simp only[iG]at j ⊢;rw[<- C]at j;simp[Gi,Hm,EH,Wah,U2h,BY,show IntKind.u64.wrap 25=25 from rfl];exact j
def Uv6{h:N}{n0:Nat}{wv pv:V}{ws:List Nat}{p0 P C j x s t:Nat}(ow:ij h n0 1 wv 16 (ws.map iG))(hw:L ws=16)(sp:Sl h 1 pv 4 [lF p0,lF P,lF C,lF j])(ne:∀ c,J7 wv=U c->J7 pv≠U c)(q0:p0 < 16)(q1:P < 16)(q2:C < 16)(q3:j < 16)(hs:CO s)(ht:CO t)(K:KP)(hk:∀ h',ij h' n0 1 wv 16 ((Bl.half ws p0 P C j x s t).map iG)->h'.Q=h.Q->(∀ c,J7 wv≠U c->h'.A c=h.A c)->K (.ret (.tuple #[])) h') :
  FK b 213 [wv,pv,iG x,I .u64 (s:Int),I .u64 (t:Int)] h K:=by
 refine ip b (Uh b) Jsp rfl ?_;rcases ow with⟨_,e,_⟩ | ⟨bk,c,z',hc,rfl,h1,h2,h3,h4,h5,h6⟩
 ·cases e
 have W0:ng h h bk z' hc ws:=⟨h2,rfl,fun _ _=>rfl,hw⟩;have ix:∀ i:Nat,i < 16->J1 (E b).tojo tW (M (U ⟨bk,0,O⟩) 16 c) (I X (i:Int))=U (pO bk i):=fun i hi=>by
  rw[xo (vi b) rN ⟨iA,iA⟩];simp
 have pa:∀ i:Nat,i < 4->∃ pb po,pb≠bk/\J1 (E b).tojo 225 pv (I X (i:Int))=U (pO pb po)/\Zq h pb po=[lF p0,lF P,lF C,lF j][i]? := fun i hi=>by
  obtain⟨pb,po,k1,k2,k3, -⟩:=mQ (Fl b) DX sp (k:=.i64) (i:=(i:Int)) iA iA;have:=k3 0 iA;rw[bA,bR,bR,cg]at this;exact⟨pb,po,fun e=>ne bk rfl (e ▸ k1),k2,this⟩
 obtain⟨b0,o0,hx,a0,c0⟩:=pa 0 iA;obtain⟨b1,o1,hl,a1,c1⟩:=pa 1 iA;obtain⟨b2,o2,hb,a2,c2⟩:=pa 2 iA;obtain⟨b3,o3,hr,a3,c3⟩:=pa 3 iA;have a0:J1 (E b).tojo 225 pv (I X 0)=U (pO b0 o0):=a0;have a1:J1 (E b).tojo 225 pv (I X 1)=U (pO b1 o1):=a1;have a2:J1 (E b).tojo 225 pv (I X 2)=U (pO b2 o2):=a2;have a3:J1 (E b).tojo 225 pv (I X 3)=U (pO b3 o3):=a3;have c0:Zq h b0 o0=U (I X (p0:Int)):=c0;have c1:Zq h b1 o1=U (I X (P:Int)):=c1;have c2:Zq h b2 o2=U (I X (C:Int)):=c2;have c3:Zq h b3 o3=U (I X (j:Int)):=c3;have x0:=ix p0 q0;have x1:=ix P q1;have x2:=ix C q2;have x3:=ix j q3;have CU:∀ a b:Nat,IntKind.u32.wrap ((a:Int)+(b:Int))=((Bl.w32 (a+b):Nat):Int):=Np;have C1:∀ a b:Nat,sW (a:Int) (b:Int)=((Bl.xr a b:Nat):Int):=NJ;have hu:iG x=I .u32 (x:Int):=rfl;rw[hu];simp[uI,vo,Uh,V0,nJ,sE,Ju];obtain⟨v1,e1⟩:∃ v,v=Bl.w32 (Bl.w32 (Bl.wd ws p0+Bl.wd ws P)+x):=⟨_,rfl⟩;obtain⟨g1,s1,W1⟩:=W0.put q0 v1;have y0:=W0.cell q0;have y1:=W0.cell q1;refine jf [] jA S9.1 (by simp (config:={maxSteps:=1000000})[S9.2,Jco,uI,vo,Uh,V0,nJ,sE,Ju,a0,a1,c0,c1,x0,x1,y0,y1,CU,<- e1,s1];first | exact⟨rfl,rfl⟩ | rfl) ?_ ?_
 ·simp (config:={maxSteps:=1000000})[RC,uI,vo,Uh,V0,nJ,sE,Ju,a0,a1,c0,c1,x0,x1,y0,y1]
 simp[uI,vo,Uh,V0,nJ,sE,Ju];have d0:=(W1.other (o:=o0) hx).trans c0;have d1:=(W1.other (o:=o1) hl).trans c1;have d2:=(W1.other (o:=o2) hb).trans c2;have d3:=(W1.other (o:=o3) hr).trans c3;obtain⟨T,f1⟩:∃ v,v=Bl.xr (Bl.wd (ws.set p0 v1) j) (Bl.wd (ws.set p0 v1) p0):=⟨_,rfl⟩;obtain⟨g2,s2,W2⟩:=W1.put q3 (Bl.rot T s);have z0:=W1.cell q0;have z3:=W1.cell q3;obtain⟨_,_,k1,hp,j1,j2⟩:=Uo3 b T s hs g1 (fun r h'=>r=.ret (iG (Bl.rot T s))/\h'=g1) ⟨rfl,rfl⟩;rw[j1,j2]at k1;rw[j2]at hp;refine jf [⟨216,[I .u32 (T:Int),I .u64 (s:Int)],g1,I .u32 ((Bl.rot T s:Nat):Int),g1,Y⟩] ?_ S4.1 (by simp (config:={maxSteps:=1000000})[S4.2,Jb0,Jbg,uI,vo,Uh,V0,nJ,sE,Ju,a0,a3,d0,d3,x0,x3,z0,z3,vS,C1,<- f1,s2];first | exact⟨rfl,rfl⟩ | rfl) ?_ ?_
 ·exact nK ⟨k1,hp,fun _ _ _=>rfl⟩
 ·simp (config:={maxSteps:=1000000})[JW,uI,vo,Uh,V0,nJ,sE,Ju,a0,a3,d0,d3,x0,x3,z0,z3]
 simp[uI,vo,Uh,V0,nJ,sE,Ju];have d0:=(W2.other (o:=o0) hx).trans c0;have d1:=(W2.other (o:=o1) hl).trans c1;have d2:=(W2.other (o:=o2) hb).trans c2;have d3:=(W2.other (o:=o3) hr).trans c3;obtain⟨v3,e3⟩:∃ v,v=Bl.w32 (Bl.wd ((ws.set p0 v1).set j (Bl.rot T s)) C+Bl.wd ((ws.set p0 v1).set j (Bl.rot T s)) j):=⟨_,rfl⟩;obtain⟨g3,s3,W3⟩:=W2.put q2 v3;have z2:=W2.cell q2;have z3:=W2.cell q3;refine jf [] jA UD.1 (by simp (config:={maxSteps:=1000000})[UD.2,Z9p,uI,vo,Uh,V0,nJ,sE,Ju,a2,a3,d2,d3,x2,x3,z2,z3,CU,<- e3,s3];first | exact⟨rfl,rfl⟩ | rfl) ?_ ?_
 ·simp (config:={maxSteps:=1000000})[Rz,uI,vo,Uh,V0,nJ,sE,Ju,a2,a3,d2,d3,x2,x3,z2,z3]
 simp[uI,vo,Uh,V0,nJ,sE,Ju];have d0:=(W3.other (o:=o0) hx).trans c0;have d1:=(W3.other (o:=o1) hl).trans c1;have d2:=(W3.other (o:=o2) hb).trans c2;have d3:=(W3.other (o:=o3) hr).trans c3;obtain⟨r2,f2⟩:∃ v,v=Bl.xr (Bl.wd (((ws.set p0 v1).set j (Bl.rot T s)).set C v3) P) (Bl.wd (((ws.set p0 v1).set j (Bl.rot T s)).set C v3) C):=⟨_,rfl⟩;obtain⟨g4,s4,W4⟩:=W3.put q1 (Bl.rot r2 t);have z1:=W3.cell q1;have z2:=W3.cell q2;obtain⟨_,_,k2,hA,j3,j4⟩:=Uo3 b r2 t ht g3 (fun r h'=>r=.ret (iG (Bl.rot r2 t))/\h'=g3) ⟨rfl,rfl⟩;rw[j3,j4]at k2;rw[j4]at hA;refine jf [⟨216,[I .u32 (r2:Int),I .u64 (t:Int)],g3,I .u32 ((Bl.rot r2 t:Nat):Int),g3,Y⟩] ?_ S7.1 (by simp (config:={maxSteps:=1000000})[S7.2,Jar,Jbp,uI,vo,Uh,V0,nJ,sE,Ju,a1,a2,d1,d2,x1,x2,z1,z2,vS,C1,<- f2,s4];first | exact⟨rfl,rfl⟩ | rfl) ?_ ?_
 ·exact nK ⟨k2,hA,fun _ _ _=>rfl⟩
 ·simp (config:={maxSteps:=1000000})[JR,uI,vo,Uh,V0,nJ,sE,Ju,a1,a2,d1,d2,x1,x2,z1,z2]
 simp[uI,vo,Uh,V0,nJ,sE,Ju];have eW:(((ws.set p0 v1).set j (Bl.rot T s)).set C v3).set P (Bl.rot r2 t)=Bl.half ws p0 P C j x s t:=by
  subst e1 f1 e3 f2;unfold Bl.half;rw[U8a]
 rw[eW]at W4;refine hk g4 (.inr ⟨bk,c,z',hc,rfl,h1,W4.at',by grind,h4,h5,?_⟩) W4.Q (fun k hk=>W4.same k (fun e=>hk (e ▸ rfl)))
 grind
end
def zM(h:N):List (List Nat)->N
 | []=>h
 | l::r=>zM (h.push (S Y 1 (l.map lF))) r
def Jgf:∀ (ls:List (List Nat)) (h:N),(zM h ls).Q=h.Q+L ls
 | [],h=>rfl
 | l::r,h=>by
  have:=Jgf r (h.push (S Y 1 (l.map lF)));simp only[zM,bI,this,oJ];omega
def Hb:∀ (ls:List (List Nat)) (h:N),a_ h (zM h ls)
 | [],h=>a_.refl _
 | l::r,h=>(a_.push _ _).trans (Hb r _)
def J30:∀ (ls:List (List Nat)) (h:N) (i:Nat) (l:List Nat),ls[i]? = U l->(zM h ls).A (h.Q+i)=U (S Y 1 (l.map lF))
 | [],h,i,l,e=>by simp at e
 | x::r,h,0,l,e=>by
  simp at e;subst e;have g:(h.push (S Y 1 (x.map lF))).A h.Q=U (S Y 1 (x.map lF)):=by rw[N.F,if_pos rfl]
  exact(Hb r _).A g
 | x::r,h,i+1,l,e=>by
  have:=J30 r (h.push (S Y 1 (x.map lF))) i l (by grind);rw[oJ]at this;rw[show h.Q+(i+1)=h.Q+1+i by omega];exact this
def vk(h:N)(n1:Nat)(v:V)(n m:Nat)(ls:List (List Nat)):Prop:=∃ (j:Nat) (bs:List Nat),v=M (U ⟨j,0,O⟩) n n/\L ls=n/\L bs=n/\n1<=j/\h.A j=U (S Y 1 (bs.map fun q => M (U ⟨q,0,O⟩) m m)) /\
 ∀ (i q:Nat) (l:List Nat),bs[i]? = U q->ls[i]? = U l->n1<=q/\h.A q=U (S Y 1 (l.map lF))/\L l=m
def vk.keep{h h':N}{n1 n m:Nat}{v:V}{ls:List (List Nat)}(R:vk h n1 v n m ls)(C:∀ c,n1<=c->c < h.Q->h'.A c=h.A c):vk h' n1 v n m ls:=by
 obtain⟨j,bs,e,l1,l2,P,g,each⟩:=R;exact⟨j,bs,e,l1,l2,P,by rw[C j P (N.D g)];exact g,fun i q l h1 T=>by
  obtain⟨a,c,d⟩:=each i q l h1 T;exact⟨a,by rw[C q a (N.D c)];exact c,d⟩⟩
def vk.A{h:N}{n1 n m:Nat}{v:V}{ls:List (List Nat)}(R:vk h n1 v n m ls)(b:Nat){i:Nat}{l:List Nat}(hi:ls[i]? = U l) :
  ∃ bk q,J1 (E b).tojo 287 v (I X (i:Int))=U (pO bk i)/\Zq h bk i=U (M (U ⟨q,0,O⟩) m m)/\n1<=q/\h.A q=U (S Y 1 (l.map lF))/\L l=m:=by
 obtain⟨bk,bs,rfl,l1,l2,P,g,each⟩:=R;have C:i < L ls:=(av.1 hi).1;obtain⟨q,j⟩:∃ q,bs[i]? = U q:=⟨_,ac iA⟩;obtain⟨a,c,d⟩:=each i q l j hi;refine⟨bk,q,?_,?_,a,c,d⟩
 ·rw[xo (Wdw b) V7c ⟨iA,iA⟩];simp
 ·rw[Z2 g,b7,j];rfl
def U31(ls:List (List Nat))(n m:Nat)(C:L ls=n)(P:∀ l ∈ ls,L l=m):vk ((zM h ls).push (S Y 1 ((List.range' h.Q n).map fun q => M (U ⟨q,0,O⟩) m m))) h.Q (M (U ⟨(zM h ls).Q,0,O⟩) n n) n m ls:=by
 have hn:=Jgf ls h;refine⟨(zM h ls).Q,List.range' h.Q n,rfl,C,jA,iA,by rw[N.F,if_pos rfl],fun i q l h1 j => ?_⟩;have hi:i < L ls:=(av.1 j).1;have T:q=h.Q+i:=by
  grind
 subst T;refine⟨iA,?_,P l (ae j)⟩;rw[N.F,if_neg iA];exact J30 ls h i l j
def Up9:V6 (E b).tojo 191 8 [(0,I .u32 1779033703),(1,I .u32 3144134277),(2,I .u32 1013904242),(3,I .u32 2773480762),(4,I .u32 1359893119),(5,I .u32 2600822924),(6,I .u32 528734635),(7,I .u32 1541459225)] h=U (M (U ⟨h.Q,0,O⟩) 8 8,h.push (S Y 1 (Bl.begins.map iG))):=kR
section
def Ufg(j:K (.ret (M (U ⟨h.Q,0,O⟩) 8 8)) (h.push (S Y 1 (Bl.begins.map iG)))):FK b 201 [] h K:=by
 refine ip b (Jf b) Jad rfl ?_;simp[UR,J4j,Jf,Up9];exact j
def Uih:V6 (E b).tojo 225 16 [(0,I X 0),(1,I X 1),(2,I X 2),(3,I X 3),(4,I X 4),(5,I X 5),(6,I X 6),(7,I X 7),(8,I X 8),(9,I X 9),(10,I X 10),(11,I X 11),(12,I X 12),(13,I X 13),(14,I X 14),(15,I X 15)] h=U (M (U ⟨h.Q,0,O⟩) 16 16,h.push (S Y 1 (([0,1,2,3,4,5,6,7,8,9,10,11,12,13,14,15]:List Nat).map lF))):=kR
def Uhm:V6 (E b).tojo 225 16 [(0,I X 14),(1,I X 10),(2,I X 4),(3,I X 8),(4,I X 9),(5,I X 15),(6,I X 13),(7,I X 6),(8,I X 1),(9,I X 12),(10,I X 0),(11,I X 2),(12,I X 11),(13,I X 7),(14,I X 5),(15,I X 3)] h=U (M (U ⟨h.Q,0,O⟩) 16 16,h.push (S Y 1 (([14,10,4,8,9,15,13,6,1,12,0,2,11,7,5,3]:List Nat).map lF))):=kR
def Uj9:V6 (E b).tojo 225 16 [(0,I X 11),(1,I X 8),(2,I X 12),(3,I X 0),(4,I X 5),(5,I X 2),(6,I X 15),(7,I X 13),(8,I X 10),(9,I X 14),(10,I X 3),(11,I X 6),(12,I X 7),(13,I X 1),(14,I X 9),(15,I X 4)] h=U (M (U ⟨h.Q,0,O⟩) 16 16,h.push (S Y 1 (([11,8,12,0,5,2,15,13,10,14,3,6,7,1,9,4]:List Nat).map lF))):=kR
def Ui5:V6 (E b).tojo 225 16 [(0,I X 7),(1,I X 9),(2,I X 3),(3,I X 1),(4,I X 13),(5,I X 12),(6,I X 11),(7,I X 14),(8,I X 2),(9,I X 6),(10,I X 5),(11,I X 10),(12,I X 4),(13,I X 0),(14,I X 15),(15,I X 8)] h=U (M (U ⟨h.Q,0,O⟩) 16 16,h.push (S Y 1 (([7,9,3,1,13,12,11,14,2,6,5,10,4,0,15,8]:List Nat).map lF))):=kR
def Uke:V6 (E b).tojo 225 16 [(0,I X 9),(1,I X 0),(2,I X 5),(3,I X 7),(4,I X 2),(5,I X 4),(6,I X 10),(7,I X 15),(8,I X 14),(9,I X 1),(10,I X 11),(11,I X 12),(12,I X 6),(13,I X 8),(14,I X 3),(15,I X 13)] h=U (M (U ⟨h.Q,0,O⟩) 16 16,h.push (S Y 1 (([9,0,5,7,2,4,10,15,14,1,11,12,6,8,3,13]:List Nat).map lF))):=kR
def Uhn:V6 (E b).tojo 225 16 [(0,I X 2),(1,I X 12),(2,I X 6),(3,I X 10),(4,I X 0),(5,I X 11),(6,I X 8),(7,I X 3),(8,I X 4),(9,I X 13),(10,I X 7),(11,I X 5),(12,I X 15),(13,I X 14),(14,I X 1),(15,I X 9)] h=U (M (U ⟨h.Q,0,O⟩) 16 16,h.push (S Y 1 (([2,12,6,10,0,11,8,3,4,13,7,5,15,14,1,9]:List Nat).map lF))):=kR
def Uii:V6 (E b).tojo 225 16 [(0,I X 12),(1,I X 5),(2,I X 1),(3,I X 15),(4,I X 14),(5,I X 13),(6,I X 4),(7,I X 10),(8,I X 0),(9,I X 7),(10,I X 6),(11,I X 3),(12,I X 9),(13,I X 2),(14,I X 8),(15,I X 11)] h=U (M (U ⟨h.Q,0,O⟩) 16 16,h.push (S Y 1 (([12,5,1,15,14,13,4,10,0,7,6,3,9,2,8,11]:List Nat).map lF))):=kR
def Ujz:V6 (E b).tojo 225 16 [(0,I X 13),(1,I X 11),(2,I X 7),(3,I X 14),(4,I X 12),(5,I X 1),(6,I X 3),(7,I X 9),(8,I X 5),(9,I X 0),(10,I X 15),(11,I X 4),(12,I X 8),(13,I X 6),(14,I X 2),(15,I X 10)] h=U (M (U ⟨h.Q,0,O⟩) 16 16,h.push (S Y 1 (([13,11,7,14,12,1,3,9,5,0,15,4,8,6,2,10]:List Nat).map lF))):=kR
def Uhe:V6 (E b).tojo 225 16 [(0,I X 6),(1,I X 15),(2,I X 14),(3,I X 9),(4,I X 11),(5,I X 3),(6,I X 0),(7,I X 8),(8,I X 12),(9,I X 2),(10,I X 13),(11,I X 7),(12,I X 1),(13,I X 4),(14,I X 10),(15,I X 5)] h=U (M (U ⟨h.Q,0,O⟩) 16 16,h.push (S Y 1 (([6,15,14,9,11,3,0,8,12,2,13,7,1,4,10,5]:List Nat).map lF))):=kR
def Ui2:V6 (E b).tojo 225 16 [(0,I X 10),(1,I X 2),(2,I X 8),(3,I X 4),(4,I X 7),(5,I X 6),(6,I X 1),(7,I X 5),(8,I X 15),(9,I X 11),(10,I X 9),(11,I X 14),(12,I X 3),(13,I X 12),(14,I X 13),(15,I X 0)] h=U (M (U ⟨h.Q,0,O⟩) 16 16,h.push (S Y 1 (([10,2,8,4,7,6,1,5,15,11,9,14,3,12,13,0]:List Nat).map lF))):=kR
def Ur0(j C P T q4 q5 q6 q7 q8 q9:Nat):V6 (E b).tojo 287 10 [(0,M (U ⟨j,0,O⟩) 16 16),(1,M (U ⟨C,0,O⟩) 16 16),(2,M (U ⟨P,0,O⟩) 16 16),(3,M (U ⟨T,0,O⟩) 16 16),(4,M (U ⟨q4,0,O⟩) 16 16),(5,M (U ⟨q5,0,O⟩) 16 16),(6,M (U ⟨q6,0,O⟩) 16 16),(7,M (U ⟨q7,0,O⟩) 16 16),(8,M (U ⟨q8,0,O⟩) 16 16),(9,M (U ⟨q9,0,O⟩) 16 16)] h=U (M (U ⟨h.Q,0,O⟩) 10 10,h.push (S Y 1 [M (U ⟨j,0,O⟩) 16 16,M (U ⟨C,0,O⟩) 16 16,M (U ⟨P,0,O⟩) 16 16,M (U ⟨T,0,O⟩) 16 16,M (U ⟨q4,0,O⟩) 16 16,M (U ⟨q5,0,O⟩) 16 16,M (U ⟨q6,0,O⟩) 16 16,M (U ⟨q7,0,O⟩) 16 16,M (U ⟨q8,0,O⟩) 16 16,M (U ⟨q9,0,O⟩) 16 16])):=kR
def Utl(j:∀ v h',vk h' h.Q v 10 16 Bl.orders->a_ h h'->K (.ret v) h'):FK b 211 [] h K:=by
 refine ip b (Gf b) Jbo rfl ?_;simp[UU,J2y,Gf,TJ,Uih,Uhm,Uj9,Ui5,Uke,Uhn,Uii,Ujz,Uhe,Ui2,Ur0];exact j _ _ (U31 h Bl.orders 10 16 rfl kA) ((Hb Bl.orders h).push' _)
def Ug5:V6 (E b).tojo 225 4 [(0,I X 0),(1,I X 4),(2,I X 8),(3,I X 12)] h=U (M (U ⟨h.Q,0,O⟩) 4 4,h.push (S Y 1 (([0,4,8,12]:List Nat).map lF))):=kR
def Ukj:V6 (E b).tojo 225 4 [(0,I X 1),(1,I X 5),(2,I X 9),(3,I X 13)] h=U (M (U ⟨h.Q,0,O⟩) 4 4,h.push (S Y 1 (([1,5,9,13]:List Nat).map lF))):=kR
def Ufx:V6 (E b).tojo 225 4 [(0,I X 2),(1,I X 6),(2,I X 10),(3,I X 14)] h=U (M (U ⟨h.Q,0,O⟩) 4 4,h.push (S Y 1 (([2,6,10,14]:List Nat).map lF))):=kR
def Uiz:V6 (E b).tojo 225 4 [(0,I X 3),(1,I X 7),(2,I X 11),(3,I X 15)] h=U (M (U ⟨h.Q,0,O⟩) 4 4,h.push (S Y 1 (([3,7,11,15]:List Nat).map lF))):=kR
def Uhv:V6 (E b).tojo 225 4 [(0,I X 0),(1,I X 5),(2,I X 10),(3,I X 15)] h=U (M (U ⟨h.Q,0,O⟩) 4 4,h.push (S Y 1 (([0,5,10,15]:List Nat).map lF))):=kR
def Uj1:V6 (E b).tojo 225 4 [(0,I X 1),(1,I X 6),(2,I X 11),(3,I X 12)] h=U (M (U ⟨h.Q,0,O⟩) 4 4,h.push (S Y 1 (([1,6,11,12]:List Nat).map lF))):=kR
def Uij:V6 (E b).tojo 225 4 [(0,I X 2),(1,I X 7),(2,I X 8),(3,I X 13)] h=U (M (U ⟨h.Q,0,O⟩) 4 4,h.push (S Y 1 (([2,7,8,13]:List Nat).map lF))):=kR
def Ul4:V6 (E b).tojo 225 4 [(0,I X 3),(1,I X 4),(2,I X 9),(3,I X 14)] h=U (M (U ⟨h.Q,0,O⟩) 4 4,h.push (S Y 1 (([3,4,9,14]:List Nat).map lF))):=kR
def Uo9(j C P T q4 q5 q6 q7:Nat):V6 (E b).tojo 287 8 [(0,M (U ⟨j,0,O⟩) 4 4),(1,M (U ⟨C,0,O⟩) 4 4),(2,M (U ⟨P,0,O⟩) 4 4),(3,M (U ⟨T,0,O⟩) 4 4),(4,M (U ⟨q4,0,O⟩) 4 4),(5,M (U ⟨q5,0,O⟩) 4 4),(6,M (U ⟨q6,0,O⟩) 4 4),(7,M (U ⟨q7,0,O⟩) 4 4)] h=U (M (U ⟨h.Q,0,O⟩) 8 8,h.push (S Y 1 [M (U ⟨j,0,O⟩) 4 4,M (U ⟨C,0,O⟩) 4 4,M (U ⟨P,0,O⟩) 4 4,M (U ⟨T,0,O⟩) 4 4,M (U ⟨q4,0,O⟩) 4 4,M (U ⟨q5,0,O⟩) 4 4,M (U ⟨q6,0,O⟩) 4 4,M (U ⟨q7,0,O⟩) 4 4])):=kR
def Usu(j:∀ v h',vk h' h.Q v 8 4 Bl.places->a_ h h'->K (.ret v) h'):FK b 212 [] h K:=by
 refine ip b (Ge b) Jb1 rfl ?_;simp[UP,Jyb,Ge,TJ,Ug5,Ukj,Ufx,Uiz,Uhv,Uj1,Uij,Ul4,Uo9];exact j _ _ (U31 h Bl.places 8 4 rfl kA) ((Hb Bl.places h).push' _)
end
def CX{v:V}{n:Nat}{l:List Nat}(s:Sl g 1 v n (l.map iG)){i:Nat}(hi:i < n):∃ bk o,J7 v=U bk/\J1 (E b).tojo 191 v (I X (i:Int))=U (pO bk o)/\Zq g bk o=U (I .u32 ((Bl.wd l i:Nat):Int)):=by
 obtain⟨bk,o,h1,j,C, -⟩:=mQ (vi b) rN s (k:=.i64) (i:=(i:Int)) iA iA;have P:L l=n:=by simpa using s.len
 refine⟨bk,o,h1,j,?_⟩;have:=C 0 iA;rw[bA,bR,bR,cg,b7,ac iA]at this;rw[this];simp[Bl.wd,iG,ac (show i < L l by omega)]
def Ao(hs ws:List Nat):List Nat:=(List.range 8).map fun i=>Bl.xr (Bl.xr (Bl.wd hs i) (Bl.wd ws i)) (Bl.wd ws (i+8))
def Weo(g:N)(hv wv:V)(hs ws:List Nat)(k:Nat)(s:St):Prop:=∃ (tr:Tr V) (j:N) (ov:V) (i:Nat),s=⟨⟨153,tr⟩,[],j⟩/\tr.A 0=U hv/\tr.A 11=U wv/\tr.A 16=U ov/\tr.A 17=U (I X (i:Int))/\i<=8/\k=8-i/\a_ g j/\ij j g.Q 1 ov i (((Ao hs ws).take i).map iG)
def C1:sW (a:Int) (b:Int)=((Bl.xr a b:Nat):Int):=NJ a b
def V9y{x:Nat}(h:l[i]? = U x):(l.take (i+1)).map iG=(l.take i).map iG ++ [iG x]:=by
 rw[aT,h];simp
def K3{j:N}{n0 z n:Nat}{v:V}{xs:List V}(a:a_ g j)(o:ij g n0 z v n xs):ij j n0 z v n xs:=o.keep fun c _ C=>a.2 c C
section
attribute [local simp] Wq Q5 Jo U5 qx Dh Di P7 sE Jf nJ Vn Dp Dq Ju Vl Gf Ge W8 Rq V0 Uh Ue Un Ud
def Utk{wv:V}{hs ws:List Nat}(sh:Sl g 1 hv 8 (hs.map iG))(sw:Sl g 1 wv 16 (ws.map iG))(t0:tr.A 0=U hv)(j:tr.A 11=U wv)(K:KP)(hk:∀ v h',ij h' g.Q 1 v 8 ((Ao hs ws).map iG)->a_ g h'->K (.ret v) h') :
  iO (E b) (pL Tryz.prog (E b).G) (D0 b) O Hs ⟨⟨153,tr⟩,[],g⟩ (pj (E b) (DD b) (FU 202) K):=by
 simp[t0,j];refine iV (Weo g hv wv hs ws) 8 ⟨_,g,M O 0 0,0,rfl,by simp[t0],by simp[j],jA,jA,iA,rfl,a_.refl _,ij.nil⟩ ?_;clear t0 j;rintro k s' ⟨tr,g1,ov,i,rfl,t0,j,C,t17,hi,rfl,a,ow⟩ _;by_cases T:i < 8
 ·have P:(i:Int) < 8:=iA
  obtain⟨i8,e8⟩:∃ x:Nat,x=i+8:=⟨_,rfl⟩;obtain⟨i1,e1⟩:∃ x:Nat,x=i+1:=⟨_,rfl⟩;have w8:IntKind.i64.wrap ((i:Int)+8)=(i8:Int):=by rw[Jr iA iA];omega
  have w1:IntKind.i64.wrap ((i:Int)+1)=(i1:Int):=by rw[Jr iA iA];omega
  obtain⟨b0,o0, -,x0,c0⟩:=CX b (sh.R a) T;obtain⟨b1,o1, -,x1,c1⟩:=CX b (sw.R a) (i:=i) iA;obtain⟨b2,o2, -,x2,c2⟩:=CX b (sw.R a) (i:=i8) iA;obtain⟨y,ey⟩:∃ y,y=Bl.xr (Bl.xr (Bl.wd hs i) (Bl.wd ws i)) (Bl.wd ws i8):=⟨_,rfl⟩;have hb:=oL (vi b) (z:=1) rN iA iA (y:=I .u32 (y:Int)) rfl (ys:=[iG y]) rfl rfl (h:=g1);have hR:yb.bytes=4:=kR
  obtain⟨v',g2,q1,q2,q3,q4⟩:=vy (vi b) rN iA ow a.1 (ys:=[iG y]) rfl (by rw[hR];omega) iA;simp[t0,j,C,t17,P];refine jf [] jA TC.1 (by simp (config:={maxSteps:=1000000}) [TC.2,Zvy,t0,j,C,t17,w8,x0,x1,x2,c0,c1,c2,vS,C1,<- ey,hb,q1];first | exact⟨rfl,rfl⟩ | rfl) ?_ ?_
  ·simp (config:={maxSteps:=1000000}) [Pz,t0,j,C,t17,w8,x0,x1,x2,c0,c1,c2]
  simp[t0,j,C,t17,w1];refine⟨8-i1,iA,_,g2,v',i1,rfl,by simp[t0],by simp[j],jA,jA,iA,rfl,iM.R a ow q3,?_⟩;have hy:(Ao hs ws)[i]? = U y:=by
   rw[Ao,b7,dc T,ey,e8];rfl
  rw[e1,V9y hy];exact q2
 ·have P:¬ (i:Int) < 8:=iA
  have : i=8:=iA
  subst this;simp[t0,j,C,t17];rw[aj (by simp[Ao])]at ow
  grind
end
def Wca:∀ k,k < 8->∃ p0 j C P,Bl.places[k]? = U [p0,j,C,P]/\p0 < 16/\j < 16/\C < 16/\P < 16
 | 0,_=>⟨_,_,_,_,rfl,kA,kA,kA,kA⟩
 | 1,_=>⟨_,_,_,_,rfl,kA,kA,kA,kA⟩
 | 2,_=>⟨_,_,_,_,rfl,kA,kA,kA,kA⟩
 | 3,_=>⟨_,_,_,_,rfl,kA,kA,kA,kA⟩
 | 4,_=>⟨_,_,_,_,rfl,kA,kA,kA,kA⟩
 | 5,_=>⟨_,_,_,_,rfl,kA,kA,kA,kA⟩
 | 6,_=>⟨_,_,_,_,rfl,kA,kA,kA,kA⟩
 | 7,_=>⟨_,_,_,_,rfl,kA,kA,kA,kA⟩
 | k+8,h=>absurd h iA
structure Gst (h8:N) (n0 bk:Nat) (wv:V) (g:N) (ws:List Nat):Prop where
 own:ij g n0 1 wv 16 (ws.map iG)
 len:L ws=16
 Q:g.Q=h8.Q
 same:∀ c,c≠bk->g.A c=h8.A c
def RfK(j:N)(n0 bk:Nat)(hv C wv ov pv:V)(ms o ws:List Nat)(r:Nat)(k:Nat)(s:St):Prop:=∃ (tr:Tr V) (g:N) (i:Nat),s=⟨⟨153,tr⟩,[],g⟩/\tr.A 0=U hv/\tr.A 9=U C/\tr.A 11=U wv/\tr.A 12=U ov/\tr.A 13=U pv/\tr.A 14=U (I X (r:Int))/\tr.A 15=U (I X (i:Int))/\i<=8/\k=8-i/\Gst j n0 bk wv g (Bl.round ms o ws i)
def RfR(j:N)(n0 bk:Nat)(hv C wv ov pv:V)(ms ws:List Nat)(k:Nat)(s:St):Prop:=∃ (tr:Tr V) (g:N) (r:Nat),s=⟨⟨153,tr⟩,[],g⟩/\tr.A 0=U hv/\tr.A 9=U C/\tr.A 11=U wv/\tr.A 12=U ov/\tr.A 13=U pv/\tr.A 14=U (I X (r:Int))/\r<=10/\k=10-r/\Gst j n0 bk wv g (Bl.rounds ms ws r)
def U3v{q:Nat}{l:List Nat}(j:g.A q=U (S Y 1 (l.map lF)))(C:L l < 1000):Sl g 1 (M (U ⟨q,0,O⟩) (L l) (L l)) (L l) (l.map lF) :=
 .inr ⟨q,0,L l,Y,1,[],[],rfl,by grind,rfl,jA,ai _,by unfold iJ;omega,fun h=>by simp⟩
section
attribute [local simp] Wq Q5 Jo U5 qx Dh Di P7 sE Jf nJ Vn Dp Dq Ju Vl Gf Ge W8 Rq V0 Uh Un Ud
def Ucv{T:N}{n0 n1 bk:Nat}{hv mv wv ov pv:V}{hs ms ws:List Nat}(sh:Sl T 1 hv 8 (hs.map iG))(sm:Sl T 1 mv 16 (ms.map iG))(ow:ij T n0 1 wv 16 (ws.map iG))(hw:L ws=16)(hn:J7 wv=U bk)(nh:J7 hv≠U bk)(nm:J7 mv≠U bk)(Ro:vk T n1 ov 10 16 Bl.orders)(Rp:vk T n1 pv 8 4 Bl.places)(lo:bk < n1)(t0:tr.A 0=U hv)(P:tr.A 9=U mv)(j:tr.A 11=U wv)(C:tr.A 12=U ov)(t13:tr.A 13=U pv)(K:KP)(hk:∀ v h',ij h' T.Q 1 v 8 ((Ao hs (Bl.rounds ms ws 10)).map iG)->T.Q<=h'.Q->(∀ c,c < T.Q->c≠bk->h'.A c=T.A c)->K (.ret v) h') :
  iO (E b) (pL Tryz.prog (E b).G) (D0 b) O MK ⟨⟨153,tr⟩,[],T⟩ (pj (E b) (DD b) (FU 202) K):=by
 simp[Ue,t0,P,j,C,t13,-Ue];refine iV (RfR T n0 bk hv mv wv ov pv ms ws) 10 ⟨_,T,0,rfl,by simp[t0],by simp[P],by simp[j],by simp[C],by simp[t13],jA,iA,rfl,⟨ow,hw,rfl,fun _ _=>rfl⟩⟩ ?_;clear t0 P j C t13;rintro k s' ⟨tr,g,r,rfl,t0,P,j,C,t13,t14,hr,rfl,G⟩ _;by_cases ht:r < 10
 rotate_left
 ·have hl:¬ (r:Int) < 10:=iA
  have : r=10:=iA
  subst this;simp[Ue,t0,P,j,C,t13,t14,-Ue];refine Utk b (sh.keep fun c hc _=>G.same c fun e=>nh (e ▸ hc)) G.own.sl (by simp[t0]) (by simp[j]) K fun v h' o a=>hk v h' (by rw[G.Q]at o;exact o) (by have:=a.1;grind) fun c hc he=>by rw[a.2 c (by grind),G.same c he]
 have hl:(r:Int) < 10:=iA
 obtain⟨o,ho⟩:∃ o,Bl.orders[r]? = U o:=⟨_,ac (by show r < 10;omega)⟩;have a2:=U2x o (ae ho);have eo:Bl.orders.getD r []=o:=by grind
 simp[Ue,t0,P,j,C,t13,t14,hl];refine iV (RfK T n0 bk hv mv wv ov pv ms o (Bl.rounds ms ws r) r) 8 ⟨_,g,0,rfl,by simp[t0],by simp[P],by simp[j],by simp[C],by simp[t13],by simp[t14],jA,iA,rfl,G⟩ ?_;clear t0 P j C t13 t14 G;rintro k s' ⟨tr,g,i,rfl,t0,P,j,C,t13,t14,t15,hi,rfl,G⟩ _;by_cases hf:i < 8
 rotate_left
 ·have hx:¬ (i:Int) < 8:=iA
  have : i=8:=iA
  subst this;obtain⟨r1,e1⟩:∃ x:Nat,x=r+1:=⟨_,rfl⟩;have w1:IntKind.i64.wrap ((r:Int)+1)=(r1:Int):=by rw[Jr iA iA];omega
  simp[Ue,t0,P,j,C,t13,t14,t15,w1];exact⟨10-r1,iA,_,g,r1,rfl,by simp[t0],by simp[P],by simp[j],by simp[C],by simp[t13],jA,iA,rfl,by rw[e1,Bl.rounds,eo];exact G⟩
 have hx:(i:Int) < 8:=iA
 obtain⟨p0,p1,p2,p3,hp,q0,q1,q2,q3⟩:=Wca i hf;obtain⟨ka,ea⟩:∃ x:Nat,x=2*i:=⟨_,rfl⟩;obtain⟨kb,eb⟩:∃ x:Nat,x=2*i+1:=⟨_,rfl⟩;obtain⟨i1,e1⟩:∃ x:Nat,x=i+1:=⟨_,rfl⟩;have wa:IntKind.i64.wrap (2*(i:Int))=(ka:Int):=by rw[Jr iA iA];omega
 have wb:IntKind.i64.wrap ((ka:Int)+1)=(kb:Int):=by rw[Jr iA iA];omega
 have w1:IntKind.i64.wrap ((i:Int)+1)=(i1:Int):=by rw[Jr iA iA];omega
 obtain⟨oa,la⟩:=a2.at (i:=ka) iA;obtain⟨ob,lb⟩:=a2.at (i:=kb) iA;have rd:∀ g:N,g.Q=T.Q->(∀ c,c≠bk->g.A c=T.A c)->∃ kp qp ko qo mb mo nb no,J1 (E b).tojo 287 pv (I X (i:Int))=U (pO kp i)/\Zq g kp i=U (M (U ⟨qp,0,O⟩) 4 4)/\Sl g 1 (M (U ⟨qp,0,O⟩) 4 4) 4 [lF p0,lF p1,lF p2,lF p3]/\qp≠bk /\
   J1 (E b).tojo 287 ov (I X (r:Int))=U (pO ko r)/\Zq g ko r=U (M (U ⟨qo,0,O⟩) 16 16) /\
   J1 (E b).tojo 225 (M (U ⟨qo,0,O⟩) 16 16) (I X (ka:Int))=U (pO qo ka)/\Zq g qo ka=U (I X ((Bl.wd o ka:Nat):Int)) /\
   J1 (E b).tojo 225 (M (U ⟨qo,0,O⟩) 16 16) (I X (kb:Int))=U (pO qo kb)/\Zq g qo kb=U (I X ((Bl.wd o kb:Nat):Int)) /\
   J1 (E b).tojo 191 mv (I X ((Bl.wd o ka:Nat):Int))=U (pO mb mo)/\Zq g mb mo=U (I .u32 ((Bl.wd ms (Bl.wd o ka):Nat):Int)) /\
   J1 (E b).tojo 191 mv (I X ((Bl.wd o kb:Nat):Int))=U (pO nb no)/\Zq g nb no=U (I .u32 ((Bl.wd ms (Bl.wd o kb):Nat):Int)):=by
  intro g gn gs;have re:=Rp.keep (h':=g) fun c h1 h2=>gs c iA;have s1:=Ro.keep (h':=g) fun c h1 h2=>gs c iA;have e2:=sm.keep (h':=g) fun c hc _=>gs c fun e=>nm (e ▸ hc);obtain⟨kp,qp,u1,u2,u3,u4, -⟩:=re.A b hp;obtain⟨ko,qo,v1,v2,v3,v4, -⟩:=s1.A b ho;obtain⟨mb,mo, -,m1,m2⟩:=CX b e2 oa;obtain⟨nb,no, -,m3,m4⟩:=CX b e2 ob;refine⟨kp,qp,ko,qo,mb,mo,nb,no,u1,u2,U3v u4 jA,iA,v1,v2,?_,?_,?_,?_,m1,m2,m3,m4⟩
  ·rw[xo (Fl b) DX ⟨iA,iA⟩];simp
  ·rw[Z2 v4,b7,la];rfl
  ·rw[xo (Fl b) DX ⟨iA,iA⟩];simp
  ·rw[Z2 v4,b7,lb];rfl
 obtain⟨kp,qp,ko,qo,mb,mo,nb,no,u1,u2,u3,u4,v1,v2,v3,v4, -, -,m1,m2, -, -⟩:=rd g G.Q G.same;have hC:∀ c,J7 wv=U c->J7 (M (U ⟨qp,0,O⟩) 4 4)≠U c:=fun c hc e=>by
  rw[hn]at hc;cases hc;simp only[J7,aU]at e;exact u4 e
 obtain⟨x1,hy⟩:∃ x,x=Bl.wd ms (Bl.wd o ka):=⟨_,rfl⟩;rw[<- hy]at m2;obtain⟨_,g1,k1,a3,j1,G1,hm,h5⟩:=Uv6 b (x:=x1) (s:=16) (t:=12) G.own G.len u3 hC q0 q1 q2 q3 (.inl rfl) (.inr (.inl rfl)) (fun r' h'=>r'=.ret (.tuple #[])/\ij h' n0 1 wv 16 ((Bl.half (Bl.round ms o (Bl.rounds ms ws r) i) p0 p1 p2 p3 x1 16 12).map iG)/\h'.Q=g.Q/\∀ c,J7 wv≠U c->h'.A c=g.A c) (fun h' a c d=>⟨rfl,a,c,d⟩);rw[j1]at k1;simp[Ue,t0,P,j,C,t13,t14,t15,hx];refine jf [⟨213,[wv,M (U ⟨qp,0,O⟩) 4 4,I .u32 (x1:Int),I .u64 16,I .u64 12],g,.tuple #[],g1,J⟩] ?_ TF.1 (by simp (config:={maxSteps:=1000000})[TF.2,Zzh,Ue,P,j,C,t13,t14,t15,wa,u1,u2,v1,v2,v3,v4,m1,m2];first | exact⟨rfl,rfl⟩ | rfl) ?_ ?_
 ·exact nK ⟨k1,a3,fun h=>by cases h⟩
 ·simp (config:={maxSteps:=1000000}) [Pv,Ue,P,j,C,t13,t14,t15,wa,u1,u2,v1,v2,v3,v4,m1,m2]
 have hA:g1.Q=T.Q:=hm.trans G.Q;have es:∀ c,c≠bk->g1.A c=T.A c:=fun c hc=>by rw[h5 c (fun e=>hc (by grind)),G.same c hc]
 obtain⟨dv,hu,aA,q4, -, -,gA,e3,M',hq,g3,eA,v',a1, -, -,hz,hg, -, -,h4,hb⟩:=rd g1 hA es;have h3:∀ c,J7 wv=U c->J7 (M (U ⟨hu,0,O⟩) 4 4)≠U c:=fun c hc e=>by
  rw[hn]at hc;cases hc;simp only[J7,aU]at e;exact eA e
 obtain⟨x2,hB⟩:∃ x,x=Bl.wd ms (Bl.wd o kb):=⟨_,rfl⟩;rw[<- hB]at hb;have jR:L (Bl.half (Bl.round ms o (Bl.rounds ms ws r) i) p0 p1 p2 p3 x1 16 12)=16:=by rw[Cb];exact G.len
 obtain⟨_,g2,k2,c1,j2,G2,t4,aB⟩:=Uv6 b (x:=x2) (s:=8) (t:=7) G1 jR g3 h3 q0 q1 q2 q3 (.inr (.inr (.inl rfl))) (.inr (.inr (.inr rfl))) (fun r' h'=>r'=.ret (.tuple #[])/\ij h' n0 1 wv 16 ((Bl.half (Bl.half (Bl.round ms o (Bl.rounds ms ws r) i) p0 p1 p2 p3 x1 16 12) p0 p1 p2 p3 x2 8 7).map iG)/\h'.Q=g1.Q/\∀ c,J7 wv≠U c->h'.A c=g1.A c) (fun h' a c d=>⟨rfl,a,c,d⟩);rw[j2]at k2;simp[Ue,t0,P,j,C,t13,t14,t15];refine jf [⟨213,[wv,M (U ⟨hu,0,O⟩) 4 4,I .u32 (x2:Int),I .u64 8,I .u64 7],g1,.tuple #[],g2,J⟩] ?_ TH.1 (by simp (config:={maxSteps:=1000000})[TH.2,Zv9,Ue,P,j,C,t13,t14,t15,wa,wb,M',hq,v',a1,hz,hg,h4,hb];first | exact⟨rfl,rfl⟩ | rfl) ?_ ?_
 ·exact nK ⟨k2,c1,fun h=>by cases h⟩
 ·simp (config:={maxSteps:=1000000}) [Px,Ue,P,j,C,t13,t14,t15,wa,wb,M',hq,v',a1,hz,hg,h4,hb]
 simp[Ue,t0,P,j,C,t13,t14,t15,w1];have eS:Bl.half (Bl.half (Bl.round ms o (Bl.rounds ms ws r) i) p0 p1 p2 p3 x1 16 12) p0 p1 p2 p3 x2 8 7=Bl.round ms o (Bl.rounds ms ws r) i1:=by
  rw[e1,hy,hB,ea,eb];simp only[Bl.round,Bl.step,hp]
 rw[eS]at G2;refine⟨8-i1,iA,_,g2,i1,rfl,by simp[t0],by simp[P],by simp[j],by simp[C],by simp[t13],by simp[t14],jA,iA,rfl,⟨G2,?_,t4.trans hA,fun c hc => ?_⟩⟩
 ·rw[<- eS,Cb,jR]
 grind
end
def GG{v:V}{n:Nat}{l:List Nat}(s:Sl g 1 v n (l.map dk)){i:Nat}(hi:i < n):∃ bk o,J7 v=U bk/\J1 (E b).tojo 31 v (I X (i:Int))=U (pO bk o)/\Zq g bk o=U (I .u8 ((Bl.wd l i:Nat):Int)):=by
 obtain⟨bk,o,h1,j,C, -⟩:=mQ (j' b) k_ s (k:=.i64) (i:=(i:Int)) iA iA;have P:L l=n:=by simpa using s.len
 refine⟨bk,o,h1,j,?_⟩;have:=C 0 iA;rw[bA,bR,bR,cg,b7,ac iA]at this;rw[this];simp[Bl.wd,dk,ac (show i < L l by omega)]
def U7o(l:List Nat)(i:Nat):Nat:=Bl.w32 (Bl.w32 (Bl.w32 (Bl.w32 (Bl.wd l i)+Bl.w32 (Bl.w32 (Bl.wd l (i+1))*256))+Bl.w32 (Bl.w32 (Bl.wd l (i+2))*65536))+Bl.w32 (Bl.w32 (Bl.wd l (i+3))*16777216))
def AJ(l:List Nat):List Nat:=(List.range 16).map fun j=>U7o l (4*j)
def Og(hs l:List Nat)(count:Nat)(last:Bool):List Nat:=Ao hs (Bl.rounds (AJ l) (Bl.first hs count last) 10)
def Bo:IntKind.u32.wrap (a:Int)=((Bl.w32 a:Nat):Int):=xh a
def CU:IntKind.u32.wrap ((a:Int)+(b:Int))=((Bl.w32 (a+b):Nat):Int):=Np a b
def Nf(c:Nat):IntKind.u32.wrap ((a:Int)*(c:Int))=((Bl.w32 (a*c):Nat):Int):=by rw[<- Int.natCast_mul,xh]
def RfM(h:N)(hv bv:V)(l:List Nat)(count:Nat)(last:Bool)(k:Nat)(s:St):Prop:=∃ (tr:Tr V) (g:N) (C:V) (j i:Nat),s=⟨⟨153,tr⟩,[],g⟩/\tr.A 0=U hv/\tr.A 1=U bv/\tr.A 2=U (I .u64 (count:Int))/\tr.A 3=U (.bool last)/\tr.A 9=U C/\tr.A 10=U (I X (i:Int))/\i=4*j/\j<=16/\k=16-j/\a_ h g/\ij g h.Q 1 C j (((AJ l).take j).map iG)
def vk.low{h:N}{n0 n1 n m:Nat}{v:V}{ls:List (List Nat)}(R:vk h n1 v n m ls)(C:n0<=n1):vk h n0 v n m ls:=by
 obtain⟨j,bs,e,l1,l2,P,g,each⟩:=R;exact⟨j,bs,e,l1,l2,ao C P,g,fun i q l h1 T=>by
  grind⟩
def ng.own{h h1:N}{bk z' c n0:Nat}{j:List V}{ws:List Nat}(W:ng h h1 bk z' j ws)(h0:n0<=bk)(C:16<=c)(P:c<=iJ)(T:c=iJ/\z'=1∨c≠iJ/\16+L j=c*1):ij h1 n0 1 (M (U ⟨bk,0,O⟩) 16 c) 16 (ws.map iG) :=
 .inr ⟨bk,c,z',j,rfl,h0,W.at',by simp[W.len],C,P,by simpa[W.len]using T⟩
section
attribute [local simp] Wq Q5 Jo U5 qx Dh Di P7 sE Jf nJ Vn Dp Dq Ju Vl Gf Ge W8 Rq V0 Uh Ue
def Uzm{h:N}{hv bv:V}{hs l:List Nat}(sh:Sl h 1 hv 8 (hs.map iG))(sb:Sl h 1 bv 64 (l.map dk))(count:Nat)(hc:count < 9223372036854775808)(last:Bool)(K:KP)(hk:∀ v h',ij h' h.Q 1 v 8 ((Og hs l count last).map iG)->a_ h h'->K (.ret v) h'):FK b 202 [hv,bv,I .u64 (count:Int),.bool last] h K:=by
 refine ip b (Jo b) Jp9 rfl ?_;have ho:L hs=8:=by simpa using sh.len
 have hR:yb.bytes=4:=kR
 simp[Un,Ud];refine iV (RfM h hv bv l count last) 16 ⟨_,h,M O 0 0,0,0,rfl,jA,jA,jA,jA,jA,jA,rfl,iA,rfl,a_.refl _,ij.nil⟩ ?_;rintro k s' ⟨tr,g,mv,j,i,rfl,t0,t1,t2,t3,P,t10,ei,hj,rfl,a,ow⟩ _;by_cases hC:j < 16
 ·have hx:(i:Int) < 64:=iA
  obtain⟨i1,e1⟩:∃ x:Nat,x=i+1:=⟨_,rfl⟩;obtain⟨i2,e2⟩:∃ x:Nat,x=i+2:=⟨_,rfl⟩;obtain⟨i3,e3⟩:∃ x:Nat,x=i+3:=⟨_,rfl⟩;obtain⟨i4,e4⟩:∃ x:Nat,x=i+4:=⟨_,rfl⟩;have w1:IntKind.i64.wrap ((i:Int)+1)=(i1:Int):=by rw[Jr iA iA];omega
  have w2:IntKind.i64.wrap ((i:Int)+2)=(i2:Int):=by rw[Jr iA iA];omega
  have w3:IntKind.i64.wrap ((i:Int)+3)=(i3:Int):=by rw[Jr iA iA];omega
  have w4:IntKind.i64.wrap ((i:Int)+4)=(i4:Int):=by rw[Jr iA iA];omega
  obtain⟨b0,o0, -,x0,c0⟩:=GG b (sb.R a) (i:=i) iA;obtain⟨b1,o1, -,x1,c1⟩:=GG b (sb.R a) (i:=i1) iA;obtain⟨b2,o2, -,x2,c2⟩:=GG b (sb.R a) (i:=i2) iA;obtain⟨b3,o3, -,x3,c3⟩:=GG b (sb.R a) (i:=i3) iA;obtain⟨y0,f0⟩:∃ y,y=Bl.w32 (Bl.wd l i):=⟨_,rfl⟩;obtain⟨y1,f1⟩:∃ y,y=Bl.w32 (Bl.wd l i1):=⟨_,rfl⟩;obtain⟨y2,f2⟩:∃ y,y=Bl.w32 (Bl.wd l i2):=⟨_,rfl⟩;obtain⟨y3,f3⟩:∃ y,y=Bl.w32 (Bl.wd l i3):=⟨_,rfl⟩;obtain⟨m1,g1⟩:∃ y,y=Bl.w32 (y1*256):=⟨_,rfl⟩;obtain⟨m2,g2⟩:∃ y,y=Bl.w32 (y2*65536):=⟨_,rfl⟩;obtain⟨m3,g3⟩:∃ y,y=Bl.w32 (y3*16777216):=⟨_,rfl⟩;have v0:IntKind.u32.wrap ((Bl.wd l i:Nat):Int)=(y0:Int):=by rw[Bo,f0]
  have v1:IntKind.u32.wrap ((Bl.wd l i1:Nat):Int)=(y1:Int):=by rw[Bo,f1]
  have v2:IntKind.u32.wrap ((Bl.wd l i2:Nat):Int)=(y2:Int):=by rw[Bo,f2]
  have v3:IntKind.u32.wrap ((Bl.wd l i3:Nat):Int)=(y3:Int):=by rw[Bo,f3]
  have u1:IntKind.u32.wrap ((y1:Int)*256)=(m1:Int):=(Nf y1 256).trans (by rw[g1]);have u2:IntKind.u32.wrap ((y2:Int)*65536)=(m2:Int):=(Nf y2 65536).trans (by rw[g2]);have u3:IntKind.u32.wrap ((y3:Int)*16777216)=(m3:Int):=(Nf y3 16777216).trans (by rw[g3]);obtain⟨n1,k1⟩:∃ y,y=Bl.w32 (y0+m1):=⟨_,rfl⟩;obtain⟨n2,k2⟩:∃ y,y=Bl.w32 (n1+m2):=⟨_,rfl⟩;obtain⟨y,k3⟩:∃ y,y=Bl.w32 (n2+m3):=⟨_,rfl⟩;have z1:IntKind.u32.wrap ((y0:Int)+(m1:Int))=(n1:Int):=by rw[CU,k1]
  have z2:IntKind.u32.wrap ((n1:Int)+(m2:Int))=(n2:Int):=by rw[CU,k2]
  have z3:IntKind.u32.wrap ((n2:Int)+(m3:Int))=(y:Int):=by rw[CU,k3]
  have hb:=oL (vi b) (z:=1) rN iA iA (y:=I .u32 (y:Int)) rfl (ys:=[iG y]) rfl rfl (h:=g);obtain⟨v',hm,q1,q2,q3,q4⟩:=vy (vi b) rN iA ow a.1 (ys:=[iG y]) rfl (by rw[hR];omega) iA;simp[Un,Ud,t0,t1,t2,t3,P,t10,hx];refine jf [] jA Tt.1 (by simp (config:={maxSteps:=1000000}) [Tt.2,Z75,Un,Ud,t1,P,t10,w1,w2,w3,x0,x1,x2,x3,c0,c1,c2,c3,v0,v1,v2,v3,u1,u2,u3,z1,z2,z3,hb,q1];first | exact⟨rfl,rfl⟩ | rfl) ?_ ?_
  ·simp (config:={maxSteps:=1000000}) [Pj,Un,Ud,t1,P,t10,w1,w2,w3,x0,x1,x2,x3,c0,c1,c2,c3]
  simp[Un,Ud,t0,t1,t2,t3,P,t10,w4];refine⟨16-(j+1),iA,_,hm,v',j+1,i4,rfl,by simp[t0],by simp[t1],by simp[t2],by simp[t3],jA,jA,iA,iA,rfl,iM.R a ow q3,?_⟩;have hy:(AJ l)[j]? = U y:=by
   rw[AJ,b7,dc hC,aQ,<- ei,k3,k2,k1,g3,g2,g1,f0,f1,f2,f3,e1,e2,e3];rfl
  rw[V9y hy];exact q2
 have hx:¬ (i:Int) < 64:=iA
 have ej:j=16:=iA
 subst ej;rw[aj (by simp[AJ])]at ow;obtain⟨e0,g1,p1,o1,y1,z1⟩:=Hc (vi b) rN iA (ij.nil (h:=g) (n0:=g.Q) (z:=1)) (ai _) (us (vi b) rN (sh.R a)) (by simp[ho]) (by rw[hR];omega) iA;have a1:a_ g g1:=iM.R (z:=1) (a_.refl _) ij.nil y1;simp[Un,Ud,t0,t1,t2,t3,P,t10,hx,p1];refine Ufg b g1 _ ?_;have sB:Sl (g1.push (S Y 1 (Bl.begins.map iG))) 1 (M (U ⟨g1.Q,0,O⟩) 8 8) 8 (Bl.begins.map iG):=.inr ⟨g1.Q,0,8,Y,1,[],[],rfl,by rw[N.F,if_pos rfl];simp,rfl,rfl,ai _,by unfold iJ;omega,fun h=>by simp⟩;have aP:a_ g1 (g1.push (S Y 1 (Bl.begins.map iG))):=a_.push _ _;obtain⟨wv,g2,p2,o2,y2,z2⟩:=Hc (vi b) rN iA (K3 aP o1) (by rw[oJ];have:=a1.1;omega) (us (vi b) rN sB) (by simp[Bl.begins]) (by rw[hR];omega) iA;have a2:a_ g g2:=iM.R (a1.trans aP) (K3 aP o1) y2;have ht:ij g2 g.Q 1 wv 16 ((hs++Bl.begins).map iG):=by grind
 rcases ht with⟨_,e,_⟩ | ⟨C,c,z',hl,rfl,h1,h2,h3,h4,h5,h6⟩
 ·cases e
 have hL:L (hs++Bl.begins)=16:=by grind
 have W0:ng g2 g2 C z' hl (hs++Bl.begins):=⟨h2,rfl,fun _ _=>rfl,hL⟩;have t4:c=iJ/\z'=1∨c≠iJ/\16+L hl=c*1:=by
  grind
 have ix:∀ i:Nat,i < 16->J1 (E b).tojo tW (M (U ⟨C,0,O⟩) 16 c) (I X (i:Int))=U (pO C i):=fun i hi=>by
  rw[xo (vi b) rN ⟨iA,iA⟩];simp
 have hf:J1 (E b).tojo tW (M (U ⟨C,0,O⟩) 16 c) (I X 12)=U (pO C 12):=ix 12 iA;have he:J1 (E b).tojo tW (M (U ⟨C,0,O⟩) 16 c) (I X 13)=U (pO C 13):=ix 13 iA;have r1:J1 (E b).tojo tW (M (U ⟨C,0,O⟩) 16 c) (I X 14)=U (pO C 14):=ix 14 iA;obtain⟨cA,fA⟩:∃ y,y=Bl.w32 count:=⟨_,rfl⟩;obtain⟨cB,hu⟩:∃ y,y=Bl.w32 (Nat.div count 4294967296):=⟨_,rfl⟩;have vA:IntKind.u32.wrap (Int.tmod (count:Int) 4294967296)=(cA:Int):=by
  have e:Int.tmod (count:Int) 4294967296=((count % 4294967296:Nat):Int):=(fO count 4294967296).symm;rw[e,Bo,fA];show((count % 4294967296 % 4294967296:Nat):Int)=((count % 4294967296:Nat):Int);omega
 have vB:IntKind.u32.wrap (IntKind.u64.wrap (Int.tdiv (count:Int) 4294967296))=(cB:Int):=by
  have e:Int.tdiv (count:Int) 4294967296=((count / 4294967296:Nat):Int):=(fP count 4294967296).symm;have e2:IntKind.u64.wrap ((count / 4294967296:Nat):Int)=((count / 4294967296:Nat):Int):=by
   show((count / 4294967296:Nat):Int) % (2 ^ 64:Int)=_;omega
  rw[e,e2,Bo,hu];rfl
 have re:IntKind.u32.wrap ((count:Int) % 4294967296)=(cA:Int):=by grind
 have hw:IntKind.u32.wrap (IntKind.u64.wrap ((count:Int) / 4294967296))=(cB:Int):=by grind
 obtain⟨hr,hp⟩:∃ y,y=Bl.xr (Bl.wd (hs++Bl.begins) 12) cA:=⟨_,rfl⟩;obtain⟨g3,s3,W1⟩:=W0.put (i:=12) iA hr;have hq:=W0.cell (i:=12) iA;obtain⟨hn,hA⟩:∃ y,y=Bl.xr (Bl.wd ((hs++Bl.begins).set 12 hr) 13) cB:=⟨_,rfl⟩;obtain⟨g4,s4,W2⟩:=W1.put (i:=13) iA hn;have hz:=W1.cell (i:=13) iA;have hg:Bl.wd (hs++Bl.begins) 12=1359893119:=by simp[Bl.wd,ho,Bl.begins]
 have es:Bl.wd ((hs++Bl.begins).set 12 hr) 13=2600822924:=by simp[Bl.wd,ho,Bl.begins,aL,fy]
 have dv:Bl.wd (((hs++Bl.begins).set 12 hr).set 13 hn) 14=528734635:=by simp[Bl.wd,ho,Bl.begins,aL,fy]
 have a3:Zq g4 C 14=U (I .u32 528734635):=by have:=W2.cell (i:=14) iA;grind
 have s1:∀ (tr:Tr V) (g5:N) (W3:ng g2 g5 C z' hl (Bl.first hs count last)),tr.A 0=U hv->tr.A 9=U mv->tr.A 11=U (M (U ⟨C,0,O⟩) 16 c) ->
   iO (E b) (pL Tryz.prog (E b).G) (D0 b) O ML ⟨⟨153,tr⟩,[],g5⟩ (pj (E b) (DD b) (FU 202) K):=by
  intro tr g5 W3 t0 P hB;have a5:a_ g g5:=⟨by rw[W3.Q];exact a2.1,fun k hk=>by rw[W3.same k iA,a2.2 k hk]⟩;simp[Un,Ud,t0,P,hB];refine Utl b g5 _ fun ov g6 Ro a6 => ?_;simp[Un,Ud,t0,P,hB];refine Usu b g6 _ fun pv g7 Rp a7 => ?_;simp[Un,Ud,t0,P,hB,-Un];have M':=a6.trans a7;have eA:C < g5.Q:=N.D W3.at';have T:a_ g g7:=a5.trans M';have o7:=K3 M' (W3.own (n0:=g.Q) h1 h4 h5 t4);refine Ucv b (n0:=g.Q) (n1:=g5.Q) (bk:=C) (ms:=AJ l) (ws:=Bl.first hs count last) ((sh.R a).R T) (K3 T ow).sl o7 W3.len rfl (fun e=>by have:=(sh.R a).blk e;omega) (fun e=>by have:=(ow.from e).2;omega) (Ro.keep fun c h1 h2=>a7.2 c h2) (Rp.low a6.1) eA (by simp[t0]) (by simp[P]) (by simp[hB]) jA jA K fun v h' o' n' s'=>hk v h' (o'.low (by have:=a.1;have:=T.1;omega)) ?_;refine⟨by have:=a.1;have:=T.1;omega,fun k hk => ?_⟩;have gA:=a.1;have aB:=T.1;rw[s' k iA iA,T.2 k iA,a.2 k hk]
 cases last with
 | false =>
  simp[Un,Ud,t0,t1,t2,t3,P,t10,p2,hf,hq,vA,re,vS,C1,<- hp,s3,he,hz,vB,hw,<- hA,s4,-Ud];refine s1 _ g4 ?_ ?_ ?_ ?_
  rotate_left
  ·simp[t0]
  ·simp[P]
  ·simp
  have : ((hs++Bl.begins).set 12 hr).set 13 hn=Bl.first hs count J:=by rw[hA,es,hp,hg,fA,hu];rfl
  grind
 | true =>
  obtain⟨g5,s5,W3⟩:=W2.put (i:=14) iA 3766232660;have aA:iN g4 C 14 [I .u32 3766232660]=U g5:=s5;simp[Un,Ud,t0,t1,t2,t3,P,t10,p2,hf,hq,vA,re,vS,C1,<- hp,s3,he,hz,vB,hw,<- hA,s4,r1,a3,Z',aA,-Ud];refine s1 _ g5 ?_ ?_ ?_ ?_
  rotate_left
  ·simp[t0]
  ·simp[P]
  ·simp
  have : (((hs++Bl.begins).set 12 hr).set 13 hn).set 14 3766232660=Bl.first hs count Y:=by rw[hA,es,hp,hg,fA,hu];rfl
  grind
end
def OR(h:x < 2 ^ i)(y:Nat):Nat.lor x (y*2 ^ i)=x+y*2 ^ i:=by
 have:=Nat.two_pow_add_eq_or_of_lt h y;show x ||| y*2 ^ i=_
 grind
def wL(h:n < 4294967296):Bl.w32 n=n:=cU h
def U5y{a b c d:Nat}(ha:a < 256)(hb:b < 256)(hc:c < 256)(hd:d < 256):Bl.le4 a b c d=Bl.w32 (Bl.w32 (Bl.w32 (Bl.w32 a+Bl.w32 (Bl.w32 b*256))+Bl.w32 (Bl.w32 c*65536))+Bl.w32 (Bl.w32 d*16777216)):=by
 have C:Nat.mul b 256=b*256:=rfl;have P:Nat.mul c 65536=c*65536:=rfl;have T:Nat.mul d 16777216=d*16777216:=rfl;have q1:Nat.lor a (b*256)=a+b*256:=OR (i:=8) iA b;have q2:Nat.lor (a+b*256) (c*65536)=a+b*256+c*65536:=OR (i:=16) iA c;have q3:Nat.lor (a+b*256+c*65536) (d*16777216)=a+b*256+c*65536+d*16777216:=OR (i:=24) iA d;have w1:=wL (n:=a) iA;have w2:=wL (n:=b) iA;have w3:=wL (n:=c) iA;have w4:=wL (n:=d) iA;have w5:=wL (n:=b*256) iA;have w6:=wL (n:=c*65536) iA;have w7:=wL (n:=d*16777216) iA;have w8:=wL (n:=a+b*256) iA;have w9:=wL (n:=a+b*256+c*65536) iA;have j:=wL (n:=a+b*256+c*65536+d*16777216) iA;simp only[Bl.le4,Bl.orr,w1,w2,w3,w4,C,P,T,w5,w6,w7,q1,w8,q2,w9,q3,j]
def Uxv(j:∀ x ∈ l,x < 256)(n:Nat):U7o l n=Bl.LE l n:=by
 have q:∀ i,Bl.wd l i < 256:=fun i=>by
  unfold Bl.wd;rw[dW];cases e:l[i]? with
  | none=>simp
  | some x=>exact j x (ae e)
 rw[Bl.LE,U5y (q _) (q _) (q _) (q _)];rfl
def Uvu(j:∀ x ∈ l,x < 256):AJ l=Bl.words l:=by
 simp only[AJ,Bl.words,Uxv j]
def Uxs(c:Nat):Bl.xr (Bl.xr a b) c=Bl.xr a (Bl.xr b c):=by
 have h:∀ x y:Nat,Bl.xr x y=(x ^^^ y) % 2 ^ 32:=fun x y=>by
  show((x % 4294967296) ^^^ (y % 4294967296)) % 4294967296=_;have e:(4294967296:Nat)=2 ^ 32:=rfl;rw[e,d9,fH,fH,<- d9]
 rw[h,h,h,h,d9,fH,<- d9,d9 (a:=a),fH,<- d9,Nat.xor_assoc]
def Ura(p:List Nat){l:List Nat}(j:∀ x ∈ l,x < 256)(count:Nat)(last:Bool):Og p l count last=Bl.take p l count last:=by
 simp only[Og,Bl.take,Uvu j,Ao,Bl.outL,Uxs]
def CD(hs:List Nat)(j:Nat):Nat:=Bl.wd hs (j / 4) / 256 ^ (j % 4) % 256
def vL(hs:List Nat)(i:Nat):List Nat:=(List.range 32).map fun j=>if j < i then CD hs j else 0
def GO(i:Nat):L (vL hs i)=32:=by simp[vL]
def Uom(hi:i < 32):(vL hs i).set i (CD hs i)=vL hs (i+1):=by
 apply dq;intro j;rw[fy];by_cases C:j < 32
 ·have e:∀ m,(vL hs m)[j]? = U (if j < m then CD hs j else 0):=fun m=>by
   rw[vL,b7,dc C];rfl
  grind
 ·rw[if_neg iA,cm (by rw[GO];omega),cm (by rw[GO];omega)]
def Vqr(p:List Nat):vL p 32=Bl.out p:=by
 unfold vL Bl.out;refine bK fun j C => ?_;rw[if_pos (List.mem_range.1 C),CD,Nat.pow_mul]
structure RfO (g0 g:N) (A B:Nat) (hs:List Nat) (i:Nat):Prop where
 at':g.A B=U (S Y 1 ((vL hs i).map dk))
 Q:g.Q=g0.Q
 same:∀ c,c≠B->g.A c=g0.A c
def RfJ(g:N)(hv:V)(A B i r x:Nat)(k:Nat)(s:St):Prop:=∃ (tr:Tr V) (m:Nat),s=⟨⟨109,tr⟩,[],g⟩/\tr.A 4=U (pO A 0)/\tr.A 7=U hv/\tr.A 11=U (pO B 0)/\tr.A 12=U (I X (i:Int))/\tr.A 13=U (I .u32 ((x / 256 ^ m:Nat):Int))/\tr.A 14=U (I X (m:Int))/\m<=r/\k=r-m
def RfB(g0:N)(hv:V)(A B:Nat)(hs:List Nat)(k:Nat)(s:St):Prop:=∃ (tr:Tr V) (g:N) (i:Nat),s=⟨⟨109,tr⟩,[],g⟩/\tr.A 4=U (pO A 0)/\tr.A 7=U hv/\tr.A 11=U (pO B 0)/\tr.A 12=U (I X (i:Int))/\i<=32/\k=32-i/\RfO g0 g A B hs i
section
attribute [local simp] Dr F9 Vo zF Vw uG Jf nJ zC qM Ju Aw Ya Gd Gg wj wk Jo Ub yo W8 Uy F2 F4 zy zB uH wg mZ Ua xw W9
def Upp{p:List Nat}{A:Nat}(sh:Sl g 1 hv 8 (p.map iG))(hp:∀ x ∈ p,x < 4294967296)(gA:g.A A=U (S Y 1 jn))(P:tr.A 4=U (pO A 0))(t7:tr.A 7=U hv)(K:KP)(hk:∀ h',g.Q<=h'.Q->(∀ c,c < g.Q->c≠A->h'.A c=g.A c)->K (.ret (.agg ⟨(Bl.out p).map dk⟩)) h') :
  iO (E b) (pL Tryz.prog (E b).G) (D0 b) O Hu ⟨⟨109,tr⟩,[],g⟩ (pj (E b) (DD b) (FU 184) K):=by
 obtain⟨gB,eB⟩:∃ gB,gB=g.push (S Y 1 jn):=⟨_,rfl⟩;have hy:jd (E b).tojo 62 g=U (pO g.Q 0,gB):=by rw[eB];exact Jx b g
 have aB:=jG eB;have nB:=lT eB;have ho:gB.A g.Q=U (S Y 1 ((vL p 0).map dk)):=by
  rw[eB,N.F,if_pos rfl];have : (vL p 0).map dk=jn:=by simp[vL,jn,List.range,List.range.loop];rfl
  rw[this]
 simp[Jx,-Jx,hy,P,t7];refine iV (RfB gB hv A g.Q p) 32 ⟨_,gB,0,rfl,by simp[P],by simp[t7],jA,jA,iA,rfl,⟨ho,rfl,fun _ _=>rfl⟩⟩ ?_;clear P t7;rintro k s' ⟨tr,g1,i,rfl,P,t7,j,C,hi,rfl,O_⟩ _;have lA:=N.D gA;by_cases hr:i < 32
 ·have T:(i:Int) < 32:=iA
  obtain⟨i4,e4⟩:∃ x:Nat,x=i / 4:=⟨_,rfl⟩;obtain⟨r4,er⟩:∃ x:Nat,x=i % 4:=⟨_,rfl⟩;obtain⟨i1,e1⟩:∃ x:Nat,x=i+1:=⟨_,rfl⟩;have vq:IntKind.i64.wrap (Int.tdiv (i:Int) 4)=(i4:Int):=by
   rw[show Int.tdiv (i:Int) 4=((i / 4:Nat):Int)from(fP i 4).symm,Jr iA iA,e4]
  have v':IntKind.i64.wrap ((i:Int) / 4)=(i4:Int):=by grind
  have vr:Int.tmod (i:Int) 4=(r4:Int):=by grind
  have hA:(i:Int) % 4=(r4:Int):=iA
  have w1:IntKind.i64.wrap ((i:Int)+1)=(i1:Int):=by rw[Jr iA iA];omega
  obtain⟨bk,o,hB,x0,c0⟩:=CX b (sh.R aB) (i:=i4) iA;have e2:bk≠g.Q:=fun e=>by have:=sh.blk hB;omega
  have c1:Zq g1 bk o=U (I .u32 ((Bl.wd p i4:Nat):Int)):=by
   unfold Zq at c0 ⊢;rw[O_.same bk e2];exact c0
  obtain⟨x,ex⟩:∃ x,x=Bl.wd p i4:=⟨_,rfl⟩;rw[<- ex]at c1;have hx:x < 4294967296:=by
   rw[ex];unfold Bl.wd;rw[dW];cases e:p[i4]? with
   | none=>simp
   | some y=>exact hp y (ae e)
  simp[Jx,P,t7,j,C,T,vq,v',x0,c1];refine iV (RfJ g1 hv A g.Q i r4 x) r4 ⟨_,0,rfl,by simp[P],by simp[t7],by simp[j],by simp[C],jA,jA,iA,rfl⟩ ?_;clear P t7 j C;rintro k s' ⟨tr,m,rfl,P,t7,j,C,t13,t14,hm,rfl⟩ _;have hn:x / 256 ^ m < 4294967296:=cY (Nat.div_le_self _ _) hx;obtain⟨y,ey⟩:∃ y,y=x / 256 ^ m:=⟨_,rfl⟩;rw[<- ey]at t13 hn;by_cases a1:m < r4
  ·have h2:(m:Int) < (r4:Int):=iA
   obtain⟨m1,em⟩:∃ x:Nat,x=m+1:=⟨_,rfl⟩;have wm:IntKind.i64.wrap ((m:Int)+1)=(m1:Int):=by rw[Jr iA iA];omega
   obtain⟨y1,hl⟩:∃ z,z=y / 256:=⟨_,rfl⟩;have vd:IntKind.u32.wrap (Int.tdiv (y:Int) 256)=(y1:Int):=by
    rw[show Int.tdiv (y:Int) 256=((y / 256:Nat):Int)from(fP y 256).symm,Bo,<- hl,wL iA]
   have M':IntKind.u32.wrap ((y:Int) / 256)=(y1:Int):=by grind
   simp[Jx,P,t7,j,C,t13,t14,vr,hA,h2,vd,M',wm];exact⟨r4-m1,iA,_,m1,rfl,by simp[P],by simp[t7],by simp[j],by simp[C],by rw[em,gt,<- eP,<- ey,<- hl];simp,jA,iA,rfl⟩
  ·have h2:¬ (m:Int) < (r4:Int):=iA
   have : m=r4:=iA
   subst this;obtain⟨z,ez⟩:∃ z,z=y % 256:=⟨_,rfl⟩;have hz:z < 256:=iA
   have vm:IntKind.u8.wrap (Int.tmod (y:Int) 256)=(z:Int):=by
    rw[show Int.tmod (y:Int) 256=((y % 256:Nat):Int)from(fO y 256).symm,<- ez,CM hz]
   have hq:IntKind.u8.wrap ((y:Int) % 256)=(z:Int):=by grind
   have h4:z=CD p i:=by rw[ez,ey,ex,CD,e4,er]
   have st:=nS (v:=I .u8 (z:Int)) O_.at' (o:=i) (by rw[bo,GO];exact hr);have lB:=N.D O_.at';simp[Jx,P,t7,j,C,t13,t14,vr,hA,h2,vm,hq,T,st,w1];refine⟨32-i1,iA,_,_,i1,rfl,by simp[P],by simp[t7],by simp[j],jA,iA,rfl,⟨?_,O_.Q,fun c hc => ?_⟩⟩
   ·rw[gY lB,if_pos rfl,e1,<- Uom _ hr,<- h4,gy];rfl
   ·rw[gY lB,if_neg (Ne.symm hc),O_.same c hc]
 ·have T:¬ (i:Int) < 32:=iA
  have : i=32:=iA
  subst this;have gB:=O_.at';rw[Vqr]at gB;have lo:L (Bl.out p)=32:=by rw[<- Vqr,GO]
  have ld:iy g1 g.Q 0 32=U (.agg ⟨(Bl.out p).map dk⟩):=by
   rw[V9 gB (by grind),ba,aj (by grind)]
  have hb:g1.A A=U (S Y 1 jn):=by rw[O_.same A iA];exact aB.A gA
  have lz:L jn=32:=rfl;have st:iN g1 A 0 ((Bl.out p).map dk)=U (g1.set A (U (S Y 1 ((Bl.out p).map dk)))):=by
   rw[jQ hb (by grind),cZ,bX,bW,ck (by grind),bS]
  have h3:=N.D hb;have hu:iy (g1.set A (U (S Y 1 ((Bl.out p).map dk)))) A 0 32=U (.agg ⟨(Bl.out p).map dk⟩):=by
   have : (g1.set A (U (S Y 1 ((Bl.out p).map dk)))).A A=U (S Y 1 ((Bl.out p).map dk)):=by rw[gY h3,if_pos rfl]
   rw[V9 this (by grind),ba,aj (by grind)]
  simp[Jx,P,t7,j,C,ld,st,lo,hu];refine hk _ (by show g.Q<=g1.Q;grind) fun c hc a2 => ?_;rw[gY h3,if_neg (Ne.symm a2),O_.same c iA,aB.2 c hc]
end
def qH(xs:List Nat)(n:Nat):List Nat:=xs++List.replicate (n-L xs) 0
def Vqf(xs:List Nat):qH xs (L xs)=xs:=by simp[qH]
def Uop(h:L xs<=n):qH xs (n+1)=qH xs n ++ [0]:=by
 unfold qH;rw[show n+1-L xs=n-L xs+1 by omega,List.replicate_succ',b9]
def Ux7(h:L xs<=n):L (qH xs n)=n:=by simp[qH];omega
def Vqz{n0 n:Nat}{v:V}{xs:List Nat}(o:ij g n0 1 v n ((qH xs n).map dk))(h0:n0<=g.Q)(T:L xs<=n)(hl:n < 1000000) :
  ∃ C j,V6 (E b).tojo 31 1 [(0,I .u8 0)] g=U (M (U ⟨g.Q,0,O⟩) 1 1,g.push (S Y 1 [dk 0]))/\kU (E b).tojo 31 31 v (M (U ⟨g.Q,0,O⟩) 1 1) (g.push (S Y 1 [dk 0]))=U (C,j)/\ij j n0 1 C (n+1) ((qH xs (n+1)).map dk)/\iM v g j:=by
 have P:=oL (j' b) (z:=1) k_ iA iA (y:=I .u8 0) rfl (ys:=[dk 0]) rfl rfl (h:=g);obtain⟨C,j,q1,q2,q3⟩:=Ca (j' b) k_ iA o h0 (ys:=[dk 0]) rfl (by rw[ux];omega) iA;refine⟨C,j,P,q1,?_,q3⟩;rw[Uop T,bF];exact q2
def RfP(j:N)(n0:Nat)(tv hv:V)(A a e:Nat)(xs:List Nat)(k:Nat)(s:St):Prop:=∃ (tr:Tr V) (g:N) (v:V) (n:Nat),s=⟨⟨109,tr⟩,[],g⟩/\tr.A 4=U (pO A 0)/\tr.A 6=U tv/\tr.A 7=U hv/\tr.A 8=U (I X (a:Int))/\tr.A 9=U (I X (e:Int))/\tr.A 10=U v/\L xs<=n/\n<=64/\k=64-n/\j.Q<=g.Q/\(∀ c,c < n0->g.A c=j.A c)/\ij g n0 1 v n ((qH xs n).map dk)
section
attribute [local simp] Dr F9 Vo Jx zF Vw uG Jf nJ zC qM Ju Aw Gd Gg wj wk Jo Ub yo W8 Uy F2 F4 zy zB uH wg mZ Ua xw W9
def Jfv{p:List Nat}{text:List Nat}{A a:Nat}(st:SN g tv text)(sh:Sl g 1 hv 8 (p.map iG))(hb:∀ x ∈ text,x < 256)(hl:L text < 1000000000)(ha:a<=L text)(e:Nat)(he:e=min (a+64) (L text))(t4:tr.A 4=U (pO A 0))(t6:tr.A 6=U tv)(t7:tr.A 7=U hv)(t8:tr.A 8=U (I X (a:Int)))(K:Exit->St->Prop)(hk:∀ C g' v',C.A 4=U (pO A 0)->C.A 6=U tv->C.A 7=U v'->C.A 8=U (I X (a:Int))->a_ g g'->Sl g' 1 v' 8 ((Bl.take p (Bl.blk (text.drop a)) e (decide (e=L text))).map iG)->K .normal ⟨⟨109,C⟩,[],g'⟩) :
  iO (E b) (pL Tryz.prog (E b).G) (D0 b) O MJ ⟨⟨109,tr⟩,[],g⟩ K:=by
 obtain⟨hp,ea⟩:∃ x:Nat,x=a+64:=⟨_,rfl⟩;have wa:IntKind.i64.wrap ((a:Int)+64)=(hp:Int):=by rw[Jr iA iA];omega
 have vm:DH J [I X (hp:Int),I X (L text:Int)]=U (I X (e:Int)):=by
  rw[K6]
  grind
 have T:∀ hx,iC (E b).tojo 31 tv hx=U (I X (L text:Int)):=fun hx=>iT (j' b) st;obtain⟨xs,hy⟩:∃ xs,xs=(text.drop a).take (e-a):=⟨_,rfl⟩;have lx:L xs=e-a:=by grind
 obtain⟨v1,g1,c1,s1,a1, -⟩:=Uwi (j' b) (k:=.i64) (k2:=.i64) k_ iA st (i:=(a:Int)) (j:=(e:Int)) iA iA iA;simp only[bA,cg]at s1;rw[<- fW,<- dJ,<- hy]at s1;obtain⟨v2,g2,c2,o2,b2⟩:=yr (j' b) (tx:=31) k_ iA (ij.nil (h:=g1) (n0:=g1.Q) (z:=1)) (ai _) (us (j' b) k_ s1) (by simp[lx]) (by rw[ux];omega) iA;have a2:a_ g1 g2:=iM.R (z:=1) (a_.refl _) ij.nil b2;have hB:ij g2 g1.Q 1 v2 (e-a) ((qH xs (e-a)).map dk):=by
  rw[<- lx,Vqf,lx]
  grind
 simp[Ya,t4,t6,t7,t8,wa,T,vm,c1,c2];refine iV (RfP g2 g1.Q tv hv A a e xs) (64-(e-a)) ⟨_,g2,v2,e-a,rfl,by simp[t4],by simp[t6],by simp[t7],by simp[t8],jA,jA,iA,iA,rfl,ai _,fun _ _=>rfl,hB⟩ ?_;clear t4 t6 t7 t8;rintro k s' ⟨tr,g3,v,n,rfl,t4,t6,t7,t8,t9,t10,hn,hu,rfl,nx,fr,ow⟩ _;have h3:∀ hx,iC (E b).tojo 31 v hx=U (I X (n:Int)):=fun hx=>iT (j' b) ow.sl;by_cases h4:n < 64
 ·have P:(n:Int) < 64:=iA
  obtain⟨v',g',q1,q2,q3,q4⟩:=Vqz b ow (by have:=a2.1;omega) hn iA;simp[Ya,t4,t6,t7,t8,t9,t10,h3,P,q1,q2];refine⟨64-(n+1),iA,_,g',v',n+1,rfl,by simp[t4],by simp[t6],by simp[t7],by simp[t8],by simp[t9],jA,iA,iA,rfl,ao nx q4.1,fun c hc => ?_,q3⟩;have:=a2.1;rw[q4.2 c iA (fun e=>by have:=(ow.from e).1;omega),fr c hc]
 ·have P:¬ (n:Int) < 64:=iA
  have : n=64:=iA
  subst this;have e1:IntKind.u64.wrap (e:Int)=(e:Int):=by
   show(e:Int) % (2 ^ 64:Int)=_;omega
  have a3:a_ g g3:=by
   have h1:=a1.1;have h2:=a2.1;refine⟨iA,fun c hc => ?_⟩;rw[fr c iA,a2.2 c iA,a1.2 c hc]
  have ho:∀ x ∈ qH xs 64,x < 256:=by
   intro x hx;rcases ah.1 hx with h | h
   ·grind
   grind
  have de:(decide ((e:Int)=(L text:Int)))=decide (e=L text):=by
   grind
  obtain⟨last,hr⟩:∃ l,l=decide (e=L text):=⟨_,rfl⟩;rw[<- hr]at de hk;have bq:ja (binOp .eql 3 (I X (e:Int)) (I X (L text:Int)))=U (.bool last):=by rw[Ya,de]
  simp[Ya,t4,t6,t7,t8,t9,t10,h3,T,e1,-Ya,bq];refine Uzm b (sh.R a3) ow.sl e iA last _ fun v' h' o' a' => ?_;have hA:qH xs 64=Bl.blk (text.drop a):=by
   have q:xs=(text.drop a).take 64:=by
    grind
   unfold qH Bl.blk
   grind
  rw[Ura p ho,hA]at o';simp[Ya];exact hk _ h' v' (by simp[t4]) (by simp[t6]) jA (by simp[t8]) (a3.trans a') o'.sl
end
def Wct:Bl.xr a b < 4294967296:=eN _ kA
def U4i(p:List Nat)(l:List Nat)(count:Nat)(last:Bool):∀ x ∈ Bl.take p l count last,x < 4294967296:=by
 intro x j;obtain⟨i, -,rfl⟩:=am.1 j;exact Wct _ _
def RfL(g0:N)(tv:V)(A:Nat)(text:List Nat)(F:List Nat)(k:Nat)(s:St):Prop:=∃ (tr:Tr V) (g:N) (hv:V) (p:List Nat) (a:Nat),s=⟨⟨109,tr⟩,[],g⟩/\tr.A 4=U (pO A 0)/\tr.A 6=U tv/\tr.A 7=U hv/\tr.A 8=U (I X (a:Int))/\a_ g0 g/\Sl g 1 hv 8 (p.map iG) /\
 ((a < L text∨a=0)/\a<=L text/\uD p (text.drop a) a=F∨L text<=a/\a≠0/\p=F/\∀ x ∈ p,x < 4294967296)/\a<=L text+64/\k=L text+65-a
def Umn{p F:List Nat}{text:List Nat}{a e:Nat}(T:a<=L text)(C:uD p (text.drop a) a=F)(he:e=min (a+64) (L text)) :
  let p':=Bl.take p (Bl.blk (text.drop a)) e (decide (e=L text))
  (a+64 < L text∨a+64=0)/\a+64<=L text/\uD p' (text.drop (a+64)) (a+64)=F∨L text<=a+64/\a+64≠0/\p'=F/\∀ x ∈ p',x < 4294967296:=by
 intro p';have lt:L (text.drop a)=L text-a:=cK;by_cases h:a+64 < L text
 ·left;refine⟨.inl h,iA,?_⟩;have j:e=a+64:=iA
  have P:p'=Bl.take p (Bl.blk (text.drop a)) (a+64) J:=by
   show Bl.take p (Bl.blk (text.drop a)) e (decide (e=L text))=_;rw[decide_eq_false iA,j]
  rw[P,<- C,Uaq (p8:=p) (text:=text.drop a) iA,bU]
 ·right;refine⟨iA,iA,?_,U4i _ _ _ _⟩;have j:e=L text:=iA
  show Bl.take p (Bl.blk (text.drop a)) e (decide (e=L text))=F;rw[decide_eq_true j,<- C,Ue5 iA,lt,show a+(L text-a)=e by omega]
section
attribute [local simp] Dr F9 Vo Jx zF Vw uG Jf nJ zC qM Ju Aw Ya Gd Gg wj wk Jo yo W8 Uy F2 F4 zy zB uH wg mZ xw W9
def Vyg{g0:N}{tv hv:V}{p0:List Nat}{text:List Nat}{A:Nat}(st:SN g0 tv text)(sh:Sl g0 1 hv 8 ((p0).map iG))(hb:∀ x ∈ text,x < 256)(hl:L text < 1000000000)(gA:g0.A A=U (S Y 1 jn))(T:tr.A 4=U (pO A 0))(t6:tr.A 6=U tv)(t7:tr.A 7=U hv)(K:KP)(hk:∀ h',g0.Q<=h'.Q->(∀ c,c < g0.Q->c≠A->h'.A c=g0.A c)->K (.ret (.agg ⟨(Bl.out (uD p0 text 0)).map dk⟩)) h') :
  iO (E b) (pL Tryz.prog (E b).G) (D0 b) O MF ⟨⟨109,tr⟩,[],g0⟩ (pj (E b) (DD b) (FU 184) K):=by
 have P:∀ hx,iC (E b).tojo 31 tv hx=U (I X (L text:Int)):=fun hx=>iT (j' b) st;simp[Ub,Ua,T,t6,t7,-Ua,-Ub];refine iV (RfL g0 tv A text (uD p0 text 0)) (L text+65) ⟨_,g0,hv,p0,0,rfl,by simp[T],by simp[t6],by simp[t7],jA,a_.refl _,sh,.inl ⟨.inr rfl,iA,rfl⟩,iA,rfl⟩ ?_;clear T t6 t7;rintro k s' ⟨tr,g,hv,p,a,rfl,T,t6,t7,t8,ag,sh,hA,ha,rfl⟩ _;rcases hA with⟨h1,h2,h3⟩ | ⟨h1,h2,h3,h4⟩
 ·obtain⟨e,he⟩:∃ e,e=min (a+64) (L text):=⟨_,rfl⟩;obtain⟨C,ea⟩:∃ x:Nat,x=a+64:=⟨_,rfl⟩;have wa:IntKind.i64.wrap ((a:Int)+64)=(C:Int):=by rw[Jr iA iA];omega
  by_cases ho:a < L text
  ·have j:(a:Int) < (L text:Int):=iA
   simp[Ub,Ua,T,t6,t7,t8,P,j,-Ua,-Ub];refine Jfv b (A:=A) (p:=p) (hv:=hv) (st.R ag) sh hb hl h2 e he (by simp[T]) (by simp[t6]) (by simp[t7]) (by simp[t8]) _ fun hy g' v' u4 u6 u7 u8 a' s' => ?_;simp[Ub,Ua,u4,u6,u7,u8,wa,-Ua,-Ub];refine⟨L text+65-C,iA,_,g',v',_,C,rfl,by simp[u4],by simp[u6],by simp[u7],jA,ag.trans a',s',?_,iA,rfl⟩;rw[ea];exact Umn h2 h3 he
  ·have j:¬ (a:Int) < (L text:Int):=iA
   have a0:a=0:=iA
   have hz:L text=0:=iA
   simp[Ub,Ua,T,t6,t7,t8,P,a0,hz,-Ua,-Ub];refine Jfv b (A:=A) (p:=p) (hv:=hv) (a:=a) (st.R ag) sh hb hl h2 e he (by simp[T]) (by simp[t6]) (by simp[t7]) (by simp[t8,a0]) _ fun hy g' v' u4 u6 u7 u8 a' s' => ?_;simp[Ub,Ua,u4,u6,u7,u8,wa,-Ua,-Ub];refine⟨L text+65-C,iA,_,g',v',_,C,rfl,by simp[u4],by simp[u6],by simp[u7],jA,ag.trans a',s',?_,iA,rfl⟩;rw[ea];exact Umn h2 h3 he
 ·have j:¬ (a:Int) < (L text:Int):=iA
  have hr:¬ (a:Int)=0:=iA
  subst h3;simp[Ub,Ua,T,t6,t7,t8,P,j,hr,h2,-Ua,-Ub];refine Upp b (A:=A) sh h4 (ag.A gA) (by simp[T]) (by simp[t7]) K fun h' n' s'=>hk h' (ao ag.1 n') fun c hc hp => ?_;rw[s' c (aq hc ag.1) hp,ag.2 c hc]
end
def EN(k:Nat):Int:=sW (sW 1779033703 16842784) (IntKind.u32.wrap (256*(k:Int)))
def Urb:∀ k,k < 33->EN k=((Bl.wd (Bl.start k) 0:Nat):Int):=kA
def RfQ(j:N)(n0:Nat)(kv tv:V)(A:Nat)(xs:List Nat)(k:Nat)(s:St):Prop:=∃ (tr:Tr V) (g:N) (v:V) (n:Nat),s=⟨⟨109,tr⟩,[],g⟩/\tr.A 0=U kv/\tr.A 1=U tv/\tr.A 4=U (pO A 0)/\tr.A 6=U v/\L xs<=n/\n<=64/\k=64-n/\j.Q<=g.Q/\(∀ c,c < n0->g.A c=j.A c)/\ij g n0 1 v n ((qH xs n).map dk)
section
attribute [local simp] Dr F9 Vo zF Vw uG Jf nJ zC Ju Aw Ya Gd Gg wj wk Jo Ub yo W8 Uy F2 F4 zy zB uH wg mZ Ua
def Eb{h:N}{kv tv:V}{key l:List Nat}(sk:SN h kv key)(sl:SN h tv l)(h4:L key<=32)(hl:L l < 100000000)(bk:∀ x ∈ key,x < 256)(bl:∀ x ∈ l,x < 256)(K:KP)(hk:∀ h',a_ h h'->K (.ret (.agg ⟨(Bl.keyed1 key l).map dk⟩)) h') :
  FK b 184 [kv,tv] h K:=by
 refine ip b (Vo b) UM rfl ?_;have P:∀ hx,iC (E b).tojo 31 kv hx=U (I X (L key:Int)):=fun hx=>iT (j' b) sk;have e1:¬ (32:Int) < (L key:Int):=iA
 obtain⟨C,eA⟩:∃ C,C=h.push (S Y 1 jn):=⟨_,rfl⟩;have aA:=jG eA;have nA:=lT eA;have gA:C.A h.Q=U (S Y 1 jn):=by rw[eA,N.F,if_pos rfl]
 have hy:jd (E b).tojo 62 h=U (pO h.Q 0,C):=by rw[eA];exact Jx b h
 have hp:Bl.keyed1 key l=Bl.out (uD (Bl.start (L key)) (Bl.textOf key l) 0):=rfl;have ho:∀ (tr:Tr V) (g:N) (v:V) (xs:List Nat),xs++l=Bl.textOf key l->tr.A 0=U kv->tr.A 1=U tv->tr.A 4=U (pO h.Q 0)->tr.A 6=U v->ij g C.Q 1 v (L xs) (xs.map dk)->a_ C g->L xs<=64->(∀ x ∈ xs,x < 256) ->
   iO (E b) (pL Tryz.prog (E b).G) (D0 b) O MO ⟨⟨109,tr⟩,[],g⟩ (pj (E b) (DD b) (FU 184) K):=by
  intro tr g v xs ex t0 t1 t4 t6 ow ag hx bx;obtain⟨v2,j,c2,o2,b2⟩:=yr (j' b) (tx:=31) k_ iA ow ag.1 (us (j' b) k_ ((sl.R aA).R ag)) jA (by rw[ux];omega) iA;have a2:a_ C j:=iM.R ag ow b2;have s2:SN j v2 (Bl.textOf key l):=by
   rw[<- ex];have:=o2.sl
   grind
  obtain⟨T,e3⟩:∃ T,T=j.push (S Y 1 (Bl.begins.map iG)):=⟨_,rfl⟩;have h3:T.A j.Q=U (S Y 1 (Bl.begins.map iG)):=by rw[e3,N.F,if_pos rfl]
  have a3:=jG e3;have l3:=N.D h3;obtain⟨g4,e4⟩:∃ g4,g4=T.set j.Q (U (S Y 1 ((Bl.begins.map iG).set 0 (I .u32 (EN (L key)))))):=⟨_,rfl⟩;have st:iN T j.Q 0 [I .u32 (EN (L key))]=U g4:=by rw[e4];exact nS h3 (by simp[Bl.begins])
  have a4:a_ j g4:=by rw[e4];exact a3.set _ (ai _) l3
  have e2:g4.A j.Q=U (S Y 1 ((Bl.start (L key)).map iG)):=by
   rw[e4,gY l3,if_pos rfl,Urb _ iA];rfl
  have sh:Sl g4 1 (M (U ⟨j.Q,0,O⟩) 8 8) 8 ((Bl.start (L key)).map iG):=.inr ⟨j.Q,0,8,Y,1,[],[],rfl,by grind,rfl,rfl,ai _,by unfold iJ;omega,fun h=>by simp⟩;have x0:J1 (E b).tojo 191 (M (U ⟨j.Q,0,O⟩) 8 8) (I X 0)=U (pO j.Q 0):=by
   rw[xo (vi b) rN ⟨iA,iA⟩];rfl
  have c0:Zq T j.Q 0=U (I .u32 1779033703):=by rw[Z2 h3];rfl
  have wm:IntKind.i64.wrap (256*(L key:Int))=256*(L key:Int):=Jr iA iA;obtain⟨q1,f1⟩:∃ q,q=sW 1779033703 16842784:=⟨_,rfl⟩;obtain⟨q2,f2⟩:∃ q,q=IntKind.u32.wrap (256*(L key:Int)):=⟨_,rfl⟩;obtain⟨q3,f3⟩:∃ q,q=EN (L key):=⟨_,rfl⟩;have y1:ja (binOp .xor 124 (I .u32 1779033703) (I .u32 16842784))=U (I .u32 q1):=by rw[f1];exact vS _ _
  have y2:uL (E b).tojo 3 124 (I X (256*(L key:Int)))=U (I .u32 q2):=by rw[f2];exact qM b _ _
  have y3:ja (binOp .xor 124 (I .u32 q1) (I .u32 q2))=U (I .u32 q3):=by rw[f3,EN,<- f1,<- f2];exact vS _ _
  rw[<- f3]at st;simp[Jx,qM,xw,W9,t0,t1,t4,t6,c2];refine Ufg b j _ ?_;rw[<- e3];simp[Jx,qM,xw,W9,t0,t1,t4,t6,P,x0,c0,wm,-qM,y1,y2,y3,st,-xw];have lt:L (Bl.textOf key l) < 1000000000:=by grind
  have bt:∀ x ∈ Bl.textOf key l,x < 256:=by
   grind
  refine Vyg b (s2.R a4) sh bt lt (a4.A (a2.A gA)) (by simp[t4]) jA jA K fun h' n' s' => ?_;rw[<- hp];refine hk h' ⟨by have:=aA.1;have:=a2.1;have:=a4.1;omega,fun c hc => ?_⟩;have h1:=a2.1;have h2:=a4.1;rw[s' c iA iA,a4.2 c iA,a2.2 c iA,aA.2 c hc]
 cases hB:key with
 | nil =>
  subst hB;simp[Jx,qM,xw,W9,-Jx,hy,P,-W9];exact ho _ C _ [] rfl jA jA jA jA ij.nil (a_.refl _) jA jA
 | cons k ks =>
  have h0:0 < L key:=by grind
  obtain⟨v1,g1,c1,o1,b1⟩:=yr (j' b) (tx:=31) k_ iA (ij.nil (h:=C) (n0:=C.Q) (z:=1)) (ai _) (us (j' b) k_ (sk.R aA)) jA (by rw[ux];omega) iA;have a1:a_ C g1:=iM.R (z:=1) (a_.refl _) ij.nil b1;have hu:ij g1 C.Q 1 v1 (L key) ((qH key (L key)).map dk):=by
   rw[Vqf]
   grind
  simp[Jx,qM,xw,W9,-Jx,hy,P,e1,h0,c1,-W9];refine iV (RfQ g1 C.Q kv tv h.Q key) (64-L key) ⟨_,g1,v1,L key,rfl,jA,jA,jA,jA,ai _,iA,rfl,ai _,fun _ _=>rfl,hu⟩ ?_;rintro k s' ⟨tr,T,v,n,rfl,t0,t1,t4,t6,hn,hq,rfl,nx,fr,ow⟩ _;have hr:∀ hx,iC (E b).tojo 31 v hx=U (I X (n:Int)):=fun hx=>iT (j' b) ow.sl;by_cases M':n < 64
  ·have hb:(n:Int) < 64:=iA
   obtain⟨v',g',q1,q2,q3,q4⟩:=Vqz b ow (by have:=a1.1;omega) hn iA;simp[Jx,qM,xw,W9,t0,t1,t4,t6,hr,hb,q1,q2,-W9];refine⟨64-(n+1),iA,_,g',v',n+1,rfl,by simp[t0],by simp[t1],by simp[t4],jA,iA,iA,rfl,ao nx q4.1,fun c hc => ?_,q3⟩;have:=a1.1;rw[q4.2 c iA (fun e=>by have:=(ow.from e).1;omega),fr c hc]
  ·have hb:¬ (n:Int) < 64:=iA
   have : n=64:=iA
   subst this;have a3:a_ C T:=by
    have h1:=a1.1;exact⟨iA,fun c hc=>by rw[fr c hc,a1.2 c hc]⟩
   have tx:qH key 64++l=Bl.textOf key l:=by
    have : Bl.textOf key l=key++(List.replicate (64-L key) 0++l):=by rw[hB];rfl
    rw[this,qH,b9]
   have lp:L (qH key 64)=64:=Ux7 hn;have bx:∀ x ∈ qH key 64,x < 256:=by
    intro x hx;rcases ah.1 hx with h | h
    ·grind
    grind
   simp[Jx,qM,xw,W9,t0,t1,t4,t6,hr,-W9];exact ho _ T v (qH key 64) tx (by simp[t0]) (by simp[t1]) (by simp[t4]) (by simp[t6]) (by grind) a3 iA bx
end
section
attribute [local simp] YC Jg9 Vx Vo Vw
def OD{h:N}{tv:V}{l:List Nat}(sl:SN h tv l)(hl:L l < 100000000)(bl:∀ x ∈ l,x < 256)(K:KP)(hk:∀ h',a_ h h'->K (.ret (.agg ⟨(Bl.keyed1 [] l).map dk⟩)) h') :
  FK b 169 [tv] h K:=by
 refine ip b (Vx b) Vcf rfl ?_;obtain⟨hA,eA,aA,gA⟩:=kQ h jn;have C:jd (E b).tojo 62 h=U (pO h.Q 0,hA):=by rw[eA];exact Jx b h
 simp[Jx,-Jx,C];refine Eb b (kv:=M O 0 0) (key:=[]) Sl.nil (sl.R aA) jA hl jA bl _ fun j T => ?_;have g2:j.A h.Q=U (S Y 1 jn):=T.A gA;have P:L (Bl.keyed1 [] l)=32:=oR _;have l2:=N.D g2;have st:iN j h.Q 0 ((Bl.keyed1 [] l).map dk)=U (j.set h.Q (U (S Y 1 ((Bl.keyed1 [] l).map dk)))):=by
  rw[jQ g2 (by simp[jn,P])];congr 4
 have g3:iy (j.set h.Q (U (S Y 1 ((Bl.keyed1 [] l).map dk)))) h.Q 0 32=U (.agg ⟨(Bl.keyed1 [] l).map dk⟩):=by
  rw[V9 (by rw[gY l2,if_pos rfl]) (by simp[P])];congr 3
 simp[Jx,mZ,st,P,g3];exact hk _ ((aA.trans T).set _ (ai _) l2)
end
end Go.Proofs.YtmgonkaadhbnpaaGreatDoor
end
