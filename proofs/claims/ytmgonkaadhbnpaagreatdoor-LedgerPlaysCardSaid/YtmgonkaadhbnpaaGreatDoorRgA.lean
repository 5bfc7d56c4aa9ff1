import Derived.Test.YtmgonkaadhbnpaaGreatDoorFA
import Derived.Test.YtmgonkaadhbnpaaGreatDoorScB
import Derived.Test.YtmgonkaadhbnpaaGreatDoorRfA
import Derived.Test.YtmgonkaadhbnpaaGreatDoorScA
set_option linter.all false
set_option maxHeartbeats 1000000
open List renaming length→L
open Option renaming some→U,none→O
open Bool renaming true→Y,false→J
open Go renaming Value→V
open Go.Value renaming int→I,slice→M
open Go.IntKind renaming i64→X
open Go.Ab.Blk renaming cells→S
noncomputable section
namespace Go.Proofs.YtmgonkaadhbnpaaGreatDoor
open Go Go.Ab
set_option maxRecDepth 100000
variable{x:List Int}(b:Nat){h:N}{ν:Nat}{z:Nat}{ow:Bool}{sv:V}{seed:List Nat}{h':N}{MB:Nat->Prop}{μ:Nat}
structure kY (h:N) (MB:Nat->Prop) (μ:Nat) (e:iu) (ps:List (V × List Int)) (on had:List Bool) (sv ov dv:V) (z:Nat):Prop where
 at':h.A μ=U (S Y z (e.cells ++ [sv,ov,dv]))
 mb:MB μ
 st:Sl h 1 sv (L ps) (ps.reverse.map (·.1))
 on:ij h 0 1 ov (L on) (on.reverse.map .bool)
 hd:ij h 0 1 dv (L had) (had.reverse.map .bool)
 ms:∀ c,J7 sv=U c->¬ MB c
 mo:∀ c,J7 ov=U c->MB c/\c≠μ
 md:∀ c,J7 dv=U c->MB c/\c≠μ/\J7 ov≠U c
 its:∀ p ∈ ps,SB h p.1 p.2/\Bytes p.2/\∀ c,J7 p.1=U c->¬ MB c
 low:∀ c,MB c->c < h.Q
def jj(h:N)(MB:Nat->Prop)(μ:Nat)(e:iu)(ps:List (V × List Int))(on had:List Bool):Prop:=∃ sv ov dv z,kY h MB μ e ps on had sv ov dv z
section
variable{h:N}{MB:Nat->Prop}{μ:Nat}{e:iu}{ps:List (V × List Int)}{on had:List Bool}{sv ov dv:V}{z:Nat}
def kY.c34(r:kY h MB μ e ps on had sv ov dv z):Zq h μ 34=U sv:=by
 rw[Z2 r.at',aL (by rw[e.len];omega),e.len];rfl
def kY.c35(r:kY h MB μ e ps on had sv ov dv z):Zq h μ 35=U ov:=by
 rw[Z2 r.at',aL (by rw[e.len];omega),e.len];rfl
def kY.c36(r:kY h MB μ e ps on had sv ov dv z):Zq h μ 36=U dv:=by
 rw[Z2 r.at',aL (by rw[e.len];omega),e.len];rfl
def kY.R{h':N}(r:kY h MB μ e ps on had sv ov dv z)(a:a_ h h'):kY h' MB μ e ps on had sv ov dv z :=
 ⟨a.A r.at',r.mb,r.st.R a,r.on.keep fun c _ j=>a.2 c j,r.hd.keep fun c _ j=>a.2 c j,r.ms,r.mo,r.md,fun p C=>⟨(r.its p C).1.R a,(r.its p C).2⟩,fun c j=>aq (r.low c j) a.1⟩
def jj.R{h':N}(r:jj h MB μ e ps on had)(a:a_ h h'):jj h' MB μ e ps on had:=by
 obtain⟨sv,ov,dv,z,r⟩:=r;exact⟨sv,ov,dv,z,r.R a⟩
end
def RTI(v:V)(xs:List Int)(h:N)(k:Nat)(s:St):Prop:=∃ (t:Tr V) (i:Nat),s=⟨⟨15,t⟩,[],h⟩/\t.A 0=U v/\t.A 3=U (I X (i:Int))/\i<=L xs/\k=L xs-i/\kS xs=kS (xs.drop i)
attribute [local simp] Qw p6 p7 X0 p_ p9 p5 qd qc Q6 Qt Yg Y6 jm Qg iD Ab.g0 gv gs Q8 Qd iH kH lr Qh Tr.H St.put Tm.put flat iS Y5 Qm Qp Qn Qo Qk Ql Qj Qq Qi Q7 Q9 pZ pX pW pY qn qk qj qf qg qi qq Qz.putAll Qr Q0 Qa Wa ku Yk Jn Yo Nat.testBit Y0 loadAt Ab.runT Ym Yb Yh
section
attribute [local simp] XR Xw8 Yr qu yU qx YI BM qu
def Nv{v:V}{xs:List Int}(s:SB h v xs)(hn:L xs < 1000000000)(K:KP)(hk:K (.ret (.bool (kS xs))) h):FK b 137 [v] h K:=by
 refine ip b (Yr b) Jxr rfl ?_;simp;refine iV (RTI v xs h) (L xs) ⟨_,0,rfl,jA,jA,iA,rfl,jA⟩ ?_;rintro k s' ⟨t,i,rfl,t0,t3,hi,rfl,hT⟩ _;by_cases T:i < L xs
 ·have j:(i:Int) < (L xs:Int):=iA
  obtain⟨bk,off, -,P,C⟩:=sL (b:=b) s (k:=.i64) (ac T);have hw:=wS (i:=i) iA;have hd:xs.drop i=xs[i]::xs.drop (i+1):=bh T;simp only[i8]at C;by_cases hz:xs[i]=0
  ·simp[t0,t3,j_ s,j,P,C,hz,hw];refine⟨L xs-(i+1),iA,_,i+1,rfl,by simp[t0],jA,iA,rfl,?_⟩;rw[hT,hd];show(xs[i] != 0 || kS (xs.drop (i+1)))=_
   grind
  ·simp[t0,t3,j_ s,j,P,C,hz];have : kS xs=Y:=by
    rw[hT,hd];show(xs[i] != 0 || kS (xs.drop (i+1)))=Y;simp[hz]
   grind
 ·have j:¬ (i:Int) < (L xs:Int):=iA
  have : i=L xs:=iA
  subst this;simp[t0,t3,j_ s];have : kS xs=J:=by rw[hT,cL];rfl
  grind
end
def ONI(μ:Nat)(on:List Bool)(h:N)(k:Nat)(s:St):Prop:=∃ (t:Tr V) (i:Nat),s=⟨⟨19,t⟩,[],h⟩/\t.A 0=U (pO μ 0)/\t.A 1=U (I X (L on:Int))/\t.A 5=U (I X (i:Int))/\i<=L on/\k=L on-i/\on.all id=(on.reverse.drop i).all id
section
def N9{e:iu}{ps:List (V × List Int)}{on had:List Bool}(M_:jj h MB μ e ps on had)(hn:L on < 1000)(K:KP)(hk:K (.ret (.bool (on.all id))) h) :
  FK b 134 [pO μ 0,I X (L on:Int)] h K:=by
 obtain⟨sv,ov,dv,z,r⟩:=M_;refine ip b (Zk b) Zf1 rfl ?_;simp[Fx,Kx,Zk,ki,v_,Dk,C5,rk,zx];refine iV (ONI μ on h) (L on) ⟨_,0,rfl,jA,jA,jA,iA,rfl,jA⟩ ?_;rintro k s' ⟨t,i,rfl,t0,t1,t5,hi,rfl,C⟩ _;by_cases hc:i < L on
 ·have j:(i:Int) < (L on:Int):=iA
  have P:i < L on.reverse:=by grind
  obtain⟨x,hx⟩:∃ x,on.reverse[i]? = U x:=⟨_,ac P⟩;obtain⟨bk,off,q1,T,q3, -⟩:=mQ (vY b) yY r.on.sl (k:=.i64) (i:=(i:Int)) iA iA;have q4:Zq h bk off=U (.bool x):=by
   grind
  have hw:=wS (i:=i) iA;have hd:on.reverse.drop i=x::on.reverse.drop (i+1):=by
   rw[bh P]
   grind
  rw[hd]at C;cases x with
  | true =>
   simp[Fx,Kx,Zk,ki,v_,Dk,C5,rk,zx,t0,t1,t5,j,ju,r.c35,T,q4,hw];exact⟨L on-(i+1),iA,_,i+1,rfl,by simp[t0],by simp[t1],jA,iA,rfl,by grind⟩
  | false =>
   simp[Fx,Kx,Zk,ki,v_,Dk,C5,rk,zx,t0,t1,t5,j,ju,r.c35,T,q4]
   grind
 ·have j:¬ (i:Int) < (L on:Int):=iA
  have : i=L on:=iA
  subst this;simp[Fx,Kx,Zk,ki,v_,Dk,C5,rk,zx,t0,t1,t5];have : on.all id=Y:=by rw[C,ck jA];rfl
  grind
def uk{e:iu}{ps:List (V × List Int)}{on had:List Bool}(M_:jj h MB μ e ps on had){n:Nat}{p:V × List Int}(C:ps[n]? = U p)(hn:L ps < 1000)(K:KP)(hk:K (.ret p.1) h) :
  FK b 138 [pO μ 0,I X (n:Int)] h K:=by
 obtain⟨sv,ov,dv,z,r⟩:=M_;have hc:n < L ps:=(av.1 C).1;refine ip b (Xb b) Yyj rfl ?_;have j:∀ P,iC (E b).tojo 94 sv P=U (I X (L ps:Int)):=fun P=>iT (kB b) r.st;have w1:IntKind.i64.wrap ((L ps:Int)-1)=(L ps:Int)-1:=Jr iA iA;have w2:IntKind.i64.wrap ((L ps:Int)-1-(n:Int))=(L ps:Int)-1-(n:Int):=Jr iA iA;obtain⟨T,off,q1,q2,q3, -⟩:=mQ (kB b) oT r.st (k:=.i64) (i:=(L ps:Int)-1-(n:Int)) iA iA;have q4:Zq h T off=U p.1:=by
  have:=q3 0 iA;have e1:((L ps:Int)-1-(n:Int)).toNat=L ps-1-n:=iA
  have e2:(ps.reverse.map (·.1))[L ps-1-n]? = U p.1:=by
   rw[b7,List.getElem?_reverse iA,show L ps-1-(L ps-1-n)=n by omega,C];rfl
  grind
 simp[Fz,KA,Xb,oU,Vb,U1,Z8];refine jf [] jA YQ.1 (by simp[YQ.2,Fz,KA,Xb,oU,Vb,U1,Z8,ju,r.c34,j,w1,w2,q2,q4];first | exact⟨rfl,rfl⟩ | rfl) ?_ ?_
 ·simp[Qw2,Fz,KA,Xb,oU,Vb,U1,Z8]
 simp[Fz,KA,Xb,oU,Vb,U1,Z8];exact hk
def kY.setS{e:iu}{ps:List (V × List Int)}{on had:List Bool}{sv ov dv:V}{z:Nat}(r:kY h MB μ e ps on had sv ov dv z){j:V}{T:List (V × List Int)}(st:Sl h 1 j (L T) (T.reverse.map (·.1)))(ms:∀ c,J7 j=U c->¬ MB c)(its:∀ p ∈ T,SB h p.1 p.2/\Bytes p.2/\∀ c,J7 p.1=U c->¬ MB c) :
  ∃ h',iN h μ 34 [j]=U h'/\kY h' MB μ e T on had j ov dv z/\Mv MB MB h h':=by
 have hx:=N.D r.at';have es:(e.cells ++ [sv,ov,dv]).set 34 j=e.cells ++ [j,ov,dv]:=by rw[bD _ _ (by rw[e.len];omega),e.len];rfl
 refine⟨_,nS r.at' (by simp[e.len]),?_,⟨ai _,fun c P hn=>by rw[gY hx,if_neg (fun q:μ=c=>hn (by rw[<- q];exact r.mb))],fun c P => .inl P⟩⟩;have C:∀ c,c≠μ->(h.set μ (U (S Y z ((e.cells ++ [sv,ov,dv]).set 34 j)))).A c=h.A c:=fun c P=>by rw[gY hx,if_neg (Ne.symm P)]
 refine⟨by rw[gY hx,if_pos rfl,es],r.mb,st.keep fun c P _=>C c fun q=>ms c P (by rw[q];exact r.mb),r.on.keep fun c P _=>C c (r.mo c P).2,r.hd.keep fun c P _=>C c (r.md c P).2.1,ms,r.mo,r.md,fun p hp => ?_,r.low⟩;obtain⟨h1,h2,h3⟩:=its p hp;exact⟨h1.keep fun c P _=>C c fun q=>h3 c P (by rw[q];exact r.mb),h2,h3⟩
def A8{e:iu}{ps:List (V × List Int)}{on had:List Bool}(M_:jj h MB μ e ps on had){n:Nat}(P:n<=L ps)(hn:L ps < 1000)(K:KP)(hk:∀ h',jj h' MB μ e (ps.drop n) on had->Mv MB MB h h'->K (.ret (.tuple #[])) h') :
  FK b 166 [pO μ 0,I X (n:Int)] h K:=by
 obtain⟨sv,ov,dv,z,r⟩:=M_;refine ip b (Xv b) Ymc rfl ?_;have j:∀ T,iC (E b).tojo 94 sv T=U (I X (L ps:Int)):=fun T=>iT (kB b) r.st;have w1:IntKind.i64.wrap ((L ps:Int)-(n:Int))=(L ps:Int)-(n:Int):=Jr iA iA;obtain⟨C,k1,k2,k3⟩:=U7x (kB b) (k:=.i64) (i:=(L ps:Int)-(n:Int)) oT iA r.st iA iA;have e1:((L ps:Int)-(n:Int)).toNat=L (ps.drop n):=jA
 have e2:(ps.reverse.map (·.1)).take (L (ps.drop n)*1)=(ps.drop n).reverse.map (·.1):=by
  rw[cg,cK,<- dJ,List.take_reverse]
  grind
 rw[e1,e2]at k2;obtain⟨h',s1,r',m⟩:=r.setS k2 (fun c hc=>r.ms c (by grind)) (fun p P=>r.its p (d6 P));simp[FC,KJ,Xv,Vb,U1];refine jf [] jA ZA.1 (by simp[ZA.2,Yam,FC,KJ,Xv,Vb,U1,ju,r.c34,j,w1,k1,EY b h μ 34 C k2.one,s1];first | exact⟨rfl,rfl⟩ | rfl) ?_ ?_
 ·simp[QD,FC,KJ,Xv,Vb,U1]
 simp[FC,KJ,Xv,Vb,U1];exact hk h' ⟨_,_,_,_,r'⟩ m
end
section
variable{h:N}{MB:Nat->Prop}{μ:Nat}{e:iu}{ps:List (V × List Int)}{on had:List Bool}{sv ov dv:V}{z:Nat}
def kY.far(r:kY h MB μ e ps on had sv ov dv z){c:Nat}(j:h.Q<=c):¬ MB c:=fun q=>by have:=r.low c q;omega
def kY.to(r:kY h MB μ e ps on had sv ov dv z){h2:N}{j:Nat->Prop}{hb C:List Bool}{P hx:V}(m:Mv MB j h h2)(hr:h2.A μ=U (S Y z (e.cells ++ [sv,P,hx])))(e1:ij h2 0 1 P (L hb) (hb.reverse.map .bool))(hA:ij h2 0 1 hx (L C) (C.reverse.map .bool))
  (hy:j μ) (hB:∀ c,J7 P=U c->j c/\c≠μ) (ho:∀ c,J7 hx=U c->j c/\c≠μ/\J7 P≠U c) (hk:∀ c,j c->c < h2.Q):kY h2 j μ e ps hb C sv P hx z:=by
 have no:∀ c,c < h.Q->¬ MB c->¬ j c:=fun c T hn q=>by
  rcases m.sub c q with q | q
  ·exact hn q
  ·omega
 refine⟨hr,hy,r.st.keep fun c T hl=>m.same c hl (r.ms c T),e1,hA,fun c T=>no c (r.st.blk T) (r.ms c T),hB,ho,fun p hp => ?_,hk⟩;obtain⟨h1,h3,h4⟩:=r.its p hp;exact⟨h1.keep fun c T hl=>m.same c hl (h4 c T),h3,fun c T=>no c (h1.blk T) (h4 c T)⟩
def kY.appO(b:Nat)(r:kY h MB μ e ps on had sv ov dv z)(hl:L on < 1000)(x:Bool):∃ j h1 h2 T,V6 (E b).tojo 213 1 [(0,.bool x)] h=U (M (U ⟨h.Q,0,O⟩) 1 1,h.push (S Y 1 [.bool x]))/\kU (E b).tojo 213 213 ov (M (U ⟨h.Q,0,O⟩) 1 1) (h.push (S Y 1 [.bool x]))=U (j,h1) /\
    mV j=Y/\iN h1 μ 35 [j]=U h2/\kY h2 T μ e ps (x::on) had sv j dv z/\Mv MB T h h2:=by
  have bl:=oL (vY b) (z:=1) yY iA iA (y:=.bool x) rfl (ys:=[.bool x]) rfl rfl (h:=h);obtain⟨j,h1,a1,a2,a3,a4⟩:=vy (vY b) yY iA r.on (bw _) (ys:=[.bool x]) rfl (by rw[Unk];omega) iA;have hk:=N.D r.at';have g1:h1.A μ=U (S Y z (e.cells ++ [sv,ov,dv])):=by rw[a3.2 μ hk fun q=>(r.mo _ q).2 rfl];exact r.at'
  have P:=N.D g1;have es:(e.cells ++ [sv,ov,dv]).set 35 j=e.cells ++ [sv,j,dv]:=by rw[bD _ _ (by rw[e.len];omega),e.len];rfl
  have hx:∀ c,J7 j=U c->c≠μ:=fun c C=>by
    rcases a4 c C with q | q
    · exact(r.mo c q).2
    · omega
  have mv:Mv MB (fun c=>MB c∨J7 j=U c) h (h1.set μ (U (S Y z ((e.cells ++ [sv,ov,dv]).set 35 j)))) :=
    ⟨a3.1,fun c C hn=>by rw[gY P,if_neg (fun q:μ=c=>hn (by rw[<- q];exact r.mb)),a3.2 c C (fun q=>hn (r.mo c q).1)],
     fun c C=>by
      rcases C with C | C
      · grind
      · rcases a4 c C with q | q
        · exact .inl (r.mo c q).1
        omega⟩
  refine⟨j,h1,_,fun c=>MB c∨J7 j=U c,bl,a1,a2.one,nS g1 (by simp[e.len]),r.to mv (by rw[gY P,if_pos rfl,es]) ?_ ?_ (.inl r.mb) (fun c C=>⟨.inr C,hx c C⟩) (fun c C=>⟨.inl (r.md c C).1,(r.md c C).2.1,fun q => ?_⟩) ?_,mv⟩
  · have : ij h1 0 1 j (L (x::on)) ((x::on).reverse.map .bool):=by grind
    exact this.keep fun c C _=>by rw[gY P,if_neg (Ne.symm (hx c C))]
  · exact r.hd.keep fun c C hl=>by rw[gY P,if_neg (Ne.symm (r.md c C).2.1),a3.2 c hl (r.md c C).2.2]
  · rcases a4 c q with q | q
    · exact(r.md c C).2.2 q
    · have:=r.hd.out C;omega
  · rintro c (C | C)
    · exact aq (r.low c C) a3.1
    · exact a2.out C
def kY.appD(b:Nat)(r:kY h MB μ e ps on had sv ov dv z)(hl:L had < 1000)(x:Bool):∃ j h1 h2 T,V6 (E b).tojo 213 1 [(0,.bool x)] h=U (M (U ⟨h.Q,0,O⟩) 1 1,h.push (S Y 1 [.bool x]))/\kU (E b).tojo 213 213 dv (M (U ⟨h.Q,0,O⟩) 1 1) (h.push (S Y 1 [.bool x]))=U (j,h1) /\
    mV j=Y/\iN h1 μ 36 [j]=U h2/\kY h2 T μ e ps on (x::had) sv ov j z/\Mv MB T h h2:=by
  have bl:=oL (vY b) (z:=1) yY iA iA (y:=.bool x) rfl (ys:=[.bool x]) rfl rfl (h:=h);obtain⟨j,h1,a1,a2,a3,a4⟩:=vy (vY b) yY iA r.hd (bw _) (ys:=[.bool x]) rfl (by rw[Unk];omega) iA;have hk:=N.D r.at';have g1:h1.A μ=U (S Y z (e.cells ++ [sv,ov,dv])):=by rw[a3.2 μ hk fun q=>(r.md _ q).2.1 rfl];exact r.at'
  have P:=N.D g1;have es:(e.cells ++ [sv,ov,dv]).set 36 j=e.cells ++ [sv,ov,j]:=by rw[bD _ _ (by rw[e.len];omega),e.len];rfl
  have hx:∀ c,J7 j=U c->c≠μ:=fun c C=>by
    rcases a4 c C with q | q
    · exact(r.md c q).2.1
    · omega
  have mv:Mv MB (fun c=>MB c∨J7 j=U c) h (h1.set μ (U (S Y z ((e.cells ++ [sv,ov,dv]).set 36 j)))) :=
    ⟨a3.1,fun c C hn=>by rw[gY P,if_neg (fun q:μ=c=>hn (by rw[<- q];exact r.mb)),a3.2 c C (fun q=>hn (r.md c q).1)],
     fun c C=>by
      rcases C with C | C
      · grind
      · rcases a4 c C with q | q
        · exact .inl (r.md c q).1
        omega⟩
  refine⟨j,h1,_,fun c=>MB c∨J7 j=U c,bl,a1,a2.one,nS g1 (by simp[e.len]),r.to mv (by rw[gY P,if_pos rfl,es]) ?_ ?_ (.inl r.mb) (fun c C=>⟨.inl (r.mo c C).1,(r.mo c C).2⟩) (fun c C=>⟨.inr C,hx c C,fun q => ?_⟩) ?_,mv⟩
  · exact r.on.keep fun c C hl=>by rw[gY P,if_neg (Ne.symm (r.mo c C).2),a3.2 c hl (fun q=>(r.md c q).2.2 C)]
  · have : ij h1 0 1 j (L (x::had)) ((x::had).reverse.map .bool):=by grind
    exact this.keep fun c C _=>by rw[gY P,if_neg (Ne.symm (hx c C))]
  · rcases a4 c C with q' | q'
    · exact(r.md c q').2.2 q
    · have:=r.on.out q;omega
  · rintro c (C | C)
    · exact aq (r.low c C) a3.1
    · exact a2.out C
end
section
variable{h:N}{MB:Nat->Prop}{μ:Nat}{e:iu}{ps:List (V × List Int)}{x y:Bool}{on had:List Bool}{sv ov dv:V}{z:Nat}
def kY.cutO(b:Nat){had:List Bool}(r:kY h MB μ e ps (x::on) had sv ov dv z):∃ j T,j8 (E b).tojo 213 ov O (U (I X (L on:Int))) O h=U (j,h)/\mV j=Y/\iN h μ 35 [j]=U T/\kY T MB μ e ps on had sv j dv z/\Mv MB MB h T:=by
 obtain⟨j,k1,k2,k3⟩:=BS (vY b) (k:=.i64) (i:=(L on:Int)) yY iA r.on iA (by simp;omega);have e1:((x::on).reverse.map Value.bool).take ((L on:Int).toNat*1)=on.reverse.map Value.bool:=jA
 rw[e1,bA]at k2;have P:=N.D r.at';have es:(e.cells ++ [sv,ov,dv]).set 35 j=e.cells ++ [sv,j,dv]:=by rw[bD _ _ (by rw[e.len];omega),e.len];rfl
 have mv:Mv MB MB h (h.set μ (U (S Y z ((e.cells ++ [sv,ov,dv]).set 35 j)))):=⟨ai _,fun c C hn=>by rw[gY P,if_neg (fun q:μ=c=>hn (by rw[<- q];exact r.mb))],fun c C => .inl C⟩;refine⟨j,_,k1,k2.one,nS r.at' (by simp[e.len]),r.to mv (by rw[gY P,if_pos rfl,es]) ?_ ?_ r.mb (fun c C=>r.mo c (by grind)) (fun c C=>⟨(r.md c C).1,(r.md c C).2.1,by rw[k3];exact(r.md c C).2.2⟩) r.low,mv⟩
 ·exact k2.keep fun c C _=>by rw[gY P,if_neg (Ne.symm (r.mo c (by grind)).2)]
 ·exact r.hd.keep fun c C _=>by rw[gY P,if_neg (Ne.symm (r.md c C).2.1)]
def kY.cutD(b:Nat){on:List Bool}(r:kY h MB μ e ps on (x::had) sv ov dv z):∃ j T,j8 (E b).tojo 213 dv O (U (I X (L had:Int))) O h=U (j,h)/\mV j=Y/\iN h μ 36 [j]=U T/\kY T MB μ e ps on had sv ov j z/\Mv MB MB h T:=by
 obtain⟨j,k1,k2,k3⟩:=BS (vY b) (k:=.i64) (i:=(L had:Int)) yY iA r.hd iA (by simp;omega);have e1:((x::had).reverse.map Value.bool).take ((L had:Int).toNat*1)=had.reverse.map Value.bool:=jA
 rw[e1,bA]at k2;have C:=N.D r.at';have es:(e.cells ++ [sv,ov,dv]).set 36 j=e.cells ++ [sv,ov,j]:=by rw[bD _ _ (by rw[e.len];omega),e.len];rfl
 have mv:Mv MB MB h (h.set μ (U (S Y z ((e.cells ++ [sv,ov,dv]).set 36 j)))):=⟨ai _,fun c P hn=>by rw[gY C,if_neg (fun q:μ=c=>hn (by rw[<- q];exact r.mb))],fun c P => .inl P⟩;refine⟨j,_,k1,k2.one,nS r.at' (by simp[e.len]),r.to mv (by rw[gY C,if_pos rfl,es]) ?_ ?_ r.mb r.mo (fun c P=>r.md c (by grind)) r.low,mv⟩
 ·exact r.on.keep fun c P _=>by rw[gY C,if_neg (Ne.symm (r.mo c P).2)]
 ·exact k2.keep fun c P _=>by rw[gY C,if_neg (Ne.symm (r.md c (by grind)).2.1)]
def Un6(b:Nat){v:V}{l:List Bool}(o:ij h 0 1 v (L (x::l)) ((x::l).reverse.map .bool))(w:Bool):∃ bk j,J7 v=U bk/\J1 (E b).tojo 213 v (I X (L l:Int))=U (pO bk (L l))/\Zq h bk (L l)=U (.bool x)/\iN h bk (L l) [.bool w]=U j/\ij j 0 1 v (L (w::l)) ((w::l).reverse.map .bool)/\j.Q=h.Q/\∀ c,c≠bk->j.A c=h.A c:=by
 obtain⟨bk,C,y2,y3⟩:=U2r (vY b) yY o (k:=.i64) (i:=(L l:Int)) iA (by simp;omega);obtain⟨j,P,T,s3,s4⟩:=vP o C (i:=L l) jA (.bool w);simp_all
def kY.flipO(b:Nat){had:List Bool}(r:kY h MB μ e ps (x::on) had sv ov dv z)(w:Bool):∃ bk j,J1 (E b).tojo 213 ov (I X (L on:Int))=U (pO bk (L on))/\Zq h bk (L on)=U (.bool x)/\iN h bk (L on) [.bool w]=U j/\kY j MB μ e ps (w::on) had sv ov dv z/\Mv MB MB h j:=by
 obtain⟨bk,j,y1,y2,y3,y4,y5,y6,P⟩:=Un6 b r.on w;obtain⟨m1,m2⟩:=r.mo bk y1;have T:Mv MB MB h j:=⟨iA,fun c C hn=>P c fun q=>hn (by grind),fun c C => .inl C⟩;exact⟨bk,j,y2,y3,y4,r.to T (by rw[P μ (Ne.symm m2)];exact r.at') y5 (r.hd.keep fun c C _=>P c fun q=>(r.md c C).2.2 (by grind)) r.mb r.mo r.md (fun c C=>by rw[y6];exact r.low c C),T⟩
def kY.flipD(b:Nat){on:List Bool}(r:kY h MB μ e ps on (x::had) sv ov dv z)(w:Bool):∃ bk j,J1 (E b).tojo 213 dv (I X (L had:Int))=U (pO bk (L had))/\Zq h bk (L had)=U (.bool x)/\iN h bk (L had) [.bool w]=U j/\kY j MB μ e ps on (w::had) sv ov dv z/\Mv MB MB h j:=by
 obtain⟨bk,j,y1,y2,y3,y4,y5,y6,P⟩:=Un6 b r.hd w;obtain⟨m1,m2,m3⟩:=r.md bk y1;have T:Mv MB MB h j:=⟨iA,fun c C hn=>P c fun q=>hn (by grind),fun c C => .inl C⟩;exact⟨bk,j,y2,y3,y4,r.to T (by rw[P μ (Ne.symm m2)];exact r.at') (r.on.keep fun c C _=>P c fun q=>m3 (by grind)) y5 r.mb r.mo r.md (fun c C=>by rw[y6];exact r.low c C),T⟩
end
def xB(x:Bool):Int:=if x then 0 else 16
def xV(x:Bool)(h:N)(K:KP)(j:K (.ret (I X (xB x))) h):FK b 136 [.bool x] h K:=by
 refine ip b (Yy b) Jug rfl ?_;cases x <;> simp[Ty,Vzo,Yy,mW] <;> exact j
def qY(c:Int):Nat:=if c<=64 then 0 else if c=132∨c=134 then 2 else 1
section
def Uyn(c:Int)(h:N)(K:KP)(T:K (.ret (I X (qY c:Int))) h):FK b 167 [I X c] h K:=by
 refine ip b (Jz b) Jhs rfl ?_;unfold qY at T;by_cases j:c<=64
 ·simp[Gh,Ho,Jz,mW,Ya,HG,HI,Cx,j]
  grind
 ·by_cases C:c=132
  ·simp[Gh,Ho,Jz,mW,Ya,HG,HI,Cx,C]
   grind
  ·by_cases P:c=134
   ·simp[Gh,Ho,Jz,mW,Ya,HG,HI,Cx,P]
    grind
   ·simp[Gh,Ho,Jz,mW,Ya,HG,HI,Cx,j,C,P]
    grind
def B7{e:iu}{ps:List (V × List Int)}{on had:List Bool}(M_:jj h MB μ e ps on had)(hn:L ps < 1000)(hl:∀ p ∈ ps,L p.2 < 1000000000){v:V}{x:List Int}(s:SB h v x)(bx:Bytes x)(hA:∀ c,J7 v=U c->¬ MB c)(K:KP)(hk:∀ h' T,T.map (·.2)=x::ps.map (·.2)->jj h' MB μ e T on had->Mv MB MB h h'->K (.ret (.bool (decide ((L ps:Int)+1<=16)))) h') :
  FK b 168 [pO μ 0,v] h K:=by
 obtain⟨sv,ov,dv,z,r⟩:=M_;refine ip b (Yu b) Yj4 rfl ?_;simp[Rl,WH,Yu,ki,Vb,U1,Jj,ju,r.c34];refine Se b (items:=ps.reverse) (by simpa using r.st) (by simp;omega) (fun p hp=>⟨(r.its p (by grind)).1,(r.its p (by grind)).2.1⟩) (fun p hp=>gu (hl p (by grind)) kA) _ fun o out h1 oo eo io fo a1 _ => ?_;obtain⟨bl, -⟩:=Unw b h1 v s.one;have lo:L out=L ps:=by have:=congrArg List.length eo;grind
 obtain⟨o',h2,k1,k2,k3,k4⟩:=vy (kB b) oT iA oo a1.1 (ys:=[v]) rfl (by rw[Sq];simp;omega) (by simp;omega);have P:a_ h h2:=k3.R a1 oo;have r2:=r.R P;have hy:Sl h2 1 o' (L ((v,x)::out.reverse)) (((v,x)::out.reverse).reverse.map (·.1)):=by
  have:=k2.sl
  grind
 have far:∀ c,h.Q<=c->¬ MB c:=fun c j=>r.far j;have hr:∀ c,J7 o'=U c->¬ MB c:=fun c j=>far c (k2.from j).1;obtain⟨h3,s3,r3,m3⟩:=r2.setS hy hr (fun p hp=>by
  rcases ar.1 hp with rfl | hp
  ·exact⟨s.R P,bx,hA⟩
  ·have C:p ∈ out:=by grind
   refine⟨(io p C).1.keep fun c j hb=>k3.2 c hb (fo p C c j).2,(io p C).2,fun c j=>far c (fo p C c j).1⟩)
 have l3:∀ hx,iC (E b).tojo 94 o' hx=U (I X ((L ps:Int)+1)):=fun hx=>by
  have:=iT (kB b) k2.sl (h1:=hx)
  grind
 simp[Rl,WH,Yu,ki,Vb,U1,Jj,ju,bl,k1,EY b h2 μ 34 o' k2.one,s3,r3.c34,l3];exact hk h3 _ (by simp only[aH,List.map_reverse,eo];simp) ⟨_,_,_,_,r3⟩ ⟨ao P.1 m3.Q,fun c j hn=>by rw[m3.same c (aq j P.1) hn,P.2 c j],fun c j => .inl j⟩
def Unj{e:iu}{ps:List (V × List Int)}{on had:List Bool}(M_:jj h MB μ e ps on had)(hn:L ps < 1000)(hl:∀ p ∈ ps,L p.2 < 1000000000)(x:Bool)(K:KP)(hk:∀ h' P,P.map (·.2)=vc x::ps.map (·.2)->jj h' MB μ e P on had->Mv MB MB h h'->K (.ret (.bool (decide ((L ps:Int)+1<=16)))) h') :
  FK b 170 [pO μ 0,.bool x] h K:=by
 refine ip b (Yf b) Ymj rfl ?_;cases x with
 | true =>
  have T:a_ h (h.push (S Y 1 [i8 1])):=a_.push _ _;simp[FE,KD,Yf,ki,Yu,ua];refine B7 b (M_.R T) hn hl (v:=M (U ⟨h.Q,0,O⟩) 1 1) (x:=[1]) (SB.push (xs:=[1]) jA) (by intro z hz;grind) (fun c j q => ?_) _ fun h1 C q1 M1 m1 => ?_
  ·obtain⟨_,_,_,_,r⟩:=M_;simp[J7]at j;have:=r.low c q;omega
  ·simp[FE,KD,Yf,ki,Yu];have:=hk h1 C q1 M1 ⟨ao T.1 m1.Q,fun c j hn=>by rw[m1.same c (aq j T.1) hn,T.2 c j],fun c j => .inl j⟩;omega
 | false =>
  simp[FE,KD,Yf,ki,Yu];refine B7 b M_ hn hl (v:=M O 0 0) (x:=[]) Sl.nil (by intro z hz;cases hz) (fun c j=>by simp[J7]at j) _ fun h1 C q1 M1 m1 => ?_;simp[FE,KD,Yf,ki,Yu];have:=hk h1 C q1 M1 m1;omega
end
def sq(code:Int)(st:List (List Int))(on had:List Bool):Except Int (List (List Int) × List Bool × List Bool) :=
 if code=136 then(if on.all id then(match st with | [] => .error 16 | x::r => .ok (r,kS x::on,J::had))else .ok (st,Y::on,J::had))
 else match on,had with
  | x::o,y::d=>if code=137 then(if y then .error 16 else .ok (st,(!x)::o,Y::d))else .ok (st,o,d)
  | _,_ => .error 16
section
attribute [local simp] Qbz Qdw Zj lN Dk C5 Ya Qjz Zk Vb U1 Xb Yr Xv Xb6 lN rk Qc2 Qbn Qbp Qc4 vp lN lN
def U2w{e:iu}{ps:List (V × List Int)}{on had:List Bool}(M_:jj h MB μ e ps on had)(hn:L on < 900)(hl:L had < 900)(hp:L ps < 900)(hi:∀ p ∈ ps,L p.2 < 1000000000)(K:KP)(hq:sq 136 (ps.map (·.2)) on had=.error 16->K (.ret (I X 16)) h)(hk:∀ hu e1 T,sq 136 (ps.map (·.2)) on had=.ok (hu,e1,T)->∀ h' hB h4,h4.map (·.2)=hu->jj h' hB μ e h4 e1 T->Mv MB hB h h'->K (.ret (I X 0)) h') :
  FK b 133 [pO μ 0,I X 136] h K:=by
 have M0:=M_;obtain⟨sv,ov,dv,z,r⟩:=M0;refine ip b (Zj b) WO rfl ?_;have hy:∀ P,iC (E b).tojo 213 ov P=U (I X (L on:Int)):=fun P=>iT (vY b) r.on.sl;have hc:∀ P,iC (E b).tojo 94 sv P=U (I X (L ps:Int)):=fun P=>iT (kB b) r.st;simp[ju,r.c35,hy];refine N9 b M_ iA _ ?_;cases C:on.all id with
 | false =>
  obtain⟨ho,hr,M',e2,a1,a2,a3,a4,r2,m2⟩:=r.appO b iA Y;obtain⟨hb,h3,hA,h2,c1,c2,c3,c4,r4,m4⟩:=r2.appD b iA J;simp[ju,r.c35,a1,a2,CB b hr μ 35 ho a3,a4,r2.c36,c1,c2,CB b h3 μ 36 hb c3,c4];exact hk _ _ _ (by simp only[sq,C];rfl) hA h2 _ rfl ⟨_,_,_,_,r4⟩ ((m2.trans m4))
 | true =>
  cases ps with
  | nil =>
   have j:∀ P,iC (E b).tojo 94 sv P=U (I X 0):=hc;simp[ju,r.c34,j];exact hq (by simp only[sq,C];rfl)
  | cons p pr =>
   have j:∀ P,iC (E b).tojo 94 sv P=U (I X ((L pr:Int)+1)):=fun P=>by have:=hc P;simpa using this
   have h1:¬ (L pr:Int)+1 < 1:=iA
   simp[ju,r.c34,j,h1];refine uk b M_ (n:=0) (p:=p) rfl iA _ ?_;simp;refine Nv b (r.its p jA).1 (hi p jA) _ ?_;simp;refine A8 b M_ (n:=1) jA iA _ fun h5 M5 m5 => ?_;obtain⟨hz,q2,v',z5,r5⟩:=M5;obtain⟨ho,hr,M',e2,a1,a2,a3,a4,r2,m2⟩:=r5.appO b iA (kS p.2);obtain⟨hb,h3,hA,h2,c1,c2,c3,c4,r4,m4⟩:=r2.appD b iA J;simp[ju,r5.c35,a1,a2,CB b hr μ 35 ho a3,a4,r2.c36,c1,c2,CB b h3 μ 36 hb c3,c4];exact hk _ _ _ (by simp only[sq,C,aH];rfl) hA h2 _ rfl ⟨_,_,_,_,r4⟩ (m5.trans (m2.trans m4))
def Uo4{e:iu}{ps:List (V × List Int)}{on had:List Bool}(M_:jj h MB μ e ps on had)(hn:L on < 900)(hl:L had=L on)(K:KP){c:Int}(hc:c=137∨c=138)(hr:sq c (ps.map (·.2)) on had=.error 16->K (.ret (I X 16)) h)(hk:∀ hy hp C,sq c (ps.map (·.2)) on had=.ok (hy,hp,C)->∀ h' hb hA,hA.map (·.2)=hy->jj h' hb μ e hA hp C->Mv MB hb h h'->K (.ret (I X 0)) h') :
  FK b 133 [pO μ 0,I X c] h K:=by
 obtain⟨sv,ov,dv,z,r⟩:=M_;refine ip b (Zj b) WO rfl ?_;have T:∀ P,iC (E b).tojo 213 ov P=U (I X (L on:Int)):=fun P=>iT (vY b) r.on.sl;have c1:¬ c=136:=iA
 cases on with
 | nil =>
  have j:∀ P,iC (E b).tojo 213 ov P=U (I X 0):=T;simp[ju,r.c35,j,c1];exact hr (by simp only[sq,if_neg c1])
 | cons x on =>
  cases had with
  | nil=>simp at hl
  | cons y had =>
   have el:L had=L on:=by grind
   have j:∀ P,iC (E b).tojo 213 ov P=U (I X ((L on:Int)+1)):=fun P=>by have:=T P;simpa using this
   have n0:¬ (L on:Int)+1=0:=iA
   have hw:IntKind.i64.wrap (L on:Int)=(L on:Int):=Jr iA (by grind);rcases hc with rfl | rfl
   ·obtain⟨bk,h2,y1,y2,y3,r2,m2⟩:=r.flipD b Y;rw[el]at y1 y2 y3;cases y with
    | true =>
     simp[ju,r.c35,r.c36,j,n0,hw,y1,y2];exact hr rfl
    | false =>
     obtain⟨e1,h3,z1,z2,z3,r3,m3⟩:=r.flipO b (!x);obtain⟨a2,h4,w1,w2,w3,r4,m4⟩:=r3.flipD b Y;rw[el]at w1 w2 w3;simp[ju,r.c35,r.c36,j,n0,hw,y1,y2];refine jf [] jA ZC.1 (by simp[ZC.2,X8q,ju,r.c35,hw,z1,z2,z3];first | exact⟨rfl,rfl⟩ | rfl) ?_ ?_
     ·simp[QA]
     simp[ju,r3.c36,hw,w1,w3];exact hk _ _ _ rfl h4 MB ps rfl ⟨_,_,_,_,r4⟩ (m3.trans m4)
   ·obtain⟨hB,h2,y1,y2,y3,r2,m2⟩:=r.cutO b;obtain⟨ho,h3,z1,z2,z3,r3,m3⟩:=r2.cutD b;rw[el]at z1;simp[ju,r.c35,j,n0,hw,y1,CB b h μ 35 hB y2,y3,r2.c36,z1,CB b h2 μ 36 ho z2,z3];exact hk _ _ _ rfl h3 MB ps rfl ⟨_,_,_,_,r3⟩ (m2.trans m3)
end
section
attribute [local simp] Dr F9 Vo zF Vw uG Jf nJ zC qM Ju Aw Ya Gd Gg wj wk Jo Ub yo W8 Uy F2 F4 zy zB uH wg mZ Ua xw W9
def Ur1{kv tv:V}{key l:List Nat}(sk:SN h kv key)(sl:SN h tv l)(e1:L key < 100000000)(hl:L l < 100000000)(bk:∀ x ∈ key,x < 256)(bl:∀ x ∈ l,x < 256)(K:KP)(hk:∀ h',a_ h h'->K (.ret (.agg ⟨(Bl.keyed key l).map dk⟩)) h') :
  FK b 184 [kv,tv] h K:=by
 by_cases h3:L key<=32
 ·have e:Bl.keyed key l=Bl.keyed1 key l:=by unfold Bl.keyed;rw[yF h3]
  rw[e]at hk;exact Eb b sk sl h3 hl bk bl K hk
 ·have e:Bl.keyed key l=Bl.keyed1 (Bl.keyed1 [] key) l:=by
   unfold Bl.keyed;have : Nat.ble (L key) 32=J:=by
    cases hq:Nat.ble (L key) 32 with
    | false=>rfl
    | true=>rw[cR]at hq;omega
   rw[this]
  rw[e]at hk;refine ip b (Vo b) UM rfl ?_;have hb:∀ hx,iC (E b).tojo 31 kv hx=U (I X (L key:Int)):=fun hx=>iT (j' b) sk;have hc:(32:Int) < (L key:Int):=iA
  obtain⟨hA,eA,aA,gA⟩:=kQ h jn;have hy:jd (E b).tojo 62 h=U (pO h.Q 0,hA):=by rw[eA];exact Jx b h
  simp[Jx,-Jx,hy,hb,hc];refine Eb b (kv:=M O 0 0) (key:=[]) Sl.nil (sk.R aA) jA e1 jA bk _ fun C a2 => ?_;obtain⟨dg,hdg⟩:∃ d,d=Bl.keyed1 [] key:=⟨_,rfl⟩;rw[<- hdg]at hk ⊢;have kl:L dg=32:=by rw[hdg];exact oR _
  have bd:∀ x ∈ dg,x < 256:=by rw[hdg];exact BQ _
  obtain⟨P,eB⟩:∃ P,P=C.push (S Y 1 jn):=⟨_,rfl⟩;have ho:jd (E b).tojo 62 C=U (pO C.Q 0,P):=by rw[eB];exact Jx b C
  have gB:P.A C.Q=U (S Y 1 jn):=by rw[eB,N.F,if_pos rfl]
  have lB:=N.D gB;obtain⟨T,eC⟩:∃ T,T=P.set C.Q (U (S Y 1 (dg.map dk))):=⟨_,rfl⟩;have hu:iN P C.Q 0 (dg.map dk)=U T:=by
   rw[jQ gB (by simp[jn,kl]),eC];congr 4;simp[jn,kl]
  have gC:T.A C.Q=U (S Y 1 (dg.map dk)):=by rw[eC,gY lB,if_pos rfl]
  have aC:a_ C T:=by rw[eC,eB];exact(a_.push _ _).set _ (ai _) (by grind)
  have sC:SN T (M (U ⟨C.Q,0,O⟩) 32 32) dg:=by
   have:=(ij.new (n0:=0) (z:=1) (n:=32) (c:=32) (bw _) gC (by simp[kl]) kA (.inr rfl)).sl
   grind
  simp[Jx,-Jx,ho,kl,hu,AW];refine Eb b sC (sl.R (aA.trans (a2.trans aC))) iA hl bd bl _ fun h5 a5 => ?_;obtain⟨d2,hp⟩:∃ d,d=Bl.keyed1 dg l:=⟨_,rfl⟩;rw[<- hp]at hk ⊢;have j:L d2=32:=by rw[hp];exact oR _
  have hr:=(a2.trans aC).trans a5;have g5:=hr.A gA;have l5:=N.D g5;obtain⟨h6,e6⟩:∃ h6,h6=h5.set h.Q (U (S Y 1 (d2.map dk))):=⟨_,rfl⟩;have h4:iN h5 h.Q 0 (d2.map dk)=U h6:=by
   rw[jQ g5 (by simp[jn,j]),e6];congr 4;simp[jn,j]
  have hn:iy h6 h.Q 0 32=U (.agg ⟨d2.map dk⟩):=by
   rw[V9 (by rw[e6,gY l5,if_pos rfl]) (by simp[j]),ba,aj (by simp[j])]
  simp[Jx,j,h4,hn];exact hk h6 (by rw[e6];exact(aA.trans hr).set _ (ai _) l5)
end
section
def Vr3{bv:V}{xs:List Int}(s:SB h bv xs){n:Nat}(hn:n < 253)(hl:L xs < 999999999)(K:KP)(hk:∀ v h',OB h' h.Q v (xs ++ [(n:Int)])->a_ h h'->K (.ret v) h') :
  FK b 186 [bv,I X (n:Int)] h K:=by
 refine ip b (zE b) To rfl ?_;have w2:IntKind.u8.wrap (n:Int)=(n:Int):=CM iA;have P:(0:Int)<=(n:Int):=iA
 have T:(n:Int) < 253:=iA
 have c2:n < 253:=hn;simp[JY,Rt,zE,oU,J8,Pr,PH,Vv,Vu,PG,PP,FH,PF,PO];refine Bh b s iA _ fun o h1 C j => ?_;obtain⟨v',h',k1,k2,k3⟩:=Gx (b:=b) C j.1 iA (n:Int);simp only[i8]at k1;simp[JY,Rt,zE,oU,J8,Pr,PH,Vv,Vu,PG,PP,FH,PF,PO,P,T,c2,w2,ua,i8,k1];exact hk v' h' k2 (k3.R j C)
def Uxt(o:V)(n1:mg o=Y)(j:o.cells = #[o]):jP (E b).tojo 89 [(0,o)]=U (.agg ⟨[o]⟩):=by
 have e:jP (E b).tojo 89 [(0,o)]=(oQ (iD [(0,1)]) [M O 0 0] [(0,o)]).map fun c => .agg c.toArray:=kR
 rw[e];simp[oQ,n1,j,kZ,over,Nat.ble]
def U3r{seed:List Int}(s:SB h sv seed)(hl:L seed < 1000000000)(K:KP)(hk:∀ ν v h',h'.A ν=U (S Y 1 [v])->SB h' v seed->h.Q<=ν->(∀ c,J7 v=U c->h.Q<=c)->a_ h h'->K (.ret (pO ν 0)) h') :
  FK b 10 [sv] h K:=by
 refine ip b (Wl b) Vh4 rfl ?_;simp[Mz,Jfy,Wl,Mt,J8];refine Bh b s (gu hl kA) _ fun o h1 P T => ?_;have bu:jP (E b).tojo 89 [(0,o)]=U (.agg ⟨[o]⟩):=by
  obtain⟨n1,c1⟩:=xS P.one;exact Uxt b o n1 c1
 obtain⟨C,j⟩:∃ C,C=h1.push (S Y 1 [o]):=⟨_,rfl⟩;have bx:=kE j;have a2:=jG j;simp[Mz,Jfy,Wl,Mt,J8,bu,bx];exact hk h1.Q o C (by rw[j,N.F,if_pos rfl]) (P.sl.R a2) T.1 (fun c hc=>(P.from hc).1) (T.trans a2)
def RJ(o:Int)(h:N)(K:KP)(C:K (.ret (.bool (decide (1<=o/\o<=32)))) h):FK b 203 [I X o] h K:=by
 refine ip b (BJ b) Jos rfl ?_;by_cases h1:1<=o
 ·by_cases j:o<=32
  ·simp[HH,LJ,BJ,qu,L0,Me,h1,j]
   grind
  ·simp[HH,LJ,BJ,qu,L0,Me,h1,j]
   grind
 ·simp[HH,LJ,BJ,qu,L0,Me,h1]
  grind
end
def J95(seed:List Nat):∀ (n k i:Nat),i < n->((jI seed n k).drop (i*32)).take 32=Bl.keyed seed [k+i]
 | 0,_,_,h=>by omega
 | n+1,k,0,_=>by
  rw[jI,fu,ba,bm (by rw[zZ];omega),aj (by rw[zZ];omega),bR]
 | n+1,k,i+1,h=>by
  have j:(Bl.keyed seed [k]).drop 32=[]:=ck (by rw[zZ];omega);rw[jI,cz,Nat.one_mul,Nat.add_comm (i*32) 32,<- bU,fI (by rw[zZ];omega),j,bX,J95 seed n (Nat.succ k) i iA]
  grind
def Uqb(seed:List Nat){o:Nat}(h1:1<=o)(j:o<=32):rD (jI seed 32 1) (o:Int)=Bl.keyed seed [o]:=by
 unfold rD;rw[show((o:Int)-1).toNat=o-1 by omega,J95 seed 32 1 (o-1) iA]
 grind
def U24{B:Nat}{dg:List Nat}(j:h.A B=U (S Y 1 (dg.map dk)))(C:L dg=32):SN h (M (U ⟨B,0,O⟩) 32 32) dg:=by
 have:=(ij.new (n0:=0) (z:=1) (n:=32) (c:=32) (bw _) j (by simp[C]) kA (.inr rfl)).sl
 grind
section
attribute [local simp] Qsa Q1x QV zF BJ Vw Jtl Z8 zE Vo
def U4l(hg:h.A ν=U (.cells ow z [sv]))(ss:SN h sv seed)(hl:L seed < 100000000)(bs:∀ x ∈ seed,x < 256){o:Nat}(h1:1<=o)(h2:o<=32)(K:KP)(hk:∀ h',a_ h h'->K (.ret (.agg ⟨(Bl.keyed seed [o]).map dk⟩)) h') :
  FK b 214 [pO ν 0,I X (o:Int)] h K:=by
 refine ip b (QV b) Zfl rfl ?_;obtain⟨C,eA,T,gA⟩:=kQ h jn;have hb:jd (E b).tojo 62 h=U (pO h.Q 0,C):=by rw[eA];exact Jx b h
 simp[Jx,-Jx,hb];refine RJ b (o:Int) C _ ?_;rw[decide_eq_true (show(1:Int)<=(o:Int)/\(o:Int)<=32 by omega)];simp[Jx];obtain⟨_,hI,c1,n1,v,rfl,oI,aI⟩:=Vr3 b (h:=C) (bv:=M O 0 0) (xs:=[]) (n:=o) Sl.nil iA jA (fun r h' => ∃ v,r=.ret v/\OB h' C.Q v [(o:Int)]/\a_ C h') (fun v h' q1 q2=>⟨v,rfl,q1,q2⟩);have sI:SN hI v [o]:=oI.sl;obtain⟨_,hK,c2,n2,rfl,aK⟩:=Ur1 b (ss.R (T.trans aI)) sI hl jA bs (by simp;omega) (fun r h'=>r=.ret (.agg ⟨(Bl.keyed seed [o]).map dk⟩)/\a_ hI h') (fun h' q=>⟨rfl,q⟩);obtain⟨dg,hdg⟩:∃ d,d=Bl.keyed seed [o]:=⟨_,rfl⟩;rw[<- hdg]at hk c2;have kl:L dg=32:=by rw[hdg];exact zZ _ _
 have j:=aI.trans aK;have gK:=j.A gA;have lK:=N.D gK;obtain⟨P,eZ⟩:∃ P,P=hK.set h.Q (U (S Y 1 (dg.map dk))):=⟨_,rfl⟩;have ho:iN hK h.Q 0 (dg.map dk)=U P:=by
  rw[jQ gK (by simp[jn,kl]),eZ];congr 4;simp[jn,kl]
 have aZ:a_ h P:=by rw[eZ];exact(T.trans j).set _ (ai _) lK
 have hy:iy P h.Q 0 32=U (.agg ⟨dg.map dk⟩):=by
  rw[V9 (by rw[eZ,gY lK,if_pos rfl]) (by simp[kl]),ba,aj (by simp[kl])]
 have hx:Zq C ν 0=U sv:=by rw[Z2 (T.A hg)];rfl
 have hr:Zq hI ν 0=U sv:=by rw[Z2 ((T.trans aI).A hg)];rfl
 have h3:Zq hK ν 0=U sv:=by rw[Z2 ((T.trans j).A hg)];rfl
 have hp:Zq P ν 0=U sv:=by rw[Z2 (aZ.A hg)];rfl
 refine jf [⟨186,[M O 0 0,I X (o:Int)],C,v,hI,Y⟩,⟨184,[sv,v],hI,.agg ⟨dg.map dk⟩,hK,Y⟩] ?_ YF.1 (by simp[YF.2,Yu8,Y0a,Yyz,Jx,ju,hx,qy,kl,ho];first | exact⟨rfl,rfl⟩ | rfl) ?_ ?_
 ·exact tu ⟨c1,n1,fun _ c hc=>aI.2 c hc⟩ ⟨c2,n2,fun _ c hc=>aK.2 c hc⟩
 ·simp[FZ,Jx,hx,hr,h3,hp,AZ ss]
 simp[Jx,mZ,hy]
 grind
end
def RSI(P j C:Nat)(dg:List Nat)(g0:N)(k:Nat)(s:St):Prop:=∃ (t:Tr V) (h1:N) (i:Nat),s=⟨⟨31,t⟩,[],h1⟩/\t.A 9=U (pO P 0)/\t.A 7=U (pO j 0)/\t.A 6=U (pO C 0)/\t.A 10=U (I X (i:Int))/\i<=16/\k=16-i/\h1.Q=g0.Q/\(∀ c,c≠j->h1.A c=g0.A c) /\
 h1.A j=U (S Y 1 ((dg.take i).map dk++List.replicate (16-i) zU))
section
attribute [local simp] Qi8 Qna QY BJ BH Rm QV Vw Vo U5 uH qx HM wg 
def Uzb{ds:List Nat}(hg:h.A ν=U (.cells ow z [sv]))(ss:SN h sv seed)(hl:L seed < 100000000)(bs:∀ x ∈ seed,x < 256)(q1:L ds=32)(bd:∀ x ∈ ds,x < 256){o:Nat}(h1:1<=o)(h2:o<=32)(K:KP)(hk:∀ h',a_ h h'->K (.ret (.agg ⟨(na (rD (jI seed 32 1) (o:Int)) ds).map dk⟩)) h'):FK b 204 [pO ν 0,I X (o:Int),.agg ⟨ds.map dk⟩] h K:=by
 rw[Uqb seed h1 h2]at hk;refine ip b (QY b) Yv5 rfl ?_;obtain⟨P,eA⟩:∃ P,P=h.push (S Y 1 (ds.map dk)):=⟨_,rfl⟩;obtain⟨j,eB⟩:∃ j,j=P.push (S Y 1 qR):=⟨_,rfl⟩;obtain⟨hC,eC⟩:∃ hC,hC=j.push (S Y 1 qR):=⟨_,rfl⟩;have aA:=jG eA;have aB:=jG eB;have aC:=jG eC;have nA:=lT eA;have nB:=lT eB;have nC:=lT eC;have gA:P.A h.Q=U (S Y 1 (ds.map dk)):=by rw[eA,N.F,if_pos rfl]
 have gB:j.A P.Q=U (S Y 1 qR):=by rw[eB,N.F,if_pos rfl]
 have gC:hC.A j.Q=U (S Y 1 qR):=by rw[eC,N.F,if_pos rfl]
 have bx:=kE eA;have M':jd (E b).tojo 186 P=U (pO P.Q 0,j):=by rw[eB];exact lY b P
 have hq:jd (E b).tojo 186 j=U (pO j.Q 0,hC):=by rw[eC];exact lY b j
 have hb:=(aA.trans aB).trans aC;simp[lY,Jx,bx,-lY,M',hq];refine RJ b (o:Int) hC _ ?_;rw[decide_eq_true (show(1:Int)<=(o:Int)/\(o:Int)<=32 by omega)];simp[lY,Jx];refine U4l b (hb.A hg) (ss.R hb) hl bs h1 h2 _ fun hD aD => ?_;obtain⟨ky,hn⟩:∃ d,d=Bl.keyed seed [o]:=⟨_,rfl⟩;rw[<- hn]at hk ⊢;have kl:L ky=32:=by rw[hn];exact zZ _ _
 have bk:∀ x ∈ ky,x < 256:=by rw[hn];exact Ukm _ _
 obtain⟨hX,eX⟩:∃ hX,hX=hD.push (S Y 1 jn):=⟨_,rfl⟩;have v':jd (E b).tojo 62 hD=U (pO hD.Q 0,hX):=by rw[eX];exact Jx b hD
 have gX:hX.A hD.Q=U (S Y 1 jn):=by rw[eX,N.F,if_pos rfl]
 have lX:=N.D gX;obtain⟨hY,eY⟩:∃ hY,hY=hX.set hD.Q (U (S Y 1 (ky.map dk))):=⟨_,rfl⟩;have s1:iN hX hD.Q 0 (ky.map dk)=U hY:=by
  rw[jQ gX (by simp[jn,kl]),eY];congr 4;simp[jn,kl]
 have q2:hY.A hD.Q=U (S Y 1 (ky.map dk)):=by rw[eY,gY lX,if_pos rfl]
 have aY:a_ hD hY:=by rw[eY,eX];exact(a_.push _ _).set _ (ai _) (by grind)
 simp[lY,Jx,-Jx,v',kl,s1];have hp:=aD.trans aY;have sk:=U24 q2 kl;have sd:=U24 (((aB.trans aC).trans hp).A gA) q1;obtain⟨_,C,c1,n1,rfl,aE⟩:=Eb b sk sd iA iA bk bd (fun r h'=>r=.ret (.agg ⟨(Bl.keyed1 ky ds).map dk⟩)/\a_ hY h') (fun h' q=>⟨rfl,q⟩);obtain⟨dg,hdg⟩:∃ d,d=Bl.keyed1 ky ds:=⟨_,rfl⟩;have dl:L dg=32:=by rw[hdg];exact oR _
 rw[<- hdg]at c1;have ho:na ky ds=dg.take 16:=by rw[hdg];rfl
 rw[ho]at hk;obtain⟨hZ,eZ⟩:∃ hZ,hZ=C.push (S Y 1 jn):=⟨_,rfl⟩;have a1:jd (E b).tojo 62 C=U (pO C.Q 0,hZ):=by rw[eZ];exact Jx b C
 have gZ:hZ.A C.Q=U (S Y 1 jn):=by rw[eZ,N.F,if_pos rfl]
 have lZ:=N.D gZ;obtain⟨hW,eW⟩:∃ hW,hW=hZ.set C.Q (U (S Y 1 (dg.map dk))):=⟨_,rfl⟩;have es:iN hZ C.Q 0 (dg.map dk)=U hW:=by
  rw[jQ gZ (by simp[jn,dl]),eW];congr 4;simp[jn,dl]
 have gW:hW.A C.Q=U (S Y 1 (dg.map dk)):=by rw[eW,gY lZ,if_pos rfl]
 have aW:a_ C hW:=by rw[eW,eZ];exact(a_.push _ _).set _ (ai _) (by grind)
 refine jf [⟨184,[M (U ⟨hD.Q,0,O⟩) 32 32,M (U ⟨h.Q,0,O⟩) 32 32],hY,.agg ⟨dg.map dk⟩,C,Y⟩] ?_ YP.1 (by simp[YP.2,Yra,lY,Jx,AW,-Jx,a1,dl,es];first | exact⟨rfl,rfl⟩ | rfl) ?_ ?_
 ·exact nK ⟨c1,n1,fun _ c hc=>aE.2 c hc⟩
 ·simp[Qb,lY,Jx]
 simp[lY,Jx];have hr:=(hp.trans aE).trans aW;have gO:=hr.A gC;refine iV (RSI C.Q j.Q P.Q dg hW) 16 ⟨_,hW,0,rfl,jA,jA,jA,jA,iA,rfl,rfl,fun _ _=>rfl,by simpa[qR]using gO⟩ ?_;rintro k s' ⟨t,g,i,rfl,t9,t7,t6,t10,hi,rfl,gn,e1,go⟩ _;have nE:j.Q < C.Q:=by have:=(hp.trans aE).1;omega
 by_cases re:i < 16
 ·have hx:(i:Int) < 16:=iA
  have hw:=wS (i:=i) iA;have gS:g.A C.Q=U (S Y 1 (dg.map dk)):=by grind
  have lO:=N.D go;obtain⟨y,hy⟩:∃ y,dg[i]? = U y:=⟨_,ac iA⟩;have x1:J1 (E b).tojo 62 (pO C.Q 0) (I X (i:Int))=U (pO C.Q i):=by simpa using uH b (bk:=C.Q) (o:=0) (k:=.i64) (i:=(i:Int)) ⟨iA,iA⟩
  have x2:J1 (E b).tojo 186 (pO j.Q 0) (I X (i:Int))=U (pO j.Q i):=by simpa using HM b (bk:=j.Q) (o:=0) (k:=.i64) (i:=(i:Int)) ⟨iA,iA⟩
  have l1:Zq g C.Q i=U (dk y):=by rw[Z2 gS,b7,hy];rfl
  obtain⟨T,e2⟩:∃ T,T=g.set j.Q (U (S Y 1 ((dg.take (i+1)).map dk++List.replicate (16-(i+1)) zU))):=⟨_,rfl⟩;have h3:iN g j.Q i [I .u8 (y:Int)]=U T:=by
   rw[nS go (by simp;omega),e2];congr 4;rw[aT,hy,bD _ _ (by simp;omega)];have : i-L ((dg.take i).map dk)=0:=by simp;omega
   rw[this,show 16-i=(16-(i+1))+1 by omega,cy];simp[dk]
  have g1:Zq g C.Q i=U (I .u8 (y:Int)):=l1;simp[lY,Jx,t9,t7,t6,t10,hx,x1,x2,g1,h3,hw];refine⟨16-(i+1),iA,_,T,i+1,rfl,by simp[t9],by simp[t7],by simp[t6],jA,iA,rfl,by rw[e2];exact gn,fun c hc => ?_,by rw[e2,gY lO,if_pos rfl]⟩;rw[e2,gY lO,if_neg (Ne.symm hc),e1 c hc]
 ·have hx:¬ (i:Int) < 16:=iA
  have : i=16:=iA
  subst this;have hz:g.A j.Q=U (S Y 1 ((dg.take 16).map dk)):=by simpa using go
  have tl:L (dg.take 16)=16:=by rw[df];omega
  have hu:iy g j.Q 0 16=U (.agg ⟨(dg.take 16).map dk⟩):=nZ hz (by simp[dl]) (by simp[dl]);have gR:g.A P.Q=U (S Y 1 qR):=by rw[e1 _ iA];exact(aC.trans hr).A gB
  have lR:=N.D gR;obtain⟨T,e2⟩:∃ T,T=g.set P.Q (U (S Y 1 ((dg.take 16).map dk))):=⟨_,rfl⟩;have h3:iN g P.Q 0 ((dg.take 16).map dk)=U T:=by
   rw[jQ gR (by simp[qR,dl]),e2];congr 4;simp[qR,dl]
  have h4:iy T P.Q 0 16=U (.agg ⟨(dg.take 16).map dk⟩):=nZ (by rw[e2,gY lR,if_pos rfl]) (by simp[dl]) (by simp[dl]);have a2:L ((dg.take 16).map dk)=16:=by simp[dl]
  simp only[dJ]at hu h3 h4 hk a2;simp[lY,Jx,t9,t7,t6,t10,hu,dl,h3,h4];refine hk T ⟨?_,fun c hc => ?_⟩
  ·rw[e2];have:=(hb.trans hr).1;show h.Q<=g.Q;omega
  ·rw[e2,gY lR,if_neg iA,e1 c iA,(hb.trans hr).2 c hc]
end
section
attribute [local simp] Qia Qnh Uq BJ BH mZ QY 
def Uqv{ds tg:List Nat}(hg:h.A ν=U (.cells ow z [sv]))(ss:SN h sv seed)(hl:L seed < 100000000)(bs:∀ x ∈ seed,x < 256)(C:L ds=32)(bd:∀ x ∈ ds,x < 256)(P:L tg=16){o:Nat}(K:KP)(hk:∀ h',a_ h h'->K (.ret (.bool (decide (1<=(o:Int)/\(o:Int)<=32) && decide (na (rD (jI seed 32 1) (o:Int)) ds=tg)))) h'):FK b 185 [pO ν 0,I X (o:Int),.agg ⟨ds.map dk⟩,.agg ⟨tg.map dk⟩] h K:=by
 refine ip b (Uq b) Yf4 rfl ?_;obtain⟨T,eA⟩:∃ T,T=h.push (S Y 1 (ds.map dk)):=⟨_,rfl⟩;obtain⟨j,eB⟩:∃ j,j=T.push (S Y 1 (tg.map dk)):=⟨_,rfl⟩;have aA:=jG eA;have aB:=jG eB;have gA:T.A h.Q=U (S Y 1 (ds.map dk)):=by rw[eA,N.F,if_pos rfl]
 have gB:j.A T.Q=U (S Y 1 (tg.map dk)):=by rw[eB,N.F,if_pos rfl]
 have h3:=kE eA;have hp:=kE eB;simp[h3,hp];obtain⟨_,_,c1,n1,rfl,rfl⟩:=RJ b (o:Int) j (fun r h'=>r=.ret (.bool (decide (1<=(o:Int)/\(o:Int)<=32)))/\j=h') ⟨rfl,rfl⟩;have hb:iy j h.Q 0 32=U (.agg ⟨ds.map dk⟩):=by
  rw[V9 (aB.A gA) (by simp[C]),ba,aj (by simp[C])]
 have hr:iy j T.Q 0 16=U (.agg ⟨tg.map dk⟩):=by
  rw[V9 gB (by simp[P]),ba,aj (by simp[P])]
 by_cases ho:1<=(o:Int)/\(o:Int)<=32
 ·rw[decide_eq_true ho]at c1 hk;obtain⟨_,hC,c2,n2,rfl,aC⟩:=Uzb b ((aA.trans aB).A hg) (ss.R (aA.trans aB)) hl bs C bd (o:=o) iA iA (fun r h'=>r=.ret (.agg ⟨(na (rD (jI seed 32 1) (o:Int)) ds).map dk⟩)/\a_ j h') (fun h' q=>⟨rfl,q⟩);have hx:iy hC h.Q 0 32=U (.agg ⟨ds.map dk⟩):=by
   rw[V9 (aC.A (aB.A gA)) (by simp[C]),ba,aj (by simp[C])]
  have h2:iy hC T.Q 0 16=U (.agg ⟨tg.map dk⟩):=by
   rw[V9 (aC.A gB) (by simp[P]),ba,aj (by simp[P])]
  refine jf [⟨203,[I X (o:Int)],j,.bool Y,j,Y⟩,⟨204,[pO ν 0,I X (o:Int),.agg ⟨ds.map dk⟩],j,.agg ⟨(na (rD (jI seed 32 1) (o:Int)) ds).map dk⟩,hC,Y⟩] ?_ HT.1 (by simp[HT.2,XM,XE,XH,hb,hr,SP b P Uxa,qy];first | exact⟨rfl,rfl⟩ | rfl) ?_ ?_
  ·exact tu ⟨c1,n1,fun _ _ _=>rfl⟩ ⟨c2,n2,fun _ c hc=>aC.2 c hc⟩
  ·simp[F6,hb,hr,hx,h2]
  simp;have:=hk hC ((aA.trans aB).trans aC);rw[dK]at this;simpa[eq_comm]using this
 ·rw[decide_eq_false ho]at c1 hk;refine jf [⟨203,[I X (o:Int)],j,.bool J,j,Y⟩] ?_ HT.1 (by simp[HT.2,XM,XE,XH];first | exact⟨rfl,rfl⟩ | rfl) ?_ ?_
  ·exact nK ⟨c1,n1,fun _ _ _=>rfl⟩
  ·simp[F6]
  simp;have:=hk j (aA.trans aB)
  grind
end
section
variable{h:N}{MB:Nat->Prop}{μ:Nat}{e:iu}{ps:List (V × List Int)}{on had:List Bool}{sv ov dv:V}{z:Nat}
def kY.c0(r:kY h MB μ e ps on had sv ov dv z):Zq h μ 0=U e.nk:=by rw[Z2 r.at'];rfl
def kY.dg(r:kY h MB μ e ps on had sv ov dv z):iy h μ 1 32=U (.agg ⟨e.dig⟩):=by
 rw[V9 r.at' (by simp[e.len])];congr 3;show((e.dig ++ [I X e.lk]) ++ [sv,ov,dv]).take 32=_;rw[b9,bm (by rw[e.hd];omega),aj (by rw[e.hd];omega)]
def kY.c33(r:kY h MB μ e ps on had sv ov dv z):Zq h μ 33=U (I X e.lk):=by
 rw[Z2 r.at',aN (by rw[e.len];omega)];simp[iu.cells,e.hd]
end
structure Bw (h:N) (MB:Nat->Prop) (e:iu) (seed:List Nat) (a:jv):Prop where
 nota:∃ ν z ow v,e.nk=pO ν 0/\h.A ν=U (.cells ow z [v])/\SN h v seed/\¬ MB ν/\∀ c,J7 v=U c->¬ MB c
 dg:e.dig=a.dg.map dk
 lk:e.lk=a.lk
 ks:a.ks=jI seed 32 1
 sl:L seed < 100000000
 bs:∀ x ∈ seed,x < 256
 bd:∀ x ∈ a.dg,x < 256
def Bw.mv{j:Nat->Prop}{e:iu}{seed:List Nat}{a:jv}(w:Bw h MB e seed a)(m:Mv MB j h h'):Bw h' j e seed a:=by
 obtain⟨ν,z,ow,v,e1,T,e3,e4,e5⟩:=w.nota;have no:∀ c,c < h.Q->¬ MB c->¬ j c:=fun c C hn q=>by
  rcases m.sub c q with q | q
  ·exact hn q
  ·omega
 have hl:=N.D T;exact⟨⟨ν,z,ow,v,e1,by rw[m.same ν hl e4];exact T,e3.keep fun c C P=>m.same c P (e5 c C),no ν hl e4,fun c C=>no c (e3.blk C) (e5 c C)⟩,w.dg,w.lk,w.ks,w.sl,w.bs,w.bd⟩
def SGI(μ j:Nat)(v w:V)(y:List Int)(g0:N)(k:Nat)(s:St):Prop:=∃ (t:Tr V) (h1:N) (i:Nat),s=⟨⟨50,t⟩,[],h1⟩/\t.A 0=U (pO μ 0)/\t.A 3=U v/\t.A 4=U w/\t.A 5=U (pO j 0)/\t.A 6=U (I X (i:Int))/\i<=16/\k=16-i/\h1.Q=g0.Q/\(∀ c,c≠j->h1.A c=g0.A c) /\
 h1.A j=U (S Y 1 ((y.take i).map i8++List.replicate (16-i) zU))
section
attribute [local simp] Qbo Qdk Ye mW Xb Uu Qcd Qbw Qc9 BO qx HM wg Qbt Xv Qt1 Xe3 Mp Ay Az Xex mZ BH Uq Yf Yy
def Uqe{e:iu}{p q:V × List Int}{ps:List (V × List Int)}{on had:List Bool}(M_:jj h MB μ e (p::q::ps) on had)(hl:L ps < 900)(hb:¬ (L p.2=1/\L q.2=16))(K:KP)(hk:K (.ret (I X 16)) h) :
  FK b 171 [pO μ 0] h K:=by
 have M0:=M_;obtain⟨sv,ov,dv,z,r⟩:=M0;refine ip b (Ye b) W6 rfl ?_;simp[lY];refine uk b M_ (n:=0) (p:=p) rfl (by simp;omega) _ ?_;simp[lY];refine uk b M_ (n:=1) (p:=q) rfl (by simp;omega) _ ?_;have jR:=fun C=>j_ (b:=b) (h1:=C) (r.its p jA).1;have P:=fun C=>j_ (b:=b) (h1:=C) (r.its q jA).1;by_cases h1:L p.2=1
 ·have h2:¬ (L q.2:Int)=16:=fun hq=>hb ⟨h1,iA⟩;rw[h1]at jR;have j:∀ C,iC (E b).tojo 31 p.1 C=U (I X 1):=jR;simp[lY,j,P,h2];exact hk
 ·have T:¬ (L p.2:Int)=1:=iA
  simp[lY,jR,T];exact hk
def Uuj{e:iu}{seed:List Nat}{a:jv}{p q:V × List Int}{ps:List (V × List Int)}{on had:List Bool}(M_:jj h MB μ e (p::q::ps) on had)(W:Bw h MB e seed a)(hl:L ps < 900)(hg:∀ p ∈ ps,L p.2 < 1000000000)(h1:L p.2=1)(h2:L q.2=16)(K:KP)(hk:∀ h' j,j.map (·.2)=vc (tO a (p.2.getD 0 0) q.2)::ps.map (·.2)->jj h' MB μ e j on had->Mv MB MB h h'->K (.ret (I X (xB (decide ((L ps:Int)+1<=16))))) h') :
  FK b 171 [pO μ 0] h K:=by
 have M0:=M_;obtain⟨sv,ov,dv,z,r⟩:=M0;refine ip b (Ye b) W6 rfl ?_;simp[lY];refine uk b M_ (n:=0) (p:=p) rfl (by simp;omega) _ ?_;simp[lY];refine uk b M_ (n:=1) (p:=q) rfl (by simp;omega) _ ?_;obtain⟨v,x⟩:=p;obtain⟨w,y⟩:=q;simp only at h1 h2 hk;obtain⟨i1,hy,o1⟩:=r.its (v,x) jA;obtain⟨i2,ho,o2⟩:=r.its (w,y) jA;simp only at i1 hy o1 i2 ho o2;have jR:=fun hx=>j_ (b:=b) (h1:=hx) i1;have hr:=fun hx=>j_ (b:=b) (h1:=hx) i2;rw[h1]at jR;rw[h2]at hr;have hb:∀ hx,iC (E b).tojo 31 v hx=U (I X 1):=jR;have hp:∀ hx,iC (E b).tojo 31 w hx=U (I X 16):=hr;obtain⟨hA,eA⟩:∃ hA,hA=h.push (S Y 1 qR):=⟨_,rfl⟩;have aA:=jG eA;have nA:=lT eA;have gA:hA.A h.Q=U (S Y 1 qR):=by rw[eA,N.F,if_pos rfl]
 have a2:jd (E b).tojo 186 h=U (pO h.Q 0,hA):=by rw[eA];exact lY b h
 simp[lY,hb,hp,-lY,a2];refine iV (SGI μ h.Q v w y hA) 16 ⟨_,hA,0,rfl,jA,jA,jA,jA,jA,iA,rfl,rfl,fun _ _=>rfl,by simpa[qR]using gA⟩ ?_;rintro k s' ⟨t,g,i,rfl,t0,t3,t4,t5,t6,hi,rfl,gn,hB,go⟩ _;have aG:a_ h g:=⟨iA,fun c C=>by rw[hB c iA,aA.2 c C]⟩;have lO:=N.D go;by_cases e1:i < 16
 ·have T:(i:Int) < 16:=iA
  have hw:=wS (i:=i) iA;obtain⟨c,C⟩:∃ c,y[i]? = U c:=⟨_,ac iA⟩;obtain⟨bk,off,q1,q2,q3⟩:=sL (b:=b) (i2.R aG) (k:=.i64) C;have x2:J1 (E b).tojo 186 (pO h.Q 0) (I X (i:Int))=U (pO h.Q i):=by simpa using HM b (bk:=h.Q) (o:=0) (k:=.i64) (i:=(i:Int)) ⟨iA,iA⟩
  simp only[i8]at q3;obtain⟨g2,e2⟩:∃ g2,g2=g.set h.Q (U (S Y 1 ((y.take (i+1)).map i8++List.replicate (16-(i+1)) zU))):=⟨_,rfl⟩;have re:iN g h.Q i [I .u8 c]=U g2:=by
   rw[nS go (by simp;omega),e2];congr 4;rw[aT,C,bD _ _ (by simp;omega)];have : i-L ((y.take i).map i8)=0:=by simp;omega
   rw[this,show 16-i=(16-(i+1))+1 by omega,cy];simp[i8]
  simp[lY,t0,t3,t4,t5,t6,T,q2,q3,x2,re,hw];refine⟨16-(i+1),iA,_,g2,i+1,rfl,by simp[t0],by simp[t3],by simp[t4],by simp[t5],jA,iA,rfl,by rw[e2];exact gn,fun c C => ?_,by rw[e2,gY lO,if_pos rfl]⟩;rw[e2,gY lO,if_neg (Ne.symm C),hB c C]
 ·have T:¬ (i:Int) < 16:=iA
  have : i=16:=iA
  subst this;have a1:g.A h.Q=U (S Y 1 ((nW y).map dk)):=by
   rw[<- IZ ho]
   grind
  have yl:L (nW y)=16:=by simp[nW,h2]
  have MG:jj g MB μ e ((v,x)::(w,y)::ps) on had:=M_.R aG;simp[lY,t0,t3,t4,t5,t6];refine A8 b MG (n:=2) jA (by simp;omega) _ fun h3 M3 m3 => ?_;simp only[dy,ba]at M3;have hn:=M3;obtain⟨hC,a3,he,z3,r3⟩:=hn;have es:¬ MB h.Q:=fun q=>by have:=r.low _ q;omega
  have g3:h3.A h.Q=U (S Y 1 ((nW y).map dk)):=by rw[m3.same _ lO es];exact a1
  have g1:iy h3 h.Q 0 16=U (.agg ⟨(nW y).map dk⟩):=nZ g3 (by simp[yl]) (by simp[yl]);have W3:=(W.mv (Mv.R aG)).mv m3;obtain⟨ν,zz,ow,hm,w1,w2,w3,w4,w5⟩:=W3.nota;obtain⟨z1,rfl⟩:∃ z1,x=[z1]:=by
   match x,h1 with
   | [z1],_=>simp
  have hz:=hy z1 jA;obtain⟨P,rfl⟩:∃ n:Nat,z1=(n:Int):=⟨z1.toNat,iA⟩;have i3:SB h3 v [(P:Int)]:=(i1.R aG).keep fun c C e1=>m3.same c e1 (o1 c C);obtain⟨bk,off,x1,x2,x3⟩:=sL (b:=b) i3 (k:=.i64) (i:=0) (z:=(P:Int)) rfl;simp only[i8]at x3;simp at x2;have hf:IntKind.i64.wrap (P:Int)=(P:Int):=Jr iA iA;have c0:=r3.c0;have cd:=r3.dg;rw[w1]at c0;rw[W3.dg]at cd;obtain⟨_,h4,c1,hu,rfl,a4⟩:=Uqv b w2 w3 W.sl W.bs a.hdg W.bd yl (o:=P) (fun r h'=>r=.ret (.bool (tO a P y))/\a_ h3 h') (fun h' q=>⟨by rw[tO,W.ks],q⟩);obtain⟨_,h5,c2,M',rfl,s1,e5,M5,m5⟩:=Unj b (M3.R a4) iA hg (tO a P y) (fun r h'=>r=.ret (.bool (decide ((L ps:Int)+1<=16)))/\∃ j,j.map (·.2)=vc (tO a P y)::ps.map (·.2)/\jj h' MB μ e j on had/\Mv MB MB h4 h') (fun h' j q1 q2 q3=>⟨rfl,j,q1,q2,q3⟩);obtain⟨_,_,c3,v',rfl,rfl⟩:=xV b (decide ((L ps:Int)+1<=16)) h5 (fun r h'=>r=.ret (I X (xB (decide ((L ps:Int)+1<=16))))/\h5=h') ⟨rfl,rfl⟩;simp[lY];refine jf [⟨185,[pO ν 0,I X (P:Int),.agg ⟨a.dg.map dk⟩,.agg ⟨(nW y).map dk⟩],h3,.bool (tO a P y),h4,Y⟩,⟨170,[pO μ 0,.bool (tO a P y)],h4,.bool (decide ((L ps:Int)+1<=16)),h5,J⟩,⟨136,[.bool (decide ((L ps:Int)+1<=16))],h5,I X (xB (decide ((L ps:Int)+1<=16))),h5,Y⟩] ?_ WG.1 (by simp[WG.2,X04,X1r,X2m,lY,t0,t3,t4,t5,t6,ju,c0,cd,x2,x3,hf,g1,qy];first | exact⟨rfl,rfl⟩ | rfl) ?_ ?_
  ·exact Lb ⟨c1,hu,fun _ c C=>a4.2 c C⟩ ⟨c2,M',fun hq=>by cases hq⟩ ⟨c3,v',fun _ _ _=>rfl⟩
  ·simp[F8,lY]
  simp[lY];exact hk h5 s1 e5 M5 (((Mv.R aG).trans m3).trans ((Mv.R a4).trans m5))
end
def K2{u w i:Nat}(j:u < 2 ^ i)(C:u+w*2 ^ i < 2 ^ 63):HZ (u:Int) ((w*2 ^ i:Nat):Int)=((u+w*2 ^ i:Nat):Int):=by
 unfold HZ;rw[gJ,gJ,fM,BitVec.toNat_ofNat,BitVec.toNat_ofNat,cU iA,cU iA,Nat.or_comm,<- Nat.shiftLeft_eq,<- Nat.shiftLeft_add_eq_or_of_lt j,Nat.shiftLeft_eq,Jr iA iA];omega
def Ut6(hl:L x=4)(hx:Bytes x):rA x 4=x.getD 0 0+256*x.getD 1 0+65536*x.getD 2 0+16777216*x.getD 3 0:=by
 match x,hl with
 | [p,q,r,s],_ =>
  have hp:=hx p jA;have hq:=hx q jA;have hr:=hx r jA;have hs:=hx s jA;obtain⟨j,rfl⟩:∃ n:Nat,p=(n:Int):=⟨p.toNat,iA⟩;obtain⟨C,rfl⟩:∃ n:Nat,q=(n:Int):=⟨q.toNat,iA⟩;obtain⟨P,rfl⟩:∃ n:Nat,r=(n:Int):=⟨r.toNat,iA⟩;obtain⟨T,rfl⟩:∃ n:Nat,s=(n:Int):=⟨s.toNat,iA⟩;have k0:IntKind.i64.wrap (([(j:Int),C,P,T].getD 0 0)*2 ^ (8*0))=((j*2 ^ 0:Nat):Int):=by rw[Jr jA (by grind)];simp
  have k1:IntKind.i64.wrap (([(j:Int),C,P,T].getD 1 0)*2 ^ (8*1))=((C*2 ^ 8:Nat):Int):=by rw[Jr (by simp;omega) (by simp;omega)];simp
  have k2:IntKind.i64.wrap (([(j:Int),C,P,T].getD 2 0)*2 ^ (8*2))=((P*2 ^ 16:Nat):Int):=by rw[Jr (by simp;omega) (by simp;omega)];simp
  have k3:IntKind.i64.wrap (([(j:Int),C,P,T].getD 3 0)*2 ^ (8*3))=((T*2 ^ 24:Nat):Int):=by rw[Jr (by simp;omega) (by simp;omega)];simp
  rw[rA,rA,rA,rA,rA,k0,k1,k2,k3];have z0:(0:Int)=((0:Nat):Int):=rfl;rw[z0,K2 iA iA,K2 iA iA,K2 iA iA,K2 iA iA]
  grind
section
attribute [local simp] Qd9 Qfb Yi mW Xb Uu Qc9 Xv Qt1 Xjv V0 qx Ay Az mW
def Uqm{e:iu}{p:V × List Int}{ps:List (V × List Int)}{on had:List Bool}(M_:jj h MB μ e (p::ps) on had)(hl:L ps < 900)(hb:¬ L p.2=4)(K:KP)(P:K (.ret (I X 16)) h) :
  FK b 172 [pO μ 0] h K:=by
 have C:=M_;obtain⟨sv,ov,dv,z,r⟩:=C;refine ip b (Yi b) WZ rfl ?_;simp;refine uk b M_ (n:=0) (p:=p) rfl (by simp;omega) _ ?_;have jR:=fun T=>j_ (b:=b) (h1:=T) (r.its p jA).1;have j:¬ (L p.2:Int)=4:=iA
 simp[jR,j];exact P
def Uw5{e:iu}{p:V × List Int}{ps:List (V × List Int)}{on had:List Bool}(M_:jj h MB μ e (p::ps) on had)(hl:L ps < 900)(h4:L p.2=4)(K:KP)(hk:rA p.2 4<=e.lk->∀ h',jj h' MB μ e ps on had->Mv MB MB h h'->K (.ret (I X 0)) h')(he:¬ rA p.2 4<=e.lk->∀ h',Mv MB MB h h'->K (.ret (I X 18)) h') :
  FK b 172 [pO μ 0] h K:=by
 have M0:=M_;obtain⟨sv,ov,dv,z,r⟩:=M0;refine ip b (Yi b) WZ rfl ?_;simp;refine uk b M_ (n:=0) (p:=p) rfl (by simp;omega) _ ?_;obtain⟨v,x⟩:=p;simp only at h4 hk he;obtain⟨i1,j,o1⟩:=r.its (v,x) jA;simp only at i1 j o1;have jR:=fun hx=>j_ (b:=b) (h1:=hx) i1;rw[h4]at jR;have hb:∀ hx,iC (E b).tojo 31 v hx=U (I X 4):=jR;simp[hb];refine A8 b M_ (n:=1) jA (by simp;omega) _ fun h3 M3 m3 => ?_;simp only[dy,ba]at M3;have hp:=M3;obtain⟨hu,hn,hB,z3,r3⟩:=hp;have i3:SB h3 v x:=i1.keep fun c hc h2=>m3.same c h2 (o1 c hc);have P:=Ut6 h4 j
 match x,h4,i3,j,P,hk,he with
 | [T,C,p2,p3],_,i3,j,P,hk,he =>
  have q0:=j T jA;have q1:=j C jA;have q2:=j p2 jA;have q3:=j p3 jA;simp at P;rw[P]at hk he;obtain⟨bk,o0, -,a0,l0⟩:=sL (b:=b) i3 (k:=.i64) (i:=0) (z:=T) rfl;obtain⟨hA,o1, -,a1,l1⟩:=sL (b:=b) i3 (k:=.i64) (i:=1) (z:=C) rfl;obtain⟨hy,o2, -,a2,l2⟩:=sL (b:=b) i3 (k:=.i64) (i:=2) (z:=p2) rfl;obtain⟨ho,o3, -,a3,l3⟩:=sL (b:=b) i3 (k:=.i64) (i:=3) (z:=p3) rfl;simp only[i8]at l0 l1 l2 l3;simp at a0 a1 a2 a3;have hr:=r3.c33;have w0:IntKind.i64.wrap T=T:=Jr iA iA;have w1:IntKind.i64.wrap C=C:=Jr iA iA;have w2:IntKind.i64.wrap p2=p2:=Jr iA iA;have w3:IntKind.i64.wrap p3=p3:=Jr iA iA;have v1:IntKind.i64.wrap (256*C)=256*C:=Jr iA iA;have v2:IntKind.i64.wrap (65536*p2)=65536*p2:=Jr iA iA;have v3:IntKind.i64.wrap (16777216*p3)=16777216*p3:=Jr iA iA;have u1:IntKind.i64.wrap (T+256*C)=T+256*C:=Jr iA iA;have u2:IntKind.i64.wrap (T+256*C+65536*p2)=T+256*C+65536*p2:=Jr iA iA;have u3:IntKind.i64.wrap (T+256*C+65536*p2+16777216*p3)=T+256*C+65536*p2+16777216*p3:=Jr iA iA;simp;by_cases e1:T+256*C+65536*p2+16777216*p3<=e.lk
  ·have h2:¬ e.lk < T+256*C+65536*p2+16777216*p3:=iA
   refine jf [] jA HO.1 (by simp[HO.2,ju,hr,a0,a1,a2,a3,l0,l1,l2,l3,w0,w1,w2,w3,v1,v2,v3,u1,u2,u3];first | exact⟨rfl,rfl⟩ | rfl) ?_ ?_
   ·simp[P8]
   simp[h2]
   grind
  ·have h2:e.lk < T+256*C+65536*p2+16777216*p3:=iA
   refine jf [] jA HO.1 (by simp[HO.2,ju,hr,a0,a1,a2,a3,l0,l1,l2,l3,w0,w1,w2,w3,v1,v2,v3,u1,u2,u3];first | exact⟨rfl,rfl⟩ | rfl) ?_ ?_
   ·simp[P8]
   simp[h2]
   grind
end
def B6{K:jc->N->Prop}{n:Nat}{h':N}(h0:n < 16->K (.ret (I X 0)) h')(j:¬ n < 16->K (.ret (I X 16)) h'):K (.ret (I X (xB (decide ((n:Int)+1<=16))))) h':=by
 by_cases C:n < 16
 ·rw[decide_eq_true iA];exact h0 C
 ·rw[decide_eq_false iA];exact j C
structure oz (h:N) (MB:Nat->Prop) (μ:Nat) (e:iu) (seed:List Nat) (a:jv) (ps:List (V × List Int)) (on had:List Bool) (dv:V) (data:List Int):Prop where
 m:jj h MB μ e ps on had
 w:Bw h MB e seed a
 n:L ps<=16
 it:∀ p ∈ ps,L p.2<=64
 sd:SB h dv data
 bd:Bytes data
 nd:∀ c,J7 dv=U c->¬ MB c
section
variable{b:Nat}{h:N}{MB:Nat->Prop}{μ:Nat}{e:iu}{seed:List Nat}{a:jv}{ps:List (V × List Int)}{on had:List Bool}{dv:V}{data:List Int}
def yy(h:N)(MB:Nat->Prop)(μ:Nat)(e:iu)(a:jv)(ps:List (V × List Int))(on had:List Bool)(code:Int)(data:List Int)(K:KP):Prop :=
 (∀ C,jC a code data (ps.map (·.2))=.ok C->∀ h' j,j.map (·.2)=C->jj h' MB μ e j on had->Mv MB MB h h'->K (.ret (I X 0)) h') /\
 (∀ z,jC a code data (ps.map (·.2))=.error z->∀ h',Mv MB MB h h'->K (.ret (I X z)) h')
section
attribute [local simp] Yx Zn Y4 Vb U1 Qab V0 Jz Qc4 Ya Xb Yu Yy Xv lN Vx Vw Yd Yf Yr Ye Yi Vv Vu Qdf Z8
def xU{code:Int}(A:oz h MB μ e seed a ps on had dv data)(K:KP)(hc:L ps < qY code->∀ h',Mv MB MB h h'->K (.ret (I X 16)) h')(h2:¬ L ps < qY code->∀ (j:N) (tr:Tr V),a_ h j->tr.A 0=U (pO μ 0)->tr.A 3=U (pO h.Q 0)->Zq j h.Q 0=U (I X code)->Zq j h.Q 1=U dv->iO (E b) (pL Tryz.prog (E b).G) (D0 b) O Mr ⟨⟨86,tr⟩,[],j⟩ (pj (E b) (DD b) (FU 135) K)):FK b 135 [pO μ 0,.agg ⟨[I X code,dv]⟩] h K:=by
 have M0:=A.m;obtain⟨sv,ov,hk,z,r⟩:=M0;refine ip b (Y4 b) Yqj rfl ?_;obtain⟨j,T⟩:∃ j,j=h.push (S Y 1 [I X code,dv]):=⟨_,rfl⟩;have bx:=kE T;have P:=jG T;have kg:j.A h.Q=U (S Y 1 [I X code,dv]):=by rw[T,N.F,if_pos rfl]
 have k0:Zq j h.Q 0=U (I X code):=by rw[Z2 kg];rfl
 have k1:Zq j h.Q 1=U dv:=by rw[Z2 kg];rfl
 have m0:Mv MB MB h j:=Mv.R P;have MM:=A.m.R P;have W0:=A.w.mv m0;have r1:=r.R P;have hn:L ps < 900:=by have:=A.n;omega
 have hit:∀ p ∈ ps,L p.2 < 1000000000:=fun p hp=>by have:=A.it p hp;omega
 have C:∀ hx,iC (E b).tojo 94 sv hx=U (I X (L ps:Int)):=fun hx=>iT (kB b) r1.st;obtain⟨_,_,c0,n0,rfl,rfl⟩:=Uyn b code j (fun r h'=>r=.ret (I X (qY code:Int))/\j=h') ⟨rfl,rfl⟩;simp[Jx,Yq,bx];refine jf [⟨167,[I X code],j,I X (qY code:Int),j,Y⟩] ?_ YW.1 (by simp[YW.2,Jx,Yq,ju,k0,r1.c34,C];first | exact⟨rfl,rfl⟩ | rfl) ?_ ?_
 ·exact nK ⟨c0,n0,fun _ _ _=>rfl⟩
 ·simp[Que,Jx,Yq]
 by_cases hf:L ps < qY code
 ·simp[Jx,Yq,hf]
  grind
 ·simp[Jx,Yq,-Yq,hf];exact h2 hf j _ P jA jA k0 k1
def U5m{code:Int}(A:oz h MB μ e seed a ps on had dv data)(C:L ps < qY code)(K:KP)(j:∀ h',Mv MB MB h h'->K (.ret (I X 16)) h'):FK b 135 [pO μ 0,.agg ⟨[I X code,dv]⟩] h K:=xU A K (fun _=>j) fun q=>absurd C q
def U1o(A:oz h MB μ e seed a ps on had dv data){p:V × List Int}{pr:List (V × List Int)}(j:ps=p::pr)(K:KP)(hK:yy h MB μ e a ps on had 130 data K):FK b 135 [pO μ 0,.agg ⟨[I X 130,dv]⟩] h K:=by
 obtain⟨hk,P⟩:=hK;have M0:=A.m;obtain⟨sv,ov,hc,z,r⟩:=M0;refine xU A K (fun q=>absurd q (by rw[j];simp[qY])) fun _ hB tr C t0 t3 k0 k1 => ?_;have T:Mv MB MB h hB:=Mv.R C;have MM:=A.m.R C;have W0:=A.w.mv T;have r1:=r.R C;have hn:L ps < 900:=by have:=A.n;omega
 have hit:∀ p ∈ ps,L p.2 < 1000000000:=fun p P=>by have:=A.it p P;omega
 simp[Jx,Yq,t0,t3,k0];refine A8 b MM (n:=1) (by grind) iA _ fun h1 M1 m1 => ?_;simp[Jx,Yq,t0,t3];refine hk (pr.map (·.2)) (by rw[j];simp[jC]) h1 pr rfl ?_ (T.trans m1)
 grind
def U77(A:oz h MB μ e seed a ps on had dv data){p:V × List Int}{pr:List (V × List Int)}(T:ps=p::pr)(K:KP)(hK:yy h MB μ e a ps on had 129 data K):FK b 135 [pO μ 0,.agg ⟨[I X 129,dv]⟩] h K:=by
 obtain⟨hk,hp⟩:=hK;have M0:=A.m;obtain⟨sv,ov,hx,z,r⟩:=M0;refine xU A K (fun q=>absurd q (by rw[T];simp[qY])) fun _ hB tr aB t0 t3 k0 k1 => ?_;have m0:Mv MB MB h hB:=Mv.R aB;have MM:=A.m.R aB;have W0:=A.w.mv m0;have r1:=r.R aB;have hn:L ps < 900:=by have:=A.n;omega
 have hit:∀ p ∈ ps,L p.2 < 1000000000:=fun p hp=>by have:=A.it p hp;omega
 simp[Jx,Yq,t0,t3,k0];refine uk b MM (n:=0) (p:=p) (by grind) iA _ ?_;simp[Jx,Yq,t0,t3];have P:p ∈ ps:=by grind
 have C:=A.n;refine B7 b MM iA hit (r1.its p P).1 (r1.its p P).2.1 (r1.its p P).2.2 _ fun h1 hc e1 M1 m1 => ?_;simp[Jx,Yq,t0,t3];refine xV b _ h1 _ ?_;simp[Jx,Yq,t0,t3];refine B6 (fun j => ?_) fun j => ?_
 ·refine hk (p.2::p.2::pr.map (·.2)) ?_ h1 hc (by grind) M1 (m0.trans m1);rw[T]at j ⊢;simp at j;have : L pr < 16:=iA
  simp[jC,lS,Except.bind,this,j]
 ·refine hp 16 ?_ h1 (m0.trans m1);rw[T]at j C ⊢;simp at j C;have q1:L pr < 16:=iA
  have q2:¬ L pr+1 < 16:=iA
  simp[jC,lS,Except.bind,q1,q2]
def Uy4(A:oz h MB μ e seed a ps on had dv data){p:V × List Int}{pr:List (V × List Int)}(j:ps=p::pr)(K:KP)(hK:yy h MB μ e a ps on had 131 data K):FK b 135 [pO μ 0,.agg ⟨[I X 131,dv]⟩] h K:=by
 obtain⟨hk,hp⟩:=hK;have M0:=A.m;obtain⟨sv,ov,hu,z,r⟩:=M0;refine xU A K (fun q=>absurd q (by rw[j];simp[qY])) fun _ hB tr aB t0 t3 k0 k1 => ?_;have m0:Mv MB MB h hB:=Mv.R aB;have MM:=A.m.R aB;have W0:=A.w.mv m0;have r1:=r.R aB;have hn:L ps < 900:=by have:=A.n;omega
 have hit:∀ p ∈ ps,L p.2 < 1000000000:=fun p hp=>by have:=A.it p hp;omega
 simp[Jx,Yq,t0,t3,k0];refine uk b MM (n:=0) (p:=p) (by grind) iA _ ?_;simp[Jx,Yq,t0,t3];have hl:p ∈ ps:=by grind
 have hA:=A.n;have e2:=A.it p hl;obtain⟨i1,T,o1⟩:=r1.its p hl;have sn:SN hB p.1 (nW p.2):=by
  have:=i1;rw[SB,IZ T]at this;rw[SN,show(nW p.2).length=L p.2 by simp[nW]];exact this
 refine OD b sn (by simp[nW];omega) (fun x hx => ?_) _ fun h1 a1 => ?_
 ·simp only[nW,am]at hx;obtain⟨y,hy,rfl⟩:=hx;have:=T y hy;omega
 obtain⟨dg,hdg⟩:∃ d,d=Bl.keyed1 [] (nW p.2):=⟨_,rfl⟩;have dl:L dg=32:=by rw[hdg];exact oR _
 have bd:∀ x ∈ dg,x < 256:=by rw[hdg];exact BQ _
 rw[<- hdg];obtain⟨C,eX⟩:∃ C,C=h1.push (S Y 1 jn):=⟨_,rfl⟩;have hb:jd (E b).tojo 62 h1=U (pO h1.Q 0,C):=by rw[eX];exact Jx b h1
 have gX:C.A h1.Q=U (S Y 1 jn):=by rw[eX,N.F,if_pos rfl]
 have lX:=N.D gX;obtain⟨hY,eY⟩:∃ hY,hY=C.set h1.Q (U (S Y 1 (dg.map dk))):=⟨_,rfl⟩;have a2:iN C h1.Q 0 (dg.map dk)=U hY:=by
  rw[jQ gX (by simp[jn,dl]),eY];congr 4;simp[jn,dl]
 have h2:hY.A h1.Q=U (S Y 1 (dg.map dk)):=by rw[eY,gY lX,if_pos rfl]
 have aY:a_ h1 hY:=by rw[eY,eX];exact(a_.push _ _).set _ (ai _) (by grind)
 simp[Jx,Yq,t0,t3,-Jx,hb,dl,a2];have P:=a1.trans aY;have ho:¬ MB h1.Q:=fun q=>by have:=r.low _ q;have:=(aB.trans a1).1;omega
 refine A8 b (MM.R P) (n:=1) (by grind) iA _ fun h3 M3 m3 => ?_;have g3:h3.A h1.Q=U (S Y 1 (dg.map dk)):=by rw[m3.same _ (N.D h2) ho];exact h2
 have s3:SB h3 (M (U ⟨h1.Q,0,O⟩) 32 32) (kI dg):=by
  have:=IV g3 iA
  grind
 rw[j]at M3;simp only[dy,ba]at M3;have ln:L pr < 16:=by grind
 simp[Jx,Yq,t0,t3,AW];refine B7 b M3 iA (fun q hq=>hit q (by grind)) s3 (Vq4 bd) (fun c hc=>by simp[J7]at hc;grind) _ fun h4 e1 e4 M4 m4 => ?_;simp[Jx,Yq,t0,t3];refine xV b _ h4 _ ?_;simp[Jx,Yq,t0,t3];refine B6 (fun hr => ?_) fun hr => ?_
 ·refine hk (zg p.2::pr.map (·.2)) ?_ h4 e1 (by rw[e4,zg,hdg]) M4 (m0.trans ((Mv.R P).trans (m3.trans m4)));rw[j];simp[jC,lS,ln]
 omega
def Us2(A:oz h MB μ e seed a ps on had dv data){p q:V × List Int}{pr:List (V × List Int)}(j:ps=p::q::pr)(K:KP)(hK:yy h MB μ e a ps on had 132 data K):FK b 135 [pO μ 0,.agg ⟨[I X 132,dv]⟩] h K:=by
 obtain⟨hk,hp⟩:=hK;have M0:=A.m;obtain⟨sv,ov,hr,z,r⟩:=M0;refine xU A K (fun q=>absurd q (by rw[j];simp[qY])) fun _ hB tr T t0 t3 k0 k1 => ?_;have m0:Mv MB MB h hB:=Mv.R T;have P:=A.m.R T;have W0:=A.w.mv m0;have r1:=r.R T;have hn:L ps < 900:=by have:=A.n;omega
 have hit:∀ p ∈ ps,L p.2 < 1000000000:=fun p hp=>by have:=A.it p hp;omega
 simp[Jx,Yq,t0,t3,k0];refine uk b P (n:=0) (p:=p) (by grind) iA _ ?_;simp[Jx,Yq,t0,t3];refine uk b P (n:=1) (p:=q) (by grind) iA _ ?_;simp[Jx,Yq,t0,t3];obtain⟨i1,hl,o1⟩:=r1.its p (by grind);obtain⟨i2,hb,o2⟩:=r1.its q (by grind);refine GR b i1 i2 (by grind) _ ?_;simp[Jx,Yq,t0,t3];refine A8 b P (n:=2) (by grind) iA _ fun h3 C m3 => ?_;have hx:=A.n;rw[j]at C;simp only[dy,ba]at C;have ln:L pr < 16:=by grind
 simp[Jx,Yq,t0,t3];refine Unj b C iA (fun q hq=>hit q (by grind)) _ _ fun h4 h2 e4 M4 m4 => ?_;simp[Jx,Yq,t0,t3];refine xV b _ h4 _ ?_;simp[Jx,Yq,t0,t3];refine B6 (fun hc => ?_) fun hc => ?_
 ·refine hk (vc (decide (p.2=q.2))::pr.map (·.2)) ?_ h4 h2 e4 M4 (m0.trans (m3.trans m4));rw[j];simp[jC,lS,ln]
 omega
def Uoh(A:oz h MB μ e seed a ps on had dv data){p:V × List Int}{pr:List (V × List Int)}(j:ps=p::pr)(K:KP)(hK:yy h MB μ e a ps on had 133 data K):FK b 135 [pO μ 0,.agg ⟨[I X 133,dv]⟩] h K:=by
 obtain⟨hk,hp⟩:=hK;have M0:=A.m;obtain⟨sv,ov,hc,z,r⟩:=M0;refine xU A K (fun q=>absurd q (by rw[j];simp[qY])) fun _ hB tr T t0 t3 k0 k1 => ?_;have m0:Mv MB MB h hB:=Mv.R T;have MM:=A.m.R T;have W0:=A.w.mv m0;have r1:=r.R T;have hn:L ps < 900:=by have:=A.n;omega
 have hit:∀ p ∈ ps,L p.2 < 1000000000:=fun p hp=>by have:=A.it p hp;omega
 simp[Jx,Yq,t0,t3,k0];refine uk b MM (n:=0) (p:=p) (by grind) iA _ ?_;simp[Jx,Yq,t0,t3];have C:p ∈ ps:=by grind
 refine Nv b (r1.its p C).1 (hit p C) _ ?_;simp[Jx,Yq,t0,t3];refine A8 b MM (n:=1) (by grind) iA _ fun h3 P m3 => ?_;rw[j]at P;simp only[dy,ba]at P;simp[Jx,Yq,t0,t3];refine xV b _ h3 _ ?_;simp[Jx,Yq,t0,t3];cases ht:kS p.2 with
 | true =>
  exact hk (pr.map (·.2)) (by rw[j];simp[jC,ht]) h3 pr rfl P (m0.trans m3)
 | false =>
  exact hp 16 (by rw[j];simp[jC,ht]) h3 (m0.trans m3)
def Uzo(A:oz h MB μ e seed a ps on had dv data){p q:V × List Int}{pr:List (V × List Int)}(j:ps=p::q::pr)(K:KP)(hK:yy h MB μ e a ps on had 134 data K):FK b 135 [pO μ 0,.agg ⟨[I X 134,dv]⟩] h K:=by
 obtain⟨hk,hp⟩:=hK;have M0:=A.m;obtain⟨sv,ov,hl,z,r⟩:=M0;refine xU A K (fun q=>absurd q (by rw[j];simp[qY])) fun _ hB tr T t0 t3 k0 k1 => ?_;have m0:Mv MB MB h hB:=Mv.R T;have MM:=A.m.R T;have W0:=A.w.mv m0;have r1:=r.R T;have hn:L ps < 900:=by have:=A.n;omega
 have hit:∀ p ∈ ps,L p.2 < 1000000000:=fun p hp=>by have:=A.it p hp;omega
 simp[Jx,Yq,t0,t3,k0];have hx:=A.n;have ln:L pr < 16:=by grind
 have P:=MM;rw[j]at P;by_cases C:L p.2=1/\L q.2=16
 ·refine Uuj b P W0 iA (fun q hq=>hit q (by grind)) C.1 C.2 _ fun h4 h2 e4 M4 m4 => ?_;simp[Jx,Yq,t0,t3];refine B6 (fun hc => ?_) fun hc => ?_
  ·refine hk (vc (tO a (p.2.getD 0 0) q.2)::pr.map (·.2)) ?_ h4 h2 e4 M4 (m0.trans m4);rw[j];simp[jC,lS,ln,C.1,C.2]
  omega
 ·refine Uqe b P iA C _ ?_;simp[Jx,Yq,t0,t3];refine hp 16 ?_ hB m0;rw[j];simp only[aH];have : ¬ ((134:Int)=129)/\¬ ((134:Int)=130):=⟨kA,kA⟩;show(if L p.2=1/\L q.2=16 then lS (vc (tO a (p.2.getD 0 0) q.2)) (pr.map (·.2))else .error 16)=_
  grind
def Urh(A:oz h MB μ e seed a ps on had dv data){p:V × List Int}{pr:List (V × List Int)}(j:ps=p::pr)(K:KP)(hK:yy h MB μ e a ps on had 135 data K):FK b 135 [pO μ 0,.agg ⟨[I X 135,dv]⟩] h K:=by
 obtain⟨hk,T⟩:=hK;have M0:=A.m;obtain⟨sv,ov,hx,z,r⟩:=M0;refine xU A K (fun q=>absurd q (by rw[j];simp[qY])) fun _ hB tr aB t0 t3 k0 k1 => ?_;have m0:Mv MB MB h hB:=Mv.R aB;have MM:=A.m.R aB;have W0:=A.w.mv m0;have r1:=r.R aB;have hn:L ps < 900:=by have:=A.n;omega
 have hit:∀ p ∈ ps,L p.2 < 1000000000:=fun p T=>by have:=A.it p T;omega
 simp[Jx,Yq,t0,t3,k0];have MP:=MM;rw[j]at MP;have hc:=A.n;have ln:L pr < 16:=by grind
 by_cases P:L p.2=4
 ·refine Uw5 b MP iA P _ (fun C h4 M4 m4 => ?_) fun C h4 m4 => ?_
  ·simp[Jx,Yq,t0,t3];rw[W0.lk]at C;exact hk (pr.map (·.2)) (by rw[j];simp[jC,P,C]) h4 pr rfl M4 (m0.trans m4)
  ·simp[Jx,Yq,t0,t3];rw[W0.lk]at C;exact T 18 (by rw[j];simp[jC,P];omega) h4 (m0.trans m4)
 ·refine Uqm b MP iA P _ ?_;simp[Jx,Yq,t0,t3];exact T 16 (by rw[j];simp[jC,P]) hB m0
def Uxm(A:oz h MB μ e seed a ps on had dv data){p:V × List Int}{pr:List (V × List Int)}(P:ps=p::pr)(K:KP)(hK:yy h MB μ e a ps on had 139 data K):FK b 135 [pO μ 0,.agg ⟨[I X 139,dv]⟩] h K:=by
 obtain⟨hk,hp⟩:=hK;have M0:=A.m;obtain⟨sv,ov,hl,z,r⟩:=M0;refine xU A K (fun q=>absurd q (by rw[P];simp[qY])) fun _ hB tr aB t0 t3 k0 k1 => ?_;have m0:Mv MB MB h hB:=Mv.R aB;have MM:=A.m.R aB;have W0:=A.w.mv m0;have r1:=r.R aB;have hn:L ps < 900:=by have:=A.n;omega
 have hit:∀ p ∈ ps,L p.2 < 1000000000:=fun p hp=>by have:=A.it p hp;omega
 simp[Jx,Yq,t0,t3,k0];refine uk b MM (n:=0) (p:=p) (by grind) iA _ ?_;have T:p ∈ ps:=by grind
 have hb:=A.it p T;have C:=A.n;have len:=fun hx=>j_ (b:=b) (h1:=hx) (r1.its p T).1;have w8:IntKind.u8.wrap (L p.2:Int)=(L p.2:Int):=CM iA;have aC:a_ hB (hB.push (S Y 1 [i8 (L p.2:Int)])):=a_.push _ _;simp[Jx,Yq,t0,t3,len,w8,ua];refine B7 b (MM.R aC) iA hit (v:=M (U ⟨hB.Q,0,O⟩) 1 1) (x:=[(L p.2:Int)]) (SB.push (xs:=[(L p.2:Int)]) jA) (by intro z hz;grind) (fun c hc q => ?_) _ fun h1 h2 e1 M1 m1 => ?_
 ·simp[J7]at hc;have:=r.low c q;have:=aB.1;omega
 simp[Jx,Yq,t0,t3];refine xV b _ h1 _ ?_;simp[Jx,Yq,t0,t3];refine B6 (fun j => ?_) fun j => ?_
 ·refine hk ([(L p.2:Int)]::p.2::pr.map (·.2)) ?_ h1 h2 (by grind) M1 (m0.trans ((Mv.R aC).trans m1));rw[P]at j ⊢;simp at j;have : L pr < 16:=iA
  simp[jC,lS,Except.bind,this,j]
 ·refine hp 16 ?_ h1 (m0.trans ((Mv.R aC).trans m1));rw[P]at j C ⊢;simp at j C;have q1:L pr < 16:=iA
  have q2:¬ L pr+1 < 16:=iA
  simp[jC,lS,Except.bind,q1,q2]
def Uxr{code:Int}(A:oz h MB μ e seed a ps on had dv data)(hc:code<=64)(K:KP)(hK:yy h MB μ e a ps on had code data K):FK b 135 [pO μ 0,.agg ⟨[I X code,dv]⟩] h K:=by
 obtain⟨hk,hp⟩:=hK;have M0:=A.m;obtain⟨sv,ov,hy,z,r⟩:=M0;refine xU A K (fun q=>absurd q (by simp[qY,hc])) fun _ hB tr aB t0 t3 k0 k1 => ?_;have m0:Mv MB MB h hB:=Mv.R aB;have MM:=A.m.R aB;have W0:=A.w.mv m0;have r1:=r.R aB;have hn:L ps < 900:=by have:=A.n;omega
 have hit:∀ p ∈ ps,L p.2 < 1000000000:=fun p hp=>by have:=A.it p hp;omega
 have j:¬ code=129:=iA
 have C:¬ code=130:=iA
 have P:¬ code=131:=iA
 have T:¬ code=132:=iA
 have hx:¬ code=133:=iA
 have h2:¬ code=134:=iA
 have hl:¬ code=135:=iA
 have hb:¬ code=139:=iA
 simp[Jx,Yq,t0,t3,k0,j,C,P,T,hx,h2,hl,hb,k1];have h3:=A.n;refine B7 b MM iA hit (A.sd.R aB) A.bd A.nd _ fun h1 hA e1 M1 m1 => ?_;simp[Jx,Yq,t0,t3];refine xV b _ h1 _ ?_;simp[Jx,Yq,t0,t3];refine B6 (fun hr => ?_) fun hr => ?_
 ·refine hk (data::ps.map (·.2)) ?_ h1 hA e1 M1 (m0.trans m1);simp[jC,lS,j,C,P,T,hx,h2,hl,hb,hr]
 ·refine hp 16 ?_ h1 (m0.trans m1);simp[jC,lS,j,C,P,T,hx,h2,hl,hb,hr]
end
end
def OA:∀ {f:Nat} {xs:List Int} {l:List (Int × List Int)},Bytes xs->pz f xs=U l->∀ p ∈ l,(0<=p.1/\p.1<=64/\(L p.2:Int)=p.1)∨(129<=p.1/\p.1<=139/\p.2=[])
 | f,[],l,_,h=>by cases f <;> (simp[pz]at h;grind)
 | 0,_::_,l,_,h=>by simp[pz]at h
 | f+1,c::r,l,C,h=>by
  have hc:=C c jA;simp only[pz]at h;split at h
  ·rename_i T;rw[au]at h;obtain⟨l',h1,rfl⟩:=h;intro p j;rcases ar.1 j with rfl | j
   ·grind
   ·exact OA (fun z P=>C z (aR _ (d6 P))) h1 p j
  ·split at h
   ·cases h
   ·rename_i T;rw[au]at h;obtain⟨l',h1,rfl⟩:=h;intro p j;rcases ar.1 j with rfl | j
    ·grind
    ·exact OA (fun z P=>C z (aR _ P)) h1 p j
def Cj{st:List (List Int)}{z:Int}(h:lS x st=.error z):z=16:=by
 unfold lS at h
 grind
def Udo{y:List Int}{st:List (List Int)}{z:Int}(h:(lS x st).bind (lS y)=.error z):z=16:=by
 cases j:lS x st with
 | error w=>rw[j]at h;cases h;exact Cj j
 | ok s=>rw[j]at h;exact Cj h
def Uw0{a:jv}{code:Int}{data:List Int}{st:List (List Int)}{z:Int}(h:jC a code data st=.error z):z=16∨z=18:=by
 unfold jC at h;split at h
 ·split at h
  ·exact .inl (Udo h)
  grind
 split at h
 ·grind
 split at h
 ·split at h
  ·exact .inl (Cj h)
  grind
 split at h
 ·split at h
  ·exact .inl (Cj h)
  grind
 split at h
 ·grind
 split at h
 ·split at h
  ·split at h
   ·exact .inl (Cj h)
   grind
  grind
 split at h
 ·grind
 split at h
 ·split at h
  ·exact .inl (Udo h)
  grind
 ·exact .inl (Cj h)
def Umc{b:Nat}{h:N}{MB:Nat->Prop}{μ:Nat}{e:iu}{seed:List Nat}{a:jv}{ps:List (V × List Int)}{on had:List Bool}{dv:V}{data:List Int}{code:Int}(A:oz h MB μ e seed a ps on had dv data)(hc:code<=64∨(129<=code/\code<=135)∨code=139)(K:KP)(T:yy h MB μ e a ps on had code data K) :
  FK b 135 [pO μ 0,.agg ⟨[I X code,dv]⟩] h K:=by
 by_cases hA:code<=64
 ·exact Uxr A hA K T
 have C:∀ c:Int,c=code->L ps < qY c->jC a c data (ps.map (·.2))=.error 16->FK b 135 [pO μ 0,.agg ⟨[I X code,dv]⟩] h K:=fun c q1 q2 q3=>by
  subst q1;exact U5m A q2 K fun h' m=>T.2 16 q3 h' m
 by_cases hx:code=129
 ·subst hx;cases j:ps with
  | nil=>exact C 129 rfl (by rw[j];decide) (by rw[j];rfl)
  | cons p pr=>exact U77 A j K T
 by_cases h2:code=130
 ·subst h2;cases j:ps with
  | nil=>exact C 130 rfl (by rw[j];decide) (by rw[j];rfl)
  | cons p pr=>exact U1o A j K T
 by_cases hk:code=131
 ·subst hk;cases j:ps with
  | nil=>exact C 131 rfl (by rw[j];decide) (by rw[j];rfl)
  | cons p pr=>exact Uy4 A j K T
 by_cases hb:code=133
 ·subst hb;cases j:ps with
  | nil=>exact C 133 rfl (by rw[j];decide) (by rw[j];rfl)
  | cons p pr=>exact Uoh A j K T
 by_cases h3:code=135
 ·subst h3;cases j:ps with
  | nil=>exact C 135 rfl (by rw[j];decide) (by rw[j];rfl)
  | cons p pr=>exact Urh A j K T
 by_cases hp:code=139
 ·subst hp;cases j:ps with
  | nil=>exact C 139 rfl (by rw[j];decide) (by rw[j];rfl)
  | cons p pr=>exact Uxm A j K T
 by_cases hl:code=132
 ·subst hl;cases j:ps with
  | nil=>exact C 132 rfl (by rw[j];decide) (by rw[j];rfl)
  | cons p pr =>
   cases P:pr with
   | nil=>exact C 132 rfl (by rw[j,P];simp[qY]) (by rw[j,P];rfl)
   | cons q pq=>exact Us2 A (by rw[j,P]) K T
 by_cases hr:code=134
 ·subst hr;cases j:ps with
  | nil=>exact C 134 rfl (by rw[j];decide) (by rw[j];rfl)
  | cons p pr =>
   cases P:pr with
   | nil=>exact C 134 rfl (by rw[j,P];simp[qY]) (by rw[j,P];rfl)
   | cons q pq=>exact Uzo A (by rw[j,P]) K T
 omega
def xg:List Bool->List Bool->List Br->Prop
 | [],[],[]=>True
 | x::o,y::d,k::l=>k.turned=y/\k.dead=(!(o.all id))/\k.off=(k.dead || !x)/\xg o d l
 | _,_,_=>False
def xg.len:∀ {on had:List Bool} {op:List Br},xg on had op->L op=L on/\L had=L on
 | [],[],[],_=>⟨rfl,rfl⟩
 | _::o,_::d,_::l,h=>by
  have:=xg.len h.2.2.2
  grind
def xg.off{on had:List Bool}{op:List Br}(r:xg on had op):vf op = !(on.all id):=by
 match on,had,op,r with
 | [],[],[],_=>rfl
 | x::o,y::d,k::l,r =>
  show k.off=_;rw[r.2.2.1,r.2.1,List.all_cons]
  grind
def U5o{code:Int}(hc:code=136∨code=137∨code=138){on had:List Bool}{op:List Br}(r:xg on had op)(st:List (List Int)) :
  (kx code st op=U O/\sq code st on had=.error 16) ∨ ∃ h2 hx T C,kx code st op=U (U (h2,hx))/\sq code st on had=.ok (h2,T,C)/\xg T C hx/\L T<=L on+1:=by
 rcases hc with rfl | hc
 ·have ho:=r.off;cases j:on.all id with
  | false =>
   rw[j]at ho;exact .inr ⟨st,⟨Y,Y,J⟩::op,Y::on,J::had,by simp[kx,ho],by simp[sq,j],⟨rfl,by grind,rfl,r⟩,jA⟩
  | true =>
   rw[j]at ho;cases st with
   | nil=>exact .inl ⟨by simp[kx,ho],by simp only[sq,j];rfl⟩
   | cons x s=>exact .inr ⟨s,⟨!kS x,J,J⟩::op,kS x::on,J::had,by simp[kx,ho],by simp only[sq,j];rfl,⟨rfl,by grind,jA,r⟩,jA⟩
 ·have P:¬ code=136:=iA
  match on,had,op,r with
  | [],[],[],_=>exact .inl ⟨by simp[kx,P,hc],by simp[sq,P]⟩
  | x::o,y::d,k::l,r =>
   obtain⟨r1,r2,r3,r4⟩:=r;rcases hc with rfl | rfl
   ·cases y with
    | true=>exact .inl ⟨by simp[kx,r1],by simp[sq]⟩
    | false =>
     refine .inr ⟨st,⟨k.dead || !k.off,k.dead,Y⟩::l,(!x)::o,Y::d,by simp[kx,r1],by simp[sq],⟨rfl,r2,?_,r4⟩,jA⟩
     grind
   ·exact .inr ⟨st,l,o,d,by simp[kx],by simp[sq],r4,by simp;omega⟩
def Unz:∀ (l st:List (List Int)),(∀ x ∈ l,L x<=64)->L st+L l<=16->rC l st=.ok (l.reverse++st)
 | [],st,_,_=>rfl
 | x::l,st,h1,j=>by
  simp at j;have q:lS x st=.ok (x::st):=by unfold lS;grind
  rw[rC,if_pos (h1 x jA),q];show rC l (x::st)=_;rw[Unz l (x::st) (fun y C=>h1 y (by simp[C])) (by simp;omega)];simp
def Nh:∀ (l st:List (List Int)),L st<=16->((∃ x ∈ l,64 < L x)∨16 < L st+L l)->rC l st=.error 16
 | [],st,hs,h=>by
  grind
 | x::l,st,hs,h=>by
  rw[rC];by_cases C:L x<=64
  ·rw[if_pos C];unfold lS;by_cases j:L st < 16
   ·rw[if_pos j];show rC l (x::st)=_;refine Nh l (x::st) (by simp;omega) ?_
    grind
   ·rw[if_neg j];rfl
  grind
def U0t{l:List V}(j:L l=34)(o:V)(n1:mg o=Y)(c1:o.cells = #[o]):jP (E b).tojo 215 [(0,.agg ⟨l⟩),(1,o)]=U (.agg ⟨l ++ [o,M O 0 0,M O 0 0]⟩):=by
 have e:jP (E b).tojo 215 [(0,.agg ⟨l⟩),(1,o)]=(oQ (iD [(0,34),(34,1),(35,1),(36,1)]) ((.pointer O::List.replicate 32 zU) ++ [I X 0,M O 0 0,M O 0 0,M O 0 0]) [(0,.agg ⟨l⟩),(1,o)]).map fun c => .agg c.toArray:=kR
 rw[e];have hc:(Value.agg ⟨l⟩).cells.toList=l:=rfl;have hs:(Value.agg ⟨l⟩).cells.size=34:=j;have hz:L ((.pointer O::List.replicate 32 zU) ++ [I X 0,M O 0 0,M O 0 0,M O 0 0]:List V)=37:=jA
 have hp:kZ ((.pointer O::List.replicate 32 zU) ++ [I X 0,M O 0 0,M O 0 0,M O 0 0]:List V) 0 l=U (l ++ [M O 0 0,M O 0 0,M O 0 0]):=by
  rw[q_ iA,j];rfl
 have hb:(mg (.agg ⟨l⟩) && (Value.agg ⟨l⟩).cells.size == 34 && Nat.ble (0+34) (L ((.pointer O::List.replicate 32 zU) ++ [I X 0,M O 0 0,M O 0 0,M O 0 0]:List V)))=Y:=by
  rw[hs,hz];rfl
 have hx:L (l ++ [M O 0 0,M O 0 0,M O 0 0]:List V)=37:=by simp[j]
 have T:kZ (l ++ [M O 0 0,M O 0 0,M O 0 0]:List V) 34 [o]=U (l ++ [o,M O 0 0,M O 0 0]):=by
  rw[q_ (by grind),fK j,cJ,fE,j];simp[j]
 have P:o.cells.toList=[o]:=by rw[c1]
 have C:(mg o && o.cells.size == 1 && Nat.ble (34+1) (L (l ++ [M O 0 0,M O 0 0,M O 0 0]:List V)))=Y:=by
  simp_all
 simp only[oQ,iD,hb,if_true,hc,hp,C,P,T];rfl
def RRI(a:jv)(l:List (Int × List Int))(j:List (List Int))(P:V)(os:List mr)(e:iu)(seed:List Nat)(C:N)(μ:Nat)(k:Nat)(s:St):Prop:=∃ (t:Tr V) (h1:N) (MB:Nat->Prop) (ps:List (V × List Int)) (on had:List Bool) (op:List Br) (i:Nat),s=⟨⟨104,t⟩,[],h1⟩/\t.A 7=U P/\t.A 10=U (pO μ 0)/\t.A 11=U (I X (i:Int))/\i<=L os/\k=L os-i /\
 jj h1 MB μ e ps on had/\xg on had op/\a_ C h1/\(∀ c,MB c->C.Q<=c)/\Bd (ps.map (·.2))/\L on<=i/\qZ a l j []=qZ a (l.drop i) (ps.map (·.2)) op
def LLI(sv:V)(items:List (V × List Int))(C j:V)(h:N)(k:Nat)(s:St):Prop:=∃ (t:Tr V) (i:Nat),s=⟨⟨104,t⟩,[],h⟩/\t.A 1=U sv/\t.A 7=U C/\t.A 5=U j/\t.A 9=U (I X (i:Int))/\i<=L items/\k=L items-i/\∀ p ∈ items.take i,L p.2<=64
structure Fr (h:N) (e:iu) (seed:List Nat) (a:jv):Prop where
 nota:∃ ν z ow v,e.nk=pO ν 0/\h.A ν=U (.cells ow z [v])/\SN h v seed
 dg:e.dig=a.dg.map dk
 lk:e.lk=a.lk
 ks:a.ks=jI seed 32 1
 sl:L seed < 100000000
 bs:∀ x ∈ seed,x < 256
 bd:∀ x ∈ a.dg,x < 256
def Fr.mb{e:iu}{seed:List Nat}{a:jv}(w:Fr h e seed a)(o:a_ h h')(hm:∀ c,MB c->h.Q<=c):Bw h' MB e seed a:=by
 obtain⟨ν,z,ow,v,P,j,C⟩:=w.nota;have hl:=N.D j;exact⟨⟨ν,z,ow,v,P,o.A j,C.R o,fun q=>by grind,fun c T q=>by have:=hm c q;have:=C.blk T;omega⟩,w.dg,w.lk,w.ks,w.sl,w.bs,w.bd⟩
def U3u{code:Int}(hc:code=136∨code=137∨code=138){h:N}{MB:Nat->Prop}{μ:Nat}{e:iu}{a:jv}{ps:List (V × List Int)}{on had:List Bool}{op:List Br}(M_:jj h MB μ e ps on had)(R:xg on had op)(hn:L on < 900)(hp:L ps < 900)(hi:∀ p ∈ ps,L p.2 < 1000000000)(data:List Int)(K:KP)(hy:nF a code data (ps.map (·.2)) op=.error 16->K (.ret (I X 16)) h)(hk:∀ T hb hx C h2 h',jj h' T μ e hb hx C->xg hx C h2->Mv MB T h h'->L hx<=L on+1->nF a code data (ps.map (·.2)) op=.ok (hb.map (·.2),h2)->K (.ret (I X 0)) h') :
  FK b 133 [pO μ 0,I X code] h K:=by
 have hl:=R.len;have hr:FK b 133 [pO μ 0,I X code] h K:=by
  rcases U5o hc R (ps.map (·.2))with⟨f1,f2⟩ | ⟨ho,h2,hx,C,f1,f2,f3,f4⟩
  ·have hs:nF a code data (ps.map (·.2)) op=.error 16:=by simp[nF,f1]
   by_cases j:code=136
   ·subst j;exact U2w b M_ hn iA hp hi K (fun _=>hy hs) (fun hA h3 P q=>by grind)
   ·exact Uo4 b M_ hn iA K iA (fun _=>hy hs) (fun hA h3 P q=>by grind)
  ·have hs:nF a code data (ps.map (·.2)) op=.ok (ho,h2):=by simp[nF,f1]
   by_cases j:code=136
   ·subst j;refine U2w b M_ hn iA hp hi K (fun q=>by grind) (fun hA h3 P q h' T hb e1 M' m' => ?_)
    grind
   ·refine Uo4 b M_ hn iA K iA (fun q=>by grind) (fun hA h3 P q h' T hb e1 M' m' => ?_)
    grind
 exact hr
section
attribute [local simp] Qan Qck Vs Vg Jg Qav Wv Zh Z8 Ww Q1e Jj U3 Aw Qab V0 Qa2 Uv Zj Dk C5 Zk Qsq Y4 Ya Vb U1 Xb Yr Yy Qa3 Uw U0
def U45{v sv:V}{xs:List Int}{items:List (V × List Int)}{e:iu}{seed:List Nat}{a:jv}(s:SB h v xs)(hb:Bytes xs)(hx:L xs < 1000000)(ss:Sl h 1 sv (L items) (items.map (·.1)))(hn:L items < 5864062014805)(its:km h items)(hi:∀ p ∈ items,L p.2 < 1000000)(wo:Fr h e seed a)(K:KP)(hk:∀ h',a_ h h'->K (.ret (I X (mw a xs (items.map (·.2))))) h'):FK b 91 [v,sv,.agg ⟨e.cells⟩] h K:=by
 refine ip b (Vs b) Vne rfl ?_;obtain⟨hA,eA,aA,gA⟩:=kQ h e.cells;have bx:=kE eA;have e1:∀ hx,iC (E b).tojo 94 sv hx=U (I X (L items:Int)):=fun hx=>iT (kB b) ss;simp[bx];refine Uj4 b (s.R aA) hb hx _ (fun ev h3 a3 => ?_) (fun l g1 g2 g3 lv os h3 q3 hf a3 => ?_)
 ·simp;have : mw a xs (items.map (·.2))=16:=by
   rcases ev with q | q | ⟨l',q,q'⟩
   ·simp[mw,q]
   ·unfold mw
    grind
   ·unfold mw
    grind
  rw[this]at hk;exact hk h3 (aA.trans a3)
 have hF:mw a xs (items.map (·.2))=Ap a l (items.map (·.2)):=by
  unfold mw
  grind
 have hy:=aA.trans a3;by_cases g4:L items<=16
 case neg =>
  have v':(16:Int) < (L items:Int):=iA
  simp[e1,v'];have : mw a xs (items.map (·.2))=16:=by
   rw[hF,Ap,Nh _ _ jA (.inr (by simp;omega))]
  grind
 have v':¬ (16:Int) < (L items:Int):=iA
 simp[e1,v'];refine iV (LLI sv items lv (pO h.Q 0) h3) (L items) ⟨_,0,rfl,jA,jA,jA,jA,iA,rfl,jA⟩ ?_;rintro k s' ⟨t,i,rfl,t1,t7,t5,t9,M1,rfl,p1⟩ _;by_cases w1:i < L items
 ·have j:(i:Int) < (L items:Int):=iA
  obtain⟨p,hu⟩:∃ p,items[i]? = U p:=⟨_,ac w1⟩;obtain⟨bk,off,q1,q2,a0, -⟩:=mQ (kB b) oT (ss.R hy) (k:=.i64) (i:=(i:Int)) iA iA;have q4:Zq h3 bk off=U p.1:=by
   grind
  have len:=fun hx=>j_ (b:=b) (h1:=hx) (its p (ae hu)).1;have hw:=wS (i:=i) iA;by_cases i1:L p.2<=64
  ·have a1:¬ (64:Int) < (L p.2:Int):=iA
   simp[t1,t7,t5,t9,e1,j,q2,q4,len,a1,hw];refine⟨L items-(i+1),iA,_,i+1,rfl,by simp[t1],by simp[t7],by simp[t5],jA,iA,rfl,fun q hq => ?_⟩;rw[aT,hu]at hq
   grind
  ·have a1:(64:Int) < (L p.2:Int):=iA
   simp[t1,t7,t5,t9,e1,j,q2,q4,len,a1];have : mw a xs (items.map (·.2))=16:=by
    rw[hF,Ap,Nh _ _ jA (.inl ⟨p.2,am.2 ⟨p,ae hu,rfl⟩,iA⟩)]
   grind
 have j:¬ (i:Int) < (L items:Int):=iA
 have f1:i=L items:=iA
 rw[f1,bH]at p1;have hm:mw a xs (items.map (·.2))=zj (qZ a l (items.map (·.2)).reverse []):=by
  rw[hF,Ap,Unz _ _ (fun x hx=>by grind) (by simp;omega)];simp
 simp[t1,t7,t5,t9,e1,j];obtain⟨_,h4,c1,n1,o,out,rfl,oo,eo,io,fo,a4⟩:=Se b (ss.R hy) iA (its.R hy) (fun p hp=>by grind) (fun r h' => ∃ o out,r=.ret o/\ij h' h3.Q 1 o (L items) (out.map (·.1))/\out.map (·.2)=items.map (·.2)/\km h' out/\(∀ p ∈ out,∀ c,J7 p.1=U c->h3.Q<=c/\J7 o≠U c)/\a_ h3 h') (fun o out h' q1 q2 q3 q4 q5 _=>⟨o,out,rfl,q1,q2,q3,q4,q5⟩);have lo:L out=L items:=by have:=congrArg List.length eo;grind
 have ch:iy h3 h.Q 0 34=U (.agg ⟨e.cells⟩):=nZ (a3.A gA) (by rw[e.len];omega) (by rw[e.len];omega);have bu:jP (E b).tojo 215 [(0,.agg ⟨e.cells⟩),(1,o)]=U (.agg ⟨e.cells ++ [o,M O 0 0,M O 0 0]⟩):=by
  obtain⟨n1,c1⟩:=xS oo.one;exact U0t b e.len o n1 c1
 obtain⟨hM,eM⟩:∃ hM,hM=h4.push (S Y 1 (e.cells ++ [o,M O 0 0,M O 0 0])):=⟨_,rfl⟩;have p3:=kE eM;have aM:=jG eM;have gM:hM.A h4.Q=U (S Y 1 (e.cells ++ [o,M O 0 0,M O 0 0])):=by rw[eM,N.F,if_pos rfl]
 have lM:=N.D gM;refine jf [⟨114,[sv],h3,o,h4,Y⟩] ?_ TM.1 (by simp[TM.2,Jxs,t1,t5,ch,bu,p3];first | exact⟨rfl,rfl⟩ | rfl) ?_ ?_
 ·exact nK ⟨c1,n1,fun _ c hc=>a4.2 c hc⟩
 ·simp[Rr]
 simp;have m1:=a4.trans aM;have hr:∀ hx,iC (E b).tojo 209 lv hx=U (I X (L os:Int)):=fun h=>iT (Al b) hf.row.sl;have fb:L os<=64:=by rw[<- zO os,q3];exact g3
 have M0:jj hM (fun c=>c=h4.Q) h4.Q e out.reverse [] []:=by
  refine⟨o,M O 0 0,M O 0 0,1,gM,rfl,?_,ij.nil,ij.nil,fun c hc q => ?_,fun c hc=>by simp[J7]at hc,fun c hc=>by simp[J7]at hc,fun p hp => ?_,fun c hc=>by omega⟩
  ·have:=oo.sl.R aM
   grind
  ·have:=oo.sl.blk hc;omega
  ·have r2:p ∈ out:=by grind
   refine⟨(io p r2).1.R aM,(io p r2).2,fun c hc q => ?_⟩;have:=(io p r2).1.blk hc;omega
 have e0:out.reverse.map (·.2)=(items.map (·.2)).reverse:=by rw[List.map_reverse,eo]
 refine iV (RRI a l (items.map (·.2)).reverse lv os e seed h3 h4.Q) (L os) ⟨_,hM,fun c=>c=h4.Q,out.reverse,[],[],[],0,rfl,by simp[t7],jA,jA,iA,rfl,M0,trivial,m1,fun c hc=>by omega,?_,jA,by grind⟩ ?_
 ·refine⟨by simp;omega,fun x hx => ?_⟩
  grind
 rintro k s' ⟨t,h5,MB,ps,on,had,op,i,rfl,t7,t10,C,M1,rfl,M5,R5,a5,e2,M',u1,hS⟩ _;have w5:Bw h5 MB e seed a:=Fr.mb wo (hy.trans a5) fun c hc=>ao hy.1 (e2 c hc);have so:=R5.len;have m0:L ps<=16:=by simpa using M'.1
 have n2:∀ p ∈ ps,L p.2<=64:=fun q hq=>M'.2 q.2 (am.2 ⟨q,hq,rfl⟩);have re:∀ p ∈ ps,L p.2 < 1000000000:=fun q hq=>by grind
 by_cases w1:i < L os
 ·have j:(i:Int) < (L os:Int):=iA
  obtain⟨p,hu⟩:∃ p,os[i]? = U p:=⟨_,ac w1⟩;have t4:l[i]? = U (p.code,p.data):=by
   rw[<- q3,sV,b7,hu];rfl
  have f2:l.drop i=(p.code,p.data)::l.drop (i+1):=by
   obtain⟨e4,h8⟩:=av.1 t4;rw[bh e4,h8]
  have c2:L p.data<=64:=It g2 (p.code,p.data) (ae t4);have o2:=OA hb g2 (p.code,p.data) (ae t4);simp only at o2;have hD:Bytes p.data:=KR hb g2 (p.code,p.data) (ae t4);have od:=(hf.R a5).data p (ae hu);obtain⟨bk,off,x1,x2⟩:=U20 (b:=b) (Al b) z6 (hf.R a5).row hu;obtain⟨M2,si, -,y1,y2,y3⟩:=U21 (b:=b) (Al b) z6 (hf.R a5).row hu;rw[x1]at y1;cases y1;have hw:=wS (i:=i) iA;rw[f2]at hS;by_cases o1:p.code=136∨p.code=137∨p.code=138
  ·have b1:136<=p.code:=iA
   have b2:p.code<=138:=iA
   simp[t7,t10,C,hr,j,x1,y2,b1,b2];refine U3u b o1 (a:=a) M5 R5 iA iA re p.data _ (fun q => ?_) (fun s2 he kp aB h7 h6 M6 R6 m6 l6 q => ?_)
   ·simp[t7,t10,C];have : mw a xs (items.map (·.2))=16:=by
     rw[hm,hS];simp only[qZ,q,Except.bind,zj]
    rw[this]at hk;exact hk h5 (hy.trans a5)
   ·obtain⟨a6,hg⟩:=i9 a5 e2 m6;have r1:=(Ulo q M' c2).1;simp[t7,t10,C,hw];refine⟨L os-(i+1),iA,_,h6,s2,he,kp,aB,h7,i+1,rfl,by simp[t7],by simp[t10],jA,iA,rfl,M6,R6,a6,hg,r1,iA,?_⟩;rw[hS];simp only[qZ,q,Except.bind]
  have hl:kx p.code (ps.map (·.2)) op=O:=by
   unfold kx
   grind
  have ha:p.code<=64∨(129<=p.code/\p.code<=135)∨p.code=139:=iA
  have A5:oz h5 MB h4.Q e seed a ps on had p.val p.data:=⟨M5,w5,m0,n2,od.sl,hD,fun c hc q=>by
   have:=(hf.data p (ae hu)).out hc
   grind⟩
  have ht:=M5;obtain⟨c0,hC,gB,z5,r5⟩:=ht;have T:∀ hx,iC (E b).tojo 213 hC hx=U (I X (L on:Int)):=fun hx=>iT (vY b) r5.on.sl;by_cases b1:136<=p.code
  ·have b2:¬ p.code<=138:=iA
   simp[t7,t10,C,hr,j,x1,y2,ju,r5.c35,T,b1,b2];refine N9 b M5 iA _ ?_;cases h2:on.all id with
   | false =>
    have ho:vf op=Y:=(by rw[R5.off,h2];rfl);have P:nF a p.code p.data (ps.map (·.2)) op=.ok (ps.map (·.2),op):=by simp[nF,hl,ho]
    simp[t7,t10,C,hw];refine⟨L os-(i+1),iA,_,h5,MB,ps,on,had,op,i+1,rfl,by simp[t7],by simp[t10],jA,iA,rfl,M5,R5,a5,e2,M',iA,?_⟩;rw[hS];simp only[qZ,P,Except.bind]
   | true =>
    have ho:vf op=J:=(by rw[R5.off,h2];rfl);have P:nF a p.code p.data (ps.map (·.2)) op=(jC a p.code p.data (ps.map (·.2))).map fun s1=>(s1,op):=by simp[nF,hl,ho]
    simp[t7,t10,C,x1,x2];refine Umc A5 ha _ ⟨fun s1 q h6 he e6 M6 m6 => ?_,fun z q h6 m6 => ?_⟩
    ·obtain⟨a6,hg⟩:=i9 a5 e2 m6;have r1:Bd s1:=Od q M' c2;simp[t7,t10,C,hw];refine⟨L os-(i+1),iA,_,h6,MB,he,on,had,op,i+1,rfl,by simp[t7],by simp[t10],jA,iA,rfl,M6,R5,a6,hg,by grind,iA,?_⟩;rw[hS];rw[q]at P;simp only[qZ,P,Except.map,Except.bind,e6]
    ·obtain⟨a6,hg⟩:=i9 a5 e2 m6;have hz:z=16∨z=18:=Uw0 q;have hj:¬ z=0:=iA;simp[t7,t10,C,hj];have : mw a xs (items.map (·.2))=z:=by
      rw[q]at P;rw[hm,hS];simp only[qZ,P,Except.map,Except.bind,zj]
     rw[this]at hk;exact hk h6 (hy.trans a6)
  ·skip
   simp[t7,t10,C,hr,j,x1,y2,ju,r5.c35,T,b1];refine N9 b M5 iA _ ?_;cases h2:on.all id with
   | false =>
    have ho:vf op=Y:=(by rw[R5.off,h2];rfl);have P:nF a p.code p.data (ps.map (·.2)) op=.ok (ps.map (·.2),op):=by simp[nF,hl,ho]
    simp[t7,t10,C,hw];refine⟨L os-(i+1),iA,_,h5,MB,ps,on,had,op,i+1,rfl,by simp[t7],by simp[t10],jA,iA,rfl,M5,R5,a5,e2,M',iA,?_⟩;rw[hS];simp only[qZ,P,Except.bind]
   | true =>
    have ho:vf op=J:=(by rw[R5.off,h2];rfl);have P:nF a p.code p.data (ps.map (·.2)) op=(jC a p.code p.data (ps.map (·.2))).map fun s1=>(s1,op):=by simp[nF,hl,ho]
    simp[t7,t10,C,x1,x2];refine Umc A5 ha _ ⟨fun s1 q h6 he e6 M6 m6 => ?_,fun z q h6 m6 => ?_⟩
    ·obtain⟨a6,hg⟩:=i9 a5 e2 m6;have r1:Bd s1:=Od q M' c2;simp[t7,t10,C,hw];refine⟨L os-(i+1),iA,_,h6,MB,he,on,had,op,i+1,rfl,by simp[t7],by simp[t10],jA,iA,rfl,M6,R5,a6,hg,by grind,iA,?_⟩;rw[hS];rw[q]at P;simp only[qZ,P,Except.map,Except.bind,e6]
    ·obtain⟨a6,hg⟩:=i9 a5 e2 m6;have hz:z=16∨z=18:=Uw0 q;have hj:¬ z=0:=iA;simp[t7,t10,C,hj];have : mw a xs (items.map (·.2))=z:=by
      rw[q]at P;rw[hm,hS];simp only[qZ,P,Except.map,Except.bind,zj]
     rw[this]at hk;exact hk h6 (hy.trans a6)
 ·have j:¬ (i:Int) < (L os:Int):=iA
  have g':i=L l:=by
   have : L l=L os:=by rw[<- q3,zO]
   omega
  rw[g',cL]at hS;simp only[qZ]at hS;have e3:mw a xs (items.map (·.2))=if L on=0/\L ps=1/\kS ((ps.map (·.2)).getD 0 [])=Y then 0 else 16:=by
   rw[hm,hS];simp only[zj,bo,so.1]
  have ht:=M5;obtain⟨c0,hC,gB,z5,r5⟩:=ht;have T:∀ hx,iC (E b).tojo 213 hC hx=U (I X (L on:Int)):=fun hx=>iT (vY b) r5.on.sl;have a2:∀ hx,iC (E b).tojo 94 c0 hx=U (I X (L ps:Int)):=fun hx=>iT (kB b) r5.st;by_cases ho:L on=0
  ·rw[ho]at T;have hB:∀ hx,iC (E b).tojo 213 hC hx=U (I X 0):=T;by_cases p2:L ps=1
   ·rw[p2]at a2;have es:∀ hx,iC (E b).tojo 94 c0 hx=U (I X 1):=a2;obtain⟨q,rfl⟩:∃ q,ps=[q]:=by
     match ps,p2 with
     | [q],_=>exact⟨q,rfl⟩
    simp[t7,t10,C,hr,j,ju,r5.c35,r5.c34,hB,es];refine uk b M5 (n:=0) (p:=q) rfl jA _ ?_;simp;refine Nv b (r5.its q jA).1 (re q jA) _ ?_;simp;refine xV b _ h5 _ ?_;simp;have : mw a xs (items.map (·.2))=xB (kS q.2):=by
     rw[e3];simp[ho,xB]
    rw[this]at hk;exact hk h5 (hy.trans a5)
   ·have eB:¬ (L ps:Int)=1:=iA
    simp[t7,t10,C,hr,j,ju,r5.c35,r5.c34,hB,a2,eB];refine xV b _ h5 _ ?_;simp;have : mw a xs (items.map (·.2))=xB J:=by
     rw[e3];simp[p2,xB]
    rw[this]at hk;exact hk h5 (hy.trans a5)
  ·have hL:¬ (L on:Int)=0:=iA
   have w2:¬ on=[]:=by intro q;rw[q]at ho;exact ho rfl
   simp[t7,t10,C,hr,j,ju,r5.c35,r5.c34,T,hL,ho,w2];refine xV b _ h5 _ ?_;simp;have : mw a xs (items.map (·.2))=xB J:=by
    rw[e3];simp[ho,xB]
   rw[this]at hk;exact hk h5 (hy.trans a5)
end
end Go.Proofs.YtmgonkaadhbnpaaGreatDoor
end
