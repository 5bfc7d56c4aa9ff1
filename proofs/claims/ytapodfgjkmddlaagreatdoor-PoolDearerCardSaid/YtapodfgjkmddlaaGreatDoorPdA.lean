import Derived.Test.YtapodfgjkmddlaaGreatDoorLuL
set_option linter.all false
noncomputable section
namespace Go.Proofs.YtapodfgjkmddlaaGreatDoor
open Go Go.Ab
set_option maxRecDepth 100000
def Jf4{h:Heap}{n0 z n:Nat}{v:Value}{xs:List Value}(o:Own h n0 z v n xs){bk i:Nat}(hb:J4 v=some bk)(ys:List Value)(hi:i+ys.length<=xs.length) :
  ∃ h',Ur h bk i ys=some h'/\Own h' n0 z v n (xs.take i++ys++xs.drop (i+ys.length))/\h'.next=h.next/\∀ c,c≠bk->h'.get c=h.get c:=by
 rcases o with⟨rfl,rfl,rfl⟩ | ⟨bk',c,z',rest,rfl,h1,h2,h3,h4,h5,h6⟩
 ·cases hb
 ·simp only[J4,ar]at hb;subst hb;have hlt:=Heap.get_lt h2;have e:(xs++rest).take i++ys++(xs++rest).drop (i+ys.length)=(xs.take i++ys++xs.drop (i+ys.length))++rest:=by
   rw[aF (by omega),List.drop_append_of_le_length hi];simp only[aM]
  have l:(xs.take i++ys++xs.drop (i+ys.length)).length=xs.length:=by simp;omega
  refine⟨_,Wh h2 (by simp;omega),.inr ⟨bk',c,z',rest,rfl,h1,by rw[gY hlt,if_pos rfl,e],by rw[l];exact h3,h4,h5,?_⟩,rfl,fun k hk=>by rw[gY hlt,if_neg (Ne.symm hk)]⟩;rcases h6 with q | ⟨q1,q2⟩
  ·exact .inl q
  ·exact .inr ⟨q1,by rw[ae,l,<- ae];exact q2⟩
section
variable{P:Program}{E:Env P}{te ts:TypeId}{re rs:TyRec}(T:SlTy E te ts re rs)
include T
theorem Jj9{h:Heap}{n0 z n:Nat}{v:Value}{xs:List Value}{k:IntKind}{i:Nat}(hz:re.size=z)(hz1:1<=z)(o:Own h n0 z v n xs)(hi:i < n) :
  ∃ bk c',J4 v=some bk/\Qes E ts v (some (.int k (i:Int))) none none h=some (.slice (some ⟨bk,i*z,none⟩) (n-i) c',h):=by
 rcases o with⟨rfl,h0,rfl⟩ | ⟨bk,c,z',rest,rfl,h1,h2,h3,h4,h5,h6⟩
 ·omega
 have e00:((none:Option Value).isNone && (none:Option Value).isSome)=false:=rfl;have blo:Qhl (some (.int k (i:Int))) 0 n=some i:=by rw[Yi7 (by omega) (by omega)];simp
 have bhi:∀ room,Qhl (none:Option Value) n room=some n:=fun _=>rfl;by_cases hc:c=Ql9
 ·subst hc;have hz':z'=z:=by
   rcases h6 with q | q
   ·exact q.2
   ·exact absurd rfl q.1
  subst hz';have e0:(Ql9 != Ql9)=false:=by simp
  have e1:(z' == re.size && 0 % z' == 0 && Nat.ble 1 z')=true:=by simp[hz,Xhw hz1]
  have q1:Qes E ts (.slice (some ⟨bk,0,none⟩) n Ql9) (some (.int k (i:Int))) none none h=Qes.aCut ⟨bk,0,none⟩ z' (xs++rest).length i n h:=by
   simp only[Qes,e00,av,if_false,T.s,T.d,T.e,e0,h2,e1,if_true,bhi,blo]
  by_cases hi0:i=0
  ·subst hi0;exact⟨bk,Ql9,rfl,by rw[q1];simp[Qes.aCut]⟩
  ·have hl0:(i == 0)=false:=by simpa using hi0
   have hb:i*z' < (xs++rest).length:=by
    have : (i+1)*z'<=n*z':=bC _ hi;rw[bF]at this;rw[ae];omega
   have hb':Nat.blt (i*z') (xs++rest).length=true:=by rw[cu];exact hb
   refine⟨bk,Ql9,rfl,?_⟩;rw[q1];simp only[Qes.aCut,hl0,av,if_false,ba,hb',if_true,Qq7]
 ·have e0:(c != Ql9)=true:=by simpa using hc
  have e1:(c-i == Ql9)=false:=by simp;omega
  have e2:Qhl (none:Option Value) c c=some c:=rfl;refine⟨bk,c-i,rfl,?_⟩;simp only[Qes,e00,av,if_false,T.s,T.d,T.e,e0,if_true,e2,bhi,blo,Jkm,e1];have hci:¬ c=i:=by omega
  simp[hci,Qq7,hz]
theorem Jd2{h:Heap}{n0 z n:Nat}{v:Value}{xs:List Value}{i c' bk:Nat}(hz:re.size=z)(hz1:1<=z)(o:Own h n0 z v n xs)(hb:J4 v=some bk)(hi:i < n) :
  ∃ h' zs,Yf0 E ts (.slice (some ⟨bk,i*z,none⟩) (n-i) c') h=some (.tuple #[],h')/\Own h' n0 z v n (xs.take (i*z)++zs)/\h'.next=h.next/\∀ c,c≠bk->h'.get c=h.get c:=by
 have lx:=o.len;obtain⟨-, -, -, -, -, -, -, -,hzc, -⟩:=E.tyok _ _ T.e;have lz:∀ m,(Qc2 re.zero.cells.toList m).length=m*z:=fun m=>by
  induction m with
  | zero=>simp[Qc2]
  | succ m ih=>simp[Qc2,hzc,hz,ih,bF];omega
 obtain⟨m,hm⟩:∃ m,n-i=m+1:=⟨n-i-1,by omega⟩;have lm:(m+1)*z=n*z-i*z:=by rw[<- hm,eu]
 have li:(i+1)*z<=n*z:=bC _ hi;rw[bF]at li;obtain⟨h',s1,s2,s3,s4⟩:=Jf4 o hb (Qc2 re.zero.cells.toList (m+1)) (i:=i*z) (by rw[lz,lx];omega);refine⟨h',Qc2 re.zero.cells.toList (m+1),?_,?_,s3,s4⟩
 ·have b1:Nat.ble 1 re.size=true:=Xhw (by omega);have st:storeAt h ⟨bk,i*z,none⟩ (Qc2 re.zero.cells.toList (m+1))=some h':=s1;rw[hm];simp only[Yf0,T.s,T.d,T.e,b1,st,ax]
 ·rw[bI (by rw[lz,lx];omega),bP]at s2;exact s2
end
structure WtV where
 tx:TxV
 id:List Nat
 fee:Int
 weight:Int
 hid:id.length=32
def WtV.cells(x:WtV):List Value:=txC x.tx.iv x.tx.ov x.tx.lock++(x.id.map u8v ++ [.int .i64 x.fee,.int .i64 x.weight])
def WtV.len(x:WtV):x.cells.length=37:=by simp[WtV.cells,txC,x.hid]
def Qe2(l:List WtV):List Value:=l.flatMap WtV.cells
def Qx8(l:List WtV):(Qe2 l).length=l.length*37:=by
 induction l with
 | nil=>rfl
 | cons p l ih=>simp[Qe2,WtV.len]at ih ⊢;omega
def Y0i(l m:List WtV):Qe2 (l++m)=Qe2 l++Qe2 m:=by simp[Qe2]
def Jfk{b:Nat}{te ts:TypeId}{re rs:TyRec}(T:SlTy (E b).toEnv te ts re rs)(hz:re.size=37){h:Heap}{v:Value}{l:List WtV}(s:Sl h 37 v l.length (Qe2 l)){i:Nat}{x:WtV}(hp:l[i]? = some x) :
  ∃ bk off,J4 v=some bk/\V5 (E b).toEnv ts v (.int .i64 (i:Int))=some (pO bk off)/\Wy h bk off 37=some (.agg ⟨x.cells⟩):=by
 have hl:=(List.getElem?_eq_some_iff.1 hp).1;obtain⟨bk,off,q1,q2,q3,q4⟩:=Q7o T hz s (k:=.i64) (i:=(i:Int)) (by omega) (by omega);refine⟨bk,off,q1,q2,?_⟩;rw[q4,aT,Qe2,Yac WtV.len hp]
def Zx1(q:WtV->Bool):List WtV->Nat->Int
 | [],_ => -1
 | x::l,i=>if q x then(i:Int)else Zx1 q l (i+1)
def Jck(q:WtV->Bool){l:List WtV}{i:Nat}{x:WtV}(hx:l[i]? = some x):Zx1 q (l.drop i) i=if q x then(i:Int)else Zx1 q (l.drop (i+1)) (i+1):=by
 rw[bb (List.getElem?_eq_some_iff.1 hx).1,(List.getElem?_eq_some_iff.1 hx).2,Zx1]
def IXW(v fv:Value)(l:List WtV)(q:WtV->Bool)(h:Heap)(k:Nat)(s:St):Prop:=∃ (t:Tr Value) (h1:Heap) (i:Nat),s=⟨⟨19,t⟩,[],h1⟩/\t.get 0=some v/\t.get 1=some fv/\t.get 7=some (.int .i64 (l.length:Int))/\t.get 8=some (.int .i64 (i:Int))/\i<=l.length/\k=l.length-i/\Old h h1/\Zx1 q l 0=Zx1 q (l.drop i) i
attribute [local simp] Xj kON kOC Xn kNN kNP kRR kEN kER Q6 X2 Yn Ya aop Qg nth Ab.g0 gv gs Qd Qc aev evs evO Qh Tr.get_put St.put Tm.put flat flatA Y9 Qm Qp Qn Qo Qk Ql Qj Qt Qi Q7 Q8 kTN kTR kTX kTP kBN kBR kBX kBP kCS kCR kCE kAM Xm.putAll Qv Q0 Q9 Wj Yq Y1 ldv Yk Vi Nat.testBit loadAt Ab.runT Zc Yl Ys
section
attribute [local simp] Vu W6 Yc Ut Uv Uu Qj6 Um Uo Un
def Jdo(b:Nat){h:Heap}{v:Value}{l:List WtV}{f:FuncId}{F:Func}(hF:(E b).fn.get f=some F){cap:List Value}(q:WtV->Bool)(s:Sl h 37 v l.length (Qe2 l))(hn:l.length < 1000000)
  (hq:∀ x ∈ l,∀ h1,Old h h1->∀ K,(∀ h2,Old h1 h2->K (.ret (.bool (q x))) h2)->CallOK Tryz.prog (E b).G f (.agg ⟨x.cells⟩::cap) h1 K)
  (K:KP) (hk:∀ h',Old h h'->K (.ret (.int .i64 (Zx1 q l 0))) h'):CallOK Tryz.prog (E b).G 47 [v,.func (.func f) #[] cap.toArray] h K:=by
 refine Qh3 (E b) (Vy _ _) (Uf b) (Jd b) mixed (Ui b) (Yc b) Qq5.1 Qq5.2.1 Qq5.2.2 rfl ?_;have len:∀ hx,Qkc (E b).toEnv 53 v hx=some (.int .i64 (l.length:Int)):=fun hx=>Qa0 (T53 b) s;simp[len];refine Qdf (IXW v (.func (.func f) #[] cap.toArray) l q h) l.length ⟨_,h,0,rfl,by simp,by simp,by simp,by simp,by omega,rfl,Old.refl _,rfl⟩ ?_;rintro k s' ⟨t,h1,i,rfl,t0,t1,t7,t8,hi,rfl,a1,ei⟩ _;by_cases hlt:i < l.length
 ·have hlt':(i:Int) < (l.length:Int):=by omega
  have hw:=wS (i:=i) (by omega);obtain⟨x,hx⟩:∃ x,l[i]? = some x:=⟨_,List.getElem?_eq_getElem hlt⟩;obtain⟨bk,off, -,x1,x2⟩:=Jfk (b:=b) (T53 b) Qjw (s.old a1) hx;simp[t0,t1,t7,t8,hlt,hlt',x1,x2,hF];refine hq x (List.mem_of_getElem? hx) h1 a1 _ fun h2 a2 => ?_;rw[Jck q hx]at ei;cases hqx:q x with
  | true =>
   rw[hqx,if_pos rfl]at ei;rw[ei]at hk;simp;exact hk h2 (a1.trans a2)
  | false =>
   rw[hqx,if_neg (by simp)]at ei;simp[t8,hw];exact⟨l.length-(i+1),by omega,_,h2,i+1,rfl,by simp[t0],by simp[t1],by simp[t7],by simp,by omega,rfl,a1.trans a2,ei⟩
 ·have hlt':¬ (i:Int) < (l.length:Int):=by omega
  have : i=l.length:=by omega
  subst this;rw[cQ]at ei;rw[show Zx1 q l 0 = -1 from ei]at hk;simp[t7,t8];exact hk h1 a1
end
def Zz4{q:WtV->Bool}:∀ {l:List WtV} {i:Nat},Zx1 q l i = -1->l.filter (fun x => !q x)=l
 | [],_,_=>rfl
 | x::l,i,h=>by
  rw[Zx1]at h;cases hq:q x with
  | true=>rw[hq,if_pos rfl]at h;omega
  | false =>
   rw[hq,if_neg (by simp)]at h;simp[hq,Zz4 h]
def Zyi{q:WtV->Bool}:∀ {l:List WtV} {i:Nat},Zx1 q l i ≠ -1->∃ j,Zx1 q l i=((i+j:Nat):Int)/\j < l.length/\(l.take j).filter (fun x => !q x)=l.take j/\∃ x,l[j]? = some x/\q x=true
 | [],_,h=>absurd rfl h
 | x::l,i,h=>by
  rw[Zx1]at h ⊢;cases hq:q x with
  | true=>rw[if_pos rfl];exact⟨0,by simp,by simp,by simp,x,rfl,hq⟩
  | false =>
   rw[hq,if_neg (by simp)]at h;rw[if_neg (by simp)];obtain⟨j,h1,h2,h3,y,h4,h5⟩:=Zyi h;exact⟨j+1,by rw[h1];omega,by simpa using h2,by simp[hq,h3],y,by simpa using h4,h5⟩
def Zh1{q:WtV->Bool}{l:List WtV}{j:Nat}{x:WtV}(hx:l[j]? = some x):(l.take (j+1)).filter (fun x => !q x)=(l.take j).filter (fun x => !q x)++(if q x then []else [x]):=by
 rw[aQ,hx,List.filter_append];cases hq:q x <;> simp[hq]
def Jnj{b:Nat}{te ts:TypeId}{re rs:TyRec}(T:SlTy (E b).toEnv te ts re rs){h:Heap}{n0 z n:Nat}{v:Value}{xs:List Value}(hz:re.size=z)(o:Own h n0 z v n xs){k:IntKind}{i:Int}(h0:0<=i)(h1:i < n) :
  ∃ bk,J4 v=some bk/\V5 (E b).toEnv ts v (.int k i)=some (pO bk (i.toNat*z)):=by
 rcases o with⟨rfl,rfl,rfl⟩ | ⟨bk,c,z',rest,rfl,g1,g2,g3,g4,g5⟩
 ·omega
 ·refine⟨bk,rfl,?_⟩;have:=Qsf (bk:=bk) (o:=0) (c:=c) (k:=k) T hz ⟨h0,h1⟩;simpa using this
def Jr6(b:Nat)(h:Heap)(x:WtV):∃ hA hB,Qbx (E b).toEnv 73 h=some (pO h.next 0,hA)/\Qbw (E b).toEnv 73 (pO h.next 0) (.agg ⟨x.cells⟩) hA=some hB/\hB.get h.next=some (.cells true 1 x.cells)/\Wy hB h.next 0 37=some (.agg ⟨x.cells⟩)/\Old h hB/\hB.next=h.next+1:=by
 obtain⟨z,hz⟩:∃ z:List Value,z=[.slice none 0 0,.slice none 0 0,.int .i64 0,.int .u8 0,.int .u8 0,.int .u8 0,.int .u8 0,.int .u8 0,.int .u8 0,.int .u8 0,.int .u8 0,.int .u8 0,.int .u8 0,.int .u8 0,.int .u8 0,.int .u8 0,.int .u8 0,.int .u8 0,.int .u8 0,.int .u8 0,.int .u8 0,.int .u8 0,.int .u8 0,.int .u8 0,.int .u8 0,.int .u8 0,.int .u8 0,.int .u8 0,.int .u8 0,.int .u8 0,.int .u8 0,.int .u8 0,.int .u8 0,.int .u8 0,.int .u8 0,.int .i64 0,.int .i64 0]:=⟨_,rfl⟩;have lz:z.length=37:=by rw[hz];rfl
 have e:=Qjn b h;rw[<- hz]at e;have g:(h.push (.cells true 1 z)).get h.next=some (.cells true 1 z):=by rw[Heap.get_push,if_pos rfl]
 have lt:=Heap.get_lt g;have d:(z.take 0++x.cells++z.drop (0+x.cells.length))=x.cells:=by rw[bI (by rw[WtV.len,lz];omega)];simp
 refine⟨_,(h.push (.cells true 1 z)).set h.next (some (.cells true 1 x.cells)),e,?_,by rw[gY lt,if_pos rfl],?_,(Old.push _ _).set _ (ab _) lt,rfl⟩
 ·rw[Qx2 (l:=x.cells) (Zl3 b) (by rw[WtV.len,Qjw]),Wh g (by rw[WtV.len,lz];omega),d]
 ·rw[V2 (by rw[gY lt,if_pos rfl]) (by rw[WtV.len];omega),bB,aj (by rw[WtV.len];omega)]
def DLW(fv v:Value)(bk:Nat)(l:List WtV)(q:WtV->Bool)(h:Heap)(n0:Nat)(k:Nat)(s:St):Prop:=∃ (t:Tr Value) (h1:Heap) (j:Nat) (mid:List WtV),s=⟨⟨42,t⟩,[],h1⟩/\t.get 0=some v/\t.get 1=some fv/\t.get 5=some (.int .i64 (((l.take j).filter fun x => !q x).length:Int))/\t.get 6=some (.int .i64 (j:Int))/\j<=l.length/\k=l.length-j /\
 Beyond v h h1/\Own h1 n0 37 v l.length (Qe2 (((l.take j).filter fun x => !q x)++mid++l.drop j))/\mid ≠ []/\(((l.take j).filter fun x => !q x)++mid).length=j
section
attribute [local simp] Jn Vb Y2 V6 Yc Ye Qj6 
set_option maxHeartbeats 1000000 in
def Jjf(b:Nat){h:Heap}{n0:Nat}{v:Value}{l:List WtV}{f:FuncId}{F:Func}(hF:(E b).fn.get f=some F){cap:List Value}(q:WtV->Bool)(o:Own h n0 37 v l.length (Qe2 l))(hn:l.length < 1000000)(h0:n0<=h.next)
  (hq:∀ x ∈ l,∀ h1,Beyond v h h1->∀ K,(∀ h2,Old h1 h2->K (.ret (.bool (q x))) h2)->CallOK Tryz.prog (E b).G f (.agg ⟨x.cells⟩::cap) h1 K)
  (K:KP) (hk:∀ v' h',Own h' n0 37 v' (l.filter fun x => !q x).length (Qe2 (l.filter fun x => !q x))->Beyond v h h'->J4 v'=J4 v->K (.ret v') h') :
  CallOK Tryz.prog (E b).G 58 [v,.func (.func f) #[] cap.toArray] h K:=by
 refine Qh3 (E b) (Vy _ _) (Uf b) (Jd b) mixed (Ui b) (Y2 b) Qov.1 Qov.2.1 Qov.2.2 rfl ?_;have len:∀ hx,Qkc (E b).toEnv 53 v hx=some (.int .i64 (l.length:Int)):=fun hx=>Qa0 (T53 b) o.sl;simp[Qjn];refine Jdo b hF q o.sl hn (fun x hx h1 a1=>hq x hx h1 ⟨a1.1,fun c hc _=>a1.2 c hc⟩) _ fun h1 a1 => ?_;have b1:Beyond v h h1:=⟨a1.1,fun c hc _=>a1.2 c hc⟩;have o1:Own h1 n0 37 v l.length (Qe2 l):=o.keep fun c _ hc=>a1.2 c hc;by_cases hi:Zx1 q l 0 = -1
 ·simp[Qjn,hi];refine hk v h1 ?_ b1 rfl;rw[Zz4 hi];exact o1
 obtain⟨i,ei,li,ki,y,hy,qy⟩:=Zyi hi;rw[ba]at ei;have hi':¬ (i:Int) = -1:=by omega
 have hwi:=wS (i:=i) (by omega);rw[ei];simp[Qjn,hi',hwi];have kk:(l.take (i+1)).filter (fun x => !q x)=l.take i:=by rw[Zh1 hy,qy,if_pos rfl,ki,bP]
 have lk:(l.take i).length=i:=by rw[br];omega
 obtain⟨bk,ebk⟩:∃ bk,J4 v=some bk:=by
  rcases o1 with⟨_,e,_⟩ | ⟨bk,c,z',rest,rfl,_⟩
  ·omega
  ·exact⟨bk,rfl⟩
 refine Qdf (DLW (.func (.func f) #[] cap.toArray) v bk l q h n0) (l.length-(i+1)) ⟨_,h1,i+1,[y],rfl,by simp,by simp,by rw[kk,lk];simp,by simp,by omega,rfl,b1,?_,by simp,by rw[kk,ae,lk];rfl⟩ ?_
 ·have e:l.take i ++ [y]++l.drop (i+1)=l:=by
   have hd:=bb li;rw[(List.getElem?_eq_some_iff.1 hy).2]at hd;rw[aM,List.singleton_append,<- hd,bf]
  rw[kk,e];exact o1
 rintro k s' ⟨t,h2,j,mid,rfl,t0,t1,t5,t6,hj,rfl,b2,o2,hm,hl⟩ _;have ew:(((l.take j).filter fun x => !q x)++mid++l.drop j).length=l.length:=by rw[ae,hl,bm];omega
 have o2':=o2;rw[<- ew]at o2';by_cases hlt:j < l.length
 ·have hlt':(j:Int) < (l.length:Int):=by omega
  have hw:=wS (i:=j) (by omega);obtain⟨x,hx⟩:∃ x,l[j]? = some x:=⟨_,List.getElem?_eq_getElem hlt⟩;have hd:l.drop j=x::l.drop (j+1):=by rw[bb hlt,(List.getElem?_eq_some_iff.1 hx).2]
  have hx':(((l.take j).filter fun x => !q x)++mid++l.drop j)[j]? = some x:=by rw[List.getElem?_append_right (by omega),hl,dG,hd];rfl
  obtain⟨bk',off,y0,x1,x2⟩:=Jfk (b:=b) (T53 b) Qjw o2'.sl hx';obtain⟨hA,hB,alB,stB,gB,aB,oB,nB⟩:=Jr6 b h2 x;simp[Qjn,len,t0,t1,t5,t6,hlt,hlt',x1,x2,hF,-Qjn,alB,stB,aB];have beyB:Beyond v h hB:=⟨ai b2.1 oB.1,fun c hc hn=>by rw[oB.2 c (au hc b2.1),b2.2 c hc hn]⟩;refine hq x (List.mem_of_getElem? hx) hB beyB _ fun h3 a3 => ?_;have b3:Beyond v h h3:=⟨ai beyB.1 a3.1,fun c hc hn=>by rw[a3.2 c (au hc beyB.1),beyB.2 c hc hn]⟩;have o3:=o2.keep fun c _ hc=>(oB.trans a3).2 c hc;have aB3:Wy h3 h2.next 0 37=some (.agg ⟨x.cells⟩):=agW (a3.get gB) (by rw[WtV.len];omega) (by rw[WtV.len];omega);have km:=Zh1 (q:=q) hx;cases hqx:q x with
  | true =>
   rw[hqx,if_pos rfl,bP]at km;simp[Qjn,t6,hw];refine⟨l.length-(j+1),by omega,_,h3,j+1,mid ++ [x],rfl,by simp[t0],by simp[t1],by rw[km];simp[t5],by simp,by omega,rfl,b3,?_,by simp,?_⟩
   ·rw[km];rw[hd]at o3;simpa using o3
   ·rw[km];simp at hl ⊢;omega
  | false =>
   rw[hqx,if_neg (by simp)]at km;obtain⟨m0,mid',rfl⟩:∃ m0 mid',mid=m0::mid':=by
    cases mid with
    | nil=>exact absurd rfl hm
    | cons a m=>exact⟨a,m,rfl⟩
   have lf:((l.take j).filter fun x => !q x).length < l.length:=by simp at hl;omega
   obtain⟨fl,hfl⟩:∃ fl,fl=(l.take j).filter fun x => !q x:=⟨_,rfl⟩;rw[<- hfl]at t5 o3 lf hl km;have lfo:(Qe2 (fl++m0::mid'++l.drop j)).length=l.length*37:=o3.len;obtain⟨bk2,y1,y2⟩:=Jnj (b:=b) (T53 b) Qjw o3 (k:=.i64) (i:=(fl.length:Int)) (by omega) (by omega);rw[aT]at y2;obtain⟨h4,s1,s2,s3,s4⟩:=Jf4 o3 y1 x.cells (i:=fl.length*37) (by rw[lfo,WtV.len];have : (fl.length+1)*37<=l.length*37:=bC _ lf;omega);have st4:Qbw (E b).toEnv 73 (pO bk2 (fl.length*37)) (.agg ⟨x.cells⟩) h3=some h4:=by rw[Qx2 (l:=x.cells) (Zl3 b) (by rw[WtV.len,Qjw])];exact s1
   have hwf:IntKind.i64.wrap ((fl.length:Int)+1)=((fl.length+1:Nat):Int):=by rw[Uq (by omega) (by omega)];omega
   have s2':Own h4 n0 37 v l.length (Qe2 ((fl ++ [x])++(mid' ++ [x])++l.drop (j+1))):=by
    have e:(Qe2 (fl++m0::mid'++l.drop j)).take (fl.length*37)++x.cells++(Qe2 (fl++m0::mid'++l.drop j)).drop (fl.length*37+x.cells.length)=Qe2 ((fl ++ [x])++(mid' ++ [x])++l.drop (j+1)):=by
     have e1:Qe2 (fl++m0::mid'++l.drop j)=Qe2 fl++(m0.cells++Qe2 (mid'++l.drop j)):=by simp[Qe2]
     rw[e1,aF (by rw[Qx8];omega),aj (by rw[Qx8];omega),WtV.len,dh,dh,Qx8,bI (by rw[Qx8];omega),bI (by rw[WtV.len];omega),WtV.len,show fl.length*37+37-fl.length*37-37=0 from by omega,bB,hd];simp[Qe2]
    rw[e]at s2;exact s2
   simp[Qjn,t0,t5,t6,hw,aB3,y2,st4,hwf];have b4:Beyond v h h4:=⟨by rw[s3];exact b3.1,fun c hc hn=>by rw[s4 c (fun e=>hn (by rw[e];exact y1)),b3.2 c hc hn]⟩;refine⟨l.length-(j+1),by omega,_,h4,j+1,mid' ++ [x],rfl,by simp[t0],by simp[t1],by rw[km];simp,by simp,by omega,rfl,b4,by rw[km];exact s2',by simp,?_⟩;rw[km];simp at hl ⊢;omega
 ·have hlt':¬ (j:Int) < (l.length:Int):=by omega
  have : j=l.length:=by omega
  subst this;rw[bc]at t5 o2 hl;obtain⟨fl,hfl⟩:∃ fl,fl=l.filter fun x => !q x:=⟨_,rfl⟩;rw[<- hfl]at t5 o2 hl hk;have lf:fl.length < l.length:=by
   have : 0 < mid.length:=d5.2 hm;rw[ae]at hl;omega
  obtain⟨bk2,c',z1,z2⟩:=Jj9 (k:=.i64) (T53 b) Qjw (by omega) o2 lf;obtain⟨h4,zs,u1,u2,u3,u4⟩:=Jd2 (c':=c') (T53 b) Qjw (by omega) o2 z1 lf;obtain⟨v5,w1,w2,w3⟩:=Zvv (k:=.i64) (i:=(fl.length:Int)) (T53 b) Qjw (by omega) u2 (by omega) (by omega);simp[Qjn,len,t0,t5,t6,z2,u1,w1];refine hk v5 h4 ?_ ⟨by rw[u3];exact b2.1,fun c hc hn=>by rw[u4 c (fun e=>hn (by rw[e];exact z1)),b2.2 c hc hn]⟩ w3;rw[aT]at w2;have e:((Qe2 (fl++mid++l.drop l.length)).take (fl.length*37)++zs).take (fl.length*37)=Qe2 fl:=by
   have e1:(Qe2 (fl++mid++l.drop l.length)).take (fl.length*37)=Qe2 fl:=by
    rw[aM,Y0i,aF (by rw[Qx8];omega),aj (by rw[Qx8];omega)]
   rw[e1,aF (by rw[Qx8];omega),aj (by rw[Qx8];omega)]
  rw[e]at w2;exact w2
end
def Z8p(a c:PTx):Bool:=a.ins.any fun x=>c.ins.any fun y=>decide (x.pt=y.pt)
section
def Ju0(b:Nat){x y:InV}{h:Heap}{B:Nat}(gB:h.get B=some (.cells true 1 x.cells))(K:KP)(hk:∀ h',Old h h'->K (.ret (.bool (decide (x.pt=y.pt)))) h') :
  FK b 61 [.agg ⟨y.cells⟩,pO B 0] h K:=by
 refine F3 b (Q5q b) X9m rfl ?_;obtain⟨hA, -,bx,aA, -,gA, -, -⟩:=Zi1 y h;have p1:Wy hA h.next 0 33=some (.agg ⟨y.pt.cells⟩):=by rw[V2 gA (by simp[InV.cells,Pt.len])];simp[InV.cells,aF,Pt.len]
 have p2:Wy hA B 0 33=some (.agg ⟨x.pt.cells⟩):=by rw[V2 (aA.get gB) (by simp[InV.cells,Pt.len])];simp[InV.cells,aF,Pt.len]
 simp[Xfi,Yq3,Q5q,Ycd,Yx,Uh,bx,p1,p2,peq];exact hk hA aA
def Ju6(b:Nat){x:InV}{v:Value}{l:List InV}{c1:Value}{c2:Value}{h:Heap}(s:Ins h v l){B:Nat}(gB:h.get B=some (.cells true 1 [v,c1,c2]))(K:KP)(hk:∀ h',Old h h'->K (.ret (.bool (l.any fun y=>decide (x.pt=y.pt)))) h') :
  FK b 60 [.agg ⟨x.cells⟩,pO B 0] h K:=by
 refine F3 b (Q2p b) Yli rfl ?_;obtain⟨hA, -,bx,aA, -,gA, -, -⟩:=Zi1 x h;have d0:Yw hA B 0=some v:=by rw[Yi (aA.get gB)];rfl
 simp[Q59,X0l,Q2p,Xo4,Ym,Vm,Xp,bx,d0];refine Xls b (Q5q b) (cap:=[pO h.next 0]) (s.s.old aA) s.n (fun y=>decide (x.pt=y.pt)) (fun h1 a1 y _ K hk=>Ju0 b (a1.get gA) K hk) _ fun h1 a1 => ?_;simp[Q59,X0l,Q2p,Xo4,Ym,Vm,Xp];exact hk h1 (aA.trans a1)
def Z4t(b:Nat){h:Heap}{iv ov iv2 ov2:Value}{ins ins2:List InV}{lock lock2:Int}(s1:Ins h iv ins)(s2:Ins h iv2 ins2)(K:KP)(hk:∀ h',Old h h'->K (.ret (.bool (ins.any fun x=>ins2.any fun y=>decide (x.pt=y.pt)))) h') :
  FK b 29 [.agg ⟨txC iv ov lock⟩,.agg ⟨txC iv2 ov2 lock2⟩] h K:=by
 refine F3 b (Qds b) Y57 rfl ?_;obtain⟨hA,eA,aA,gA⟩:=Q2n h ((txC iv ov lock));have bxA:=Qw8 eA;obtain⟨hB,eB,aB,gB⟩:=Q2n hA ((txC iv2 ov2 lock2));have bxB:=Qw8 eB;have c0:Yw hB h.next 0=some iv:=by rw[Yi (aB.get gA)];rfl
 simp[Xfg,Yik,Qds,Ym,Vm,Xp,bxA,bxB,c0];have aH:=aA.trans aB;refine Xls b (Q2p b) (cap:=[pO hA.next 0]) (s1.s.old aH) s1.n (fun x=>ins2.any fun y=>decide (x.pt=y.pt)) (fun h1 a1 x _ K hk=>Ju6 b ((s2.old aH).old a1) (a1.get gB) K hk) _ fun h1 a1 => ?_;simp[Xfg,Yik,Qds,Ym,Vm,Xp];exact hk h1 (aH.trans a1)
end
def Jca{ins ins2:List InV}{outs outs2:List OutV}{lock lock2:Int}:(ins.any fun x=>ins2.any fun y=>decide (x.pt=y.pt))=Z8p (ptx ins outs lock) (ptx ins2 outs2 lock2):=by
 simp[Z8p,ptx,ej,cj,InV.p];rfl
def Jvd{x y:List Nat}(hx:x.length=32)(hy:y.length=32):Wr L59 (x.map u8v) (y.map u8v)=some (decide (x=y)):=by
 have h:=Xkp x y [] [] [] (by rw[hx,hy]);have e:Wr L59 (x.map u8v) (y.map u8v)=Wr (List.replicate x.length 1 ++ []) (x.map u8v ++ []) (y.map u8v ++ []):=by
  rw[hx];congr 1
  ·exact(bP _).symm
  ·exact(bP _).symm
 rw[e,h];simp[Wr]
def heq(b:Nat){x y:List Nat}(hx:x.length=32)(hy:y.length=32):Zhe (E b).toEnv .eql 59 (.agg ⟨x.map u8v⟩) (.agg ⟨y.map u8v⟩)=some (.bool (decide (x=y))):=by
 have e:Zhe (E b).toEnv .eql 59 (.agg ⟨x.map u8v⟩) (.agg ⟨y.map u8v⟩)=(Wr L59 (x.map u8v) (y.map u8v)).map .bool:=kR
 rw[e,Jvd hx hy];rfl
def Js3(x:WtV):(x.cells.drop 3).take 32=x.id.map u8v:=by
 have : x.cells.drop 3=x.id.map u8v ++ [.int .i64 x.fee,.int .i64 x.weight]:=rfl;rw[this,aF (by simp[x.hid]),aj (by simp[x.hid])]
def Jkb(x:WtV):x.cells[35]? = some (.int .i64 x.fee):=by
 show(txC x.tx.iv x.tx.ov x.tx.lock++(x.id.map u8v ++ [.int .i64 x.fee,.int .i64 x.weight]))[35]? = _;rw[List.getElem?_append_right (by simp[txC]),List.getElem?_append_right (by simp[txC,x.hid])];simp[txC,x.hid]
def Jvi(x:WtV):x.cells[36]? = some (.int .i64 x.weight):=by
 show(txC x.tx.iv x.tx.ov x.tx.lock++(x.id.map u8v ++ [.int .i64 x.fee,.int .i64 x.weight]))[36]? = _;rw[List.getElem?_append_right (by simp[txC]),List.getElem?_append_right (by simp[txC,x.hid])];simp[txC,x.hid]
def Jbg(x:WtV)(h:Heap):∃ h',h'=h.push (.cells true 1 x.cells)/\Zzo (.agg ⟨x.cells⟩) h=some (pO h.next 0,h')/\Old h h'/\h'.get h.next=some (.cells true 1 x.cells)/\Wy h' h.next 3 32=some (.agg ⟨x.id.map u8v⟩)/\Wy h' h.next 0 3=some (.agg ⟨txC x.tx.iv x.tx.ov x.tx.lock⟩)/\Wy h' h.next 0 37=some (.agg ⟨x.cells⟩):=by
 have g:(h.push (.cells true 1 x.cells)).get h.next=some (.cells true 1 x.cells):=by rw[Heap.get_push,if_pos rfl]
 refine⟨_,rfl,rfl,Old.push _ _,g,?_,?_,?_⟩
 ·rw[V2 g (by rw[x.len];omega),Js3]
 ·rw[V2 g (by rw[x.len];omega)];rfl
 ·rw[V2 g (by rw[x.len];omega),bB,aj (by rw[x.len];omega)]
def Jog(b:Nat){x:WtV}{id:List Nat}(hid:id.length=32){h:Heap}{B:Nat}(gB:h.get B=some (.cells true 1 (id.map u8v)))(K:KP)(hk:∀ h',Old h h'->K (.ret (.bool (decide (x.id=id)))) h') :
  FK b 48 [.agg ⟨x.cells⟩,pO B 0] h K:=by
 refine F3 b (Q2u b) X5b rfl ?_;obtain⟨hA, -,bx,aA,gA,p1, -, -⟩:=Jbg x h;have p2:Wy hA B 0 32=some (.agg ⟨id.map u8v⟩):=agW (aA.get gB) (by simp[hid]) (by simp[hid]);simp[Q9f,Ykt,Q2u,Qot,Qg3,bx,p1,p2,heq b x.hid hid];exact hk hA aA
def Jk3(id:List Nat)(l:List WtV):Int × Bool:=match l.find? (fun x=>decide (x.id=id))with
 | some x=>(x.fee,true)
 | none=>(0,false)
def Z5y{q:WtV->Bool}:∀ {l:List WtV} {i:Nat},(Zx1 q l i = -1/\l.find? q=none) ∨ ∃ j x,Zx1 q l i=((i+j:Nat):Int)/\l[j]? = some x/\l.find? q=some x
 | [],_ => .inl ⟨rfl,rfl⟩
 | x::l,i=>by
  rw[Zx1];cases hq:q x with
  | true=>exact .inr ⟨0,x,by simp,rfl,by simp[hq]⟩
  | false =>
   simp only[av,if_false,List.find?_cons,hq];rcases Z5y (q:=q) (l:=l) (i:=i+1)with⟨e1,e2⟩ | ⟨j,y,e1,e2,e3⟩
   ·exact .inl ⟨e1,e2⟩
   ·exact .inr ⟨j+1,y,by rw[e1];congr 1;omega,by simpa using e2,e3⟩
section
attribute [local simp] Qvu Q8z Jk Qbn Qnv Yc Qfm Vz
def Jkv(b:Nat){h:Heap}{pb:Nat}{z:Nat}{fl lv mv:Value}{l:List WtV}(gp:h.get pb=some (.cells true z [fl,lv,mv]))(s:Sl h 37 lv l.length (Qe2 l))(hn:l.length < 1000000){id:List Nat}(hid:id.length=32)(K:KP)
  (hk:∀ h',Old h h'->K (.ret (.tuple #[.int .i64 (Jk3 id l).1,.bool (Jk3 id l).2])) h'):CallOK Tryz.prog (E b).G 20 [pO pb 0,.agg ⟨id.map u8v⟩] h K:=by
 refine Qh3 (E b) (Vy _ _) (Uf b) (Jd b) mixed (Ui b) (Jk b) Yld.1 Yld.2.1 Yld.2.2 rfl ?_;obtain⟨hA,eA,aA,gA⟩:=Q2n h ((id.map u8v));have bx:=Qw8 eA;have c1:∀ {hx:Heap},Old hA hx->Yw hx pb 1=some lv:=fun a=>by rw[Yi ((aA.trans a).get gp)];rfl
 simp[Qec,bx,c1 (Old.refl _)];refine Jdo b (Q2u b) (cap:=[pO h.next 0]) (fun x=>decide (x.id=id)) (s.old aA) hn (fun x _ h1 a1 K hk=>(Jog b hid (a1.get gA) K hk).ok) _ fun h1 a1 => ?_;have ah:=aA.trans a1;unfold Jk3 at hk;rcases Z5y (q:=fun x=>decide (x.id=id)) (l:=l) (i:=0)with⟨e1,e2⟩ | ⟨j,x,e1,e2,e3⟩
 ·rw[e1];rw[e2]at hk;simp;exact hk h1 ah
 ·rw[ba]at e1;rw[e1];rw[e3]at hk;have hj:=(List.getElem?_eq_some_iff.1 e2).1;have hj0:¬ (j:Int) < 0:=by omega
  obtain⟨bk,off, -,x1,x2, -⟩:=Q7o (T53 b) Qjw (s.old ah) (k:=.i64) (i:=(j:Int)) (by omega) (by omega);have x3:=x2 35 (by omega);rw[aT,Qe2,Y47 WtV.len e2 (by omega),Jkb]at x3;simp[Qec,hj0,c1 a1,x1,x3];exact hk h1 ah
end
def Qh5(l:List WtV):Int:=(l.map WtV.fee).sum
def Ypj(l m:List WtV):Qh5 (l++m)=Qh5 l+Qh5 m:=by simp[Qh5]
def Yra(q:WtV->Bool):∀ l:List WtV,Qh5 l=Qh5 (l.filter q)+Qh5 (l.filter fun x => !q x)
 | []=>rfl
 | x::l=>by
  have ih:=Yra q l;have h1:Qh5 (x::l)=x.fee+Qh5 l:=rfl;cases hq:q x with
  | true =>
   rw[cD hq,cE (by simp[hq]),h1,ih];show _=x.fee+Qh5 (l.filter q)+_;omega
  | false =>
   rw[cE (by simp[hq]),cD (by simp[hq]),h1,ih];show _=_+(x.fee+Qh5 (l.filter fun x => !q x));omega
def Zgq(q:WtV->Bool):∀ l:List WtV,l.length=(l.filter q).length+(l.filter fun x => !q x).length
 | []=>rfl
 | x::l=>by
  have ih:=Zgq q l;cases hq:q x with
  | true =>
   rw[cD hq,cE (by simp[hq]),aS,aS];omega
  | false =>
   rw[cE (by simp[hq]),cD (by simp[hq]),aS,aS];omega
def Jbk{l:List WtV}{q:WtV->Bool}{w:WtV}(h0:0<=w.fee)(h1:0 < (l.filter q).length->Qh5 (l.filter q) < w.fee) :
  Qh5 l<=Qh5 ((l.filter fun x => !q x) ++ [w])/\(((l.filter fun x => !q x) ++ [w]).length<=l.length->Qh5 l < Qh5 ((l.filter fun x => !q x) ++ [w]))/\((l.filter fun x => !q x) ++ [w]).length<=l.length+1:=by
 have e:=Yra q l;have n:=Zgq q l;have w1:Qh5 [w]=w.fee:=by simp[Qh5]
 rw[Ypj,w1,ae,bK];by_cases hz:(l.filter q).length=0
 ·have : l.filter q=[]:=cr.1 hz;rw[this]at e;have e0:Qh5 ([]:List WtV)=0:=rfl;refine⟨by omega,fun h=>by omega,by omega⟩
 ·have:=h1 (by omega);exact⟨by omega,fun _=>by omega,by omega⟩
def Z6q{l:List WtV}(hd:l.Pairwise fun x y=>x.id≠y.id):∀ {x:WtV},x ∈ l->Jk3 x.id l=(x.fee,true):=by
 intro x hx;unfold Jk3;have : l.find? (fun y=>decide (y.id=x.id))=some x:=by
  induction l with
  | nil=>cases hx
  | cons y l ih =>
   rw[List.pairwise_cons]at hd;rw[List.find?_cons];rcases ap.1 hx with rfl | hm
   ·simp
   ·have : ¬ y.id=x.id:=hd.1 x hm;simp only[this,decide_false];exact ih hd.2 hm
 rw[this]
def Z9m{l:List WtV}(hd:l.Pairwise fun x y=>x.id≠y.id){q:WtV->Bool}{w:WtV}(hw:(Jk3 w.id l).2=false):((l.filter q) ++ [w]).Pairwise fun x y=>x.id≠y.id:=by
 refine List.pairwise_append.2 ⟨hd.filter q,List.pairwise_singleton _ _,fun x hx y hy e => ?_⟩;rw[aw.1 hy]at e;have hm:=(bW.1 hx).1;have:=Z6q hd hm;rw[e]at this;rw[this]at hw;cases hw
def Jqe(b n:Nat)(hn:n<=1000000)(h:Heap):Qpf (E b).toEnv 66 (.int .i64 0) (.int .i64 (n:Int)) h=some (.slice (some ⟨h.next,0,none⟩) 0 n,h.push (.cells true 1 (List.replicate n (.slice none 0 0)))):=by
 simp only[Qpf,Z9b,(T66 b).d,Xp4];rw[if_pos ⟨by omega,by omega,by omega,by rw[Yk0];omega,by rw[Qic];omega⟩];have : R45.zero.cells.toList=[.slice none 0 0]:=kR
 rw[this,Xod];simp only[aT,Int.toNat_zero]
def Jge{h:Heap}{n:Nat}(hn:n<=1000000):Own (h.push (.cells true 1 (List.replicate n (.slice none 0 0)))) h.next 1 (.slice (some ⟨h.next,0,none⟩) 0 n) 0 [] :=
 .inr ⟨h.next,n,1,List.replicate n (.slice none 0 0),rfl,ab _,by rw[Heap.get_push,if_pos rfl];rfl,rfl,bn _,by unfold Ql9;omega,.inr ⟨by unfold Ql9;omega,by simp⟩⟩
structure FrT (t:Tr Value) (T O D:Nat) (iv:Value) (n i X:Nat):Prop where
 t1:t.get 1=some (pO T 0)
 t2:t.get 2=some (pO O 0)
 t3:t.get 3=some (pO D 0)
 t15:t.get 15=some iv
 t16:t.get 16=some (.int .i64 (n:Int))
 t17:t.get 17=some (.int .i64 (i:Int))
 t5:t.get 5=some (pO X 0)
def FWI(T O D:Nat)(iv:Value)(n i X:Nat)(x:InV)(n0:Nat)(g:Heap)(k:Nat)(s:St):Prop:=∃ (t:Tr Value) (g1:Heap) (o:Value) (j:Nat) (out:List (Value × List Int)),s=⟨⟨68,t⟩,[],g1⟩/\FrT t T O D iv n i X/\t.get 6=some o/\t.get 26=some x.wv/\t.get 27=some (.int .i64 (x.its.length:Int))/\t.get 28=some (.int .i64 (j:Int))/\j<=x.its.length/\k=x.its.length-j/\Own g1 n0 1 o j (out.map (·.1))/\out.map (·.2)=(x.its.take j).map (·.2)/\(∀ p ∈ out,OB g1 n0 p.1 p.2/\Bytes p.2/\(∀ c,J4 p.1=some c->J4 o≠some c))/\g.next<=g1.next/\∀ c,c < n0->g1.get c=g.get c
section
attribute [local simp] Wq Qcd Ja Qb6 Qa8 Ud Vz Qc7 Ym Vm Qcq Qdn U7 Qbm Z8 Jt Wa Yx Uh Wt Jf Qal Qg1 Qa2 Qb9 Jo Jv W5 V4
set_option maxHeartbeats 2000000 in
def Jqc(b:Nat){g:Heap}{x:InV}{n0 T O D n i X:Nat}{iv:Value}(xa:InAt g x)(hlo:∀ v ∈ Z3h x,∀ c,J4 v=some c->c < n0)(hX:X < n0)(h0:n0<=g.next)(gX:g.get X=some (.cells true 1 x.cells)){t:Tr Value}(R:FrT t T O D iv n i X){v0:Value}(t6:t.get 6=some v0)(o0:Own g n0 1 v0 0 [])
  (K:Exit->St->Prop) (hk:∀ (t':Tr Value) (o:Value) (out:List (Value × List Int)) (g':Heap),FrT t' T O D iv n i X->t'.get 6=some o->Own g' n0 1 o x.its.length (out.map (·.1))->out.map (·.2)=x.its.map (·.2)->(∀ p ∈ out,OB g' n0 p.1 p.2/\Bytes p.2/\(∀ c,J4 p.1=some c->J4 o≠some c))->g.next<=g'.next->(∀ c,c < n0->g'.get c=g.get c)->K .normal ⟨⟨68,t'⟩,[],g'⟩) :
  Qac (E b) (Q5r Tryz.prog (E b).G) (D0 b) none Xju ⟨⟨68,t⟩,[],g⟩ K:=by
 obtain⟨t1,t2,t3,t15,t16,t17,t5⟩:=R;have c33:Yw g X 33=some x.wv:=by rw[Yi gX,Jk0]
 have len:∀ hx,Qkc (E b).toEnv 66 x.wv hx=some (.int .i64 (x.its.length:Int)):=fun hx=>Qa0 (T66 b) xa.w;have hn:=xa.n;simp[t5,c33,len];refine Qdf (FWI T O D iv n i X x n0 g) x.its.length ⟨_,g,v0,0,[],rfl,⟨by simp[t1],by simp[t2],by simp[t3],by simp[t15],by simp[t16],by simp[t17],by simp[t5]⟩,by simp[t6],by simp,by simp,by simp,by omega,rfl,o0,by simp,by simp,ab _,fun _ _=>rfl⟩ ?_;rintro k s' ⟨t,g1,o,j,out,rfl,⟨t1,t2,t3,t15,t16,t17,t5⟩,t6,t26,t27,t28,hj,rfl,ho,hout,hits,n1,kp⟩ _;have sw:Sl g1 1 x.wv x.its.length (x.its.map (·.1)):=xa.w.keep fun c hc _=>kp c (hlo x.wv (by simp[Z3h]) c hc);by_cases hlt:j < x.its.length
 ·have hlt':(j:Int) < (x.its.length:Int):=by omega
  obtain⟨⟨v,y⟩,hpi⟩:∃ p,x.its[j]? = some p:=⟨_,List.getElem?_eq_getElem hlt⟩;obtain⟨bk,off,q1,q2,q3, -⟩:=Q7o (T66 b) Qic sw (k:=.i64) (i:=(j:Int)) (by omega) (by omega);have q4:Yw g1 bk off=some v:=by
   have:=q3 0 (by omega);simpa[hpi]using this
  have hm:=List.mem_of_getElem? hpi;obtain⟨sx,bx⟩:=xa.i (v,y) hm;have ly:=xa.l (v,y) hm;have sx1:SB g1 v y:=sx.keep fun c hc _=>kp c (hlo v (by simp only[Z3h];exact aN _ (am.2 ⟨_,hm,rfl⟩)) c hc);have hw:=wS (i:=j) (by omega);simp[t5,t6,t26,t27,t28,hlt',q2,q4];refine Jbt b sx1 ly _ fun v2 h2 o2 a2 => ?_;have h01:n0<=g1.next:=ai h0 n1;have ho2:=ho.keep (h':=h2) fun c _ hc=>a2.2 c hc;obtain⟨o',h3,k1,k2,k3,k4⟩:=Qtj (T66 b) Qic (by omega) ho2 (ai h01 a2.1) (ys:=[v2]) rfl (by rw[Yk0];omega) (by omega);obtain⟨bl, -⟩:=Z6y b h2 v2 o2.one;have nb:∀ c,J4 v2=some c->J4 o≠some c:=fun c hc e=>by have:=(o2.from hc).1;have:=ho.out e;omega
  have far:∀ c,J4 v2=some c->c < h2.next:=fun c hc=>o2.out hc;simp[t5,t6,t26,t27,t28,bl,k1,hw];refine⟨x.its.length-(j+1),by omega,_,h3,o',j+1,out ++ [(v2,y)],rfl,⟨by simp[t1],by simp[t2],by simp[t3],by simp[t15],by simp[t16],by simp[t17],by simp[t5]⟩,by simp,by simp[t26],by simp[t27],by simp,by omega,rfl,by simpa using k2,?_,fun p hp => ?_,ai n1 (ai a2.1 k3.1),fun c hc => ?_⟩
  ·rw[aQ,hpi];simp[hout]
  ·rcases al.1 hp with hp | hp
   ·obtain⟨g1',g2,g3⟩:=hits p hp;refine⟨(g1'.keep fun c _ hc=>a2.2 c hc).keep fun c hc hlt3=>k3.2 c hlt3 (g3 c hc),g2,fun c hc e => ?_⟩;rcases k4 c e with q | q
    ·exact g3 c hc q
    ·have:=g1'.out hc;have:=a2.1;omega
   ·rw[aw.1 hp];refine⟨(o2.low h01).keep fun c hc hlt3=>k3.2 c hlt3 (nb c hc),bx,fun c hc e => ?_⟩;rcases k4 c e with q | q
    ·exact nb c hc q
    ·have:=far c hc;omega
  ·have l2:=au hc h01;rw[k3.2 c (au l2 a2.1) (fun e=>by have:=(ho.from e).1;omega),a2.2 c l2,kp c hc]
 ·have hlt':¬ (j:Int) < (x.its.length:Int):=by omega
  have : j=x.its.length:=by omega
  subst this;simp[t6,t26,t27,t28];rw[aj (ab _)]at hout;exact hk _ o out g1 ⟨by simp[t1],by simp[t2],by simp[t3],by simp[t15],by simp[t16],by simp[t17],by simp[t5]⟩ (by simp[t6]) ho hout hits n1 kp
end
def Y24{g:Heap}{n0:Nat}(h:n0<=g.next):∃ h1:Heap,h1.next=n0/\Old h1 g :=
 ⟨{g with next:=n0},rfl,h,fun c hc=>by
  have hc:c < n0:=hc;have hg:c < g.next:=au hc h;show(if c < g.next then g.t.get c else none)=if c < n0 then g.t.get c else none
  rw[if_pos hc,if_pos hg]⟩
def InsN(n0:Nat)(g:Heap)(iv:Value)(ins:List InV):Prop:=∃ h1,h1.next=n0/\InsR h1 g iv ins
def InsN.nil{n0:Nat}{g:Heap}(h:n0<=g.next):InsN n0 g (.slice none 0 0) []:=by
 obtain⟨h1,e,a⟩:=Y24 h;exact⟨h1,e,Own.nil,by simp,by simp,a⟩
def InsN.keep{n0:Nat}{g g':Heap}{iv:Value}{ins:List InV}(R:InsN n0 g iv ins)(hn:g.next<=g'.next)(k:∀ c,n0<=c->c < g.next->g'.get c=g.get c):InsN n0 g' iv ins:=by
 obtain⟨h1,e,o,s,d,a⟩:=R;obtain⟨h2,e2,a2⟩:=Y24 (g:=g') (n0:=n0) (by have:=a.1;omega);subst e;refine⟨h2,e2,?_,fun x hx=>⟨(s x hx).1.keepV fun v hv c hc hl=>k c ((s x hx).2 v hv c hc) hl,fun v hv c hc => ?_⟩,d,a2⟩
 ·rw[e2];exact o.keep fun c hc hl=>k c (o.from hc).1 hl
 ·rw[e2];exact(s x hx).2 v hv c hc
def InsN.more(b:Nat){n0:Nat}{g h3:Heap}{iv:Value}{ins:List InV}(R:InsN n0 g iv ins)(hi:ins.length < 1000000)(a3:Old g h3){x:InV}(hx:InN h3 g.next x) :
  ∃ iv' h4,Qjr (E b).toEnv 28 28 iv (.slice (some ⟨h3.next,0,none⟩) 1 1) (h3.push (.cells true 1 x.cells))=some (iv',h4)/\InsN n0 h4 iv' (ins ++ [x])/\Xxl iv'=true/\(∀ c,c < h3.next->J4 iv≠some c->h4.get c=h3.get c)/\h3.next<=h4.next:=by
 obtain⟨h1,e,R⟩:=R;obtain⟨iv',h4,q1,q2,q3,q4⟩:=R.more b hi a3 hx;refine⟨iv',h4,q1,⟨h1,e,q2⟩,q3,q4,?_⟩;obtain⟨_,_,j1, -,j3, -⟩:=Qtj (T28 b) (z:=34) Qeo (by omega) (R.o.keep (h':=h3) fun c _ hc=>a3.2 c hc) (ai R.a.1 a3.1) (ys:=x.cells) x.len (by rw[Y1l];omega) (by omega);rw[q1]at j1;cases j1;exact j3.1
def InsN.lo{n0:Nat}{g:Heap}{iv:Value}{ins:List InV}(R:InsN n0 g iv ins){c:Nat}(hc:J4 iv=some c):n0<=c/\c < g.next:=by
 obtain⟨h1,e,R⟩:=R;subst e;exact R.o.from hc
structure FrM (h g:Heap) (T O D:Nat) (iv ov:Value) (lock:Int) (iv2 ov2:Value):Prop where
 a:Old h g
 hT:h.next<=T
 gT:g.get T=some (.cells true 1 (txC iv ov lock))
 gO:g.get O=some (.cells true 1 X2g)
 gD:g.get D=some (.cells true 1 (txC iv2 ov2 lock))
 tD:T < D
 oD:O < D
 hO:h.next<=O
structure FrS (t:Tr Value) (T O D:Nat) (iv:Value) (n i:Nat):Prop where
 t1:t.get 1=some (pO T 0)
 t2:t.get 2=some (pO O 0)
 t3:t.get 3=some (pO D 0)
 t15:t.get 15=some iv
 t16:t.get 16=some (.int .i64 (n:Int))
 t17:t.get 17=some (.int .i64 (i:Int))
def FRI(h:Heap)(T O D:Nat)(iv ov:Value)(lock:Int)(l:List InV)(k:Nat)(s:St):Prop:=∃ (t:Tr Value) (g:Heap) (iv2:Value) (ins:List InV) (i:Nat),s=⟨⟨68,t⟩,[],g⟩/\FrS t T O D iv l.length i/\i<=l.length/\k=l.length-i/\ins.length=i/\FrM h g T O D iv ov lock iv2 (.slice none 0 0)/\InsN (D+1) g iv2 ins/\ins.map InV.p=(l.take i).map InV.p
section
attribute [local simp] Wq Qcd Ja Qb6 Qa8 Ud Vz Qc7 Ym Vm Qcq Qdn U7 Qbm Z8 Jt Yx Uh Wt Jf Qal Qg1 Qa2 Qb9 Jo Jv W5 V4
set_option maxHeartbeats 4000000 in
def Jro(b:Nat){h g:Heap}{T O D:Nat}{iv ov:Value}{lock:Int}{l:List InV}(si:Ins h iv l)(M:FrM h g T O D iv ov lock (.slice none 0 0) (.slice none 0 0)){t:Tr Value}(t1:t.get 1=some (pO T 0))(t2:t.get 2=some (pO O 0))(t3:t.get 3=some (pO D 0))
  (K:Exit->St->Prop) (hk:∀ (t':Tr Value) (iv2:Value) (ins:List InV) (g':Heap),t'.get 1=some (pO T 0)->t'.get 2=some (pO O 0)->t'.get 3=some (pO D 0)->FrM h g' T O D iv ov lock iv2 (.slice none 0 0)->InsN (D+1) g' iv2 ins->ins.map InV.p=l.map InV.p->K .normal ⟨⟨68,t'⟩,[],g'⟩) :
  Qac (E b) (Q5r Tryz.prog (E b).G) (D0 b) none Xsh ⟨⟨68,t⟩,[],g⟩ K:=by
 have hn:=si.n;have len:∀ hx,Qkc (E b).toEnv 28 iv hx=some (.int .i64 (l.length:Int)):=fun hx=>Qa0 (T28 b) si.s;have c0:Yw g T 0=some iv:=by rw[Yi M.gT];rfl
 have ld:=Heap.get_lt M.gD;simp[Wa,t1,c0,len];refine Qdf (FRI h T O D iv ov lock l) l.length ⟨_,g,.slice none 0 0,[],0,rfl,⟨by simp[t1],by simp[t2],by simp[t3],by simp,by simp,by simp⟩,by omega,rfl,rfl,M,InsN.nil ld,by simp⟩ ?_;rintro k s' ⟨t,g,iv2,ins,i,rfl,⟨t1,t2,t3,t15,t16,t17⟩,hi,rfl,hil,M,R,hp⟩ _;by_cases hlt:i < l.length
 ·have hlt':(i:Int) < (l.length:Int):=by omega
  have hw:=wS (i:=i) (by omega);obtain⟨x,hx⟩:∃ x,l[i]? = some x:=⟨_,List.getElem?_eq_getElem hlt⟩;have sg:=si.old M.a;obtain⟨bk,off, -,x1,x2, -⟩:=Xhr (b:=b) (T28 b) Qeo sg.s hx;have xa:=sg.a x (List.mem_of_getElem? hx);have ld:=Heap.get_lt M.gD;obtain⟨hA,g2,alA,stA,stA',gX,a2,m2⟩:=Quc b (Yta b) (l:=x.cells) (by rw[x.len,Qeo]) (by kernel_rfl) g;have xa2:=xa.old a2;have c33:Yw g2 g.next 33=some x.wv:=by rw[Yi gX,Jk0]
  have lenw:∀ hx,Qkc (E b).toEnv 66 x.wv hx=some (.int .i64 (x.its.length:Int)):=fun hx=>Qa0 (T66 b) xa.w;have xn:=xa.n;obtain⟨g3,e3⟩:∃ g3,g3=g2.push (.cells true 1 (List.replicate x.its.length (.slice none 0 0))):=⟨_,rfl⟩;have mk3:Qpf (E b).toEnv 66 (.int .i64 0) (.int .i64 (x.its.length:Int)) g2=some (.slice (some ⟨g2.next,0,none⟩) 0 x.its.length,g3):=by rw[e3];exact Jqe b _ (by omega) g2
  have a3:=Qon e3;have o3:Own g3 g2.next 1 (.slice (some ⟨g2.next,0,none⟩) 0 x.its.length) 0 []:=by rw[e3];exact Jge (by omega)
  have n3:=Q8i e3;simp[Wa,-Wa,t1,t2,t3,t15,t16,t17,hlt',x1,x2,alA,stA,stA',x.len,c33,lenw,mk3];refine Jqc b (T:=T) (O:=O) (D:=D) (iv:=iv) (n:=l.length) (i:=i) (n0:=g2.next) (xa2.old a3) (fun v hv c hc=>xa2.lt hv hc) (by omega) a3.1 (a3.get gX) ⟨by simp[t1],by simp[t2],by simp[t3],by simp[t15],by simp[t16],by simp[t17],by simp⟩ (by simp) o3 _ fun t' o out g4 F t6 ho hout hits n4 kp => ?_;obtain⟨t1,t2,t3,t15,t16,t17,t5⟩:=F;have a24:Old g2 g4:=⟨by omega,fun c hc=>by rw[kp c hc,a3.2 c hc]⟩;have a4:=a2.trans a24;have lo:out.length=x.its.length:=by have:=congrArg List.length hout;simpa using this
  obtain⟨y,ey⟩:∃ y:InV,y=⟨x.pt,o,out⟩:=⟨_,rfl⟩;have yn:InN g4 g.next y:=by
   rw[ey];refine⟨⟨by show Sl g4 1 o out.length _;rw[lo];exact ho.sl,fun p hp=>⟨(hits p hp).1.sl,(hits p hp).2.1⟩,by show out.length < _;rw[lo];exact xa.n,fun p hp => ?_⟩,fun v hv c hc => ?_⟩
   ·have : p.2 ∈ x.its.map (·.2):=by rw[<- hout];exact am.2 ⟨p,hp,rfl⟩
    obtain⟨r,hr,e⟩:=am.1 this;rw[<- e];exact xa.l r hr
   ·rcases ap.1 hv with rfl | hv
    ·have:=(ho.from hc).1;omega
    ·obtain⟨p,hp,rfl⟩:=am.1 hv;have:=((hits p hp).1.from hc).1;omega
  have yc:y.cells=x.pt.cells ++ [o]:=by rw[ey];rfl
  obtain⟨iv',h5,j1,R5,one5,k5,n5⟩:=R.more b (by omega) a4 yn;rw[yc]at j1;have bl:W7 (E b).toEnv 28 1 [(0,.agg ⟨x.pt.cells ++ [o]⟩)] g4=some (.slice (some ⟨g4.next,0,none⟩) 1 1,g4.push (.cells true 1 (x.pt.cells ++ [o]))):=Xlx (T28 b) (z:=34) (y:=.agg ⟨x.pt.cells ++ [o]⟩) (ys:=x.pt.cells ++ [o]) Qeo (by omega) (by omega) rfl rfl (by simp[Pt.len]);have gX4:=a24.get gX;have pX:Wy g4 g.next 0 33=some (.agg ⟨x.pt.cells⟩):=by rw[V2 gX4 (by simp[InV.cells,Pt.len])];simp[InV.cells,aF,Pt.len]
  have gD4:=a4.get M.gD;have d0:Yw g4 D 0=some iv2:=by rw[Yi gD4];rfl
  have ivD:J4 iv2≠some D:=fun e=>by have:=(R.lo e).1;omega
  have ld4:=Heap.get_lt gD4;have gD5:h5.get D=some (.cells true 1 (txC iv2 (.slice none 0 0) lock)):=by rw[k5 D ld4 ivD];exact gD4
  have ld5:=Heap.get_lt gD5;obtain⟨h6,e6⟩:∃ h6,h6=h5.set D (some (.cells true 1 (txC iv' (.slice none 0 0) lock))):=⟨_,rfl⟩;have st6:Ur h5 D 0 [iv']=some h6:=by rw[e6];exact Qeu gD5 (by simp[txC])
  have k6:∀ c,c≠D->h6.get c=h5.get c:=fun c hc=>by rw[e6,gY ld5,if_neg (Ne.symm hc)]
  have n6:h6.next=h5.next:=by rw[e6];rfl
  simp[Wa,t1,t2,t3,t5,t6,t15,t16,t17,d0,pX,Zqy b x.pt ho.one,bl,j1,Jl9,one5,st6,hw];have kb:∀ c,c < g.next->c < D->h6.get c=g.get c:=fun c hc hd=>by
   rw[k6 c (by omega),k5 c (au hc a4.1) (fun e=>by have:=(R.lo e).1;omega),a4.2 c hc]
  refine⟨l.length-(i+1),by omega,_,h6,iv',ins ++ [y],i+1,rfl,⟨by simp[t1],by simp[t2],by simp[t3],by simp[t15],by simp[t16],by simp⟩,by omega,rfl,by simp[hil],?_,R5.keep (by omega) (fun c hc _=>k6 c (by omega)),?_⟩
  ·have hTO:=M.tD;have hOD:=M.oD;have hhT:=M.hT;have h1:=M.a.1;have h4:=a4.1;refine⟨⟨by omega,fun c hc=>by rw[kb c (by omega) (by omega),M.a.2 c hc]⟩,M.hT,?_,?_,by rw[e6,gY ld5,if_pos rfl],M.tD,M.oD,M.hO⟩
   ·rw[kb T (Heap.get_lt M.gT) M.tD];exact M.gT
   ·rw[kb O (Heap.get_lt M.gO) M.oD];exact M.gO
  ·rw[aQ,hx,aR,hp,ey];simp[InV.p,hout]
 ·have hlt':¬ (i:Int) < (l.length:Int):=by omega
  have : i=l.length:=by omega
  subst this;simp[Wa,t16,t17];rw[bc]at hp;exact hk _ iv2 ins g (by simp[t1]) (by simp[t2]) (by simp[t3]) M R hp
end
def OutsN(n0:Nat)(g:Heap)(ov:Value)(os:List OutV):Prop:=∃ h1,h1.next=n0/\OutsR h1 g ov os
def OutsN.nil{n0:Nat}{g:Heap}(h:n0<=g.next):OutsN n0 g (.slice none 0 0) []:=by
 obtain⟨h1,e,a⟩:=Y24 h;exact⟨h1,e,Own.nil,by simp,by simp,a⟩
def OutsN.keep{n0:Nat}{g g':Heap}{ov:Value}{os:List OutV}(R:OutsN n0 g ov os)(hn:g.next<=g'.next)(k:∀ c,n0<=c->c < g.next->g'.get c=g.get c):OutsN n0 g' ov os:=by
 obtain⟨h1,e,o,s,d,a⟩:=R;obtain⟨h2,e2,a2⟩:=Y24 (g:=g') (n0:=n0) (by have:=a.1;omega);subst e;refine⟨h2,e2,?_,fun x hx => ?_,d,a2⟩
 ·rw[e2];exact o.keep fun c hc hl=>k c (o.from hc).1 hl
 ·rw[e2];exact(s x hx).keep fun c hc hl=>k c ((s x hx).1.from hc).1 hl
def OutsN.more(b:Nat){n0:Nat}{g h3:Heap}{ov sv:Value}{os:List OutV}(R:OutsN n0 g ov os)(hi:os.length < 1000000)(a3:Old g h3){v:Int}{sc:List Int}(s3:OB h3 g.next sv sc)(hb:Bytes sc)(hl:sc.length < 1000000) :
  ∃ ov' h4,Qjr (E b).toEnv 29 29 ov (.slice (some ⟨h3.next,0,none⟩) 1 1) (h3.push (.cells true 1 [.int .i64 v,sv]))=some (ov',h4)/\OutsN n0 h4 ov' (os ++ [⟨v,sv,sc⟩])/\Xxl ov'=true/\(∀ c,c < h3.next->J4 ov≠some c->h4.get c=h3.get c)/\h3.next<=h4.next:=by
 obtain⟨h1,e,R⟩:=R;obtain⟨ov',h4,q1,q2,q3, -,q5,q6⟩:=R.more b hi a3 s3 hb hl (v:=v);exact⟨ov',h4,q1,⟨h1,e,q2⟩,q3,q5,q6⟩
def OutsN.lo{n0:Nat}{g:Heap}{ov:Value}{os:List OutV}(R:OutsN n0 g ov os){c:Nat}(hc:J4 ov=some c):n0<=c/\c < g.next:=by
 obtain⟨h1,e,R⟩:=R;subst e;exact R.o.from hc
def InsN.keepB{n0 n1:Nat}{g g':Heap}{iv:Value}{ins:List InV}(R:InsN n0 g iv ins)(lo:∀ c,J4 iv=some c->c < n1)(loi:∀ x ∈ ins,∀ v ∈ Z3h x,∀ c,J4 v=some c->c < n1)(hn:g.next<=g'.next)(k:∀ c,n0<=c->c < n1->c < g.next->g'.get c=g.get c):InsN n0 g' iv ins:=by
 obtain⟨h1,e,o,s,d,a⟩:=R;obtain⟨h2,e2,a2⟩:=Y24 (g:=g') (n0:=n0) (by have:=a.1;omega);subst e;refine⟨h2,e2,?_,fun x hx=>⟨(s x hx).1.keepV fun v hv c hc hl=>k c ((s x hx).2 v hv c hc) (loi x hx v hv c hc) hl,fun v hv c hc => ?_⟩,d,a2⟩
 ·rw[e2];exact o.keep fun c hc hl=>k c (o.from hc).1 (lo c hc) hl
 ·rw[e2];exact(s x hx).2 v hv c hc
structure FrU (t:Tr Value) (T O D:Nat) (ov:Value) (n i:Nat):Prop where
 t1:t.get 1=some (pO T 0)
 t2:t.get 2=some (pO O 0)
 t3:t.get 3=some (pO D 0)
 t49:t.get 49=some ov
 t50:t.get 50=some (.int .i64 (n:Int))
 t51:t.get 51=some (.int .i64 (i:Int))
def FOI(h:Heap)(T O D n1:Nat)(iv ov:Value)(lock:Int)(iv2:Value)(ins:List InV)(l:List OutV)(k:Nat)(s:St):Prop:=∃ (t:Tr Value) (g:Heap) (ov2:Value) (os:List OutV) (i:Nat),s=⟨⟨68,t⟩,[],g⟩/\FrU t T O D ov l.length i/\i<=l.length/\k=l.length-i/\os.length=i/\FrM h g T O D iv ov lock iv2 ov2/\InsN (D+1) g iv2 ins/\OutsN n1 g ov2 os/\os.map OutV.p=(l.take i).map OutV.p
section
attribute [local simp] Wq Qcd Ja Qa8 Ud Vz Qc7 Ym Vm Qcq Qdn U7 Qbm Z8 Jt Wa Yx Uh Jf Qal Qg1 Qb9 Jo Jv V4
set_option maxHeartbeats 1000000 in
def Jne(b:Nat){h g:Heap}{T O D n1:Nat}{iv ov iv2:Value}{lock:Int}{ins:List InV}{l:List OutV}(so:Outs h ov l)(M:FrM h g T O D iv ov lock iv2 (.slice none 0 0))(R:InsN (D+1) g iv2 ins)(hD:D < n1)(hn1:n1<=g.next)(lo:∀ c,J4 iv2=some c->c < n1)(loi:∀ x ∈ ins,∀ v ∈ Z3h x,∀ c,J4 v=some c->c < n1){t:Tr Value}(t1:t.get 1=some (pO T 0))(t2:t.get 2=some (pO O 0))(t3:t.get 3=some (pO D 0))
  (K:Exit->St->Prop) (hk:∀ (t':Tr Value) (ov2:Value) (os:List OutV) (g':Heap),t'.get 1=some (pO T 0)->t'.get 2=some (pO O 0)->t'.get 3=some (pO D 0)->FrM h g' T O D iv ov lock iv2 ov2->InsN (D+1) g' iv2 ins->OutsN n1 g' ov2 os->os.map OutV.p=l.map OutV.p->K .normal ⟨⟨68,t'⟩,[],g'⟩) :
  Qac (E b) (Q5r Tryz.prog (E b).G) (D0 b) none Xk5 ⟨⟨68,t⟩,[],g⟩ K:=by
 have hn:=so.n;have len:∀ hx,Qkc (E b).toEnv 29 ov hx=some (.int .i64 (l.length:Int)):=fun hx=>Qa0 (T29 b) so.s;have c1:Yw g T 1=some ov:=by rw[Yi M.gT];rfl
 simp[Qb6,Wt,Qa2,W5,t1,c1,len];refine Qdf (FOI h T O D n1 iv ov lock iv2 ins l) l.length ⟨_,g,.slice none 0 0,[],0,rfl,⟨by simp[t1],by simp[t2],by simp[t3],by simp,by simp,by simp⟩,by omega,rfl,rfl,M,R,OutsN.nil hn1,by simp⟩ ?_;rintro k s' ⟨t,g,ov2,os,i,rfl,⟨t1,t2,t3,t49,t50,t51⟩,hi,rfl,hil,M,R,Q,hp⟩ _;by_cases hlt:i < l.length
 ·have hlt':(i:Int) < (l.length:Int):=by omega
  have hw:=wS (i:=i) (by omega);obtain⟨x,hx⟩:∃ x,l[i]? = some x:=⟨_,List.getElem?_eq_getElem hlt⟩;have sg:=so.old M.a;have xa:=sg.a x (List.mem_of_getElem? hx);obtain⟨bk,off, -,x1,xg, -, -⟩:=Xjz (b:=b) (T29 b) Qjv sg.s hx;obtain⟨hA,g2,alA,stA,stA',gX,a2,m2⟩:=Quc b (Zdt b) (l:=x.cells) (by rw[Qjv];rfl) (by kernel_rfl) g;have xa2:=xa.old a2;obtain⟨_,h2,c1',n1',sv2,rfl,o2,a3⟩:=Jbt b xa2.s xa2.l (fun r h' => ∃ v,r=.ret v/\OB h' g2.next v x.script/\Old g2 h') (fun v h' o a=>⟨v,rfl,o,a⟩);have a4:=a2.trans a3;obtain⟨ov',h5,j1,R5,one5,k5,n5⟩:=Q.more b (by omega) a4 (v:=x.value) (o2.low a2.1) xa2.b xa2.l;have gD4:=a4.get M.gD;have d1:Yw g2 D 1=some ov2:=by rw[Yi (a2.get M.gD)];rfl
  have d1':Yw h2 D 1=some ov2:=by rw[Yi gD4];rfl
  have x0:Yw g2 g.next 0=some (.int .i64 x.value):=by rw[Yi gX];rfl
  have x1':Yw g2 g.next 1=some x.sv:=by rw[Yi gX];rfl
  have x0h:Yw h2 g.next 0=some (.int .i64 x.value):=by rw[Yi (a3.get gX)];rfl
  have x1h:Yw h2 g.next 1=some x.sv:=by rw[Yi (a3.get gX)];rfl
  have ovD:J4 ov2≠some D:=fun e=>by have:=(Q.lo e).1;omega
  have ld4:=Heap.get_lt gD4;have gD5:h5.get D=some (.cells true 1 (txC iv2 ov2 lock)):=by rw[k5 D ld4 ovD];exact gD4
  have ld5:=Heap.get_lt gD5;obtain⟨h6,e6⟩:∃ h6,h6=h5.set D (some (.cells true 1 (txC iv2 ov' lock))):=⟨_,rfl⟩;have st6:Ur h5 D 1 [ov']=some h6:=by rw[e6];exact Qeu gD5 (by simp[txC])
  have k6:∀ c,c≠D->h6.get c=h5.get c:=fun c hc=>by rw[e6,gY ld5,if_neg (Ne.symm hc)]
  have n6:h6.next=h5.next:=by rw[e6];rfl
  simp[Qb6,Wt,Qa2,W5,t1,t2,t3,t49,t50,t51,hlt',x1,xg,-Qa2,alA,stA,stA'];refine Qem [⟨50,[x.sv],g2,sv2,h2,true⟩] ?_ X48 Yb1 X3x (by simp[Yfq,Yp5,Yo1,Yfv,Qb6,Wt,Qa2,W5,t1,t2,t3,d1,x0,x1',Q60 b x.value o2.sl,Y38,j1,Jgi,one5,st6];first | exact⟨rfl,rfl⟩ | rfl) ?_ ?_
  ·exact zk1 ⟨c1',n1',fun _ c hc=>a3.2 c hc⟩
  ·simp[Qe1,Qb6,Wt,Qa2,W5,t1,t2,t3,d1,d1',x0,x1',x0h,x1h,Xpl xa.s,Qwt]
  simp[Qb6,Wt,Qa2,W5,t1,t2,t3,t49,t50,t51,hw];have kb:∀ c,c < g.next->c < n1->c≠D->h6.get c=g.get c:=fun c hc hd hn=>by
   rw[k6 c hn,k5 c (au hc a4.1) (fun e=>by have:=(Q.lo e).1;omega),a4.2 c hc]
  have hTO:=M.tD;have hOD:=M.oD;have hhT:=M.hT;have h1:=M.a.1;have h4:=a4.1;refine⟨l.length-(i+1),by omega,_,h6,ov',os ++ [⟨x.value,sv2,x.script⟩],i+1,rfl,⟨by simp[t1],by simp[t2],by simp[t3],by simp[t49],by simp[t50],by simp⟩,by omega,rfl,by simp[hil],⟨⟨by omega,fun c hc=>by rw[kb c (by omega) (by omega) (by omega),M.a.2 c hc]⟩,M.hT,?_,?_,by rw[e6,gY ld5,if_pos rfl],M.tD,M.oD,M.hO⟩,R.keepB lo loi (by omega) (fun c h1 h2 h3=>kb c h3 h2 (by omega)),R5.keep (by omega) (fun c hc _=>k6 c (by omega)),?_⟩
  ·rw[kb T (Heap.get_lt M.gT) (by omega) (by omega)];exact M.gT
  ·rw[kb O (Heap.get_lt M.gO) (by omega) (by omega)];exact M.gO
  ·rw[aQ,hx,aR,hp];simp[OutV.p]
 ·have hlt':¬ (i:Int) < (l.length:Int):=by omega
  have : i=l.length:=by omega
  subst this;simp[Qb6,Wt,Qa2,W5,t50,t51];rw[bc]at hp;exact hk _ ov2 os g (by simp[t1]) (by simp[t2]) (by simp[t3]) M R Q hp
def InsN.lt{n0:Nat}{g:Heap}{iv:Value}{ins:List InV}(R:InsN n0 g iv ins):∀ x ∈ ins,∀ v ∈ Z3h x,∀ c,J4 v=some c->n0<=c/\c < g.next:=by
 obtain⟨h1,e,R⟩:=R;subst e;exact fun x hx v hv c hc=>⟨(R.s x hx).2 v hv c hc,(R.s x hx).1.lt hv hc⟩
set_option maxHeartbeats 1000000 in
def Yre(b:Nat){h:Heap}{iv ov:Value}{ins:List InV}{outs:List OutV}{lock:Int}(si:Ins h iv ins)(so:Outs h ov outs)(K:KP)
  (hk:∀ iv2 ov2 ins2 outs2 h',TxR h h' iv2 ov2 ins2 outs2->ins2.map InV.p=ins.map InV.p->outs2.map OutV.p=outs.map OutV.p->K (.ret (.agg ⟨txC iv2 ov2 lock⟩)) h'):FK b 22 [.agg ⟨txC iv ov lock⟩] h K:=by
 refine F3 b (Ja b) Yyw rfl ?_;obtain⟨hA,eA⟩:∃ hA,hA=h.push (.cells true 1 (txC iv ov lock)):=⟨_,rfl⟩;have bx:=Qw8 eA;have aA:=Qon eA;have gA:hA.get h.next=some (.cells true 1 (txC iv ov lock)):=by rw[eA,Heap.get_push,if_pos rfl]
 have nA:=Q8i eA;obtain⟨hB,eB⟩:∃ hB,hB=hA.push (.cells true 1 X2g):=⟨_,rfl⟩;have alB:Qbx (E b).toEnv 31 hA=some (pO hA.next 0,hB):=by rw[eB];exact Qb6 b hA
 have aB:=Qon eB;have gB:hB.get hA.next=some (.cells true 1 X2g):=by rw[eB,Heap.get_push,if_pos rfl]
 have nB:hB.next=h.next+2:=by rw[eB];simp only[Qmo,nA]
 have aAB:=aA.trans aB;have c2:Yw hB h.next 2=some (.int .i64 lock):=by rw[Yi (aB.get gA)];rfl
 have bt:Qn1 (E b).toEnv 31 [(2,.int .i64 lock)]=some (.agg ⟨txC (.slice none 0 0) (.slice none 0 0) lock⟩):=kR
 obtain⟨hC,g,alC,stC,stC',gD,aC,nC⟩:=Quc b (Zj9 b) (l:=txC (.slice none 0 0) (.slice none 0 0) lock) (by rw[Qvs];rfl) (by kernel_rfl) hB;have M:FrM h g h.next hA.next hB.next iv ov lock (.slice none 0 0) (.slice none 0 0):=⟨aAB.trans aC,ab _,aC.get (aB.get gA),aC.get gB,gD,by omega,by omega,by omega⟩;simp[Qb6,Wt,Qa2,W5,-Wt,-W5,bx,-Qb6,alB,c2,bt,alC,stC,stC'];refine Jro b si M (by simp) (by simp) (by simp) _ fun t iv2 ins2 g1 t1 t2 t3 M1 R1 e1 => ?_;simp[Qb6,Wt,Qa2,W5,-W5];refine Jne b (n1:=g1.next) so M1 R1 (Heap.get_lt M1.gD) (ab _) (fun c hc=>(R1.lo hc).2) (fun x hx v hv c hc=>(R1.lt x hx v hv c hc).2) t1 t2 t3 _ fun t ov2 os g2 t1 t2 t3 M2 R2 Q2 e2 => ?_;have agD:Wy g2 hB.next 0 3=some (.agg ⟨txC iv2 ov2 lock⟩):=by rw[V2 M2.gD (by simp[txC])];rfl
 have ltO:=Heap.get_lt M2.gO;obtain⟨h4,e4⟩:∃ h4,h4=g2.set hA.next (some (.cells true 1 (txC iv2 ov2 lock))):=⟨_,rfl⟩;have st4:Qbw (E b).toEnv 31 (pO hA.next 0) (.agg ⟨txC iv2 ov2 lock⟩) g2=some h4:=by
  rw[Qx2 (l:=txC iv2 ov2 lock) (Zj9 b) (by rw[Qvs];rfl),e4];exact Wh M2.gO (by simp[X2g,txC])
 have g4:h4.get hA.next=some (.cells true 1 (txC iv2 ov2 lock)):=by rw[e4,gY ltO,if_pos rfl]
 have k4:∀ c,c≠hA.next->h4.get c=g2.get c:=fun c hc=>by rw[e4,gY ltO,if_neg (Ne.symm hc)]
 have n4:h4.next=g2.next:=by rw[e4];rfl
 have ag4:Wy h4 hA.next 0 3=some (.agg ⟨txC iv2 ov2 lock⟩):=by rw[V2 g4 (by simp[txC])];rfl
 simp[Qb6,Wt,Qa2,W5,t1,t2,t3,agD,st4,ag4];have l1:ins2.length=ins.length:=by have:=congrArg List.length e1;simpa using this
 have l2:os.length=outs.length:=by have:=congrArg List.length e2;simpa using this
 have oldA:Old h h4:=⟨by have:=M2.a.1;omega,fun c hc=>by rw[k4 c (by omega),M2.a.2 c hc]⟩;have R4:=R2.keep (g':=h4) (by omega) (fun c hc _=>k4 c (by omega));have hg1:=M1.a.1;have ld1:=Heap.get_lt M1.gD;have Q4:=Q2.keep (g':=h4) (by omega) (fun c hc _=>k4 c (by omega));obtain⟨h5,e5,r5⟩:=R4;obtain⟨h6,e6,q6⟩:=Q4;refine hk iv2 ov2 ins2 os h4 ⟨⟨r5.o.low (by omega),fun x hx=>(r5.s x hx).low (by omega),r5.d,oldA⟩,⟨q6.o.low (by omega),fun x hx=>⟨(q6.s x hx).1.low (by omega),(q6.s x hx).2⟩,q6.d,oldA⟩,fun c hc e => ?_,fun x hx c hc e => ?_,by have:=si.n;omega,by have:=so.n;omega⟩ e1 e2
 ·have:=(R1.lo hc).2;have:=(Q2.lo e).1;omega
 ·have:=((q6.s x hx).1.from hc).1;have:=(R1.lo e).2;omega
end
def APW(h:Heap)(lv:Value)(W:List WtV)(k:Nat)(s:St):Prop:=∃ (t:Tr Value) (g:Heap) (tv:Value) (m:List TxV) (i:Nat),s=⟨⟨23,t⟩,[],g⟩/\t.get 9=some lv/\t.get 3=some tv/\t.get 10=some (.int .i64 (W.length:Int))/\t.get 11=some (.int .i64 (i:Int))/\i<=W.length/\k=W.length-i/\m.length=i/\Old h g/\TxsN h.next g tv m/\m.map TxV.p=(W.take i).map fun w=>w.tx.p
section
attribute [local simp] Qq9 Q16 Zw Qw1 Qvo Qbn Qnv Qj6 Qbt V4 Ja 
set_option maxHeartbeats 1000000 in
def Zx0(b:Nat){h:Heap}{pb z:Nat}{fl lv mv:Value}{W:List WtV}(gp:h.get pb=some (.cells true z [fl,lv,mv]))(s:Sl h 37 lv W.length (Qe2 W))(hn:W.length < 1000000)(ta:∀ w ∈ W,TxAt h w.tx)(K:KP)
  (hk:∀ tv m h',TxsN h.next h' tv m->Old h h'->(m.map TxV.p=W.map fun w=>w.tx.p)->K (.ret tv) h'):CallOK Tryz.prog (E b).G 8 [pO pb 0] h K:=by
 refine Qh3 (E b) (Vy _ _) (Uf b) (Jd b) mixed (Ui b) (Zw b) Ygc.1 Ygc.2.1 Ygc.2.2 rfl ?_;have len:∀ hx,Qkc (E b).toEnv 53 lv hx=some (.int .i64 (W.length:Int)):=fun hx=>Qa0 (T53 b) s;have c1:Yw h pb 1=some lv:=by rw[Yi gp];rfl
 simp[Qjn,Qec,c1,len];refine Qdf (APW h lv W) W.length ⟨_,h,.slice none 0 0,[],0,rfl,by simp,by simp,by simp,by simp,by omega,rfl,rfl,Old.refl _,TxsN.nil _ _,by simp⟩ ?_;rintro k s' ⟨t,g,tv,m,i,rfl,t9,t3,t10,t11,hi,rfl,hil,ag,R,hp⟩ _;by_cases hlt:i < W.length
 ·have hlt':(i:Int) < (W.length:Int):=by omega
  have hw:=wS (i:=i) (by omega);obtain⟨x,hx⟩:∃ x,W[i]? = some x:=⟨_,List.getElem?_eq_getElem hlt⟩;obtain⟨bk,off, -,x1,x2⟩:=Jfk (b:=b) (T53 b) Qjw (s.old ag) hx;obtain⟨hA,g2,alA,stA,stA',gX,a2,m2⟩:=Quc b (Zl3 b) (l:=x.cells) (by rw[x.len,Qjw]) (by kernel_rfl) g;have ag2:=ag.trans a2;have xa:=(ta x (List.mem_of_getElem? hx)).old ag2;have pX:Wy g2 g.next 0 3=some (.agg ⟨txC x.tx.iv x.tx.ov x.tx.lock⟩):=by rw[V2 gX (by rw[x.len];omega)];rfl
  simp[Qjn,t9,t3,t10,t11,hlt',x1,x2,-Qjn,alA,stA,stA',x.len,pX];refine(Yre b (lock:=x.tx.lock) xa.i xa.o _ fun iv2 ov2 ins2 outs2 h5 R5 e1 e2 => ?_).ok;have a5:=R5.i.a;obtain⟨y,ey⟩:∃ y:TxV,y=⟨iv2,ov2,ins2,outs2,x.tx.lock⟩:=⟨_,rfl⟩;have hp2:∀ w ∈ ins2,PtB w.pt:=fun w hw'=>by
   have : w.p ∈ ins2.map InV.p:=am.2 ⟨w,hw',rfl⟩;rw[e1]at this;obtain⟨u,hu,e⟩:=am.1 this;have : w.pt=u.pt:=by have:=congrArg PIn.pt e;exact this.symm
   rw[this];exact xa.p u hu
  obtain⟨tz,fz⟩:=R5.txv (lock:=x.tx.lock) hp2;rw[<- ey]at tz fz;have zc:txC iv2 ov2 x.tx.lock=txC y.iv y.ov y.lock:=by rw[ey]
  rw[zc];have a25:=a2.trans a5;obtain⟨tv',h6,j1,R6, -, -,j5,j6⟩:=(R.old a25).more b (by omega) (ai ag.1 a25.1) tz (fun v hv c hc=>by
   have:=fz v hv c hc;have h1:=ag2.1;exact⟨by omega,fun e=>by have:=(R.o.from e).2;have:=a2.1;omega⟩)
  have aH6:Old h h6:=⟨ai ag.1 (ai a25.1 j6),fun c hc=>by rw[j5 c (au hc (ai ag.1 a25.1)) (fun e=>by have:=(R.o.from e).1;omega),a25.2 c (au hc ag.1),ag.2 c hc]⟩;simp[Qjn,t9,t3,t10,t11,Jrl,j1,hw];refine⟨W.length-(i+1),by omega,_,h6,tv',_,i+1,rfl,by simp[t9],by simp,by simp[t10],by simp,by omega,rfl,by simp[hil],aH6,R6,?_⟩;rw[aQ,hx,aR,hp,ey];simp[TxV.p,Jkg e1 e2]
 ·have hlt':¬ (i:Int) < (W.length:Int):=by omega
  have : i=W.length:=by omega
  subst this;simp[Qjn,t3,t10,t11];rw[bc]at hp;exact hk tv m g R ag hp
end
def Z32{l:List WtV}{i:Nat}{x:WtV}(hx:l[i]? = some x):Qh5 (l.take (i+1))=Qh5 (l.take i)+x.fee:=by
 rw[aQ,hx,Ypj];simp[Qh5]
def X1w{B:Int}(hB:0<=B):∀ {l:List WtV},(∀ w ∈ l,0<=w.fee/\w.fee<=B)->0<=Qh5 l/\Qh5 l<=B*l.length
 | [],_=>by simp[Qh5]
 | x::l,h=>by
  have ih:=X1w hB (l:=l) fun w hw=>h w (aN _ hw);have hx:=h x (bo ..);have e:Qh5 (x::l)=x.fee+Qh5 l:=rfl;have e2:B*((x::l).length:Int)=B*l.length+B:=by rw[aS];push_cast;rw[Int.mul_add,Int.mul_one]
  omega
def FEI(h:Heap)(pb:Nat)(W:List WtV)(tv:Value)(m:List TxV)(k:Nat)(s:St):Prop:=∃ (t:Tr Value) (g:Heap) (i:Nat),s=⟨⟨30,t⟩,[],g⟩/\t.get 0=some (pO pb 0)/\t.get 3=some tv/\t.get 4=some (.int .i64 (Qh5 (W.take i)))/\t.get 5=some (.int .i64 (i:Int))/\i<=W.length/\k=W.length-i/\Old h g/\TxsN h.next g tv m
section
attribute [local simp] Qno Qyi Vs Qsw Zw Qsz Qtf V4 Qe5 Jk 
set_option maxHeartbeats 1000000 in
def Z02(b:Nat){h:Heap}{pb z:Nat}{fl lv mv:Value}{W:List WtV}(la:Ab.LaidIn h laidAll)(gp:h.get pb=some (.cells true z [fl,lv,mv]))(s:Sl h 37 lv W.length (Qe2 W))(hn:W.length<=1000)(ta:∀ w ∈ W,TxAt h w.tx)(hid:∀ w ∈ W,w.id=dgF idS w.tx.p)(hd:W.Pairwise fun x y=>x.id≠y.id)(hf:∀ w ∈ W,0<=w.fee/\w.fee<=1125899906842624)(K:KP)
  (hk:∀ h',Old h h'->K (.ret (.int .i64 (Qh5 W))) h'):CallOK Tryz.prog (E b).G 7 [pO pb 0] h K:=by
 refine Qh3 (E b) (Vy _ _) (Uf b) (Jd b) mixed (Ui b) (Vs b) Y37.1 Y37.2.1 Y37.2.2 rfl ?_;simp;refine Zx0 b gp s (by omega) ta _ fun tv m h1 R a1 hp => ?_;have lm:m.length=W.length:=by have:=congrArg List.length hp;simpa using this
 have len:∀ hx,Qkc (E b).toEnv 37 tv hx=some (.int .i64 (W.length:Int)):=fun hx=>by rw[<- lm];exact Qa0 (T37 b) R.o.sl
 simp;refine Qdf (FEI h pb W tv m) W.length ⟨_,h1,0,rfl,by simp,by simp,by simp[Qh5],by simp,by omega,rfl,a1,R⟩ ?_;rintro k s' ⟨t,g,i,rfl,t0,t3,t4,t5,hi,rfl,ag,R⟩ _;by_cases hlt:i < W.length
 ·have hlt':(i:Int) < (W.length:Int):=by omega
  have hw:=wS (i:=i) (by omega);obtain⟨w,hwi⟩:∃ w,W[i]? = some w:=⟨_,List.getElem?_eq_getElem hlt⟩;obtain⟨y,hy⟩:∃ y,m[i]? = some y:=⟨_,List.getElem?_eq_getElem (by omega)⟩;have hm:=List.mem_of_getElem? hwi;have yp:y.p=w.tx.p:=by
   have:=congrArg (fun l=>l[i]?) hp;simpa[hy,hwi]using this
  obtain⟨bk,off,x1,x2⟩:=Zvl (b:=b) (T37 b) Qvs (R.o.sl) hy;have x2:Wy g bk off 3=some (.agg ⟨txC y.iv y.ov y.lock⟩):=x2;have ya:=R.s y (List.mem_of_getElem? hy);simp[t0,t3,t4,t5,len,hlt',x1,x2];refine(Jqr b (Laid.old la ag) ya.i ya.o ya.p _ fun g2 a2 => ?_).ok;have e:dgF idS (ptx y.ins y.outs y.lock)=w.id:=by
   have : ptx y.ins y.outs y.lock=y.p:=rfl;rw[this,yp,hid w hm]
  rw[e];simp[t0,t3,t4,t5];have a12:=ag.trans a2;refine Jkv b (a12.get gp) (s.old a12) (by omega) w.hid _ fun g3 a3 => ?_;rw[Z6q hd hm];have fb:=X1w (B:=1125899906842624) (by omega) (l:=W.take i) fun w hw=>hf w (ce hw);have fw:=hf w hm;have lt:((W.take i).length:Int)<=1000:=by rw[br];omega
  have hs:IntKind.i64.wrap (Qh5 (W.take i)+w.fee)=Qh5 (W.take (i+1)):=by
   rw[Z32 hwi];exact Uq (by omega) (by omega)
  simp[t0,t3,t4,t5,hs,hw];exact⟨W.length-(i+1),by omega,_,g3,i+1,rfl,by simp[t0],by simp[t3],by simp,by simp,by omega,rfl,a12.trans a3,(R.old a2).old a3⟩
 ·have hlt':¬ (i:Int) < (W.length:Int):=by omega
  have : i=W.length:=by omega
  subst this;simp[t0,t3,t4,t5,len];exact hk g ag
end
def SpM(h:Heap)(mb:Nat)(N:Int)(q:Pt->Bool):Prop:=∃ (l:List PE) (clk:Nat),h.get mb=some (.map ⟨l.map PE.e⟩ clk)/\(∀ x ∈ l,∃ z:Int,x.val=.int .i64 z/\1<=z/\z<=N)/\(∀ p,(∃ x ∈ l,x.key=p)↔q p=true)/\(l.map PE.born).Nodup/\(∀ x ∈ l,x.born < clk)/\(clk:Int)<=N
def SpM.old{h h':Heap}{mb:Nat}{N:Int}{q:Pt->Bool}(s:SpM h mb N q)(a:Old h h'):SpM h' mb N q:=by
 obtain⟨l,clk,g,h1⟩:=s;exact⟨l,clk,a.get g,h1⟩
def SpM.keep{h h':Heap}{mb:Nat}{N:Int}{q:Pt->Bool}(s:SpM h mb N q)(k:h'.get mb=h.get mb):SpM h' mb N q:=by
 obtain⟨l,clk,g,h1⟩:=s;exact⟨l,clk,by rw[k];exact g,h1⟩
def SpM.look(b:Nat){h:Heap}{mb:Nat}{N:Int}{q:Pt->Bool}(s:SpM h mb N q)(p:Pt):∃ z:Int,Qjo (E b).toEnv 52 (.map (some mb)) (.agg ⟨p.cells⟩) false h=some (.int .i64 z)/\0<=z/\(z<=N∨z=0)/\(0 < z↔q p=true):=by
 obtain⟨l,clk,g,h1,h2, -⟩:=s;have e:=(Zs8 (b:=b) (Jex b) (by kernel_rfl) g (Jcf b) p).1;cases hf:Q2e p l 0 with
 | none =>
  rw[hf]at e;have ez:R3.zero=.int .i64 0:=kR
  refine⟨0,by rw[e,ez],by omega,.inr rfl,fun h=>by omega,fun h => ?_⟩;obtain⟨x,hx,hk⟩:=(h2 p).2 h;exact absurd hk (Xnk.1 hf x hx)
 | some r =>
  obtain⟨i,v⟩:=r;rw[hf]at e;obtain⟨x,hx, -,hk,hv⟩:=Xcy hf;have hm:=List.mem_of_getElem? hx;obtain⟨z,hz,z1,z2⟩:=h1 x hm;refine⟨z,by rw[e,<- hv,hz],by omega,.inl z2,fun _=>(h2 p).1 ⟨x,hm,hk⟩,fun _=>by omega⟩
section
attribute [local simp] Qia Qpy Qhw Qmv Yjq Qfl Qyh Yx Uh 
def Jmp(b:Nat){x:InV}{h:Heap}{pb z mb B:Nat}{fl lv:Value}{N:Int}{q:Pt->Bool}(gp:h.get pb=some (.cells true z [fl,lv,.map (some mb)]))(s:SpM h mb N q)(gB:h.get B=some (.cells true 1 [pO pb 0]))(K:KP)(hk:∀ h',Old h h'->K (.ret (.bool (q x.pt))) h') :
  FK b 57 [.agg ⟨x.cells⟩,pO B 0] h K:=by
 refine F3 b (Qhw b) Xtw rfl ?_;obtain⟨hA, -,bx,aA, -,gA, -, -⟩:=Zi1 x h;have p1:Wy hA h.next 0 33=some (.agg ⟨x.pt.cells⟩):=by rw[V2 gA (by simp[InV.cells,Pt.len])];simp[InV.cells,aF,Pt.len]
 have c0:Yw hA B 0=some (pO pb 0):=by rw[Yi (aA.get gB)];rfl
 have c2:Yw hA pb 2=some (.map (some mb)):=by rw[Yi (aA.get gp)];rfl
 obtain⟨n,lk,n0,n1,n2⟩:=(s.old aA).look b x.pt;have eq:decide (0 < n)=q x.pt:=by
  cases hq:q x.pt with
  | true=>exact decide_eq_true (n2.2 hq)
  | false=>exact decide_eq_false fun h=>by have:=n2.1 h;rw[hq]at this;cases this
 simp[bx];refine Qem [] (by simp) Xg8 Xgz Xeo (by simp[Xka,Qec,c0,c2,p1,lk];first | exact⟨rfl,rfl⟩ | rfl) ?_ ?_
 ·simp[Qis,c0,c2,p1]
 simp;rw[eq];exact hk hA aA
end
def Qyx(W:List WtV)(p:Pt):Bool:=W.any fun w=>w.tx.ins.any fun y=>decide (y.pt=p)
def Yeh(t:PTx)(w:WtV):Bool:=Z8p w.tx.p t
def Jhq{W:List WtV}{ins:List InV}{outs:List OutV}{lock:Int}(h:(ins.any fun x=>Qyx W x.pt)=false):W.filter (Yeh (ptx ins outs lock))=[]:=by
 refine List.filter_eq_nil_iff.2 fun w hw e => ?_;have e:Z8p (ptx w.tx.ins w.tx.outs w.tx.lock) (ptx ins outs lock)=true:=e;rw[<- Jca]at e;obtain⟨y,hy,e⟩:=cy.1 e;obtain⟨x,hx,e⟩:=cy.1 e;have : (ins.any fun x=>Qyx W x.pt)=true:=cy.2 ⟨x,hx,cy.2 ⟨w,hw,cy.2 ⟨y,hy,e⟩⟩⟩;rw[h]at this;cases this
def Jil{t:PTx}{W:List WtV}{i:Nat}{x:WtV}(hx:W[i]? = some x):(W.take (i+1)).filter (Yeh t)=(W.take i).filter (Yeh t)++if Yeh t x then [x]else []:=by
 rw[aQ,hx,List.filter_append];cases hq:Yeh t x <;> simp[hq]
def RVI(h:Heap)(lv:Value)(T:Nat)(W:List WtV)(p:PTx)(k:Nat)(s:St):Prop:=∃ (t:Tr Value) (g:Heap) (i:Nat),s=⟨⟨35,t⟩,[],g⟩/\t.get 3=some (pO T 0)/\t.get 4=some (.int .i64 (((W.take i).filter (Yeh p)).length:Int))/\t.get 5=some (.int .i64 (Qh5 ((W.take i).filter (Yeh p))))/\t.get 16=some lv/\t.get 17=some (.int .i64 (W.length:Int))/\t.get 18=some (.int .i64 (i:Int))/\i<=W.length/\k=W.length-i/\Old h g
section
attribute [local simp] Qae Qcf Yz Ym Vm Xp Yjq Qbn Qnv Qj6 Qbt V4 Qds Qfm Vz
set_option maxHeartbeats 1000000 in
def Jbr(b:Nat){h:Heap}{pb z mb:Nat}{fl lv:Value}{N:Int}{W:List WtV}{iv ov:Value}{ins:List InV}{outs:List OutV}{lock:Int}(gp:h.get pb=some (.cells true z [fl,lv,.map (some mb)]))(s:Sl h 37 lv W.length (Qe2 W))(hn:W.length<=1000)(ta:∀ w ∈ W,TxAt h w.tx)(sp:SpM h mb N (Qyx W))(hf:∀ w ∈ W,0<=w.fee/\w.fee<=1125899906842624)(si:Ins h iv ins)(K:KP)
  (hk:∀ h',Old h h'->K (.ret (.tuple #[.int .i64 ((W.filter (Yeh (ptx ins outs lock))).length:Int),.int .i64 (Qh5 (W.filter (Yeh (ptx ins outs lock))))])) h'):CallOK Tryz.prog (E b).G 25 [pO pb 0,.agg ⟨txC iv ov lock⟩] h K:=by
 refine Qh3 (E b) (Vy _ _) (Uf b) (Jd b) mixed (Ui b) (Yz b) Xy9.1 Xy9.2.1 Xy9.2.2 rfl ?_;obtain⟨hA,eA⟩:∃ hA,hA=h.push (.cells true 1 [pO pb 0]):=⟨_,rfl⟩;have bxA:Zzo (pO pb 0) h=some (pO h.next 0,hA):=by rw[eA];rfl
 have aA:=Qon eA;have gA:hA.get h.next=some (.cells true 1 [pO pb 0]):=by rw[eA,Heap.get_push,if_pos rfl]
 obtain⟨hB,eB⟩:∃ hB,hB=hA.push (.cells true 1 (txC iv ov lock)):=⟨_,rfl⟩;have bxB:=Qw8 eB;have aB:=Qon eB;have gB:hB.get hA.next=some (.cells true 1 (txC iv ov lock)):=by rw[eB,Heap.get_push,if_pos rfl]
 have aH:=aA.trans aB;have c0:Yw hB hA.next 0=some iv:=by rw[Yi gB];rfl
 simp[Qjn,bxA,bxB,c0];refine(Xls b (Qhw b) (cap:=[pO h.next 0]) (si.s.old aH) si.n (fun x=>Qyx W x.pt) (fun h1 a1 x _ K hk=>Jmp b ((aH.trans a1).get gp) (sp.old (aH.trans a1)) ((aB.trans a1).get gA) K hk) _ fun h1 a1 => ?_).ok;have ah1:=aH.trans a1;cases hq:ins.any (fun x=>Qyx W x.pt)with
 | false =>
  simp[Qjn];have:=hk h1 ah1;rw[Jhq (outs:=outs) (lock:=lock) hq]at this;exact this
 | true =>
  have cp:Yw h1 h.next 0=some (pO pb 0):=by rw[Yi ((aB.trans a1).get gA)];rfl
  have c1:Yw h1 pb 1=some lv:=by rw[Yi (ah1.get gp)];rfl
  have len:∀ hx,Qkc (E b).toEnv 53 lv hx=some (.int .i64 (W.length:Int)):=fun hx=>Qa0 (T53 b) s;simp[Qjn,Qec,cp,c1,len];refine Qdf (RVI h1 lv hA.next W (ptx ins outs lock)) W.length ⟨_,h1,0,rfl,by simp,by simp,by simp[Qh5],by simp,by simp,by simp,by omega,rfl,Old.refl _⟩ ?_;rintro k s' ⟨t,g,i,rfl,t3,t4,t5,t16,t17,t18,hi,rfl,ag⟩ _;have ahg:=ah1.trans ag;by_cases hlt:i < W.length
  ·have hlt':(i:Int) < (W.length:Int):=by omega
   have hw:=wS (i:=i) (by omega);obtain⟨x,hx⟩:∃ x,W[i]? = some x:=⟨_,List.getElem?_eq_getElem hlt⟩;have hm:=List.mem_of_getElem? hx;obtain⟨bk,off, -,x1,x2⟩:=Jfk (b:=b) (T53 b) Qjw (s.old ahg) hx;obtain⟨hC,g2,alC,stC,stC',gX,a2,m2⟩:=Quc b (Zl3 b) (l:=x.cells) (by rw[x.len,Qjw]) (by kernel_rfl) g;have ag2:=ahg.trans a2;have pX:Wy g2 g.next 0 3=some (.agg ⟨txC x.tx.iv x.tx.ov x.tx.lock⟩):=by rw[V2 gX (by rw[x.len];omega)];rfl
   have pT:Wy g2 hA.next 0 3=some (.agg ⟨txC iv ov lock⟩):=by rw[V2 ((a1.trans (ag.trans a2)).get gB) (by simp[txC])];rfl
   simp[Qjn,t3,t4,t5,t16,t17,t18,hlt',x1,x2,-Qjn,alC,stC,stC',x.len,pX,pT];refine(Z4t b ((ta x hm).old ag2).i (si.old ag2) _ fun g3 a3 => ?_).ok;rw[Jca (outs:=x.tx.outs) (outs2:=outs) (lock:=x.tx.lock) (lock2:=lock)];have mt:=Jil (t:=ptx ins outs lock) hx;have mq:Z8p (ptx x.tx.ins x.tx.outs x.tx.lock) (ptx ins outs lock)=Yeh (ptx ins outs lock) x:=rfl;rw[mq];have ll:((W.take i).filter (Yeh (ptx ins outs lock))).length<=1000:=ai (cL _ _) (by rw[br];omega);cases hq2:Yeh (ptx ins outs lock) x with
   | false =>
    rw[hq2,if_neg (by simp),bP]at mt;simp[Qjn,t3,t4,t5,t16,t17,t18,hw];exact⟨W.length-(i+1),by omega,_,g3,i+1,rfl,by simp[t3],by rw[mt];simp[t4],by rw[mt];simp[t5],by simp[t16],by simp[t17],by simp,by omega,rfl,ag.trans (a2.trans a3)⟩
   | true =>
    rw[hq2,if_pos rfl]at mt;obtain⟨fl',hfl⟩:∃ f,f=(W.take i).filter (Yeh (ptx ins outs lock)):=⟨_,rfl⟩;rw[<- hfl]at mt ll t4 t5;have fb:=X1w (B:=1125899906842624) (by omega) (l:=fl') fun w hw=>hf w (ce (bW.1 (hfl ▸ hw)).1);have fx:=hf x hm;have w1:IntKind.i64.wrap ((fl'.length:Int)+1)=((fl' ++ [x]).length:Int):=by rw[Uq (by omega) (by omega)];simp
    have w2:IntKind.i64.wrap (Qh5 fl'+x.fee)=Qh5 (fl' ++ [x]):=by
     rw[Ypj,Uq (by omega) (by omega)];simp[Qh5]
    have cX:Yw g3 g.next 35=some (.int .i64 x.fee):=by rw[Yi (a3.get gX),Jkb]
    simp[Qjn,t3,t4,t5,t16,t17,t18];refine Qem [] (by simp) Xl9 Xoa Xl1 (by simp[Xtc,Qjn,t3,t4,t5,cX,w1,w2];first | exact⟨rfl,rfl⟩ | rfl) ?_ ?_
    ·simp[Qli,Qjn,t3,t4,t5,cX]
    simp[Qjn,t3,t4,t5,t16,t17,t18,hw];exact⟨W.length-(i+1),by omega,_,g3,i+1,rfl,by simp[t3],by rw[mt];simp,by rw[mt];simp,by simp[t16],by simp[t17],by simp,by omega,rfl,ag.trans (a2.trans a3)⟩
  ·have hlt':¬ (i:Int) < (W.length:Int):=by omega
   have : i=W.length:=by omega
   subst this;rw[bc]at t4 t5;simp[Qjn,t3,t4,t5,t16,t17,t18];exact hk g ahg
end
section
def Jni(b:Nat){x:WtV}{h:Heap}{B:Nat}{iv ov:Value}{ins:List InV}{outs:List OutV}{lock:Int}(xa:TxAt h x.tx)(si:Ins h iv ins)(gB:h.get B=some (.cells true 1 (txC iv ov lock)))(K:KP)(hk:∀ h',Old h h'->K (.ret (.bool (!Yeh (ptx ins outs lock) x))) h') :
  CallOK Tryz.prog (E b).G 28 [.agg ⟨x.cells⟩,pO B 0] h K:=by
 refine Qh3 (E b) (Vy _ _) (Uf b) (Jd b) mixed (Ui b) (Qz8 b) Xwy.1 Xwy.2.1 Xwy.2.2 rfl ?_;obtain⟨hA, -,bx,aA,gA, -,p1, -⟩:=Jbg x h;have p2:Wy hA B 0 3=some (.agg ⟨txC iv ov lock⟩):=by rw[V2 (aA.get gB) (by simp[txC])];rfl
 simp[Qvf,Xa7,Qz8,Q54,Qbt,V4,Qds,bx,p1,p2];refine(Z4t b (xa.old aA).i (si.old aA) _ fun h1 a1 => ?_).ok;rw[Jca (outs:=x.tx.outs) (outs2:=outs) (lock:=x.tx.lock) (lock2:=lock)];have mq:Z8p (ptx x.tx.ins x.tx.outs x.tx.lock) (ptx ins outs lock)=Yeh (ptx ins outs lock) x:=rfl;rw[mq];simp[Qvf,Xa7,Qz8,Q54,Qbt,V4,Qds];exact hk h1 (aA.trans a1)
def Jiv(b:Nat){x:WtV}{h:Heap}{B C:Nat}{iv ov:Value}{ins:List InV}{outs:List OutV}{lock:Int}(xa:TxAt h x.tx)(si:Ins h iv ins)(gB:h.get B=some (.cells true 1 (txC iv ov lock)))(gC:h.get C=some (.cells true 1 [.func (.func 28) #[] #[pO B 0]]))(K:KP)(hk:∀ h',Old h h'->K (.ret (.bool (Yeh (ptx ins outs lock) x))) h') :
  CallOK Tryz.prog (E b).G 59 [.agg ⟨x.cells⟩,pO C 0] h K:=by
 refine Qh3 (E b) (Vy _ _) (Uf b) (Jd b) mixed (Ui b) (Qui b) Xyj.1 Xyj.2.1 Xyj.2.2 rfl ?_;obtain⟨hA, -,bx,aA,gA, -, -,p1⟩:=Jbg x h;have c0:Yw hA C 0=some (.func (.func 28) #[] #[pO B 0]):=by rw[Yi (aA.get gC)];rfl
 simp[Qwr,Xe0,Qui,Q70,Jpp,Qj6,bx,p1,c0];refine Jni b (outs:=outs) (xa.old aA) (si.old aA) (aA.get gB) _ fun h1 a1 => ?_;simp[Qwr,Xe0,Qui,Q70,Jpp,Qj6];exact hk h1 (aA.trans a1)
end
def Y31{s:Nat}:∀ {l:List PE} {i j:Nat} {x:PE},l[i]? = some x->x.born=s->(l.map PE.born).Nodup->Yr9 s (l.map PE.e) j=some (j+i)
 | [],_,_,_,h,_,_=>by simp at h
 | y::l,0,j,x,h,e,_=>by
  simp only[List.getElem?_cons_zero,ar]at h;subst h;simp[Yr9,PE.e,e]
 | y::l,i+1,j,x,h,e,nd=>by
  rw[List.getElem?_cons_succ]at h;rw[aE,d4]at nd;have hne:¬ y.born=s:=fun q=>nd.1 (am.2 ⟨x,List.mem_of_getElem? h,by rw[e,q]⟩);have hb:Nat.beq y.e.born s=false:=by rw[bJ];intro q;exact hne (aK q)
  rw[aE,Yr9,hb];show Yr9 s (l.map PE.e) (j+1)=_;rw[Y31 h e nd.2];congr 1;omega
def Z1k(v:Value)(x:PE):PE:={x with val:=v}
def Z59(l:List PE)(i:Nat)(v:Value):(⟨l.map PE.e⟩:Array MapEntry).modify i (fun e=>{e with val:=v})=⟨(l.modify i (Z1k v)).map PE.e⟩:=by
 apply bu;rw[Array.toList_modify];apply List.ext_getElem?;intro j;simp only[List.getElem?_map,List.getElem?_modify];cases l[j]? with
 | none=>rfl
 | some x =>
  by_cases h:i=j
  ·simp[h,Z1k,PE.e]
  ·simp[h]
def Jh9{l:List PE}{i:Nat}{x:PE}(hx:l[i]? = some x):(⟨l.map PE.e⟩:Array MapEntry).modify i (fun e=>{e with key:=.agg ⟨x.key.cells⟩})=⟨l.map PE.e⟩:=by
 apply bu;rw[Array.toList_modify];apply List.ext_getElem?;intro j;simp only[List.getElem?_map,List.getElem?_modify];by_cases h:i=j
 ·subst h;rw[hx];simp[PE.e]
 ·cases l[j]? with
  | none=>rfl
  | some y=>simp[h]
def Z4m{v:Value}{l:List PE}{i:Nat}{x y:PE}(hx:l[i]? = some x)(h:y ∈ l.modify i (Z1k v)):y ∈ l∨y=Z1k v x:=by
 obtain⟨j,hj⟩:=List.mem_iff_getElem?.1 h;rw[List.getElem?_modify]at hj;by_cases e:i=j
 ·subst e;rw[hx]at hj;simp at hj;exact .inr hj.symm
 ·cases hl:l[j]? with
  | none=>rw[hl]at hj;cases hj
  | some z =>
   rw[hl]at hj;simp[e]at hj;subst hj;exact .inl (List.mem_of_getElem? hl)
def X2c{A:Type}(f:PE->A)(v:Value)(hf:∀ x,f (Z1k v x)=f x)(l:List PE)(i:Nat):(l.modify i (Z1k v)).map f=l.map f:=by
 apply List.ext_getElem?;intro j;simp only[List.getElem?_map,List.getElem?_modify];cases l[j]? with
 | none=>rfl
 | some x =>
  by_cases h:i=j
  ·simp[h,hf]
  ·simp[h]
def Zhb{p:Pt}{v:Value}{clk:Nat}:∀ {l:List PE} {j:Nat},(∀ x ∈ l,x.key≠p)->Q2e p (l ++ [(⟨p,v,clk⟩:PE)]) j=some (j+l.length,v)
 | [],j,_=>by simp[Q2e]
 | y::l,j,hy=>by
  have h0:¬ p=y.key:=fun e=>hy y (by simp) e.symm;rw[dP,Q2e,if_neg h0,Zhb (l:=l) (j:=j+1) fun x hx=>hy x (by simp[hx])];congr 2;rw[aS];omega
set_option maxHeartbeats 1000000 in
def SpM.bump(b:Nat){h:Heap}{mb:Nat}{N:Int}{q:Pt->Bool}(s:SpM h mb N q)(p:Pt)(hN:0<=N)(hM:N<=1000000000) :
  ∃ (z:Int) (v0 sv:Value) (h1 h2:Heap),Qjo (E b).toEnv 52 (.map (some mb)) (.agg ⟨p.cells⟩) false h=some (.int .i64 z)/\Qjo (E b).toEnv 52 (.map (some mb)) (.agg ⟨p.cells⟩) false h1=some (.int .i64 z)/\IntKind.i64.wrap (z+1)=z+1 /\
   Qpu (E b).toEnv 52 (.map (some mb)) (.agg ⟨p.cells⟩) h=some (.tuple #[v0,sv],h1)/\Qir (.map (some mb)) sv (.int .i64 (z+1)) h1=some h2/\SpM h2 mb (N+1) (fun r=>q r || decide (r=p)) /\
   (∀ c,c≠mb->h2.get c=h.get c)/\h2.next=h.next/\(∀ c,c≠mb->h1.get c=h.get c):=by
 obtain⟨l,clk,g,k1,k2,nd,lt,hc⟩:=s;have ltm:=Heap.get_lt g;have hr:(E b).toEnv.ty.get 52=some R52:=Jex b;have hd:R52.desc=.map 61 3:=kR
 have ez:R3.zero=.int .i64 0:=kR
 have hq:=Zll p l;have lk:=(Zs8 (b:=b) hr hd g (Jcf b) p).1;cases hf:Q2e p l 0 with
 | none =>
  rw[hf]at hq lk;have lk:Qjo (E b).toEnv 52 (.map (some mb)) (.agg ⟨p.cells⟩) false h=some (.int .i64 0):=by rw[lk,ez]
  obtain⟨l1,el1⟩:∃ l1,l1=l ++ [(⟨p,.int .i64 0,clk⟩:PE)]:=⟨_,rfl⟩;obtain⟨h1,e1⟩:∃ h1,h1=h.set mb (some (.map ⟨l1.map PE.e⟩ (clk+1))):=⟨_,rfl⟩;have me:Qpu (E b).toEnv 52 (.map (some mb)) (.agg ⟨p.cells⟩) h=some (.tuple #[.int .i64 0,.int .i64 (Int.ofNat clk)],h1):=by
   rw[e1,el1];simp only[Qpu,hr,hd,g,Y1w,Jcf,Yly,hq,ez];simp[PE.e]
  have g1:h1.get mb=some (.map ⟨l1.map PE.e⟩ (clk+1)):=by rw[e1,gY ltm,if_pos rfl]
  have x1:l1[l.length]? = some ⟨p,.int .i64 0,clk⟩:=by rw[el1];simp
  have nd1:(l1.map PE.born).Nodup:=by
   rw[el1,aR];refine cG.2 ⟨nd,by simp,fun a ha c hc' => ?_⟩;obtain⟨y,hy,rfl⟩:=am.1 ha;have:=lt y hy;simp at hc';omega
  have lk1:=(Zs8 (b:=b) hr hd g1 (Jcf b) p).1;have f1:Q2e p l1 0=some (l.length,.int .i64 0):=by
   have hn:=Xnk.1 hf;rw[el1,Zhb hn,ba]
  rw[f1]at lk1;have fa:=Y31 (s:=clk) (j:=0) x1 rfl nd1;rw[ba]at fa;have lt1:=Heap.get_lt g1;obtain⟨h2,e2⟩:∃ h2,h2=h1.set mb (some (.map ⟨(l1.modify l.length (Z1k (.int .i64 1))).map PE.e⟩ (clk+1))):=⟨_,rfl⟩;have es:Qir (.map (some mb)) (.int .i64 (Int.ofNat clk)) (.int .i64 1) h1=some h2:=by
   have hb:Nat.blt clk 9223372036854775808=true:=by simp only[cu];omega
   simp only[Qir,g1,hb,fa];rw[e2,<- Z59]
  refine⟨0,_,_,h1,h2,lk,lk1,by decide,me,es,⟨l1.modify l.length (Z1k (.int .i64 1)),clk+1,by rw[e2,gY lt1,if_pos rfl],fun y hy => ?_,fun r => ?_,?_,fun y hy => ?_,by omega⟩,fun c hc=>by rw[e2,gY lt1,if_neg (Ne.symm hc),e1,gY ltm,if_neg (Ne.symm hc)],by rw[e2,e1];rfl,fun c hc=>by rw[e1,gY ltm,if_neg (Ne.symm hc)]⟩
  ·rcases Z4m x1 hy with m | rfl
   ·rw[el1]at m;rcases al.1 m with m | m
    ·obtain⟨w,e,a1,a2⟩:=k1 y m;exact⟨w,e,a1,by omega⟩
    ·exfalso;rw[aw.1 m]at hy;obtain⟨j,hj⟩:=List.mem_iff_getElem?.1 hy;rw[List.getElem?_modify]at hj;by_cases e:l.length=j
     ·subst e;rw[x1]at hj;simp[Z1k]at hj
     ·have hl:l1[j]? = l[j]? ∨ l1[j]? = none:=by
       rw[el1];by_cases hjl:j < l.length
       ·exact .inl (List.getElem?_append_left hjl)
       ·exact .inr (List.getElem?_eq_none (by simp;omega))
      rcases hl with hl | hl
      ·rw[hl]at hj;cases hlj:l[j]? with
       | none=>rw[hlj]at hj;cases hj
       | some u =>
        rw[hlj]at hj;simp[e]at hj;have hm:=List.mem_of_getElem? hlj;have:=lt u hm;rw[hj]at this;simp at this
      ·rw[hl]at hj;cases hj
   ·exact⟨1,rfl,by omega,by omega⟩
  ·have hk:(∃ x ∈ l1.modify l.length (Z1k (.int .i64 1)),x.key=r)↔r ∈ l1.map PE.key:=by
    rw[<- X2c PE.key (.int .i64 1) (fun _=>rfl) l1 l.length,am]
   rw[hk,el1,aR,al,am,k2 r,bM,decide_eq_true_iff];simp
  ·rw[X2c PE.born _ (fun _=>rfl)];exact nd1
  ·have : y.born ∈ (l1.modify l.length (Z1k (.int .i64 1))).map PE.born:=am.2 ⟨y,hy,rfl⟩;rw[X2c PE.born _ (fun _=>rfl),el1,aR,al]at this;rcases this with m | m
   ·obtain⟨u,hu,e⟩:=am.1 m;have:=lt u hu;omega
   ·simp at m;omega
 | some rr =>
  obtain⟨i,v⟩:=rr;obtain⟨x0,hx0, -,hk0,hv0⟩:=Xcy hf;rw[d7]at hx0;have hm0:=List.mem_of_getElem? hx0;obtain⟨z,ez0,z1,z2⟩:=k1 x0 hm0;rw[hf]at hq lk;have lk:Qjo (E b).toEnv 52 (.map (some mb)) (.agg ⟨p.cells⟩) false h=some (.int .i64 z):=by rw[lk,<- hv0,ez0]
  obtain⟨h1,e1⟩:∃ h1,h1=h.set mb (some (.map ⟨l.map PE.e⟩ clk)):=⟨_,rfl⟩;have ge:(⟨l.map PE.e⟩:Array MapEntry)[i]? = some x0.e:=by
   show(l.map PE.e).toArray[i]? = _;rw[List.getElem?_toArray,List.getElem?_map,hx0];rfl
  have ek:(((⟨l.map PE.e⟩:Array MapEntry)[i]?).map (·.key)).getD (.agg ⟨p.cells⟩)=.agg ⟨p.cells⟩:=by rw[ge];simp[PE.e,hk0]
  have eb:(((⟨l.map PE.e⟩:Array MapEntry)[i]?).map (·.born)).getD 0=x0.born:=by rw[ge];rfl
  have me:Qpu (E b).toEnv 52 (.map (some mb)) (.agg ⟨p.cells⟩) h=some (.tuple #[v,.int .i64 (Int.ofNat x0.born)],h1):=by
   rw[e1];have mk:=Jh9 hx0;rw[hk0]at mk;simp only[Qpu,hr,hd,g,Y1w,Jcf,Yly,hq,ek,Jcd,eb,mk]
  have g1:h1.get mb=some (.map ⟨l.map PE.e⟩ clk):=by rw[e1,gY ltm,if_pos rfl]
  have lk1:=(Zs8 (b:=b) hr hd g1 (Jcf b) p).1;rw[hf]at lk1;have lk1:Qjo (E b).toEnv 52 (.map (some mb)) (.agg ⟨p.cells⟩) false h1=some (.int .i64 z):=by rw[lk1,<- hv0,ez0]
  have fa:=Y31 (s:=x0.born) (j:=0) hx0 rfl nd;rw[ba]at fa;have lt1:=Heap.get_lt g1;have ltb:=lt x0 hm0;obtain⟨h2,e2⟩:∃ h2,h2=h1.set mb (some (.map ⟨(l.modify i (Z1k (.int .i64 (z+1)))).map PE.e⟩ clk)):=⟨_,rfl⟩;have es:Qir (.map (some mb)) (.int .i64 (Int.ofNat x0.born)) (.int .i64 (z+1)) h1=some h2:=by
   have hb:Nat.blt x0.born 9223372036854775808=true:=by simp only[cu];omega
   simp only[Qir,g1,hb,fa];rw[e2,<- Z59]
  refine⟨z,_,_,h1,h2,lk,lk1,Uq (by omega) (by omega),me,es,⟨l.modify i (Z1k (.int .i64 (z+1))),clk,by rw[e2,gY lt1,if_pos rfl],fun y hy => ?_,fun r => ?_,?_,fun y hy => ?_,by omega⟩,fun c hc=>by rw[e2,gY lt1,if_neg (Ne.symm hc),e1,gY ltm,if_neg (Ne.symm hc)],by rw[e2,e1];rfl,fun c hc=>by rw[e1,gY ltm,if_neg (Ne.symm hc)]⟩
  ·rcases Z4m hx0 hy with m | rfl
   ·obtain⟨w,e,a1,a2⟩:=k1 y m;exact⟨w,e,a1,by omega⟩
   ·exact⟨z+1,rfl,by omega,by omega⟩
  ·have hk:(∃ x ∈ l.modify i (Z1k (.int .i64 (z+1))),x.key=r) ↔ ∃ x ∈ l,x.key=r:=by
    rw[<- am (f:=PE.key),<- am (f:=PE.key),X2c PE.key _ (fun _=>rfl)]
   rw[hk,k2 r,bM,decide_eq_true_iff];constructor
   ·exact .inl
   ·rintro(e | rfl)
    ·exact e
    ·exact(k2 _).1 ⟨x0,hm0,hk0⟩
  ·rw[X2c PE.born _ (fun _=>rfl)];exact nd
  ·have : y.born ∈ (l.modify i (Z1k (.int .i64 (z+1)))).map PE.born:=am.2 ⟨y,hy,rfl⟩;rw[X2c PE.born _ (fun _=>rfl)]at this;obtain⟨u,hu,e⟩:=am.1 this;have:=lt u hu;omega
end Go.Proofs.YtapodfgjkmddlaaGreatDoor
end
