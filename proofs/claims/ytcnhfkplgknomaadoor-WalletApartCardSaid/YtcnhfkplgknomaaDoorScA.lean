import Derived.Test.YtcnhfkplgknomaaDoorFA
import Derived.Test.YtcnhfkplgknomaaDoorAbG
import Derived.Test.YtcnhfkplgknomaaDoorBlA
set_option linter.all false
noncomputable section
namespace Go.Proofs.YtcnhfkplgknomaaDoor
open Go Go.Ab
set_option maxRecDepth 100000
def i8(z:Int):Value:=.int .u8 z
abbrev SB(h:Heap)(v:Value)(xs:List Int):Prop:=Sl h 1 v xs.length (xs.map i8)
abbrev OB(h:Heap)(n0:Nat)(v:Value)(xs:List Int):Prop:=Own h n0 1 v xs.length (xs.map i8)
theorem Ya8{b:Nat}{h h1:Heap}{v:Value}{xs:List Int}(s:SB h v xs):Q43 (E b).toEnv 43 v h1=some (.int .i64 xs.length):=Qhl (T43 b) s
theorem Yxe{b:Nat}{h:Heap}{v:Value}{xs:List Int}(s:SB h v xs){k:IntKind}{i:Nat}{z:Int}(hi:xs[i]? = some z) :
  ∃ bk o,Un v=some bk/\Zm (E b).toEnv 43 v (.int k (i:Int))=some (.pointer (some ⟨bk,o,none⟩))/\V2 h bk o=some (i8 z):=by
 have hl:i < xs.length:=(List.getElem?_eq_some_iff.1 hi).1
 obtain⟨bk,o,h1,h2,h3, -⟩:=Xps (T43 b) Qfy s (k:=k) (i:=(i:Int)) (by omega) (by omega)
 refine⟨bk,o,h1,h2,?_⟩
 have:=h3 0 (by omega)
 simpa[hi]using this
theorem X5a{b:Nat}{h:Heap}{z:Int}:Jf (E b).toEnv 43 1 [(0,.int .u8 z)] h=some (.slice (some ⟨h.next,0,none⟩) 1 1,h.push (.cells true 1 [i8 z])):=Xx9 (T43 b) Qfy (by omega) (by omega) rfl rfl rfl
theorem Yts{b:Nat}{h:Heap}{n0:Nat}{v:Value}{xs:List Int}(o:OB h n0 v xs)(h0:n0<=h.next)(hn:xs.length < 1099511627776)(z:Int) :
  ∃ v' h',Qky (E b).toEnv 43 43 v (.slice (some ⟨h.next,0,none⟩) 1 1) (h.push (.cells true 1 [i8 z]))=some (v',h')/\OB h' n0 v' (xs ++ [z])/\Beyond v h h':=by
 obtain⟨v',h',k1,k2,k3⟩:=Xj8 (T43 b) Qfy (by omega) o h0 (ys:=[i8 z]) rfl (by rw[Q0y];omega) (by omega)
 exact⟨v',h',k1,by simp only[OB,List.map_append,List.length_append];exact k2,k3⟩
theorem Ylf{b:Nat}{h:Heap}{n0:Nat}{v x:Value}{xs ys:List Int}(o:OB h n0 v xs)(h0:n0<=h.next)(s:SB h x ys)(hn:xs.length+ys.length < 1099511627776) :
  ∃ v' h',Qky (E b).toEnv 43 43 v x h=some (v',h')/\OB h' n0 v' (xs++ys)/\Beyond v h h':=by
 obtain⟨v',h',k1,k2,k3⟩:=Qxn (T43 b) Qfy (by omega) o h0 (Xpx (T43 b) Qfy s) (by simp) (by rw[Q0y];omega) (by omega)
 exact⟨v',h',k1,by simp only[OB,List.map_append,List.length_append];exact k2,k3⟩
theorem Yja(b:Nat){h:Heap}{v:Value}{xs:List Int}(s:SB h v xs)(hv:Un v≠none)(hn:xs.length < 1000000000)(K:KP)
  (hk:∀ v' h',OB h' h.next v' xs->Old h h'->K (.ret v') h'):FK b 38 [v] h K:=by
 refine FF b (Qm5 b) Xsi X68 X04 rfl ?_
 have e0:Zg (E b).toEnv .eql 43 true v (.slice none 0 0)=some (.bool false):=by
  cases v with
  | slice a n c=>cases a with
   | none=>exact absurd rfl hv
   | some a=>simp[Zg,X2h,aEq,Xte,(T43 b).d]
  | _=>rcases s with⟨_,e,_⟩ | ⟨_,_,_,_,_,_,_,e,_⟩ <;> cases e
 have e1:Jf (E b).toEnv 43 0 [] h=some (.slice (some ⟨h.next,0,none⟩) 0 0,h.push (.cells true 1 [])):=by simp[Jf,Xte,(T43 b).d,Yof,Qfy,Xql,Vf,Nat.ble]
 obtain⟨v',h',k1,k2,k3⟩:=Ylf (b:=b) (h:=h.push (.cells true 1 [])) (n0:=h.next) (v:=.slice (some ⟨h.next,0,none⟩) 0 0) (xs:=[]) (Own.new (Nat.le_refl _) (by rw[Heap.get_push,if_pos rfl];rfl) rfl (by decide) (.inr rfl)) (Nat.le_succ _) (s.old (Old.push _ _)) (by simpa using(by omega:xs.length < 1099511627776))
 simp[Xbn,Xzq,Qm5,Xse,Xsa,Y7,Qn6,Qgh,Y9,Qaf,Qc5,Qna,Qeo,Qcf,Qn4,Q4,Qu,J5,Zh,aop,Qe,nth,Ab.g0,gv,gs,Q9,Q8,aev,evs,evO,Qf,Tr.get_put,St.put,Tm.put,flat,flatA,Qm,Qh,Ql,Qn,Qj,Qk,Qi,Qq,Qg,Q5,Q6,Qai,Qgg,Qer,Qbv,W8,Qel,Qcd,Qaj,Q5g,Xos,Q5r,Qwq,Y8.putAll,Qt,Qd,Q3,Q1,Qb,Qa,Qc,Q0,Q2,Q7,e0,e1,k1]
 exact hk v' h' k2 ⟨Nat.le_trans (Nat.le_succ _) k3.1,fun c hc=>by rw[k3.2 c (Nat.lt_of_lt_of_le hc (Nat.le_succ _)) (by simp[Un];omega),Heap.get_push,if_neg (by omega)]⟩
def Bytes(xs:List Int):Prop:=∀ z ∈ xs,0<=z/\z < 256
structure OpV where
 code:Int
 data:List Int
 val:Value
def OpV.cells(o:OpV):List Value:=[.int .i64 o.code,o.val]
def Qy2(os:List OpV):List Value:=os.flatMap OpV.cells
def Yxf(v w:Value):Prop:=∀ c,Un v=some c->Un w≠some c
structure OpsAt (h:Heap) (n0:Nat) (lv:Value) (os:List OpV):Prop where
 row:Own h n0 2 lv os.length (Qy2 os)
 data:∀ o ∈ os,OB h n0 o.val o.data
 apart:∀ o ∈ os,Yxf lv o.val
 each:os.Pairwise (fun o p=>Yxf o.val p.val)
theorem OpsAt.nil{h:Heap}{n0:Nat}:OpsAt h n0 (.slice none 0 0) []:=⟨Own.nil,by simp,by simp,.nil⟩
theorem OpsAt.old{h h':Heap}{n0:Nat}{lv:Value}{os:List OpV}(o:OpsAt h n0 lv os)(a:Old h h'):OpsAt h' n0 lv os :=
 ⟨o.row.keep fun c _ hc=>a.2 c hc,fun p hp=>(o.data p hp).keep fun c _ hc=>a.2 c hc,o.apart,o.each⟩
theorem OpsAt.app{b:Nat}{h1 h:Heap}{n0:Nat}{lv:Value}{os:List OpV}{te ts:TypeId}{re rs:TyRec}(T:SlTy (E b).toEnv te ts re rs)(hz:re.size=2)(hb:re.bytes=32)(o1:OpsAt h1 n0 lv os)(a:Old h1 h)(h0:n0<=h1.next)(hn:os.length < 1000000){p:OpV}(hp:OB h h1.next p.val p.data) :
  ∃ v' h',Qky (E b).toEnv ts ts lv (.slice (some ⟨h.next,0,none⟩) 1 1) (h.push (.cells true 1 p.cells))=some (v',h')/\OpsAt h' n0 v' (os ++ [p])/\Beyond lv h h'/\∀ c,Un v'=some c->Un lv=some c∨h.next<=c:=by
 have o:=o1.old a
 obtain⟨v',h',k1,k2,k3,k4⟩:=Xyw T hz (by omega) o.row (Nat.le_trans h0 a.1) (ys:=p.cells) rfl (by rw[hb];omega) (by omega)
 have far:∀ c,Un p.val=some c->h1.next<=c/\c < h.next:=fun c hc=>hp.from hc
 refine⟨v',h',k1,⟨?_,?_,?_,?_⟩,k3,k4⟩
 ·rw[List.length_append]
  simpa[Qy2]using k2
 ·intro q hq
  rw[List.mem_append]at hq
  rcases hq with hq | hq
  ·refine(o.data q hq).keep fun c hc hlt=>k3.2 c hlt fun e=>o.apart q hq c e hc
  ·simp at hq;subst hq
   refine(hp.low h0).keep fun c hc hlt=>k3.2 c hlt fun e => ?_
   have:=far c hc
   have:=o1.row.out e
   omega
 ·intro q hq c hc e
  rw[List.mem_append]at hq
  rcases hq with hq | hq
  ·rcases k4 c hc with h | h
   ·exact o.apart q hq c h e
   ·have:=(o.data q hq).out e;omega
  ·simp at hq;subst hq
   have h5:=far c e
   rcases k4 c hc with h | h
   ·have:=o1.row.out h;omega
   ·omega
 ·rw[List.pairwise_append]
  refine⟨o.each,by simp,fun q hq r hr c hc e => ?_⟩
  simp at hr;subst hr
  have h5:=far c e
  have:=(o1.data q hq).out hc
  omega
theorem Yre(b:Nat)(z:Int):Q5s (E b).toEnv 90 [(0,.int .i64 z)]=some (.agg ⟨[.int .i64 z,.slice none 0 0]⟩):=by kernel_rfl
theorem Yut{b:Nat}{h:Heap}{v:Value}{xs:List Int}(s:SB h v xs){k:IntKind}{i:Int}(h0:0<=i)(h1:i<=xs.length):∃ v' h',Qay (E b).toEnv 43 v (some (.int k i)) none none h=some (v',h')/\SB h' v' (xs.drop i.toNat)/\Old h h'/\(Un v≠none->Un v'≠none)/\∀ c,Un v'=some c->Un v=some c∨c=h.next:=by
 obtain⟨v',h',k1,k2,k3,k4⟩:=Yuf (T43 b) (k:=k) Qfy (by omega) s h0 h1
 refine⟨v',h',k1,?_,k3,fun hv => ?_,fun c hc => ?_⟩
 ·rw[SB,List.length_drop]
  simpa using k2
 ·rcases k4 with⟨e,_⟩ | ⟨e,_⟩
  ·rw[e];exact hv
  ·rw[e];simp
 ·rcases k4 with⟨e,_⟩ | ⟨e,_⟩
  ·rw[e]at hc;exact .inl hc
  ·rw[e]at hc;cases hc;exact .inr rfl
def Ykc(os:List OpV):List Int:=os.flatMap fun o=>IntKind.u8.wrap o.code::o.data
theorem Yv5{b:Nat}{h:Heap}{lv:Value}{os:List OpV}{te ts:TypeId}{re rs:TyRec}(T:SlTy (E b).toEnv te ts re rs)(hz:re.size=2)(o:Sl h 2 lv os.length (Qy2 os)){i:Nat}{p:OpV}(hp:os[i]? = some p) :
  ∃ bk off,Un lv=some bk/\Zm (E b).toEnv ts lv (.int .i64 (i:Int))=some (.pointer (some ⟨bk,off,none⟩))/\Qll h bk off 2=some (.agg ⟨[.int .i64 p.code,p.val]⟩):=by
 have hl:i < os.length:=(List.getElem?_eq_some_iff.1 hp).1
 obtain⟨bk,off,h1,h2, -,h3⟩:=Xps T hz o (k:=.i64) (i:=(i:Int)) (by omega) (by omega)
 refine⟨bk,off,h1,h2,?_⟩
 rw[h3]
 have : ∀ (os:List OpV) (i:Nat),os[i]? = some p->((Qy2 os).drop (i*2)).take 2=[.int .i64 p.code,p.val]:=by
  intro os
  induction os with
  | nil=>intro i hi;simp at hi
  | cons q os ih =>
   intro i hi
   cases i with
   | zero=>simp at hi;subst hi;simp[Qy2,OpV.cells]
   | succ i =>
    have e:Qy2 (q::os)=.int .i64 q.code::q.val::Qy2 os:=rfl
    rw[e,show(i+1)*2=i*2+1+1 by omega,List.drop_succ_cons,List.drop_succ_cons]
    exact ih i (by simpa using hi)
 simp only[Int.toNat_natCast]
 rw[this os i hp]
def Y0h(lv:Value)(os:List OpV)(h:Heap)(k:Nat)(s:St):Prop:=∃ (t:Tr Value) (h1:Heap) (o:Value) (i:Nat),s=⟨⟨23,t⟩,[],h1⟩/\t.get 3=some o/\t.get 6=some lv/\t.get 7=some (.int .i64 (os.length:Int))/\t.get 8=some (.int .i64 (i:Int))/\i<=os.length/\k=os.length-i/\OB h1 h.next o (Ykc (os.take i))/\Old h h1
theorem Yh5:∀ os:List OpV,(Ykc os).length=(os.map fun o=>o.data.length+1).sum
 | []=>rfl
 | o::os=>by have:=Yh5 os;simp[Ykc]at this ⊢;omega
section
attribute [local simp] Qfu Qp9 Qau Yjw Y3 Yk7 Yjf Yk6 Yi5 Xq3 Qes Xp0 Xo3 Xr6 Qzr Y6 Y7 Qn6 Qgh Y9 Qaf Qc5 Qna Qeo Qcf Qn4 Q4 Qu J5 Zh aop Qe nth Ab.g0 gv gs Q9 Q8 aev evs evO Qf Tr.get_put St.put Tm.put flat flatA Zg Qm Qh Ql Qn Qj Qk Qi Qq Qg Q5 Q6 Qai Qgg Qer Qbv W8 Qel Qcd Qaj Q5g Xos Q5r Qwq Y8.putAll Qt Qd Q3 Q1 Qb Qa Qc Q0 Q2 Q7
theorem Yvv(b:Nat){h:Heap}{lv:Value}{os:List OpV}(row:Sl h 2 lv os.length (Qy2 os))(data:∀ o ∈ os,SB h o.val o.data)(hos:os.length < 1000)(hd:∀ o ∈ os,o.data.length<=1000)(K:KP)(hk:∀ v' h',OB h' h.next v' (Ykc os)->Old h h'->K (.ret v') h'):FK b 37 [lv] h K:=by
 refine FF b (Qau b) Xvi Yay X3z rfl ?_
 have e0:∀ h1,Q43 (E b).toEnv 88 lv h1=some (.int .i64 (os.length:Int)):=fun h1=>Qhl (T88 b) row
 simp[e0]
 refine Qff (Y0h lv os h) os.length ⟨_,h,.slice none 0 0,0,rfl,by simp,by simp,by simp,by simp,by omega,rfl,Own.nil,Old.refl _⟩ ?_
 rintro k s' ⟨t,h1,o,i,rfl,t3,t6,t7,t8,hi,rfl,ho,hold⟩ _
 by_cases hlt:i < os.length
 ·have hlt':(i:Int) < (os.length:Int):=by omega
  obtain⟨p,hp⟩:∃ p,os[i]? = some p:=⟨_,List.getElem?_eq_getElem hlt⟩
  have hpm:=List.mem_of_getElem? hp
  obtain⟨bk,off, -,x1,g1⟩:=Yv5 (b:=b) (T88 b) Xj4 (row.old hold) hp
  have hw:=wS (i:=i) (by omega)
  have hst0:Qbh (h1.push (.cells true 1 [.int .i64 0,.slice none 0 0])) h1.next 0 [.int .i64 p.code,p.val]=some ((h1.push (.cells true 1 [.int .i64 0,.slice none 0 0])).set h1.next (some (.cells true 1 [.int .i64 p.code,p.val]))):=by
   rw[Qgt (by rw[Heap.get_push,if_pos rfl]) (by simp)];rfl
  obtain⟨h3,e3⟩:∃ h3,h3=(h1.push (.cells true 1 [.int .i64 0,.slice none 0 0])).set h1.next (some (.cells true 1 [.int .i64 p.code,p.val])):=⟨_,rfl⟩
  have g3:h3.get h1.next=some (.cells true 1 [.int .i64 p.code,p.val]):=by rw[e3,Heap.get_set _ _ _ _ (by simp only[Qza];omega),if_pos rfl]
  have a13:Old h1 h3:=by rw[e3];exact(Old.push _ _).set _ (Nat.le_refl _) (by simp only[Qza];omega)
  have n3:h3.next=h1.next+1:=by rw[e3,Xpb,Qza]
  rw[<- e3]at hst0
  have hx1:V2 h3 h1.next 0=some (.int .i64 p.code):=by rw[Jb g3];rfl
  have ho3:OB h3 h.next o (Ykc (os.take i)):=ho.keep fun c _ hc=>a13.2 c hc
  have hlen:(Ykc (os.take i)).length<=1001*i:=by
   rw[Yh5]
   have : ∀ l:List OpV,(∀ o ∈ l,o.data.length<=1000)->(l.map fun o=>o.data.length+1).sum<=1001*l.length:=by
    intro l hl
    induction l with
    | nil=>simp
    | cons o l ih=>have:=ih fun q hq=>hl q (by simp[hq]);have:=hl o (by simp);simp;omega
   refine Nat.le_trans (this _ fun o ho=>hd o (List.mem_of_mem_take ho)) ?_
   rw[List.length_take];omega
  have hdp:=hd p hpm
  obtain⟨v1,h4,hA1,o4,b4⟩:=Yts (b:=b) ho3 (Nat.le_trans hold.1 a13.1) (by omega) (IntKind.u8.wrap p.code)
  have hne:Un o≠some h1.next:=fun e=>by have:=ho.out e;omega
  have hx2:V2 h4 h1.next 1=some p.val:=by rw[Jb (by rw[b4.2 _ (by omega) hne];exact g3)];rfl
  have hx2':V2 (h3.push (.cells true 1 [i8 (IntKind.u8.wrap p.code)])) h1.next 1=some p.val:=by rw[Jb (by rw[Heap.get_push,if_neg (by omega)];exact g3)];rfl
  have a4:Old h h4:=b4.old (hold.trans a13) ho3
  have dp:SB h4 p.val p.data:=(data p hpm).old a4
  obtain⟨v2,h5,hA2,o5,b5⟩:=Ylf (b:=b) o4 a4.1 dp (by rw[List.length_append];simp;omega)
  simp only[i8]at hA1 hx2'
  simp[t3,t6,t7,t8,hlt',x1,g1,hst0]
  refine Qxf [] (by simp) Xm6 Xob Xmc (by simp[Ab.runT,Z4,Yw,ldv,Nat.testBit,Um,Z2,Yl,J2,loadAt,Qdo,Vg,Xpk,Xsp,Xs4,t3,hx1,hx2,i8,X5a,hA1,hA2];exact⟨rfl,rfl⟩) ?_ ?_
  ·simp[Z4,Yw,Qce,ldv,Ab.runT,Z4,Yw,ldv,Nat.testBit,Um,Z2,Yl,J2,loadAt,Qdo,Vg,t3,hx1,hx2,hx2',Yqi dp,Xhq]
  ·simp[t8,hw]
   refine⟨os.length-(i+1),by omega,_,h5,v2,i+1,rfl,by simp,by simp[t6],by simp[t7],by simp,by omega,rfl,?_,b5.old a4 o4⟩
   have e1:Ykc (os.take (i+1))=Ykc (os.take i) ++ [IntKind.u8.wrap p.code]++p.data:=by
    rw[List.take_succ,hp]
    simp[Ykc]
   rw[e1]
   exact o5
 ·have hlt':¬ (i:Int) < (os.length:Int):=by omega
  have : i=os.length:=by omega
  subst this
  simp[t3,t6,t7,t8]
  refine hk o h1 ?_ hold
  rwa [List.take_of_length_le (Nat.le_refl _)]at ho
end
theorem Laid.old{h h':Heap}(hl:Ab.LaidIn h laidAll)(a:Old h h'):Ab.LaidIn h' laidAll:=fun x hx=>a.get (hl x hx)
structure Menv where
 nk:Value
 dig:List Value
 lk:Int
 hd:dig.length=32
def Menv.cells(e:Menv):List Value:=e.nk::e.dig ++ [.int .i64 e.lk]
theorem Menv.len(e:Menv):e.cells.length=34:=by simp[Menv.cells,e.hd]
structure Br where
 off:Bool
 dead:Bool
 turned:Bool
def Br.cells(x:Br):List Value:=[.bool x.off,.bool x.dead,.bool x.turned]
def Yta(l:List Br):List Value:=l.flatMap Br.cells
structure Itm (h:Heap) (MB:Nat->Prop) (v:Value) (x:List Int):Prop where
 sb:SB h v x
 by8:Bytes x
 out:∀ c,Un v=some c->¬ MB c
structure Mv (MB MB':Nat->Prop) (h h':Heap):Prop where
 next:h.next<=h'.next
 same:∀ c,c < h.next->¬ MB c->h'.get c=h.get c
 sub:∀ c,MB' c->MB c∨h.next<=c
theorem Mv.refl(MB:Nat->Prop)(h:Heap):Mv MB MB h h:=⟨Nat.le_refl _,fun _ _ _=>rfl,fun _ h => .inl h⟩
theorem Mv.trans{A B C:Nat->Prop}{h h' h'':Heap}(a:Mv A B h h')(c:Mv B C h' h''):Mv A C h h'' :=
  ⟨Nat.le_trans a.next c.next,fun k hk hn=>by
    rw[c.same k (Nat.lt_of_lt_of_le hk a.next) (fun hb=>by
      rcases a.sub k hb with h | h
      · exact hn h
      · omega),a.same k hk hn],
   fun k hk=>by
    rcases c.sub k hk with h | h
    · exact a.sub k h
    · exact .inr (Nat.le_trans a.next h)⟩
theorem Mv.old{MB:Nat->Prop}{h h':Heap}(a:Old h h'):Mv MB MB h h':=⟨a.1,fun c hc _=>a.2 c hc,fun _ h => .inl h⟩
theorem Itm.mv{MB MB':Nat->Prop}{h h':Heap}{v:Value}{x:List Int}(i:Itm h MB v x)(m:Mv MB MB' h h'):Itm h' MB' v x :=
 ⟨i.sb.keep fun c hc hl=>m.same c hl (i.out c hc),i.by8,fun c hc hm=>by
  rcases m.sub c hm with h | h
  ·exact i.out c hc h
  ·have:=i.sb.blk hc;omega⟩
structure MRow (h:Heap) (MB:Nat->Prop) (μ:Nat) (e:Menv) (ps:List (Value × List Int)) (op:List Br) (sv ov:Value) (z:Nat):Prop where
 at':h.get μ=some (.cells true z (e.cells ++ [sv,ov]))
 mb:MB μ
 st:Own h 0 1 sv ps.length (ps.reverse.map (·.1))
 op:Own h 0 3 ov op.length (Yta op.reverse)
 ms:∀ c,Un sv=some c->MB c/\c≠μ
 mo:∀ c,Un ov=some c->MB c/\c≠μ/\Un sv≠some c
structure Mach (h:Heap) (MB:Nat->Prop) (μ:Nat) (e:Menv) (ps:List (Value × List Int)) (op:List Br):Prop where
 row:∃ sv ov z,MRow h MB μ e ps op sv ov z
 items:∀ p ∈ ps,Itm h MB p.1 p.2
 low:∀ c,MB c->c < h.next
theorem Q5f(a:Addr):Xi9 (.pointer (some a))=some (.pointer (some a)):=Eq.trans rfl rfl
def pe(z:Int):List PanicEntry:=[{v:=.iface 30 (.int .i64 z),recovered:=false}]
def isT(x:List Int):Bool:=x.any fun z=>z != 0
theorem Mach.old{h h':Heap}{MB:Nat->Prop}{μ:Nat}{e:Menv}{ps:List (Value × List Int)}{op:List Br}(M:Mach h MB μ e ps op)(a:Old h h'):Mach h' MB μ e ps op:=by
 obtain⟨⟨sv,ov,z,r⟩,its,low⟩:=M
 refine⟨⟨sv,ov,z,?_⟩,fun p hp=>(its p hp).mv (Mv.old a),fun c hc=>Nat.lt_of_lt_of_le (low c hc) a.1⟩
 exact⟨a.get r.at',r.mb,r.st.keep fun c _ hc=>a.2 c hc,r.op.keep fun c _ hc=>a.2 c hc,r.ms,r.mo⟩
theorem Itm.nil{h:Heap}{MB:Nat->Prop}:Itm h MB (.slice none 0 0) []:=⟨Sl.nil,(fun _ h=>by cases h),(fun _ h=>by cases h)⟩
def Y00(x:Bool):List Int:=if x then [1]else []
theorem Itm.new{h:Heap}{MB:Nat->Prop}(low:∀ c,MB c->c < h.next){xs:List Int}(hb:Bytes xs)(hl:xs.length < 1000000):Itm (h.push (.cells true 1 (xs.map i8))) MB (.slice (some ⟨h.next,0,none⟩) xs.length xs.length) xs:=by
 refine⟨(Own.new (n0:=0) (Nat.zero_le _) (by rw[Heap.get_push,if_pos rfl]) (by simp) (by unfold Qg5;omega) (.inr rfl)).sl,hb,fun c hc hm => ?_⟩
 cases hc
 exact absurd (low _ hm) (Nat.lt_irrefl _)
def Yy7:List Br->Bool
 | []=>false
 | x::_=>x.off
theorem Q2o{h:Heap}{n0 z n:Nat}{v:Value}{xs:List Value}(o:Own h n0 z v n xs){bk i:Nat}(hb:Un v=some bk)(hi:i < xs.length)(w:Value) :
  ∃ h',Qbh h bk i [w]=some h'/\Own h' n0 z v n (xs.set i w)/\h'.next=h.next/\∀ c,c≠bk->h'.get c=h.get c:=by
 rcases o with⟨rfl,rfl,rfl⟩ | ⟨bk',c,z',rest,rfl,h1,h2,h3,h4,h5,h6⟩
 ·cases hb
 ·simp only[Un,Option.some.injEq]at hb
  subst hb
  have hlt:=Heap.get_lt h2
  refine⟨_,Qp0 h2 (by simp;omega),.inr ⟨bk',c,z',rest,rfl,h1,by rw[Heap.get_set _ _ _ _ hlt,if_pos rfl,List.set_append_left _ _ hi],by simpa using h3,h4,h5,by simpa using h6⟩,rfl,fun k hk=>by rw[Heap.get_set _ _ _ _ hlt,if_neg (Ne.symm hk)]⟩
def brF(code:Int)(st:List (List Int))(op:List Br):Option (Option (List (List Int) × List Br)) :=
 if code=136 then some (if Yy7 op then some (st,⟨true,true,false⟩::op)else match st with
  | []=>none
  | x::r=>some (r,⟨!isT x,false,false⟩::op))
 else if code=137∨code=138 then some (match op with
  | []=>none
  | x::l=>if code=138 then some (st,l)else if x.turned then none else some (st,⟨x.dead || !x.off,x.dead,true⟩::l))
 else none
def MOk(MB:Nat->Prop)(h:Heap)(μ:Nat)(e:Menv)(st:List (List Int))(op:List Br)(h':Heap):Prop:=∃ ps MB',ps.map (·.2)=st/\Mach h' MB' μ e ps op/\Mv MB MB' h h'
theorem MOk.mk' {MB MB':Nat->Prop}{h h':Heap}{μ:Nat}{e:Menv}{ps:List (Value × List Int)}{op:List Br}{st:List (List Int)}(hs:ps.map (·.2)=st)(M:Mach h' MB' μ e ps op)(m:Mv MB MB' h h'):MOk MB h μ e st op h':=⟨ps,MB',hs,M,m⟩
def Y0j(a b:Int):Int:=IntKind.wrap .i64 ((BitVec.ofInt 64 a ||| BitVec.ofInt 64 b).toNat:Nat)
def Ywo(x:List Int):Nat->Int
 | 0=>0
 | i+1=>Y0j (Ywo x i) (IntKind.i64.wrap (x.getD i 0*2 ^ (8*i)))
def Yv3(xs:List Int):ByteArray:=⟨⟨xs.map fun n=>UInt8.ofNat n.toNat⟩⟩
theorem X1k:∀ xs:List Int,Q6g (xs.map i8)=some xs
 | []=>rfl
 | x::xs=>by
  show(match Q6g (xs.map i8)with | some r=>some (x::r) | none=>none)=_
  rw[X1k xs]
theorem Yh6(b:Nat){h:Heap}{v:Value}{xs:List Int}(s:SB h v xs):Xes (E b).toEnv 43 9 v h=some (.string (Yv3 xs),h):=by
 have h1:R43.desc=.slice 5:=(T43 b).d
 have h2:R9.desc=.string:=by kernel_rfl
 have h3:R5.desc=.int .u8:=by kernel_rfl
 rcases s with⟨c,rfl,_,e,e2⟩ | ⟨bk,o,c,ow,z',pre,post,rfl,g1,g2,g3, -⟩
 ·have : xs=[]:=List.map_eq_nil_iff.1 e2
  subst this
  simp only[Xes,Xte,Y03,h1,h2,Yof,h3]
  rfl
 ·have h4:Ab.cellsAt h ⟨bk,o,none⟩ xs.length=some (xs.map i8):=by
   simp only[Ab.cellsAt,g1]
   rw[<- g2,List.append_assoc,List.drop_left,Q5a (by simp),List.take_append_of_le_length (by simp),List.take_of_length_le (by simp)]
  simp only[Xes,Xte,Y03,h1,h2,Yof,h3,h4,X1k]
  rfl
theorem Ypu(x y:ByteArray):Qfz (binOp .eql 9 (.string x) (.string y))=some (.bool (x.toList == y.toList)):=by kernel_rfl
theorem Yxi:∀ (xs ys:List Int),Bytes xs->Bytes ys->xs.map (fun n=>UInt8.ofNat n.toNat)=ys.map (fun n=>UInt8.ofNat n.toNat)->xs=ys:=by
 intro xs
 induction xs with
 | nil=>intro ys _ _ e;cases ys <;> simp_all
 | cons x xs ih =>
  intro ys hx hy e
  cases ys with
  | nil=>simp at e
  | cons y ys =>
   simp only[List.map_cons,List.cons.injEq]at e
   have b1:=hx x (by simp)
   have b2:=hy y (by simp)
   have e3:=congrArg UInt8.toNat e.1
   simp only[UInt8.toNat_ofNat']at e3
   have : x=y:=by omega
   rw[this,ih ys (fun z hz=>hx z (by simp[hz])) (fun z hz=>hy z (by simp[hz])) e.2]
theorem Ymx{xs ys:List Int}(hx:Bytes xs)(hy:Bytes ys):((Yv3 xs).toList == (Yv3 ys).toList)=decide (xs=ys):=by
 rw[ByteArray.toList_eq,ByteArray.toList_eq]
 show(xs.map (fun n=>UInt8.ofNat n.toNat) == ys.map (fun n=>UInt8.ofNat n.toNat))=decide (xs=ys)
 by_cases h:xs=ys
 ·subst h;simp
 ·rw[decide_eq_false h]
  simp only[beq_eq_false_iff_ne,ne_eq]
  exact fun e=>h (Yxi xs ys hx hy e)
theorem Yqy(b:Nat){h:Heap}{v w:Value}{xs ys:List Int}(s1:SB h v xs)(s2:SB h w ys)(b1:Bytes xs)(b2:Bytes ys)(K:KP)(hk:K (.ret (.bool (decide (xs=ys)))) h):FK b 48 [v,w] h K:=by
 refine FF b (Qlz b) Xt5 X3v X0s rfl ?_
 simp[Xbs,X0y,Qlz,Yuv,Y7,Qn6,Qgh,Y9,Qaf,Qc5,Qna,Qeo,Qcf,Qn4,Q4,Qu,J5,Zh,aop,Qe,nth,Ab.g0,gv,gs,Q9,Q8,aev,evs,evO,Qf,Tr.get_put,St.put,Tm.put,flat,flatA,Zg,Qm,Qh,Ql,Qn,Qj,Qk,Qi,Qq,Qg,Q5,Q6,Qai,Qgg,Qer,Qbv,W8,Qel,Qcd,Qaj,Q5g,Xos,Q5r,Qwq,Y8.putAll,Qt,Qd,Q3,Q1,Qb,Qa,Qc,Q0,Q2,Q7,Yh6 b s1,Yh6 b s2,Ypu,Ymx b1 b2]
 exact hk
end Go.Proofs.YtcnhfkplgknomaaDoor
end
