/-
  A part that is off does nothing (no program in sight).
-/
import Derived.Test.YtgeeklmjfbiieaaDoorScC
import Derived.Test.YtgeeklmjfbiieaaDoorAbH
set_option linter.all false
noncomputable section
namespace Go.Proofs.YtgeeklmjfbiieaaDoor
open Go Go.Ab
set_option maxRecDepth 100000
def Qao:List Int→List Bool→Bool
 | [],had=>decide (had=[])
 | c::l,had=>if c=136 then Qao l (false::had)else if c=137 then(match had with | []=>false | x::r=>if x then false else Qao l (true::r))else if c=138 then(match had with | []=>false | _::r=>Qao l r)else Qao l had
theorem Xnk{A B C:Type}(x:Except Int A)(f:A→B)(g:B→Except Int C):(x.map f).bind g=x.bind fun y=>g (f y):=by cases x <;> rfl
theorem Qor(a:Asks):∀ (l m:List (Int × List Int)) (st:List (List Int)) (op:List Br),Wg a (l++m) st op=(Wg a l st op).bind fun p=>Wg a m p.1 p.2
 | [],m,st,op=>rfl
 | (c,d)::l,m,st,op=>by
  simp only[List.cons_append,Wg]
  cases h:Qgi a c d st op with
  | error e=>rfl
  | ok p=>exact Qor a l m p.1 p.2
theorem Qlw(a:Asks)(x:Br)(hx:x.off=false):∀ (l:List (Int × List Int)) (st:List (List Int)) (op:List Br),Qao (l.map (·.1)) (op.map (·.turned))=true →
  (Wg a l st (op ++ [x])=(Wg a l st op).map fun p=>(p.1,p.2 ++ [x]))∧∀ p,Wg a l st op=.ok p→p.2=[]
 | [],st,op,hc=>by
  simp[Qao]at hc
  subst hc
  exact⟨rfl,fun p h=>by cases h;rfl⟩
 | (c,d)::l,st,op,hc=>by
  have hoff:Xlb (op ++ [x])=Xlb op:=by cases op <;> simp[Xlb,hx]
  simp only[List.map_cons,Qao]at hc
  simp only[Wg,Qgi,brF,hoff]
  by_cases h1:c=136
  ·simp only[h1,if_true]at hc ⊢
   by_cases ho:Xlb op=true
   ·simp only[ho,if_true]
    exact Qlw a x hx l st (⟨true,true,false⟩::op) (by simpa using hc)
   ·simp only[ho,if_false]
    cases st with
    | nil=>exact⟨rfl,fun p h=>by cases h⟩
    | cons y r=>exact Qlw a x hx l r (⟨!isT y,false,false⟩::op) (by simpa using hc)
  ·by_cases h2:c=137
   ·simp only[h2]at hc ⊢
    cases op with
    | nil=>simp at hc
    | cons y r =>
     simp only[List.map_cons]at hc
     by_cases ht:y.turned=true
     ·simp[ht]at hc
     ·simp[ht]at hc ⊢
      have q:=Qlw a x hx l st (⟨y.dead || !y.off,y.dead,true⟩::r) (by simpa using hc)
      exact⟨q.1,fun _ _ h=>q.2 _ h⟩
   ·by_cases h3:c=138
    ·simp only[h3]at hc ⊢
     cases op with
     | nil=>simp at hc
     | cons y r =>
      simp at hc ⊢
      have q:=Qlw a x hx l st r hc
      exact⟨q.1,fun _ _ h=>q.2 _ h⟩
    ·simp only[h1,h2,h3,if_false,or_self]at hc ⊢
     by_cases ho:Xlb op=true
     ·simp only[ho,if_true]
      exact Qlw a x hx l st op hc
     ·simp only[ho,if_false]
      cases hd:doF a c d st with
      | error e=>exact⟨rfl,fun p h=>by cases h⟩
      | ok st'=>exact Qlw a x hx l st' op hc
theorem Qoa(a:Asks)(x:Br)(hx:x.off=true)(st:List (List Int)):∀ (l:List (Int × List Int)) (op:List Br),(∀ y ∈ op,y.off=true∧y.dead=true)→Qao (l.map (·.1)) (op.map (·.turned))=true→Wg a l st (op ++ [x])=.ok (st,[x])
 | [],op,_,hc=>by
  simp[Qao]at hc
  subst hc
  rfl
 | (c,d)::l,op,hy,hc=>by
  have hoff:Xlb (op ++ [x])=true:=by
   cases op with
   | nil=>exact hx
   | cons y r=>exact(hy y (by simp)).1
  simp only[List.map_cons,Qao]at hc
  simp only[Wg,Qgi,brF,hoff]
  by_cases h1:c=136
  ·simp only[h1,if_true]at hc ⊢
   refine Qoa a x hx st l (⟨true,true,false⟩::op) (fun y h => ?_) (by simpa using hc)
   rcases List.mem_cons.1 h with rfl | h
   ·exact⟨rfl,rfl⟩
   ·exact hy y h
  ·by_cases h2:c=137
   ·simp only[h2]at hc ⊢
    cases op with
    | nil=>simp at hc
    | cons y r =>
     have hyd:=hy y (by simp)
     simp only[List.map_cons]at hc
     by_cases ht:y.turned=true
     ·simp[ht]at hc
     ·simp[ht]at hc ⊢
      refine Qoa a x hx st l (⟨y.dead || !y.off,y.dead,true⟩::r) (fun z h => ?_) (by simpa using hc)
      rcases List.mem_cons.1 h with rfl | h
      ·simp[hyd.2]
      ·exact hy z (by simp[h])
   ·by_cases h3:c=138
    ·simp only[h3]at hc ⊢
     cases op with
     | nil=>simp at hc
     | cons y r =>
      simp at hc ⊢
      exact Qoa a x hx st l r (fun z h=>hy z (by simp[h])) hc
    ·simp only[h1,h2,h3,if_false,or_self]at hc ⊢
     simp only[if_true]
     exact Qoa a x hx st l op hy hc
theorem Xb4:∀ (s:List (List Int)) (x:List Int) (st:List (List Int)),x.length≤64→st.length+s.length < 16→Qt7 (s ++ [x]) st=(Qt7 s st).bind fun z => .ok (x::z)
 | [],x,st,hx,hl=>by simp at hl;simp[Qt7,Qic,hx,hl,Except.bind]
 | y::s,x,st,hx,hl=>by
  simp at hl
  simp only[List.cons_append,Qt7]
  split
  ·have hp:Qic y st=.ok (y::st):=by unfold Qic;rw[if_pos (by omega)]
   rw[hp]
   exact Xb4 s x (y::st) hx (by simp;omega)
  ·rfl
theorem Xtp(a:Asks){l m:List (Int × List Int)}(hl:Qao (l.map (·.1)) []=true)(hm:Qao (m.map (·.1)) []=true){s:List (List Int)}(hs:s.length < 16) :
  Xrc a ((136,[])::(l++((137,[])::(m ++ [(138,[])])))) (s ++ [[1]])=Xrc a l s:=by
 unfold Xrc
 rw[Xb4 s [1] [] (by simp) (by simpa using hs)]
 cases Qt7 s []with
 | error e=>rfl
 | ok st =>
  simp only[Except.bind]
  have h1:∀ r,Wg a ((136,[])::r) ([1]::st) []=Wg a r st [⟨false,false,false⟩]:=fun r=>by simp[Wg,Qgi,brF,Xlb,isT,Except.bind]
  rw[h1,Qor]
  obtain⟨q1,q2⟩:=Qlw a ⟨false,false,false⟩ rfl l st [] (by simpa using hl)
  rw[List.nil_append]at q1
  rw[q1,Xnk]
  have h2:∀ p:List (List Int) × List Br,p.2=[]→Wg a ((137,[])::(m ++ [(138,[])])) p.1 (p.2 ++ [⟨false,false,false⟩])=.ok (p.1,[]):=by
   rintro⟨st1,op1⟩ h
   simp only at h
   subst h
   have h3:∀ r,Wg a ((137,[])::r) st1 [⟨false,false,false⟩]=Wg a r st1 [⟨true,false,true⟩]:=fun r=>by simp[Wg,Qgi,brF,Except.bind]
   have h4:=Qoa a ⟨true,false,true⟩ rfl st1 m [] (by simp) (by simpa using hm)
   rw[List.nil_append]at h4
   show Wg a ((137,[])::(m ++ [(138,[])])) st1 [⟨false,false,false⟩]=_
   rw[h3,Qor,h4]
   simp[Except.bind,Wg,Qgi,brF]
  cases hx:Wg a l st []with
  | error e=>rfl
  | ok p =>
   simp only[Except.bind]
   rw[h2 p (q2 p hx)]
   obtain⟨st1,op1⟩:=p
   have:=q2 _ hx
   simp only at this
   subst this
   rfl
theorem Xxm(a:Asks){l m:List (Int × List Int)}(hl:Qao (l.map (·.1)) []=true)(hm:Qao (m.map (·.1)) []=true){s:List (List Int)}(hs:s.length < 16) :
  Xrc a ((136,[])::(m++((137,[])::(l ++ [(138,[])])))) (s ++ [[]])=Xrc a l s:=by
 unfold Xrc
 rw[Xb4 s [] [] (by simp) (by simpa using hs)]
 cases Qt7 s []with
 | error e=>rfl
 | ok st =>
  simp only[Except.bind]
  have h1:∀ r,Wg a ((136,[])::r) ([]::st) []=Wg a r st [⟨true,false,false⟩]:=fun r=>by simp[Wg,Qgi,brF,Xlb,isT,Except.bind]
  have h4:=Qoa a ⟨true,false,false⟩ rfl st m [] (by simp) (by simpa using hm)
  rw[List.nil_append]at h4
  rw[h1,Qor,h4]
  have h3:∀ r,Wg a ((137,[])::r) st [⟨true,false,false⟩]=Wg a r st [⟨false,false,true⟩]:=fun r=>by simp[Wg,Qgi,brF,Except.bind]
  show Xuu (Wg a ((137,[])::(l ++ [(138,[])])) st [⟨true,false,false⟩])=_
  rw[h3,Qor]
  obtain⟨q1,q2⟩:=Qlw a ⟨false,false,true⟩ rfl l st [] (by simpa using hl)
  rw[List.nil_append]at q1
  rw[q1,Xnk]
  cases hx:Wg a l st []with
  | error e=>rfl
  | ok p =>
   obtain⟨st1,op1⟩:=p
   have:=q2 _ hx
   simp only at this
   subst this
   simp[Except.bind,Wg,Qgi,brF]
theorem Xsn(k:Nat):pz k []=some []:=by cases k <;> simp[pz]
theorem Xh8:∀ (k:Nat) (xs:List Int),(∀ z ∈ xs,0≤z)→xs.length≤k→∀ g,xs.length≤g→pz k xs=pz g xs
 | k,[],_,_,g,_=>by rw[Xsn,Xsn]
 | 0,c::r,_,hk,_,_=>by simp at hk
 | k+1,c::r,hb,hk,g,hg=>by
  match g,hg with
  | 0,hg=>simp at hg
  | g+1,hg =>
  simp only[pz]
  have hr:∀ z ∈ r,0≤z:=fun z hz=>hb z (by simp[hz])
  rw[Xh8 k (r.drop c.toNat) (fun z hz=>hr z (List.mem_of_mem_drop hz)) (by simp at hk ⊢;omega) g (by simp at hg ⊢;omega),Xh8 k r hr (by simp at hk;omega) g (by simp at hg;omega)]
theorem X0l(k:Nat)(xs:List Int)(hb:∀ z ∈ xs,0≤z)(hk:xs.length≤k):pz k xs=pz xs.length xs:=Xh8 k xs hb hk _ (Nat.le_refl _)
theorem Xft:∀ (f:Nat) (xs ys:List Int) (l m:List (Int × List Int)),xs.length≤f→(∀ z ∈ xs,0≤z)→pz xs.length xs=some l→(∀ g,ys.length≤g→pz g ys=some m)→∀ g,(xs++ys).length≤g→pz g (xs++ys)=some (l++m)
 | f,[],ys,l,m,_,_,h,hy,g,hg=>by
  have : l=[]:=by rw[Xsn]at h;exact(Option.some.inj h).symm
  subst this
  simpa using hy g (by simpa using hg)
 | 0,c::r,ys,l,m,hf,_,_,_,_,_=>by simp at hf
 | f+1,c::r,ys,l,m,hf,hb,h,hy,g,hg=>by
  have hc:0≤c:=hb c (by simp)
  match g,hg with
  | 0,hg=>simp at hg
  | g+1,hg =>
  simp only[List.length_cons,pz]at h
  simp only[List.cons_append,pz]
  split at h
  ·rename_i h1
   rw[Option.map_eq_some_iff]at h
   obtain⟨l',h2,rfl⟩:=h
   have hl:c.toNat≤r.length:=by omega
   rw[if_pos ⟨h1.1,by simp;omega⟩]
   have e1:(r++ys).drop c.toNat=r.drop c.toNat++ys:=List.drop_append_of_le_length hl
   have e2:(r++ys).take c.toNat=r.take c.toNat:=List.take_append_of_le_length hl
   have hb':∀ z ∈ r.drop c.toNat,0≤z:=fun z hz=>hb z (by simp[List.mem_of_mem_drop hz])
   rw[X0l _ _ hb' (by simp)]at h2
   rw[e1,e2,Xft f (r.drop c.toNat) ys l' m (by simp at hf ⊢;omega) hb' h2 hy g (by simp at hg ⊢;omega)]
   rfl
  ·rename_i h1
   split at h
   ·cases h
   ·rename_i h2
    rw[Option.map_eq_some_iff]at h
    obtain⟨l',h3,rfl⟩:=h
    rw[if_neg (fun q=>by have:=q.1;omega),if_neg h2,Xft f r ys l' m (by simp at hf;omega) (fun z hz=>hb z (by simp[hz])) h3 hy g (by simp at hg ⊢;omega)]
    rfl
theorem Xrj{c:Int}(hc:129≤c∧c≤139):∀ g,1≤g→pz g [c]=some [(c,[])]
 | 0,h=>by omega
 | g+1,_=>by simp only[pz];rw[if_neg (by omega),if_neg (by omega)];rfl
theorem Xuj{xs ys:List Int}{l m:List (Int × List Int)}(bx:∀ z ∈ xs,0≤z)(by':∀ z ∈ ys,0≤z)(hl:pz xs.length xs=some l)(hm:pz ys.length ys=some m) :
  pz (136::(xs++137::(ys ++ [138]))).length (136::(xs++137::(ys ++ [138])))=some ((136,[])::(l++((137,[])::(m ++ [(138,[])])))):=by
 have e5:∀ g,([138]:List Int).length≤g→pz g [138]=some [(138,[])]:=fun g hg=>Xrj (by omega) g (by simpa using hg)
 have e4:=Xft _ ys [138] m [(138,[])] (Nat.le_refl _) by' hm e5
 have e3:=Xft 1 [137] (ys ++ [138]) [(137,[])] _ (by simp) (by simp) (Xrj (by omega) _ (by simp)) e4
 have e2:=Xft _ xs ([137]++(ys ++ [138])) l _ (Nat.le_refl _) bx hl e3
 have e1:=Xft 1 [136] (xs++([137]++(ys ++ [138]))) [(136,[])] _ (by simp) (by simp) (Xrj (by omega) _ (by simp)) e2
 exact e1 _ (Nat.le_refl _)
theorem Xp5(a:Asks){xs ys:List Int}{l m:List (Int × List Int)}(bx:∀ z ∈ xs,0≤z)(by':∀ z ∈ ys,0≤z)(hx:xs.length≤256)(hl:pz xs.length xs=some l)(hm:pz ys.length ys=some m)(hl64:l.length≤64)
  (h1:(136::(xs++137::(ys ++ [138]))).length≤256) (h64:l.length+m.length+3≤64) (cl:Qao (l.map (·.1)) []=true) (cm:Qao (m.map (·.1)) []=true) {s:List (List Int)} (hs:s.length≤15) :
  Xij a (136::(xs++137::(ys ++ [138]))) (s ++ [[1]])=Xij a xs s∧Xij a (136::(ys++137::(xs ++ [138]))) (s ++ [[]])=Xij a xs s:=by
 have h2:(136::(ys++137::(xs ++ [138]))).length≤256:=by simp at h1 ⊢;omega
 have e0:Xij a xs s=Xrc a l s:=by unfold Xij;rw[if_neg (by omega),hl];simp only;rw[if_neg (by omega)]
 rw[e0]
 constructor
 ·unfold Xij
  rw[if_neg (by omega),Xuj bx by' hl hm]
  simp only
  rw[if_neg (by simp;omega)]
  exact Xtp a cl cm (by omega)
 ·unfold Xij
  rw[if_neg (by omega),Xuj by' bx hm hl]
  simp only
  rw[if_neg (by simp;omega)]
  exact Xxm a cl cm (by omega)
end Go.Proofs.YtgeeklmjfbiieaaDoor
end
noncomputable section
namespace Go.Proofs.YtgeeklmjfbiieaaDoor
open Go Go.Ab
set_option maxRecDepth 100000
def Xxv(z:Int):Int:=if 1099511627776 < z then 1099511627776 else z
def Xp1:List (List Int)→Int→Int
 | [],n=>n
 | x::l,n=>Xp1 l (Xxv (n+x.length+1))
theorem Xlk{z:Int}(h:0≤z):0≤Xxv z∧Xxv z≤1099511627776:=by unfold Xxv;split <;> omega
theorem Xnu:∀ {l:List (List Int)} {n:Int},0≤n→Xp1 l n≤4096→n+l.length≤4096∧∀ x ∈ l,n+x.length≤4096
 | [],n,h0,h=>by simp[Xp1]at h ⊢;exact h
 | x::l,n,h0,h=>by
  simp only[Xp1]at h
  obtain⟨h1,h2⟩:=Xnu (Xlk (by omega)).1 h
  have h3:Xxv (n+x.length+1)=n+x.length+1:=by
   unfold Xxv at h1 ⊢
   split
   ·rename_i q;rw[if_pos q]at h1;omega
   ·rfl
  rw[h3]at h1 h2
  refine⟨by simp;omega,fun y hy => ?_⟩
  rcases List.mem_cons.1 hy with rfl | hy
  ·omega
  ·have:=h2 y hy;omega
def ALI(sv:Value)(items:List (Value × List Int))(h:Heap)(k:Nat)(s:St):Prop:=∃ (t:Tr Value) (i:Nat) (n:Int),s=⟨⟨21,t⟩,[],h⟩∧t.get 0=some sv∧t.get 3=some (.int .i64 n)∧t.get 4=some (.int .i64 (i:Int))∧i≤items.length∧k=items.length-i∧0≤n∧n≤1099511627776∧Xp1 (items.map (·.2)) 0=Xp1 ((items.drop i).map (·.2)) n
section
attribute [local simp] Qly Q1y Yu Qv4 Jd Zo Quw Qbf Zs Ys Yw Qpu Yh Xh X6 Yj Q5 Qd Xg Qq Qe Xi Qk Y1 Z9 Z2 aop X4 nth Ab.g0 gv gs Qx X2 aev evs evO X7 Tr.get_put St.put Tm.put flat flatA Z3 Xe Xc Xf Xa Xb Xd X9 Xj X8 Qt Qu Q6 X5 Qo Qf Q2 Qp Qg Q7 Yf Yn Ye Y0 Yi.putAll Xy X0 Qb Q3 Qy Qz X1 Q4 Qc Qw
theorem Xqz(b:Nat){h:Heap}{sv:Value}{items:List (Value × List Int)}(ss:Sl h 1 sv items.length (items.map (·.1)))(hn:items.length≤0x7ffffffff000)(its:ItsAt h items)(hl:∀ p ∈ items,p.2.length≤0x7ffffffff000)(K:AEnd→Heap→Prop)(hk:K (.ret (.int .i64 (Xp1 (items.map (·.2)) 0))) h):FnK Tryd.prog (E b).G 25 [sv] h K:=by
 refine Qal (E b) (Wp b) (V2 b) Vm (Wv b) (Qak b) (Yu b) Xjf Xtw Xpn rfl ?_
 have lenS:∀ hx,Qib (E b).toEnv 43 sv hx=some (.int .i64 (items.length:Int)):=fun hx=>Qdu (T43 b) ss
 simp
 refine Qs0 (ALI sv items h) items.length ⟨_,0,0,rfl,by simp,by simp,by simp,by omega,rfl,by omega,by omega,by simp⟩ ?_
 rintro k s' ⟨t,i,n,rfl,t0,t3,t4,hi,rfl,n0,n1,hF⟩ _
 by_cases hlt:i < items.length
 ·have hlt':(i:Int) < (items.length:Int):=by omega
  obtain⟨⟨v,x⟩,hpi⟩:∃ p,items[i]? = some p:=⟨_,List.getElem?_eq_getElem hlt⟩
  have hd:items.drop i=(v,x)::items.drop (i+1):=by
   rw[List.drop_eq_getElem_cons hlt]
   rw[List.getElem?_eq_getElem hlt]at hpi
   rw[Option.some.inj hpi]
  obtain⟨bk,off,q1,q2,q3, -⟩:=Xiw (T43 b) Qcj ss (k:=.i64) (i:=(i:Int)) (by omega) (by omega)
  have q4:Vs h bk off=some v:=by
   have:=q3 0 (by omega)
   simpa[hpi]using this
  obtain⟨sx,bx⟩:=its (v,x) (List.mem_of_getElem? hpi)
  have lx:=hl (v,x) (List.mem_of_getElem? hpi)
  simp only at lx
  have len:=fun hx=>Qdr (b:=b) (h1:=hx) sx
  have hw:IntKind.i64.wrap ((i:Int)+1)=((i+1:Nat):Int):=by rw[Qbe (by omega) (by omega)];omega
  have w1:IntKind.i64.wrap (n+(x.length:Int))=n+(x.length:Int):=Qbe (by omega) (by omega)
  have w2:IntKind.i64.wrap (n+(x.length:Int)+1)=n+(x.length:Int)+1:=Qbe (by omega) (by omega)
  rw[hd]at hF
  simp[t0,t3,t4,lenS,hlt',q2,q4,len,w1,w2,hw,Xwh]
  refine⟨items.length-(i+1),by omega,_,i+1,Xxv (n+x.length+1),rfl,by simp[t0],by simp[Xxv],by simp,by omega,rfl,(Xlk (by omega)).1,(Xlk (by omega)).2,?_⟩
  rw[hF]
  simp only[List.map_cons,Xp1]
 ·have hlt':¬ (i:Int) < (items.length:Int):=by omega
  have : i=items.length:=by omega
  subst this
  simp[t0,t3,t4,lenS]
  rw[List.drop_length]at hF
  simp only[List.map_nil,Xp1]at hF
  rw[hF]at hk
  exact hk
end
def CNI(sv:Value)(items:List (Value × List Int))(h:Heap)(k:Nat)(s:St):Prop:=∃ (t:Tr Value) (h1:Heap) (o:Value) (i:Nat) (out:List (Value × List Int)),s=⟨⟨20,t⟩,[],h1⟩∧t.get 0=some sv∧t.get 3=some o∧t.get 4=some (.int .i64 (i:Int))∧i≤items.length∧k=items.length-i∧Own h1 h.next 1 o i (out.map (·.1))∧out.map (·.2)=(items.take i).map (·.2)∧(∀ p ∈ out,OB h1 h.next p.1 p.2∧Bytes p.2∧(∀ c,Vn p.1=some c→Vn o≠some c))∧Old h h1
section
attribute [local simp] Qar Qe5 Y8 Qcm Jd Zo Qbf Zs Ul Yw Yh Xh X6 Yj Q5 Qd Xg Qq Qe Xi Qk Y1 Z9 Z2 aop X4 nth Ab.g0 gv gs Qx X2 aev evs evO X7 Tr.get_put St.put Tm.put flat flatA Z3 Xe Xc Xf Xa Xb Xd X9 Xj X8 Qt Qu Q6 X5 Qo Qf Q2 Qp Qg Q7 Yf Yn Ye Y0 Yi.putAll Xy X0 Qb Q3 Qy Qz X1 Q4 Qc Qw
theorem Xg9(b:Nat){h:Heap}{sv:Value}{items:List (Value × List Int)}(ss:Sl h 1 sv items.length (items.map (·.1)))(hn:items.length≤1000000)(its:ItsAt h items)(hl:∀ p ∈ items,p.2.length < 1000000000)(K:AEnd→Heap→Prop)
  (hk:∀ o out h',Own h' h.next 1 o items.length (out.map (·.1))→out.map (·.2)=items.map (·.2)→ItsAt h' out→(∀ p ∈ out,∀ c,Vn p.1=some c→h.next≤c∧Vn o≠some c)→Old h h'→K (.ret o) h'):FnK Tryd.prog (E b).G 28 [sv] h K:=by
 refine Qal (E b) (Wp b) (V2 b) Vm (Wv b) (Qak b) (Y8 b) Qy2 Q3z Q1t rfl ?_
 have lenS:∀ hx,Qib (E b).toEnv 43 sv hx=some (.int .i64 (items.length:Int)):=fun hx=>Qdu (T43 b) ss
 simp
 refine Qs0 (CNI sv items h) items.length ⟨_,h,.slice none 0 0,0,[],rfl,by simp,by simp,by simp,by omega,rfl,Own.nil,by simp,by simp,Old.refl _⟩ ?_
 rintro k s' ⟨t,h1,o,i,out,rfl,t0,t3,t4,hi,rfl,ho,hout,hits,hold⟩ _
 have s1:=ss.old hold
 by_cases hlt:i < items.length
 ·have hlt':(i:Int) < (items.length:Int):=by omega
  obtain⟨⟨v,x⟩,hpi⟩:∃ p,items[i]? = some p:=⟨_,List.getElem?_eq_getElem hlt⟩
  obtain⟨bk,off,q1,q2,q3, -⟩:=Xiw (T43 b) Qcj s1 (k:=.i64) (i:=(i:Int)) (by omega) (by omega)
  have q4:Vs h1 bk off=some v:=by
   have:=q3 0 (by omega)
   simpa[hpi]using this
  obtain⟨sx,bx⟩:=its (v,x) (List.mem_of_getElem? hpi)
  have lx:=hl (v,x) (List.mem_of_getElem? hpi)
  have hw:IntKind.i64.wrap ((i:Int)+1)=((i+1:Nat):Int):=by rw[Qbe (by omega) (by omega)];omega
  simp[t0,t3,t4,lenS,hlt',q2,q4]
  refine Xtc b (sx.old hold) lx _ fun v2 h2 o2 a2 => ?_
  obtain⟨o',h3,k1,k2,k3,k4⟩:=Qn5 (T43 b) Qcj (by omega) (ho.keep fun c _ hc=>a2.2 c hc) (Nat.le_trans hold.1 a2.1) (ys:=[v2]) rfl (by rw[Qzb];omega) (by omega)
  obtain⟨bl, -⟩:=Xhw b h2 v2 o2.one
  have nb:∀ c,Vn v2=some c→Vn o≠some c:=fun c hc e=>by have:=(o2.from hc).1;have:=ho.out e;omega
  have far:∀ c,Vn v2=some c→c < h2.next:=fun c hc=>o2.out hc
  simp[t0,t3,t4,bl,k1,hw]
  refine⟨items.length-(i+1),by omega,_,h3,o',i+1,out ++ [(v2,x)],rfl,by simp[t0],by simp,by simp,by omega,rfl,by simpa using k2,?_,fun p hp => ?_,k3.old (hold.trans a2) (ho.keep fun c _ hc=>a2.2 c hc)⟩
  ·rw[List.take_succ,hpi]
   simp[hout]
  ·rcases List.mem_append.1 hp with hp | hp
   ·obtain⟨g1,g2,g3⟩:=hits p hp
    refine⟨(g1.keep fun c _ hc=>a2.2 c hc).keep fun c hc hlt3=>k3.2 c hlt3 (g3 c hc),g2,fun c hc e => ?_⟩
    rcases k4 c e with q | q
    ·exact g3 c hc q
    ·have:=g1.out hc;have:=a2.1;omega
   ·rw[List.mem_singleton.1 hp]
    refine⟨(o2.low hold.1).keep fun c hc hlt3=>k3.2 c hlt3 (nb c hc),bx,fun c hc e => ?_⟩
    rcases k4 c e with q | q
    ·exact nb c hc q
    ·have:=far c hc;omega
 ·have hlt':¬ (i:Int) < (items.length:Int):=by omega
  have : i=items.length:=by omega
  subst this
  simp[t0,t3,t4,lenS]
  rw[List.take_of_length_le (Nat.le_refl _)]at hout
  exact hk o out h1 ho hout (fun p hp=>⟨(hits p hp).1.sl,(hits p hp).2.1⟩) (fun p hp c hc=>⟨((hits p hp).1.from hc).1,(hits p hp).2.2 c hc⟩) hold
end
theorem X1p{b:Nat}{te ts:TypeId}{re rs:TyRec}(T:SlTy (E b).toEnv te ts re rs){h:Heap}{n0 z n:Nat}{v:Value}{xs:List Value}(hz:re.size=z)(o:Own h n0 z v n xs){k:IntKind}{i:Int}(h0:0≤i)(h1:i < n) :
  ∃ bk,Vn v=some bk∧J7 (E b).toEnv ts v (.int k i)=some (.pointer (some ⟨bk,i.toNat*z,none⟩))∧∀ j,i.toNat*z+j < xs.length→Vs h bk (i.toNat*z+j)=xs[i.toNat*z+j]? := by
 rcases o with⟨rfl,rfl,rfl⟩ | ⟨bk,c,z',rest,rfl,g1,g2,g3,g4,g5⟩
 ·omega
 ·refine⟨bk,rfl,?_,fun j hj => ?_⟩
  ·rw[Qqk T hz ⟨h0,h1⟩,Nat.zero_add]
  ·rw[Qas g2,List.getElem?_append_left hj]
def CLI(lv:Value)(os:List OpV)(h:Heap)(k:Nat)(s:St):Prop:=∃ (t:Tr Value) (h1:Heap) (hv:Value) (i:Nat) (had:List Bool),s=⟨⟨50,t⟩,[],h1⟩∧t.get 0=some lv∧t.get 3=some hv∧t.get 4=some (.int .i64 (i:Int))∧i≤os.length∧k=os.length-i∧Own h1 h.next 1 hv had.length (had.reverse.map .bool)∧had.length≤i∧Old h h1∧Qao (os.map (·.code)) []=Qao ((os.drop i).map (·.code)) had
section
attribute [local simp] Jy Uh Yd Vq Vr Jn Zo Xcy Qfz Yr Qa5 Ym J5 Xd3 Ql8 V9 Jt Vb W3 Va Yw Yh Xh X6 Yj Q5 Qd Xg Qq Qe Xi Qk Y1 Z9 Z2 aop X4 nth Ab.g0 gv gs Qx X2 aev evs evO X7 Tr.get_put St.put Tm.put flat flatA Z3 Xe Xc Xf Xa Xb Xd X9 Xj X8 Qt Qu Q6 X5 Qo Qf Q2 Qp Qg Q7 Yf Yn Ye Y0 Yi.putAll Xy X0 Qb Q3 Qy Qz X1 Q4 Qc Qw
theorem Xk6(b:Nat){h:Heap}{lv:Value}{os:List OpV}{n0:Nat}(o:Own h n0 2 lv os.length (Qn1 os))(hn:os.length≤64)(K:AEnd→Heap→Prop)(hk:∀ h',Old h h'→K (.ret (.bool (Qao (os.map (·.code)) []))) h'):FnK Tryd.prog (E b).G 26 [lv] h K:=by
 refine Qal (E b) (Wp b) (V2 b) Vm (Wv b) (Qak b) (Yd b) Q29 Xcz Xc6 rfl ?_
 have lenL:∀ hx,Qib (E b).toEnv 67 lv hx=some (.int .i64 (os.length:Int)):=fun hx=>Qdu (T67 b) o.sl
 simp
 refine Qs0 (CLI lv os h) os.length ⟨_,h,.slice none 0 0,0,[],rfl,by simp,by simp,by simp,by omega,rfl,Own.nil,by simp,Old.refl _,by simp⟩ ?_
 rintro k s' ⟨t,h1,hv,i,had,rfl,t0,t3,t4,hi,rfl,oh,hlen,hold,hF⟩ _
 have lenH:∀ hx,Qib (E b).toEnv 86 hv hx=some (.int .i64 (had.length:Int)):=fun hx=>Qdu (T86 b) oh.sl
 by_cases hlt:i < os.length
 ·have hlt':(i:Int) < (os.length:Int):=by omega
  obtain⟨p,hp⟩:∃ p,os[i]? = some p:=⟨_,List.getElem?_eq_getElem hlt⟩
  have hd:os.drop i=p::os.drop (i+1):=by
   rw[List.drop_eq_getElem_cons hlt]
   rw[List.getElem?_eq_getElem hlt]at hp
   rw[Option.some.inj hp]
  obtain⟨bk,off, -,x1,c1, -⟩:=Xxy (b:=b) (T67 b) Qfx (o.keep fun c _ hc=>hold.2 c hc) hp
  have hw:IntKind.i64.wrap ((i:Int)+1)=((i+1:Nat):Int):=by rw[Qbe (by omega) (by omega)];omega
  have hw2:IntKind.i64.wrap ((had.length:Int)-1)=(had.length:Int)-1:=Qbe (by omega) (by omega)
  rw[hd]at hF
  simp only[List.map_cons,Qao]at hF
  by_cases p1:p.code=136
  ·rw[if_pos p1]at hF
   have bl:Jl (E b).toEnv 86 1 [(0,.bool false)] h1=some (.slice (some ⟨h1.next,0,none⟩) 1 1,h1.push (.cells true 1 [.bool false])):=Q7l (T86 b) Q1o (by omega) (by omega) rfl rfl rfl
   obtain⟨o',h3,k1,k2,k3, -⟩:=Qn5 (T86 b) Q1o (by omega) oh hold.1 (ys:=[.bool false]) rfl (by rw[Xwv];omega) (by omega)
   simp[t0,t3,t4,lenL,lenH,hlt',x1,c1,p1,bl,k1,hw]
   exact⟨os.length-(i+1),by omega,_,h3,o',i+1,false::had,rfl,by simp[t0],by simp,by simp,by omega,rfl,by simpa using k2,by simp;omega,k3.old hold oh,hF⟩
  rw[if_neg p1]at hF
  by_cases p2:p.code=137
  ·rw[if_pos p2]at hF
   cases had with
   | nil =>
    have lenH':∀ hx,Qib (E b).toEnv 86 hv hx=some (.int .i64 0):=lenH
    simp[t0,t3,t4,lenL,lenH',hlt',x1,c1,p2]
    simp only at hF
    rw[hF]at hk
    exact hk h1 hold
   | cons y r =>
    have hpos:¬ ((r.length:Int)+1)=0:=by omega
    have lenH':∀ hx,Qib (E b).toEnv 86 hv hx=some (.int .i64 ((r.length:Int)+1)):=fun hx=>by have:=lenH hx;simpa using this
    have hw3:IntKind.i64.wrap (r.length:Int)=(r.length:Int):=Qbe (by simp at hlen;omega) (by simp at hlen;omega)
    obtain⟨bk2,y1,y2,y3⟩:=X1p (T86 b) Q1o oh (k:=.i64) (i:=(r.length:Int)) (by omega) (by simp;omega)
    have e1:((y::r).reverse.map Value.bool)[r.length]? = some (.bool y):=by simp
    have y4:Vs h1 bk2 r.length=some (.bool y):=by
     have:=y3 0 (by simp)
     simp only[Int.toNat_natCast,Nat.mul_one,Nat.add_zero]at this
     rw[this,e1]
    have y2':J7 (E b).toEnv 86 hv (.int .i64 (r.length:Int))=some (.pointer (some ⟨bk2,r.length,none⟩)):=by simpa using y2
    cases y with
    | true =>
     simp[t0,t3,t4,lenL,lenH',hlt',x1,c1,p2,hpos,hw3,y2',y4]
     simp only[if_true]at hF
     rw[hF]at hk
     exact hk h1 hold
    | false =>
     obtain⟨h2,s1,s2,s3,s4⟩:=Qgd oh y1 (i:=r.length) (by simp) (.bool true)
     have e2:((false::r).reverse.map Value.bool).set r.length (.bool true)=(true::r).reverse.map Value.bool:=by simp
     rw[e2]at s2
     simp[t0,t3,t4,lenL,lenH',hlt',x1,c1,p2,hpos,hw3,y2',y4,s1,hw]
     refine⟨os.length-(i+1),by omega,_,h2,hv,i+1,true::r,rfl,by simp[t0],by simp[t3],by simp,by omega,rfl,s2,by simp at hlen ⊢;omega,⟨by rw[s3];exact hold.1,fun c hc => ?_⟩,by simpa using hF⟩
     rw[s4 c (fun e=>by have:=(oh.from y1).1;omega),hold.2 c hc]
  rw[if_neg p2]at hF
  by_cases p3:p.code=138
  ·rw[if_pos p3]at hF
   cases had with
   | nil =>
    have lenH':∀ hx,Qib (E b).toEnv 86 hv hx=some (.int .i64 0):=lenH
    simp[t0,t3,t4,lenL,lenH',hlt',x1,c1,p3]
    simp only at hF
    rw[hF]at hk
    exact hk h1 hold
   | cons y r =>
    have hpos:¬ ((r.length:Int)+1)=0:=by omega
    have lenH':∀ hx,Qib (E b).toEnv 86 hv hx=some (.int .i64 ((r.length:Int)+1)):=fun hx=>by have:=lenH hx;simpa using this
    have hw3:IntKind.i64.wrap (r.length:Int)=(r.length:Int):=Qbe (by simp at hlen;omega) (by simp at hlen;omega)
    obtain⟨v',y1,y2, -⟩:=Xst (T86 b) (k:=.i64) (i:=(r.length:Int)) Q1o (by omega) oh (by omega) (by simp;omega)
    have e1:((y::r).reverse.map Value.bool).take ((r.length:Int).toNat*1)=r.reverse.map Value.bool:=by simp
    rw[e1]at y2
    simp[t0,t3,t4,lenL,lenH',hlt',x1,c1,p3,hpos,hw3,y1,hw]
    exact⟨os.length-(i+1),by omega,_,h1,v',i+1,r,rfl,by simp[t0],by simp,by simp,by omega,rfl,by simpa using y2,by simp at hlen;omega,hold,by simpa using hF⟩
  rw[if_neg p3]at hF
  simp[t0,t3,t4,lenL,lenH,hlt',x1,c1,p1,p2,p3,hw]
  exact⟨os.length-(i+1),by omega,_,h1,hv,i+1,had,rfl,by simp[t0],by simp[t3],by simp,by omega,rfl,oh,by omega,hold,hF⟩
 ·have hlt':¬ (i:Int) < (os.length:Int):=by omega
  have : i=os.length:=by omega
  subst this
  rw[List.drop_length]at hF
  simp only[List.map_nil,Qao]at hF
  rw[hF]at hk
  by_cases he:had=[]
  ·subst he
   have lenH':∀ hx,Qib (E b).toEnv 86 hv hx=some (.int .i64 0):=lenH
   simp[t0,t3,t4,lenL,lenH']
   simpa using hk h1 hold
  ·have hne:¬ (had.length:Int)=0:=by
    have : had.length≠0:=fun e=>he (List.eq_nil_of_length_eq_zero e)
    omega
   simp[t0,t3,t4,lenL,lenH,hne]
   simpa[he]using hk h1 hold
end
end Go.Proofs.YtgeeklmjfbiieaaDoor
end
noncomputable section
namespace Go.Proofs.YtgeeklmjfbiieaaDoor
open Go Go.Ab
set_option maxRecDepth 100000
theorem Xf6(b:Nat){h:Heap}{v1 v2:Value}{xs ys:List Int}(s1:SB h v1 xs)(s2:SB h v2 ys)(l1:xs.length≤1024)(l2:ys.length≤1024) :
  ∃ hA w1 h1 hB w2 h2 w3 h3 hC w4 h4,Jl (E b).toEnv 47 1 [(0,.int .u8 136)] h=some (.slice (some ⟨h.next,0,none⟩) 1 1,hA)∧Qad (E b).toEnv 47 47 (.slice (some ⟨h.next,0,none⟩) 1 1) v1 hA=some (w1,h1) ∧
   Jl (E b).toEnv 47 1 [(0,.int .u8 137)] h1=some (.slice (some ⟨h1.next,0,none⟩) 1 1,hB)∧Qad (E b).toEnv 47 47 w1 (.slice (some ⟨h1.next,0,none⟩) 1 1) hB=some (w2,h2)∧Qad (E b).toEnv 47 47 w2 v2 h2=some (w3,h3) ∧
   Jl (E b).toEnv 47 1 [(0,.int .u8 138)] h3=some (.slice (some ⟨h3.next,0,none⟩) 1 1,hC)∧Qad (E b).toEnv 47 47 w3 (.slice (some ⟨h3.next,0,none⟩) 1 1) hC=some (w4,h4)∧SB h4 w4 (136::(xs++137::(ys ++ [138])))∧Old h h4:=by
 have oA:OB (h.push (.cells true 1 [i8 136])) h.next (.slice (some ⟨h.next,0,none⟩) 1 1) [136]:=Own.new (Nat.le_refl _) (by rw[Heap.get_push,if_pos rfl];rfl) rfl (by decide) (.inr rfl)
 obtain⟨w1,h1,a1,o1,b1⟩:=Xt5 (b:=b) oA (Nat.le_succ _) (s1.old (Old.push _ _)) (by simp;omega)
 have old1:Old h h1:=b1.old (Old.push _ _) oA
 obtain⟨w2,h2,a2,o2,b2⟩:=Xmc (b:=b) o1 old1.1 (by simp;omega) 137
 have old2:Old h h2:=b2.old old1 o1
 obtain⟨w3,h3,a3,o3,b3⟩:=Xt5 (b:=b) o2 old2.1 (s2.old old2) (by simp;omega)
 have old3:Old h h3:=b3.old old2 o2
 obtain⟨w4,h4,a4,o4,b4⟩:=Xmc (b:=b) o3 old3.1 (by simp;omega) 138
 refine⟨_,w1,h1,_,w2,h2,w3,h3,_,w4,h4,Qqx,a1,Qqx,a2,a3,Qqx,a4,?_,b4.old old3 o3⟩
 have e:([136]++xs ++ [137]++ys ++ [138]:List Int)=136::(xs++137::(ys ++ [138])):=by simp
 rw[e]at o4
 exact o4.sl
section
attribute [local simp] Xw Y4 Y3 Xz Ys Yv Yu Jd Jb Yd Xx Xv Xs Xn Xq Xl Xp Xo Yk Jn Yw Xt Xr Yl Y8 Zf Xu Xm Xk Yh kON kOC Yj kNN kNP kRR kRP kEN kER Qk Y1 Z9 Z2 aop X4 nth Ab.g0 gv gs Qx X2 aev evs evO X7 Tr.get_put St.put Tm.put flat flatA Z3 Xe Xc Xf Xa Xb Xd X9 Xj X8 Qt Qu kTN kTR kTX kTP kBN kBR kBX kBP kCS kCR kCE kAM Yi.putAll Xy X0 Qb Q3 Qy Qz X1 Q4 Qc Qw
set_option maxHeartbeats 2000000 in
theorem Xdk(b:Nat){h:Heap}{v1 v2 sv:Value}{xs ys:List Int}{items:List (Value × List Int)}(s1:SB h v1 xs)(b1:Bytes xs)(s2:SB h v2 ys)(b2:Bytes ys)(ss:Sl h 1 sv items.length (items.map (·.1)))(hn:items.length≤0x7ffffffff000)(its:ItsAt h items)(hl:∀ p ∈ items,p.2.length≤0x7ffffffff000)
  (laid:Ab.LaidIn h laidAll) (K:AEnd→Heap→Prop) (hk:∀ h',K (.ret (.bool true)) h'):CallOK Tryd.prog (E b).G 5 [v1,v2,sv] h K:=by
 refine Qe9 (E b) (Vg _ _) (Wp b) (V2 b) Vm (Wv b) (Y3 b) Qt9 Qya Qx7 rfl ?_
 have len1:=fun hx=>Qdr (b:=b) (h1:=hx) s1
 have len2:=fun hx=>Qdr (b:=b) (h1:=hx) s2
 have lenS:∀ hx,Qib (E b).toEnv 43 sv hx=some (.int .i64 (items.length:Int)):=fun hx=>Qdu (T43 b) ss
 simp
 refine(Q7d b s1 b1 _ (fun _ h1 a1 => ?_) (fun l g1 g2 g3 lv os h1 q1 os1 a1 => ?_)).ok
 ·simp
  refine(Q7d b (s2.old a1) b2 _ (fun _ h2 a2 => ?_) (fun m k1 k2 k3 mv ms h2 q2 ms2 a2 => ?_)).ok
  all_goals
   have a12:=a1.trans a2
   by_cases p1:(1024:Int) < (xs.length:Int)
   ·simp[len1,len2,lenS,p1]
    refine(Qci b (Laid.old laid a12) _ ?_).ok
    simp
    exact hk _
   by_cases p2:(1024:Int) < (ys.length:Int)
   ·simp[len1,len2,lenS,p1,p2]
    refine(Qci b (Laid.old laid a12) _ ?_).ok
    simp
    exact hk _
   simp[len1,len2,lenS,p1,p2]
   refine(Xqz b (ss.old a12) hn (its.old a12) hl _ ?_).ok
   by_cases p3:(4096:Int) < Xp1 (items.map (·.2)) 0
   ·simp[len1,len2,lenS,p3]
    refine(Qci b (Laid.old laid a12) _ ?_).ok
    simp
    exact hk _
   by_cases p4:(15:Int) < (items.length:Int)
   ·simp[len1,len2,lenS,p3,p4]
    refine(Qci b (Laid.old laid a12) _ ?_).ok
    simp
    exact hk _
   simp[len1,len2,lenS,p3,p4]
   refine(Qci b (Laid.old laid a12) _ ?_).ok
   simp
   exact hk _
 ·simp
  refine(Q7d b (s2.old a1) b2 _ (fun _ h2 a2 => ?_) (fun m k1 k2 k3 mv ms h2 q2 ms2 a2 => ?_)).ok
  ·have a12:=a1.trans a2
   by_cases p1:(1024:Int) < (xs.length:Int)
   ·simp[len1,len2,lenS,p1]
    refine(Qci b (Laid.old laid a12) _ ?_).ok
    simp
    exact hk _
   by_cases p2:(1024:Int) < (ys.length:Int)
   ·simp[len1,len2,lenS,p1,p2]
    refine(Qci b (Laid.old laid a12) _ ?_).ok
    simp
    exact hk _
   simp[len1,len2,lenS,p1,p2]
   refine(Xqz b (ss.old a12) hn (its.old a12) hl _ ?_).ok
   by_cases p3:(4096:Int) < Xp1 (items.map (·.2)) 0
   ·simp[len1,len2,lenS,p3]
    refine(Qci b (Laid.old laid a12) _ ?_).ok
    simp
    exact hk _
   by_cases p4:(15:Int) < (items.length:Int)
   ·simp[len1,len2,lenS,p3,p4]
    refine(Qci b (Laid.old laid a12) _ ?_).ok
    simp
    exact hk _
   simp[len1,len2,lenS,p3,p4]
   refine(Qci b (Laid.old laid a12) _ ?_).ok
   simp
   exact hk _
  ·have a12:=a1.trans a2
   by_cases p1:(1024:Int) < (xs.length:Int)
   ·simp[len1,len2,lenS,p1]
    refine(Qci b (Laid.old laid a12) _ ?_).ok
    simp
    exact hk _
   by_cases p2:(1024:Int) < (ys.length:Int)
   ·simp[len1,len2,lenS,p1,p2]
    refine(Qci b (Laid.old laid a12) _ ?_).ok
    simp
    exact hk _
   simp[len1,len2,lenS,p1,p2]
   refine(Xqz b (ss.old a12) hn (its.old a12) hl _ ?_).ok
   by_cases p3:(4096:Int) < Xp1 (items.map (·.2)) 0
   ·simp[len1,len2,lenS,p3]
    refine(Qci b (Laid.old laid a12) _ ?_).ok
    simp
    exact hk _
   by_cases p4:(15:Int) < (items.length:Int)
   ·simp[len1,len2,lenS,p3,p4]
    refine(Qci b (Laid.old laid a12) _ ?_).ok
    simp
    exact hk _
   have hsm:=Xnu (by omega) (show Xp1 (items.map (·.2)) 0≤4096 by omega)
   have hi:∀ p ∈ items,p.2.length≤4096:=fun p hp=>by have:=hsm.2 p.2 (List.mem_map.2 ⟨p,hp,rfl⟩);omega
   have c1:os.map (·.code)=l.map (·.1):=by rw[← q1];simp[Qjy]
   have c2:ms.map (·.code)=m.map (·.1):=by rw[← q2];simp[Qjy]
   have o64:os.length≤64:=by rw[← Qvp os,q1];exact g3
   have m64:ms.length≤64:=by rw[← Qvp ms,q2];exact k3
   simp[len1,len2,lenS,p3,p4]
   refine(Xk6 b (os1.row.keep fun c _ hc=>a2.2 c hc) o64 _ fun h3 a3 => ?_).ok
   have a13:=a12.trans a3
   rw[c1]
   cases cl:Qao (l.map (·.1)) []with
   | false =>
    simp[len1,len2,lenS]
    refine(Qci b (Laid.old laid a13) _ ?_).ok
    simp
    exact hk _
   | true =>
    simp[len1,len2,lenS]
    refine(Xk6 b (ms2.row.keep fun c _ hc=>a3.2 c hc) m64 _ fun h4 a4 => ?_).ok
    have a14:=a13.trans a4
    rw[c2]
    cases cm:Qao (m.map (·.1)) []with
    | false =>
     simp[len1,len2,lenS]
     refine(Qci b (Laid.old laid a14) _ ?_).ok
     simp
     exact hk _
    | true =>
     obtain⟨hA,w1,h5,hB,w2,h6,w3,h7,hC,w4,h8,x1,x2,x3,x4,x5,x6,x7,sw,a58⟩:=Xf6 b (s1.old a14) (s2.old a14) (by omega) (by omega)
     have a18:=a14.trans a58
     obtain⟨hA',u1,h9,hB',u2,h10,u3,h11,hC',u4,h12,y1,y2,y3,y4,y5,y6,y7,su,a912⟩:=Xf6 b (s2.old a18) (s1.old a18) (by omega) (by omega)
     have a112:=a18.trans a912
     have lw:∀ hx,Qib (E b).toEnv 47 w4 hx=some (.int .i64 ((xs.length:Int)+(ys.length:Int)+3)):=fun hx=>by
      have:=Qdr (b:=b) (h1:=hx) sw
      rw[this]
      congr 2
      simp
      omega
     have lo:∀ hx,Qib (E b).toEnv 67 lv hx=some (.int .i64 (os.length:Int)):=fun hx=>Qdu (T67 b) os1.row.sl
     have lm:∀ hx,Qib (E b).toEnv 67 mv hx=some (.int .i64 (ms.length:Int)):=fun hx=>Qdu (T67 b) ms2.row.sl
     have wr1:IntKind.i64.wrap ((os.length:Int)+(ms.length:Int))=(os.length:Int)+(ms.length:Int):=Qbe (by omega) (by omega)
     have wr2:IntKind.i64.wrap ((os.length:Int)+(ms.length:Int)+3)=(os.length:Int)+(ms.length:Int)+3:=Qbe (by omega) (by omega)
     by_cases r1:(256:Int) < (xs.length:Int)+(ys.length:Int)+3
     ·simp[len1,len2,lenS,x1,x2,x3,x4,x5,x6,x7,y1,y2,y3,y4,y5,y6,y7,lw,lo,lm,wr1,wr2,r1]
      refine(Qci b (Laid.old laid a112) _ ?_).ok
      simp
      exact hk _
     by_cases r2:(64:Int) < (os.length:Int)+(ms.length:Int)+3
     ·simp[len1,len2,lenS,x1,x2,x3,x4,x5,x6,x7,y1,y2,y3,y4,y5,y6,y7,lw,lo,lm,wr1,wr2,r1,r2]
      refine(Qci b (Laid.old laid a112) _ ?_).ok
      simp
      exact hk _
     simp[len1,len2,lenS,x1,x2,x3,x4,x5,x6,x7,y1,y2,y3,y4,y5,y6,y7,lw,lo,lm,wr1,wr2,r1,r2]
     have e64:l.length+m.length+3≤64:=by rw[← q1,← q2,Qvp,Qvp];omega
     obtain⟨f1,f2⟩:=Xp5 (Xyu 9) (fun z hz=>(b1 z hz).1) (fun z hz=>(b2 z hz).1) g1 g2 k2 g3 (by simp;omega) e64 cl cm (s:=items.map (·.2)) (by simp;omega)
     refine Xlm b (Laid.old laid a112) (s1.old a112) b1 (ss.old a112) (by omega) (its.old a112) _ fun h13 a13' => ?_
     have a113:=a112.trans a13'
     simp
     refine(Xg9 b (ss.old a113) (by omega) (its.old a113) (fun p hp=>by have:=hi p hp;omega) _ fun o out h14 oo eo io fo a14' => ?_).ok
     obtain⟨h15,e15⟩:∃ h15,h15=h14.push (.cells true 1 [i8 1]):=⟨_,rfl⟩
     have z1:Jl (E b).toEnv 47 1 [(0,.int .u8 1)] h14=some (.slice (some ⟨h14.next,0,none⟩) 1 1,h15):=by rw[e15];exact Qqx
     have s15:SB h15 (.slice (some ⟨h14.next,0,none⟩) 1 1) [1]:=by rw[e15];exact SB.push (xs:=[1]) (by simp)
     have a1415:Old h14 h15:=by rw[e15];exact Old.push _ _
     obtain⟨z2, -⟩:=Xhw b h15 (.slice (some ⟨h14.next,0,none⟩) 1 1) rfl
     have oo15:=oo.keep (h':=h15) fun c _ hc=>a1415.2 c hc
     obtain⟨o2,h16,z3,z4,z5⟩:=Xhx (T43 b) Qcj (by omega) oo15 (Nat.le_trans a14'.1 a1415.1) (ys:=[.slice (some ⟨h14.next,0,none⟩) 1 1]) rfl (by rw[Qzb];omega) (by omega)
     have a1316:Old h13 h16:=z5.old (a14'.trans a1415) oo15
     have a116:=a113.trans a1316
     have a1215:=a14'.trans a1415
     have it16:ItsAt h16 (out ++ [(Value.slice (some ⟨h14.next,0,none⟩) 1 1,([1]:List Int))]):=fun p hp=>by
      rcases List.mem_append.1 hp with hp | hp
      ·exact⟨((io p hp).1.old a1415).keep fun c hc hlt=>z5.2 c hlt (fo p hp c hc).2,(io p hp).2⟩
      ·rw[List.mem_singleton.1 hp]
       refine⟨s15.keep fun c hc hlt=>z5.2 c hlt fun e => ?_,by intro z hz;simp at hz;omega⟩
       have:=oo.out e
       simp[Vn]at hc
       omega
     have sl16:Sl h16 1 o2 (out ++ [(Value.slice (some ⟨h14.next,0,none⟩) 1 1,([1]:List Int))]).length ((out ++ [(Value.slice (some ⟨h14.next,0,none⟩) 1 1,([1]:List Int))]).map (·.1)):=by
      have e:(out ++ [((.slice (some ⟨h14.next,0,none⟩) 1 1:Value),([1]:List Int))]).length=items.length+1:=by
       have:=congrArg List.length eo
       simp at this ⊢
       exact this
      rw[e]
      simpa using z4.sl
     simp[z1,z2,z3]
     refine Xlm b (Laid.old laid a116) (sw.old ((a912.trans a13').trans a1316)) ?_ sl16 (by have:=congrArg List.length eo;simp at this ⊢;omega) it16 _ fun h17 a17 => ?_
     ·intro z hz
      simp only[List.mem_cons,List.mem_append,List.not_mem_nil,or_false]at hz
      rcases hz with rfl | hz | rfl | hz | rfl
      ·omega
      ·exact b1 z hz
      ·omega
      ·exact b2 z hz
      ·omega
     have a117:=a116.trans a17
     have ei:(out ++ [((.slice (some ⟨h14.next,0,none⟩) 1 1:Value),([1]:List Int))]).map (·.2)=items.map (·.2) ++ [[1]]:=by rw[List.map_append,eo];rfl
     rw[ei,f1]
     simp
     refine(Xg9 b (ss.old a117) (by omega) (its.old a117) (fun p hp=>by have:=hi p hp;omega) _ fun p2 out2 h18 po eo2 io2 fo2 a18' => ?_).ok
     obtain⟨y2', -⟩:=Xhw b h18 (.slice none 0 0) rfl
     obtain⟨p3',h19,y3',y4',y5'⟩:=Xhx (T43 b) Qcj (by omega) po a18'.1 (ys:=[.slice none 0 0]) rfl (by rw[Qzb];omega) (by omega)
     have a1719:Old h17 h19:=y5'.old a18' po
     have a119:=a117.trans a1719
     have it19:ItsAt h19 (out2 ++ [(Value.slice none 0 0,([]:List Int))]):=fun p hp=>by
      rcases List.mem_append.1 hp with hp | hp
      ·exact⟨(io2 p hp).1.keep fun c hc hlt=>y5'.2 c hlt (fo2 p hp c hc).2,(io2 p hp).2⟩
      ·rw[List.mem_singleton.1 hp]
       exact⟨Sl.nil,by intro z hz;cases hz⟩
     have sl19:Sl h19 1 p3' (out2 ++ [(Value.slice none 0 0,([]:List Int))]).length ((out2 ++ [(Value.slice none 0 0,([]:List Int))]).map (·.1)):=by
      have e:(out2 ++ [((.slice none 0 0:Value),([]:List Int))]).length=items.length+1:=by
       have:=congrArg List.length eo2
       simp at this ⊢
       exact this
      rw[e]
      simpa using y4'.sl
     simp[y2',y3']
     refine Xlm b (Laid.old laid a119) (su.old (((a13'.trans a1316).trans a17).trans a1719)) ?_ sl19 (by have:=congrArg List.length eo2;simp at this ⊢;omega) it19 _ fun h20 a20 => ?_
     ·intro z hz
      simp only[List.mem_cons,List.mem_append,List.not_mem_nil,or_false]at hz
      rcases hz with rfl | hz | rfl | hz | rfl
      ·omega
      ·exact b2 z hz
      ·omega
      ·exact b1 z hz
      ·omega
     have ei2:(out2 ++ [((.slice none 0 0:Value),([]:List Int))]).map (·.2)=items.map (·.2) ++ [[]]:=by rw[List.map_append,eo2];rfl
     rw[ei2,f2]
     simp
     refine(Qci b (Laid.old laid (a119.trans a20)) _ ?_).ok
     simp
     exact hk _
end
end Go.Proofs.YtgeeklmjfbiieaaDoor
end
noncomputable section
namespace Go.Proofs.YtgeeklmjfbiieaaDoor
open Go Go.Ab
open Go.ChangeShapes Go.WideShapes Go.RowKit
set_option maxRecDepth 1000000
abbrev ByQ:Heap→List Value→Prop:=SlQ 1 (fun _ cs=>IntsOf [.u8] cs)
theorem Xl2:∀ {rows:List (List Value)},(∀ r ∈ rows,IntsOf [.u8] r)→∃ xs:List Int,rows.flatten=xs.map i8∧xs.length=rows.length∧Bytes xs
 | [],_=>⟨[],rfl,rfl,by intro z hz;cases hz⟩
 | r::rows,h=>by
  obtain⟨n,r',rfl,hw,hr'⟩:=h r (by simp)
  have : r'=[]:=hr'
  subst this
  obtain⟨xs,h1,h2,h3⟩:=Xl2 (rows:=rows) fun q hq=>h q (by simp[hq])
  refine⟨n::xs,by simp[h1,i8],by simp[h2],fun z hz => ?_⟩
  rcases List.mem_cons.1 hz with rfl | hz
  ·exact X3g hw
  ·exact h3 z hz
theorem Xz9{h:Heap}{v:Value}(q:ByQ h [v]):∃ xs,SB h v xs∧Bytes xs∧xs.length≤reachBytes:=by
 obtain⟨v',rows,e,s,hb,hr⟩:=q
 obtain rfl:v=v':=by simpa using e
 obtain⟨xs,h1,h2,h3⟩:=Xl2 fun r hm=>(hr r hm).1
 refine⟨xs,?_,h3,by rw[h2];exact hb⟩
 rw[SB,h2,← h1]
 exact s
theorem Xo1{h:Heap}:∀ {rows:List (List Value)},(∀ r ∈ rows,ByQ h r∧r.length=1)→∃ items:List (Value × List Int),rows.flatten=items.map (·.1)∧items.length=rows.length∧ItsAt h items∧∀ p ∈ items,p.2.length≤reachBytes
 | [],_=>⟨[],rfl,rfl,(fun p hp=>by cases hp),by simp⟩
 | r::rows,hr=>by
  obtain⟨q,hl⟩:=hr r (by simp)
  obtain⟨v,rfl⟩:∃ v,r=[v]:=by
   match r,hl with
   | [v],_=>exact⟨v,rfl⟩
  obtain⟨xs,s,b,lx⟩:=Xz9 q
  obtain⟨items,h1,h2,h3,h4⟩:=Xo1 (rows:=rows) fun r hm=>hr r (by simp[hm])
  refine⟨(v,xs)::items,by simp[h1],by simp[h2],fun p hp => ?_,fun p hp => ?_⟩
  ·rcases List.mem_cons.1 hp with rfl | hp
   ·exact⟨s,b⟩
   ·exact h3 p hp
  ·rcases List.mem_cons.1 hp with rfl | hp
   ·exact lx
   ·exact h4 p hp
theorem Xvt{h:Heap}{v:Value}(q:SlQ 1 ByQ h [v]):∃ items:List (Value × List Int),Sl h 1 v items.length (items.map (·.1))∧items.length≤reachBytes∧ItsAt h items∧∀ p ∈ items,p.2.length≤reachBytes:=by
 obtain⟨v',rows,e,s,hb,hr⟩:=q
 obtain rfl:v=v':=by simpa using e
 obtain⟨items,h1,h2,h3,h4⟩:=Xo1 hr
 refine⟨items,?_,by rw[h2];exact hb,h3,h4⟩
 rw[h2,← h1]
 exact s
section
variable{H:Type}{enc:TypeId × Value→H}{W:World}
theorem Q0v:X0p enc Tryd.prog ⟨nv,W.heap.size⟩ W 47 ByQ:=Xf4 (e:=5) rfl (by kernel_rfl) (by kernel_rfl) (by omega) (by rw[show Tryd.prog.bytesOf 5=1 by kernel_rfl];omega) (Q95 _) (Xuh (by kernel_rfl))
theorem Xtm:X0p enc Tryd.prog ⟨nv,W.heap.size⟩ W 43 (SlQ 1 ByQ):=Xf4 (e:=47) rfl (by kernel_rfl) (by kernel_rfl) (by omega) (by rw[show Tryd.prog.bytesOf 47=24 by kernel_rfl];omega) (SlQ.stable (Q95 _)) Q0v
end
end Go.Proofs.YtgeeklmjfbiieaaDoor
end
