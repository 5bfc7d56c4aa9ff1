import Derived.Test.YtgjlmnnggnajmaaGreatDoorFA
import Derived.Test.YtgjlmnnggnajmaaGreatDoorScB
set_option linter.all false
noncomputable section
namespace Go.Proofs.YtgjlmnnggnajmaaGreatDoor
open Go Go.Ab
set_option maxRecDepth 100000
structure Pt where
 id:List Nat
 n:Int
 hd:id.length=32
def Pt.cells(p:Pt):List Value:=p.id.map u8v ++ [.int .i64 p.n]
theorem Pt.len(p:Pt):p.cells.length=33:=by simp[Pt.cells,p.hd]
theorem Pt.ext' {p q:Pt}(h1:p.id=q.id)(h2:p.n=q.n):p=q:=by
 cases p;cases q;simp only at h1 h2;subst h1;subst h2;rfl
instance : DecidableEq Pt:=fun p q=>if h:p.id=q.id/\p.n=q.n then isTrue (Pt.ext' h.1 h.2)else isFalse fun e=>h (by rw[e];exact⟨rfl,rfl⟩)
def Xrj(l:List Pt):List Value:=l.flatMap Pt.cells
theorem Xwd:∀ (xs ys:List Nat) (l:List Nat) (r s:List Value),xs.length=ys.length->Qaf (List.replicate xs.length 1++l) (xs.map u8v++r) (ys.map u8v++s)=(Qaf l r s).map (decide (xs=ys) && ·)
 | [],[],l,r,s,_=>by
  simp
 | x::xs,y::ys,l,r,s,h=>by
  have ih:=Xwd xs ys l r s (by simpa using h)
  simp only[List.length_cons,List.replicate_succ,List.map_cons,List.cons_append,Qaf,ih]
  have : X6j 1 (u8v x) (u8v y)=some (decide (x=y)):=by
   show(if IntKind.u8=IntKind.u8 then some ((x:Int) == (y:Int))else none)=_
   simp only[if_true]
   congr 1
   by_cases e:x=y
   ·subst e;simp
   ·simp[e];omega
  rw[this]
  cases Qaf l r s with
  | none=>rfl
  | some c=>simp[Bool.and_assoc]
theorem Z0r(p q:Pt):Qaf L46 p.cells q.cells=some (decide (p=q)):=by
 have:=Xwd p.id q.id [1] [.int .i64 p.n] [.int .i64 q.n] (by rw[p.hd,q.hd])
 rw[p.hd]at this
 have e:Qaf L46 p.cells q.cells=Qaf (List.replicate 32 1 ++ [1]) (p.id.map u8v ++ [.int .i64 p.n]) (q.id.map u8v ++ [.int .i64 q.n]):=by
  congr 1
  kernel_rfl
 rw[e,this]
 have e2:Qaf [1] [Value.int .i64 p.n] [.int .i64 q.n]=some (decide (p.n=q.n)):=by
  show(match some (p.n == q.n),some true with | some a,some b=>some (a && b) | _,_=>none)=_
  simp
  rfl
 rw[e2]
 show some (decide (p.id=q.id) && decide (p.n=q.n))=_
 congr 1
 by_cases h:p=q
 ·subst h;simp
 ·have : ¬ (p.id=q.id/\p.n=q.n):=fun⟨a,c⟩=>h (Pt.ext' a c)
  simp[h]
  intro a c
  exact this ⟨a,c⟩
theorem Yq3:∀ {l:List Pt} {i:Nat} {p:Pt},l[i]? = some p->∀ j,j < 33->(Xrj l)[i*33+j]? = p.cells[j]?
 | q::l,0,p,h,j,hj=>by
  simp at h;subst h
  show(q.cells++Xrj l)[0*33+j]? = _
  rw[List.getElem?_append_left (by rw[Pt.len];omega)]
  congr 1
  omega
 | q::l,i+1,p,h,j,hj=>by
  have ih:=Yq3 (l:=l) (i:=i) (p:=p) (by simpa using h) j hj
  show(q.cells++Xrj l)[(i+1)*33+j]? = _
  rw[List.getElem?_append_right (by rw[Pt.len];omega),Pt.len,show(i+1)*33+j-33=i*33+j by omega]
  exact ih
theorem Zzd{b:Nat}{te ts:TypeId}{re rs:TyRec}(T:SlTy (E b).toEnv te ts re rs)(hz:re.size=33){h:Heap}{v:Value}{l:List Pt}(s:Sl h 33 v l.length (Xrj l)){i:Nat}{p:Pt}(hp:l[i]? = some p) :
  ∃ bk off,Vg (E b).toEnv ts v (.int .i64 (i:Int))=some (.pointer (some ⟨bk,off,none⟩))/\Qb9 h bk off 33=some (.agg ⟨p.cells⟩):=by
 have hl:=(List.getElem?_eq_some_iff.1 hp).1
 obtain⟨bk,off,q1,q2,q3,q4⟩:=Xqk T hz s (k:=.i64) (i:=(i:Int)) (by omega) (by omega)
 refine⟨bk,off,q2,?_⟩
 rw[q4]
 congr 3
 rw[Int.toNat_natCast]
 apply List.ext_getElem?
 intro j
 by_cases hj:j < 33
 ·rw[List.getElem?_take_of_lt hj,List.getElem?_drop,Yq3 hp j hj]
 ·rw[List.getElem?_eq_none (by simp;omega),List.getElem?_eq_none (by rw[Pt.len];omega)]
structure PE where
 key:Pt
 val:Value
 born:Nat
def PE.e(x:PE):MapEntry:=⟨.agg ⟨x.key.cells⟩,x.val,x.born⟩
def Qvx(p:Pt):List PE->Nat->Option (Nat × Value)
 | [],_=>none
 | x::l,j=>if p=x.key then some (j,x.val)else Qvx p l (j+1)
theorem Zbt(p:Pt):∀ (l:List PE) (j:Nat),Xkz L46 p.cells (l.map PE.e) j=some (Qvx p l j)
 | [],_=>rfl
 | x::l,j=>by
  have hc:Yth x.e.key=some x.key.cells:=rfl
  simp only[List.map_cons,Xkz,hc,Z0r,Qvx]
  by_cases h:p=x.key
  ·simp[h];rfl
  ·simp only[h,decide_false,if_false]
   exact Zbt p l (j+1)
theorem Yt5(p:Pt)(l:List PE):X17 R46 (.agg ⟨p.cells⟩) (l.map PE.e)=some (Qvx p l 0):=by
 obtain⟨fs,hd⟩:∃ fs,R46.desc=.struct fs:=⟨(match R46.desc with | .struct fs=>fs | _ => #[]),by kernel_rfl⟩
 have hl:R46.leaf=1::List.replicate 32 1:=by kernel_rfl
 have h0:=Zbt p l 0
 rw[show L46=1::List.replicate 32 1 by kernel_rfl]at h0
 have hb:Nat.beq p.cells.length (1::List.replicate 32 1).length=true:=by rw[p.len];rfl
 simp only[X17,hd,hl,hb]
 exact h0
theorem X4o{p:Pt}:∀ {l:List PE} {j:Nat},Qvx p l j=none ↔ ∀ x ∈ l,x.key≠p
 | [],_=>by simp[Qvx]
 | x::l,j=>by
  unfold Qvx
  by_cases h:p=x.key
  ·simp[h]
  ·rw[if_neg h,X4o]
   simp
   exact fun _ q=>h q.symm
theorem Xdp{p:Pt}:∀ {l:List PE} {j i:Nat} {v:Value},Qvx p l j=some (i,v)->∃ x,l[i-j]? = some x/\j<=i/\x.key=p/\x.val=v
 | [],_,_,_,h=>by cases h
 | x::l,j,i,v,h=>by
  unfold Qvx at h
  by_cases hk:p=x.key
  ·rw[if_pos hk]at h
   cases h
   exact⟨x,by simp,Nat.le_refl _,hk.symm,rfl⟩
  ·rw[if_neg hk]at h
   obtain⟨y,h1,h2,h3,h4⟩:=Xdp h
   refine⟨y,?_,by omega,h3,h4⟩
   rw[show i-j=(i-(j+1))+1 by omega,List.getElem?_cons_succ]
   exact h1
theorem Y31(p:Pt):∀ v ∈ p.cells,∃ k z,v=.int k z:=by
 intro v hv
 rcases List.mem_append.1 hv with h | h
 ·obtain⟨n,_,rfl⟩:=List.mem_map.1 h
  exact⟨_,_,rfl⟩
 ·simp at h
  exact⟨_,_,h⟩
theorem Y0h:∀ {l:List Value},(∀ v ∈ l,∃ k z,v=.int k z)->flatL l=true/\l.all (·.oneCell')=true
 | [],_=>⟨by simp[flatL],rfl⟩
 | v::l,h=>by
  obtain⟨k,z,rfl⟩:=h v (by simp)
  obtain⟨h1,h2⟩:=Y0h (l:=l) fun w hw=>h w (by simp[hw])
  exact⟨by simp[flatL,flat,h1],by simpa[Value.oneCell']using h2⟩
theorem Zh6(p:Pt):flat (.agg ⟨p.cells⟩)=true:=by
 obtain⟨h1,h2⟩:=Y0h (Y31 p)
 simp only[flat,flatA,h1,h2,Bool.and_self]
theorem Zrq(p:Pt):Instr.sameBits 10000 (.agg ⟨p.cells⟩) (.agg ⟨p.cells⟩)=true:=by
 show Instr.sameBits (9999+1) (.agg _) (.agg _)=true
 simp only[Instr.sameBits,beq_self_eq_true,Bool.true_and,List.all_eq_true]
 have key:∀ (l:List Value) (x:Value × Value),x ∈ l.zip l->x.1=x.2/\x.1 ∈ l:=by
  intro l
  induction l with
  | nil=>intro x hx;simp at hx
  | cons a l ih =>
   intro x hx
   simp only[List.zip_cons_cons,List.mem_cons]at hx
   rcases hx with rfl | hx
   ·exact⟨rfl,by simp⟩
   ·exact⟨(ih x hx).1,by simp[(ih x hx).2]⟩
 rintro⟨a,c⟩ hx
 obtain⟨h1,h2⟩:=key _ _ hx
 simp only at h1 h2
 subst h1
 obtain⟨k,z,rfl⟩:=Y31 p a h2
 simp[Instr.sameBits]
def Zih(p:Pt)(v:Value):List PE->List PE
 | []=>[]
 | x::l=>if p=x.key then {x with val:=v}::l else x::Zih p v l
theorem Yhe{p:Pt}(v:Value):∀ {l:List PE} {j i:Nat} {w:Value},Qvx p l j=some (i,w)->(l.map PE.e).modify (i-j) (fun e=>{e with key:=.agg ⟨p.cells⟩,val:=v})=(Zih p v l).map PE.e
 | [],_,_,_,h=>by cases h
 | x::l,j,i,w,h=>by
  unfold Qvx at h
  unfold Zih
  by_cases hk:p=x.key
  ·rw[if_pos hk]at h ⊢
   cases h
   rw[Nat.sub_self]
   simp[PE.e,hk]
  ·rw[if_neg hk]at h ⊢
   obtain⟨y,h1,h2,h3,h4⟩:=Xdp h
   rw[show i-j=(i-(j+1))+1 by omega,List.map_cons,List.modify_succ_cons,Yhe v h,List.map_cons]
section
variable{b:Nat}{tm te:TypeId}{rm:TyRec}(he:(E b).toEnv.ty.get tm=some rm)(hd:rm.desc=.map 46 te)
include he hd
theorem Zkq{h:Heap}{mb clk:Nat}{l:List PE}(hm:h.get mb=some (.map ⟨l.map PE.e⟩ clk)){p:Pt}(hf:Qvx p l 0=none)(v:Value) :
  Qf9 (E b).toEnv tm (.map (some mb)) (.agg ⟨p.cells⟩) v h=some (h.set mb (some (.map ⟨(l ++ [(⟨p,v,clk⟩:PE)]).map PE.e⟩ (clk+1)))):=by
 have hq:=Yt5 p l
 rw[hf]at hq
 simp only[Qf9,he,hd,hm,X7m,Zh6,hq]
 simp[PE.e]
theorem Y2k{h:Heap}{mb clk:Nat}{l:List PE}(hm:h.get mb=some (.map ⟨l.map PE.e⟩ clk)){p:Pt}{i:Nat}{w:Value}(hf:Qvx p l 0=some (i,w))(v:Value) :
  Qf9 (E b).toEnv tm (.map (some mb)) (.agg ⟨p.cells⟩) v h=some (h.set mb (some (.map ⟨(Zih p v l).map PE.e⟩ clk))):=by
 have hq:=Yt5 p l
 obtain⟨x,hx, -,hk, -⟩:=Xdp hf
 rw[Nat.sub_zero]at hx
 have e0:(((⟨l.map PE.e⟩:Array MapEntry)[i]?).map (·.key)).getD (.agg ⟨p.cells⟩)=.agg ⟨p.cells⟩:=by
  have : (⟨l.map PE.e⟩:Array MapEntry)[i]? = some x.e:=by
   show(l.map PE.e).toArray[i]? = _
   rw[List.getElem?_toArray,List.getElem?_map,hx]
   rfl
  rw[this]
  simp[PE.e,hk]
 have e1:=Yhe v hf
 rw[Nat.sub_zero]at e1
 rw[hf]at hq
 simp only[Qf9,he,hd,hm,X7m,Zh6,hq,e0,Zrq]
 congr 4
 rw[<- e1]
 simp
theorem Zuz{h:Heap}{mb clk:Nat}{l:List PE}(hm:h.get mb=some (.map ⟨l.map PE.e⟩ clk)){re:TyRec}(hee:(E b).toEnv.ty.get te=some re)(p:Pt) :
  Qkv (E b).toEnv tm (.map (some mb)) (.agg ⟨p.cells⟩) false h=some (match Qvx p l 0 with | some q=>q.2 | none=>re.zero) /\
  Qkv (E b).toEnv tm (.map (some mb)) (.agg ⟨p.cells⟩) true h=some (match Qvx p l 0 with | some q => .tuple #[q.2,.bool true] | none => .tuple #[re.zero,.bool false]):=by
 have hf:=Yt5 p l
 constructor
 ·simp only[Qkv,he,hd,X7m,hee,Qwl,hm,hf]
  cases Qvx p l 0 <;> simp
 ·simp only[Qkv,he,hd,X7m,hee,Qwl,hm,hf]
  cases Qvx p l 0 <;> simp
theorem Zsq{h:Heap}{mb clk:Nat}{es:Array MapEntry}(hm:h.get mb=some (.map es clk)):Qn4 (E b).toEnv tm (.map (some mb)) h=some (.int .i64 es.size):=by
 simp only[Qn4,he,hd,hm]
theorem Zc8{h:Heap}:Qy1 (E b).toEnv tm none h=some (.map (some h.next),h.push (.map #[] 0)):=by
 simp only[Qy1,he,hd]
end
structure PIn where
 pt:Pt
 wit:List (List Int)
structure POut where
 value:Int
 script:List Int
structure PTx where
 ins:List PIn
 outs:List POut
 lock:Int
def inF(n least most:Int):Bool:=decide (least<=n/\n<=most)
def Xso:List POut->Int->Bool
 | [],_=>true
 | o::l,left=>if o.value < 1∨left < o.value then false else Xso l (left-o.value)
def Zne(x:PIn):Bool := !inF x.pt.n 0 8
def Yl3(o:POut):Bool:=decide (256 < o.script.length)
def Ykl(x:PIn):Bool:=decide (16 < x.wit.length) || x.wit.any fun w=>decide (64 < w.length)
def Qla(t:PTx):Int :=
 if !inF t.ins.length 1 8 || !inF t.outs.length 1 8 then 3
 else if t.ins.any Zne || !inF t.lock 0 1073741824 then 1
 else if !decide (t.ins.map (·.pt)).Nodup then 13
 else if !Xso t.outs 1125899906842624 then 15
 else if t.outs.any Yl3 || t.ins.any Ykl then 5
 else 0
def leN:Nat->Nat->List Int
 | 0,_=>[]
 | k+1,n=>((n % 256:Nat):Int)::leN k (n / 256)
def X03(n:Nat):List Int:=if n < 253 then [(n:Int)]else if n < 65536 then 253::leN 2 n else if n < 4294967296 then 254::leN 4 n else 255::leN 8 n
theorem Ys6:∀ k n,(leN k n).length=k
 | 0,_=>rfl
 | k+1,n=>by simp[leN,Ys6 k]
theorem X12:∀ k n,∀ z ∈ leN k n,0<=z/\z < 256
 | 0,_,z,h=>by cases h
 | k+1,n,z,h=>by
  rcases List.mem_cons.1 h with rfl | h
  ·omega
  ·exact X12 k _ z h
theorem Qxx(n:Nat):(X03 n).length<=9:=by
 unfold X03
 split
 ·simp
 ·split
  ·simp[Ys6]
  ·split <;> simp[Ys6]
theorem Q3g(n:Nat):Bytes (X03 n):=by
 unfold X03 Bytes
 intro z hz
 split at hz
 ·simp at hz;omega
 ·split at hz
  ·rcases List.mem_cons.1 hz with rfl | hz
   ·omega
   ·exact X12 _ _ z hz
  ·split at hz
   ·rcases List.mem_cons.1 hz with rfl | hz
    ·omega
    ·exact X12 _ _ z hz
   ·rcases List.mem_cons.1 hz with rfl | hz
    ·omega
    ·exact X12 _ _ z hz
def inB(x:PIn):List Int:=x.pt.id.map Int.ofNat++X03 x.pt.n.toNat
def Za1(l:List Int):List Int:=X03 l.length++l
def Zm4(o:POut):List Int:=X03 o.value.toNat++Za1 o.script
def X59(t:PTx):List Int:=X03 t.ins.length++t.ins.flatMap inB++(X03 t.outs.length++t.outs.flatMap Zm4)++X03 t.lock.toNat
structure InV where
 pt:Pt
 wv:Value
 its:List (Value × List Int)
def InV.cells(x:InV):List Value:=x.pt.cells ++ [x.wv]
def InV.p(x:InV):PIn:=⟨x.pt,x.its.map (·.2)⟩
structure OutV where
 value:Int
 sv:Value
 script:List Int
def OutV.cells(o:OutV):List Value:=[.int .i64 o.value,o.sv]
def OutV.p(o:OutV):POut:=⟨o.value,o.script⟩
def Qfv(l:List InV):List Value:=l.flatMap InV.cells
def Xf3(l:List OutV):List Value:=l.flatMap OutV.cells
theorem InV.len(x:InV):x.cells.length=34:=by simp[InV.cells,Pt.len]
theorem OutV.len(x:OutV):x.cells.length=2:=rfl
theorem Yer(l:List InV):(Qfv l).length=l.length*34:=by
 induction l with
 | nil=>rfl
 | cons p l ih=>simp[Qfv,InV.len]at ih ⊢;omega
structure InAt (h:Heap) (x:InV):Prop where
 w:Sl h 1 x.wv x.its.length (x.its.map (·.1))
 i:ItsAt h x.its
 n:x.its.length < 1000000
 l:∀ p ∈ x.its,p.2.length < 1000000
structure OutAt (h:Heap) (x:OutV):Prop where
 s:SB h x.sv x.script
 b:Bytes x.script
 l:x.script.length < 1000000
theorem InAt.old{h h':Heap}{x:InV}(a:InAt h x)(o:Old h h'):InAt h' x:=⟨a.w.old o,a.i.old o,a.n,a.l⟩
theorem OutAt.old{h h':Heap}{x:OutV}(a:OutAt h x)(o:Old h h'):OutAt h' x:=⟨a.s.old o,a.b,a.l⟩
structure Ins (h:Heap) (v:Value) (l:List InV):Prop where
 s:Sl h 34 v l.length (Qfv l)
 n:l.length < 1000000
 a:∀ x ∈ l,InAt h x
structure Outs (h:Heap) (v:Value) (l:List OutV):Prop where
 s:Sl h 2 v l.length (Xf3 l)
 n:l.length < 1000000
 a:∀ x ∈ l,OutAt h x
theorem Ins.old{h h':Heap}{v:Value}{l:List InV}(a:Ins h v l)(o:Old h h'):Ins h' v l:=⟨a.s.old o,a.n,fun x hx=>(a.a x hx).old o⟩
theorem Outs.old{h h':Heap}{v:Value}{l:List OutV}(a:Outs h v l)(o:Old h h'):Outs h' v l:=⟨a.s.old o,a.n,fun x hx=>(a.a x hx).old o⟩
def txC(iv ov:Value)(lock:Int):List Value:=[iv,ov,.int .i64 lock]
def ptx(ins:List InV)(outs:List OutV)(lock:Int):PTx:=⟨ins.map InV.p,outs.map OutV.p,lock⟩
theorem Ydh{A:Type}{f:A->List Value}{z:Nat}(hf:∀ x,(f x).length=z):∀ {l:List A} {i:Nat} {x:A},l[i]? = some x->((l.flatMap f).drop (i*z)).take z=f x
 | y::l,0,x,h=>by
  simp at h;subst h
  rw[Nat.zero_mul,List.drop_zero,List.flatMap_cons,List.take_append_of_le_length (by rw[hf];omega),List.take_of_length_le (by rw[hf];omega)]
 | y::l,i+1,x,h=>by
  rw[List.flatMap_cons,show(i+1)*z=z+i*z by rw[Nat.add_mul];omega,<- List.drop_drop]
  have : (f y++l.flatMap f).drop z=l.flatMap f:=by
   rw[<- hf y,List.drop_left]
  rw[this]
  exact Ydh hf (by simpa using h)
theorem Y40{A:Type}{f:A->List Value}{z:Nat}(hf:∀ x,(f x).length=z){l:List A}{i:Nat}{x:A}(h:l[i]? = some x){j:Nat}(hj:j < z):(l.flatMap f)[i*z+j]? = (f x)[j]? := by
 rw[<- Ydh hf h,List.getElem?_take_of_lt hj,List.getElem?_drop]
theorem Yzt{b:Nat}{te ts:TypeId}{re rs:TyRec}(T:SlTy (E b).toEnv te ts re rs)(hz:re.size=34){h:Heap}{v:Value}{l:List InV}(s:Sl h 34 v l.length (Qfv l)){i:Nat}{x:InV}(hp:l[i]? = some x) :
  ∃ bk off,U1 v=some bk/\Vg (E b).toEnv ts v (.int .i64 (i:Int))=some (.pointer (some ⟨bk,off,none⟩))/\Qb9 h bk off 34=some (.agg ⟨x.cells⟩)/\(∀ j,j < 34->Jl h bk (off+j)=x.cells[j]?):=by
 have hl:=(List.getElem?_eq_some_iff.1 hp).1
 obtain⟨bk,off,q1,q2,q3,q4⟩:=Xqk T hz s (k:=.i64) (i:=(i:Int)) (by omega) (by omega)
 refine⟨bk,off,q1,q2,?_,fun j hj => ?_⟩
 ·rw[q4,Int.toNat_natCast,Qfv,Ydh InV.len hp]
 ·rw[q3 j hj,Int.toNat_natCast,Qfv,Y40 InV.len hp hj]
theorem X47{b:Nat}{te ts:TypeId}{re rs:TyRec}(T:SlTy (E b).toEnv te ts re rs)(hz:re.size=2){h:Heap}{v:Value}{l:List OutV}(s:Sl h 2 v l.length (Xf3 l)){i:Nat}{x:OutV}(hp:l[i]? = some x) :
  ∃ bk off,U1 v=some bk/\Vg (E b).toEnv ts v (.int .i64 (i:Int))=some (.pointer (some ⟨bk,off,none⟩))/\Qb9 h bk off 2=some (.agg ⟨x.cells⟩)/\Jl h bk off=some (.int .i64 x.value)/\Jl h bk (off+1)=some x.sv:=by
 have hl:=(List.getElem?_eq_some_iff.1 hp).1
 obtain⟨bk,off,q1,q2,q3,q4⟩:=Xqk T hz s (k:=.i64) (i:=(i:Int)) (by omega) (by omega)
 have q5:∀ j,j < 2->Jl h bk (off+j)=x.cells[j]? := fun j hj=>by rw[q3 j hj,Int.toNat_natCast,Xf3,Y40 OutV.len hp hj]
 refine⟨bk,off,q1,q2,?_,?_,?_⟩
 ·rw[q4,Int.toNat_natCast,Xf3,Ydh OutV.len hp]
 ·have:=q5 0 (by omega);simpa[OutV.cells]using this
 ·have:=q5 1 (by omega);simpa[OutV.cells]using this
theorem Yun(x:InV):x.cells.take 33=x.pt.cells:=by
 rw[InV.cells,List.take_append_of_le_length (by rw[Pt.len];omega),List.take_of_length_le (by rw[Pt.len];omega)]
theorem Yvz{A:Type}{q:A->Bool}{l:List A}{i:Nat}{x:A}(hx:l[i]? = some x)(h0:(l.take i).any q=false):(l.take (i+1)).any q=q x:=by
 rw[List.take_succ,hx]
 simp[h0]
theorem Zky{A:Type}{q:A->Bool}{l:List A}{i:Nat}{x:A}(hx:l[i]? = some x)(hq:q x=true):l.any q=true:=List.any_eq_true.2 ⟨x,List.mem_of_getElem? hx,hq⟩
def Zz3(v fv:Value)(l:List InV)(q:InV->Bool)(h:Heap)(k:Nat)(s:St):Prop:=∃ (t:Tr Value) (h1:Heap) (i:Nat),s=⟨⟨19,t⟩,[],h1⟩/\t.get 0=some v/\t.get 1=some fv/\t.get 7=some (.int .i64 (l.length:Int))/\t.get 8=some (.int .i64 (i:Int))/\i<=l.length/\k=l.length-i/\(l.take i).any q=false/\Old h h1
attribute [local simp] Yy kON kOC Z5 kNN kNP kRR kRP kEN kER Q4 Xg J4 Zv aop Qg nth Ab.g0 gv gs Qb Qa aev evs evO Qh Tr.get_put St.put Tm.put flat flatA Zu Qm Qp Qn Qo Qk Ql Qj Qw Qi Q5 Q6 kTN kTR kTX kTP kBN kBR kBX kBP kCS kCR kCE kAM Z1.putAll X7 Q9 Q3 Q0 Q8 Qc Qd Q1 Q2 Q7 Zp Zz ldv J7 J0 Uk J3 Nat.testBit loadAt Ab.runT Jm Vv Qal
section
attribute [local simp] Ue
theorem Zst(b:Nat){h:Heap}{v:Value}{l:List InV}{f:FuncId}{F:Func}(hF:(E b).fn.get f=some F){cap:List Value}(s:Sl h 34 v l.length (Qfv l))(hn:l.length < 1000000)(q:InV->Bool)
  (hf:∀ h1,Old h h1->∀ x ∈ l,∀ K,(∀ h2,Old h1 h2->K (.ret (.bool (q x))) h2)->FK b f (.agg ⟨x.cells⟩::cap) h1 K)
  (K:KP) (hk:∀ (i:Int) h',Old h h'->(0<=i↔l.any q=true)->K (.ret (.int .i64 i)) h') :
  FK b 73 [v,.func (.func f) #[] cap.toArray] h K:=by
 refine FF b (Ue b) Qss Quo Qu8 rfl ?_
 have len:∀ hx,Qn4 (E b).toEnv 39 v hx=some (.int .i64 (l.length:Int)):=fun hx=>Qfg (T39 b) s
 simp[Wc,Qbi,Qb7,Qdv,Z7,Qb0,Qb3,Qgl,Qjs,Qam,Zd,Qan,Qap,len]
 refine Qj1 (Zz3 v (.func (.func f) #[] cap.toArray) l q h) l.length ⟨_,h,0,rfl,by simp,by simp,by simp,by simp,by omega,rfl,by simp,Old.refl _⟩ ?_
 rintro k s' ⟨t,h1,i,rfl,t0,t1,t7,t8,hi,rfl,hno,hold⟩ _
 by_cases hlt:i < l.length
 ·have hlt':(i:Int) < (l.length:Int):=by omega
  obtain⟨x,hx⟩:∃ x,l[i]? = some x:=⟨_,List.getElem?_eq_getElem hlt⟩
  have hw:=wS (i:=i) (by omega)
  obtain⟨bk,off, -,x1,x2, -⟩:=Yzt (b:=b) (T39 b) Qok (s.old hold) hx
  simp[Wc,Qbi,Qb7,Qdv,Z7,Qb0,Qb3,Qgl,Qjs,Qam,Zd,Qan,Qap,t0,t1,t7,t8,hlt',x1,x2,hF]
  refine hf h1 hold x (List.mem_of_getElem? hx) _ fun h2 a2 => ?_
  cases hq:q x with
  | true =>
   simp[Wc,Qbi,Qb7,Qdv,Z7,Qb0,Qb3,Qgl,Qjs,Qam,Zd,Qan,Qap,t0,t1,t7,t8]
   exact hk i h2 (hold.trans a2) ⟨fun _=>Zky hx hq,fun _=>by omega⟩
  | false =>
   simp[Wc,Qbi,Qb7,Qdv,Z7,Qb0,Qb3,Qgl,Qjs,Qam,Zd,Qan,Qap,t0,t1,t7,t8,hw]
   exact⟨l.length-(i+1),by omega,_,h2,i+1,rfl,by simp[t0],by simp[t1],by simp[t7],by simp,by omega,rfl,by rw[Yvz hx hno,hq],hold.trans a2⟩
 ·have hlt':¬ (i:Int) < (l.length:Int):=by omega
  have : i=l.length:=by omega
  subst this
  rw[List.take_length]at hno
  simp[Wc,Qbi,Qb7,Qdv,Z7,Qb0,Qb3,Qgl,Qjs,Qam,Zd,Qan,Qap,t0,t1,t7,t8]
  exact hk (-1) h1 hold ⟨fun e=>by omega,fun e=>by rw[hno]at e;cases e⟩
theorem Yp0(b:Nat){h:Heap}{v:Value}{l:List InV}{f:FuncId}{F:Func}(hF:(E b).fn.get f=some F){cap:List Value}(s:Sl h 34 v l.length (Qfv l))(hn:l.length < 1000000)(q:InV->Bool)
  (hf:∀ h1,Old h h1->∀ x ∈ l,∀ K,(∀ h2,Old h1 h2->K (.ret (.bool (q x))) h2)->FK b f (.agg ⟨x.cells⟩::cap) h1 K)
  (K:KP) (hk:∀ h',Old h h'->K (.ret (.bool (l.any q))) h') :
  FK b 54 [v,.func (.func f) #[] cap.toArray] h K:=by
 refine FF b (Zn b) Qp7 Qsn Qrr rfl ?_
 simp[Qem,Qj0,Zn,Qi1,Jy]
 refine Zst b hF s hn q hf _ fun i h1 a1 hi => ?_
 simp[Qem,Qj0,Zn,Qi1,Jy]
 have:=hk h1 a1
 cases hq:l.any q with
 | true =>
  have h0:=hi.2 hq
  rw[hq]at this
  simpa[h0]using this
 | false =>
  have h0:¬ 0<=i:=fun e=>by have:=hi.1 e;rw[hq]at this;cases this
  rw[hq]at this
  simpa[h0]using this
end
def Zul(v fv:Value)(l:List OutV)(q:OutV->Bool)(h:Heap)(k:Nat)(s:St):Prop:=∃ (t:Tr Value) (h1:Heap) (i:Nat),s=⟨⟨19,t⟩,[],h1⟩/\t.get 0=some v/\t.get 1=some fv/\t.get 7=some (.int .i64 (l.length:Int))/\t.get 8=some (.int .i64 (i:Int))/\i<=l.length/\k=l.length-i/\(l.take i).any q=false/\Old h h1
section
attribute [local simp] Vu
theorem Zmc(b:Nat){h:Heap}{v:Value}{l:List OutV}{f:FuncId}{F:Func}(hF:(E b).fn.get f=some F){cap:List Value}(s:Sl h 2 v l.length (Xf3 l))(hn:l.length < 1000000)(q:OutV->Bool)
  (hf:∀ h1,Old h h1->∀ x ∈ l,∀ K,(∀ h2,Old h1 h2->K (.ret (.bool (q x))) h2)->FK b f (.agg ⟨x.cells⟩::cap) h1 K)
  (K:KP) (hk:∀ (i:Int) h',Old h h'->(0<=i↔l.any q=true)->K (.ret (.int .i64 i)) h') :
  FK b 74 [v,.func (.func f) #[] cap.toArray] h K:=by
 refine FF b (Vu b) Qqa Qt9 Qsf rfl ?_
 have len:∀ hx,Qn4 (E b).toEnv 36 v hx=some (.int .i64 (l.length:Int)):=fun hx=>Qfg (T36 b) s
 simp[Uy,Qaw,Qa5,Qea,Z7,Qa7,Qa8,Qh5,Qgo,Qa1,Zd,Wz,Wx,len]
 refine Qj1 (Zul v (.func (.func f) #[] cap.toArray) l q h) l.length ⟨_,h,0,rfl,by simp,by simp,by simp,by simp,by omega,rfl,by simp,Old.refl _⟩ ?_
 rintro k s' ⟨t,h1,i,rfl,t0,t1,t7,t8,hi,rfl,hno,hold⟩ _
 by_cases hlt:i < l.length
 ·have hlt':(i:Int) < (l.length:Int):=by omega
  obtain⟨x,hx⟩:∃ x,l[i]? = some x:=⟨_,List.getElem?_eq_getElem hlt⟩
  have hw:=wS (i:=i) (by omega)
  obtain⟨bk,off, -,x1,x2, -⟩:=X47 (b:=b) (T36 b) Qlb (s.old hold) hx
  simp[Uy,Qaw,Qa5,Qea,Z7,Qa7,Qa8,Qh5,Qgo,Qa1,Zd,Wz,Wx,t0,t1,t7,t8,hlt',x1,x2,hF]
  refine hf h1 hold x (List.mem_of_getElem? hx) _ fun h2 a2 => ?_
  cases hq:q x with
  | true =>
   simp[Uy,Qaw,Qa5,Qea,Z7,Qa7,Qa8,Qh5,Qgo,Qa1,Zd,Wz,Wx,t0,t1,t7,t8]
   exact hk i h2 (hold.trans a2) ⟨fun _=>Zky hx hq,fun _=>by omega⟩
  | false =>
   simp[Uy,Qaw,Qa5,Qea,Z7,Qa7,Qa8,Qh5,Qgo,Qa1,Zd,Wz,Wx,t0,t1,t7,t8,hw]
   exact⟨l.length-(i+1),by omega,_,h2,i+1,rfl,by simp[t0],by simp[t1],by simp[t7],by simp,by omega,rfl,by rw[Yvz hx hno,hq],hold.trans a2⟩
 ·have hlt':¬ (i:Int) < (l.length:Int):=by omega
  have : i=l.length:=by omega
  subst this
  rw[List.take_length]at hno
  simp[Uy,Qaw,Qa5,Qea,Z7,Qa7,Qa8,Qh5,Qgo,Qa1,Zd,Wz,Wx,t0,t1,t7,t8]
  exact hk (-1) h1 hold ⟨fun e=>by omega,fun e=>by rw[hno]at e;cases e⟩
theorem Y96(b:Nat){h:Heap}{v:Value}{l:List OutV}{f:FuncId}{F:Func}(hF:(E b).fn.get f=some F){cap:List Value}(s:Sl h 2 v l.length (Xf3 l))(hn:l.length < 1000000)(q:OutV->Bool)
  (hf:∀ h1,Old h h1->∀ x ∈ l,∀ K,(∀ h2,Old h1 h2->K (.ret (.bool (q x))) h2)->FK b f (.agg ⟨x.cells⟩::cap) h1 K)
  (K:KP) (hk:∀ h',Old h h'->K (.ret (.bool (l.any q))) h') :
  FK b 57 [v,.func (.func f) #[] cap.toArray] h K:=by
 refine FF b (Zm b) Qoc Qq6 Qpm rfl ?_
 simp[Qe1,Qi0,Zm,Qh3,Jy]
 refine Zmc b hF s hn q hf _ fun i h1 a1 hi => ?_
 simp[Qe1,Qi0,Zm,Qh3,Jy]
 have:=hk h1 a1
 cases hq:l.any q with
 | true =>
  have h0:=hi.2 hq
  rw[hq]at this
  simpa[h0]using this
 | false =>
  have h0:¬ 0<=i:=fun e=>by have:=hi.1 e;rw[hq]at this;cases this
  rw[hq]at this
  simpa[h0]using this
end
def Zzj(v fv:Value)(l:List (Value × List Int))(q:(Value × List Int)->Bool)(h:Heap)(k:Nat)(s:St):Prop:=∃ (t:Tr Value) (h1:Heap) (i:Nat),s=⟨⟨19,t⟩,[],h1⟩/\t.get 0=some v/\t.get 1=some fv/\t.get 7=some (.int .i64 (l.length:Int))/\t.get 8=some (.int .i64 (i:Int))/\i<=l.length/\k=l.length-i/\(l.take i).any q=false/\Old h h1
section
attribute [local simp] W0
theorem Zsn(b:Nat){h:Heap}{v:Value}{l:List (Value × List Int)}{f:FuncId}{F:Func}(hF:(E b).fn.get f=some F){cap:List Value}(s:Sl h 1 v l.length (l.map (·.1)))(hn:l.length < 1000000)(q:(Value × List Int)->Bool)
  (hf:∀ h1,Old h h1->∀ x ∈ l,∀ K,(∀ h2,Old h1 h2->K (.ret (.bool (q x))) h2)->FK b f (x.1::cap) h1 K)
  (K:KP) (hk:∀ (i:Int) h',Old h h'->(0<=i↔l.any q=true)->K (.ret (.int .i64 i)) h') :
  FK b 72 [v,.func (.func f) #[] cap.toArray] h K:=by
 refine FF b (W0 b) Qvv Qzc Qz4 rfl ?_
 have len:∀ hx,Qn4 (E b).toEnv 71 v hx=some (.int .i64 (l.length:Int)):=fun hx=>Qfg (T71 b) s
 simp[Qas,Qco,Qh6,Z7,Qju,Vf,Zd,len]
 refine Qj1 (Zzj v (.func (.func f) #[] cap.toArray) l q h) l.length ⟨_,h,0,rfl,by simp,by simp,by simp,by simp,by omega,rfl,by simp,Old.refl _⟩ ?_
 rintro k s' ⟨t,h1,i,rfl,t0,t1,t7,t8,hi,rfl,hno,hold⟩ _
 by_cases hlt:i < l.length
 ·have hlt':(i:Int) < (l.length:Int):=by omega
  obtain⟨x,hx⟩:∃ x,l[i]? = some x:=⟨_,List.getElem?_eq_getElem hlt⟩
  have hw:=wS (i:=i) (by omega)
  obtain⟨bk,off, -,x1,x3, -⟩:=Xqk (T71 b) Qom (s.old hold) (k:=.i64) (i:=(i:Int)) (by omega) (by omega)
  have x2:Jl h1 bk off=some x.1:=by
   have:=x3 0 (by omega)
   simpa[hx]using this
  simp[Qas,Qco,Qh6,Z7,Qju,Vf,Zd,t0,t1,t7,t8,hlt',x1,x2,hF]
  refine hf h1 hold x (List.mem_of_getElem? hx) _ fun h2 a2 => ?_
  cases hq:q x with
  | true =>
   simp[Qas,Qco,Qh6,Z7,Qju,Vf,Zd,t0,t1,t7,t8]
   exact hk i h2 (hold.trans a2) ⟨fun _=>Zky hx hq,fun _=>by omega⟩
  | false =>
   simp[Qas,Qco,Qh6,Z7,Qju,Vf,Zd,t0,t1,t7,t8,hw]
   exact⟨l.length-(i+1),by omega,_,h2,i+1,rfl,by simp[t0],by simp[t1],by simp[t7],by simp,by omega,rfl,by rw[Yvz hx hno,hq],hold.trans a2⟩
 ·have hlt':¬ (i:Int) < (l.length:Int):=by omega
  have : i=l.length:=by omega
  subst this
  rw[List.take_length]at hno
  simp[Qas,Qco,Qh6,Z7,Qju,Vf,Zd,t0,t1,t7,t8]
  exact hk (-1) h1 hold ⟨fun e=>by omega,fun e=>by rw[hno]at e;cases e⟩
theorem Zfg(b:Nat){h:Heap}{v:Value}{l:List (Value × List Int)}{f:FuncId}{F:Func}(hF:(E b).fn.get f=some F){cap:List Value}(s:Sl h 1 v l.length (l.map (·.1)))(hn:l.length < 1000000)(q:(Value × List Int)->Bool)
  (hf:∀ h1,Old h h1->∀ x ∈ l,∀ K,(∀ h2,Old h1 h2->K (.ret (.bool (q x))) h2)->FK b f (x.1::cap) h1 K)
  (K:KP) (hk:∀ h',Old h h'->K (.ret (.bool (l.any q))) h') :
  FK b 52 [v,.func (.func f) #[] cap.toArray] h K:=by
 refine FF b (Qaa b) Qti Qvz Que rfl ?_
 simp[Qfi,Ql6,Qaa,Jy]
 refine Zsn b hF s hn q hf _ fun i h1 a1 hi => ?_
 simp[Qfi,Ql6,Qaa,Jy]
 have:=hk h1 a1
 cases hq:l.any q with
 | true =>
  have h0:=hi.2 hq
  rw[hq]at this
  simpa[h0]using this
 | false =>
  have h0:¬ 0<=i:=fun e=>by have:=hi.1 e;rw[hq]at this;cases this
  rw[hq]at this
  simpa[h0]using this
end
section
theorem X2a(b:Nat)(n lo hi:Int)(h:Heap)(K:KP)(hk:K (.ret (.bool (inF n lo hi))) h):FK b 49 [.int .i64 n,.int .i64 lo,.int .i64 hi] h K:=by
 refine FF b (Qa0 b) Yj4 Za8 Y3w rfl ?_
 unfold inF at hk
 by_cases h1:lo<=n
 ·by_cases h2:n<=hi
  ·simp[Qxy,Xp8,Qa0,Jy,Qpx,Xa5,Q6h,h1,h2]
   simpa[h1,h2]using hk
  ·simp[Qxy,Xp8,Qa0,Jy,Qpx,Xa5,Q6h,h1,h2]
   simpa[h1,h2]using hk
 ·simp[Qxy,Xp8,Qa0,Jy,Qpx,Xa5,Q6h,h1]
  simpa[h1]using hk
theorem Z08(x:InV):x.cells[32]? = some (.int .i64 x.pt.n):=by
 have : (x.pt.id.map u8v++([.int .i64 x.pt.n] ++ [x.wv]))[32]? = some (.int .i64 x.pt.n):=by
  rw[List.getElem?_append_right (by simp[x.pt.hd])]
  simp[x.pt.hd]
 simpa[InV.cells,Pt.cells]using this
theorem Z0l(x:InV):x.cells[33]? = some x.wv:=by
 rw[InV.cells,List.getElem?_append_right (by rw[Pt.len];omega),Pt.len]
 rfl
theorem Zl0(x:InV)(h:Heap):∃ h',h'=h.push (.cells true 1 x.cells)/\Yz6 (.agg ⟨x.cells⟩) h=some (.pointer (some ⟨h.next,0,none⟩),h')/\Old h h'/\h'.next=h.next+1/\h'.get h.next=some (.cells true 1 x.cells)/\Jl h' h.next 32=some (.int .i64 x.pt.n)/\Jl h' h.next 33=some x.wv:=by
 have g:(h.push (.cells true 1 x.cells)).get h.next=some (.cells true 1 x.cells):=by rw[Heap.get_push,if_pos rfl]
 exact⟨_,rfl,rfl,Old.push _ _,rfl,g,by rw[J5 g,Z08],by rw[J5 g,Z0l]⟩
theorem Zvp(b:Nat)(x:InV)(h:Heap)(K:KP)(hk:∀ h',Old h h'->K (.ret (.bool (Zne x.p))) h'):FK b 48 [.agg ⟨x.cells⟩] h K:=by
 refine FF b (Q2h b) Yb4 Y61 Ys3 rfl ?_
 obtain⟨hA, -,bx,aA, -, -,c32, -⟩:=Zl0 x h
 simp[Q62,Xzx,Q2h,Qbo,X41,Uk,Qa0,bx,c32]
 refine X2a b x.pt.n 0 8 hA _ ?_
 simp[Q62,Xzx,Q2h,Qbo,X41,Uk,Qa0]
 exact hk hA aA
theorem Ztd(b:Nat){v:Value}{xs:List Int}{h:Heap}(s:SB h v xs)(K:KP)(hk:K (.ret (.bool (decide (64 < xs.length)))) h):FK b 50 [v] h K:=by
 refine FF b (Xi0 b) Yfs Yy2 Yxp rfl ?_
 have len:=fun hx=>Qpb (b:=b) (h1:=hx) s
 simp[Xrv,Ys4,Xi0,Va,Zq,len]
 have e:decide ((64:Int) < (xs.length:Int))=decide (64 < xs.length):=by rw[decide_eq_decide];omega
 rw[e]
 exact hk
theorem Zsr(b:Nat){x:InV}{h:Heap}(a:InAt h x){C:Nat}{z:Nat}(gC:h.get C=some (.cells true z [.func (.func 50) #[] #[]]))(K:KP)(hk:∀ h',Old h h'->K (.ret (.bool (Ykl x.p))) h') :
  FK b 51 [.agg ⟨x.cells⟩,.pointer (some ⟨C,0,none⟩)] h K:=by
 refine FF b (Qvq b) Ycu Y5s Yvh rfl ?_
 obtain⟨hA, -,bx,aA, -, -, -,c33⟩:=Zl0 x h
 have len:∀ hx,Qn4 (E b).toEnv 71 x.wv hx=some (.int .i64 (x.its.length:Int)):=fun hx=>Qfg (T71 b) a.w
 have cC:Jl hA C 0=some (.func (.func 50) #[] #[]):=by rw[J5 (aA.get gC)];rfl
 unfold Ykl at hk
 by_cases hl:16 < x.its.length
 ·have hl':(16:Int) < (x.its.length:Int):=by omega
  simp[Qum,Xf8,Qvq,Qew,Qgs,Qh6,Zq,Zl7,Qaa,Q4i,Q04,bx,c33,len,hl']
  have:=hk hA aA
  simpa[InV.p,hl]using this
 ·have hl':¬ (16:Int) < (x.its.length:Int):=by omega
  simp[Qum,Xf8,Qvq,Qew,Qgs,Qh6,Zq,Zl7,Qaa,Q4i,Q04,bx,c33,len,hl',cC]
  refine Zfg b (Xi0 b) (cap:=[]) (a.w.old aA) a.n (fun p=>decide (64 < p.2.length)) (fun h1 a1 p hp K hk=>Ztd b (((a.i.old aA).old a1) p hp).1 K (hk h1 (Old.refl _))) _ fun h1 a1 => ?_
  simp[Qum,Xf8,Qvq,Qew,Qgs,Qh6,Zq,Zl7,Qaa,Q4i,Q04]
  have:=hk h1 (aA.trans a1)
  have e:(x.p.wit.any fun w=>decide (64 < w.length))=x.its.any fun p=>decide (64 < p.2.length):=by
   simp[InV.p,List.any_map];rfl
  rw[e]at this
  simpa[InV.p,hl]using this
theorem Zrj(b:Nat){o:OutV}{h:Heap}(a:OutAt h o)(K:KP)(hk:∀ h',Old h h'->K (.ret (.bool (Yl3 o.p))) h'):FK b 53 [.agg ⟨o.cells⟩] h K:=by
 refine FF b (Xk8 b) Yhb Y6s Yqn rfl ?_
 obtain⟨hA,eA,aA,gA⟩:=Qoa h o.cells
 have bx:=Qr2 eA
 have c1:Jl hA h.next 1=some o.sv:=by rw[J5 gA];rfl
 have len:=fun hx=>Qpb (b:=b) (h1:=hx) a.s
 simp[Xon,Yr9,Xk8,Qfw,Vf,Va,Zq,bx,c1,len]
 have e:decide ((256:Int) < (o.script.length:Int))=Yl3 o.p:=by
  show _=decide (256 < o.script.length)
  rw[decide_eq_decide];omega
 rw[e]
 exact hk hA aA
end
def VLI(v:Value)(l:List OutV)(h:Heap)(k:Nat)(s:St):Prop:=∃ (t:Tr Value) (h1:Heap) (i:Nat) (left:Int),s=⟨⟨26,t⟩,[],h1⟩/\t.get 3=some (.int .i64 left)/\t.get 6=some v/\t.get 7=some (.int .i64 (l.length:Int))/\t.get 8=some (.int .i64 (i:Int))/\i<=l.length/\k=l.length-i/\Old h h1/\0<=left/\left<=1125899906842624/\Xso (l.map OutV.p) 1125899906842624=Xso ((l.drop i).map OutV.p) left
section
attribute [local simp] Qo4 Qyl Ws Qrw Qea Qso Z7 Qrx Qh5 Qgo Qhg Qev Zq Qpf Qnr Qpd Zy Zd
theorem Ziz(b:Nat){h:Heap}{v:Value}{l:List OutV}(s:Outs h v l)(K:KP)(hk:∀ h',Old h h'->K (.ret (.bool (Xso (l.map OutV.p) 1125899906842624))) h'):FK b 56 [v] h K:=by
 refine FF b (Ws b) Yjh Y8q Y59 rfl ?_
 have hn:=s.n
 have len:∀ hx,Qn4 (E b).toEnv 36 v hx=some (.int .i64 (l.length:Int)):=fun hx=>Qfg (T36 b) s.s
 simp[Qfj,len]
 refine Qj1 (VLI v l h) l.length ⟨_,h,0,1125899906842624,rfl,by simp,by simp,by simp,by simp,by omega,rfl,Old.refl _,by omega,by omega,by simp⟩ ?_
 rintro k s' ⟨t,h1,i,left,rfl,t3,t6,t7,t8,hi,rfl,hold,l0,l1,hF⟩ _
 by_cases hlt:i < l.length
 ·have hlt':(i:Int) < (l.length:Int):=by omega
  obtain⟨x,hx⟩:∃ x,l[i]? = some x:=⟨_,List.getElem?_eq_getElem hlt⟩
  have hd:l.drop i=x::l.drop (i+1):=by
   rw[List.drop_eq_getElem_cons hlt]
   rw[List.getElem?_eq_getElem hlt]at hx
   rw[Option.some.inj hx]
  rw[hd]at hF
  simp only[List.map_cons,Xso]at hF
  have hw:=wS (i:=i) (by omega)
  obtain⟨bk,off, -,x1,x2, -⟩:=X47 (b:=b) (T36 b) Qlb (s.s.old hold) hx
  obtain⟨zz,ez⟩:∃ zz:List Value,zz=[.int .i64 0,.slice none 0 0]:=⟨_,rfl⟩
  obtain⟨hA,eA⟩:∃ hA,hA=h1.push (.cells true 1 zz):=⟨_,rfl⟩
  have alA:Qba (E b).toEnv 35 h1=some (.pointer (some ⟨h1.next,0,none⟩),hA):=by rw[eA,ez];exact Qfj b h1
  have gA:hA.get h1.next=some (.cells true 1 zz):=by rw[eA,Heap.get_push,if_pos rfl]
  have lA:=Heap.get_lt gA
  obtain⟨hB,eB⟩:∃ hB,hB=hA.set h1.next (some (.cells true 1 x.cells)):=⟨_,rfl⟩
  have st:Uj hA h1.next 0 x.cells=some hB:=by
   rw[W5 gA (by rw[ez,OutV.len];simp),eB]
   congr 4
   rw[ez,OutV.len]
   simp
  have gB:hB.get h1.next=some (.cells true 1 x.cells):=by rw[eB,Heap.get_set _ _ _ _ lA,if_pos rfl]
  have c0:Jl hB h1.next 0=some (.int .i64 x.value):=by rw[J5 gB];rfl
  have aB:Old h hB:=by rw[eB,eA];exact(hold.push' _).set _ hold.1 (by rw[<- eA];exact lA)
  have xl:x.cells.length=2:=rfl
  by_cases h1':x.value < 1
  ·simp[Qfj,t3,t6,t7,t8,hlt',x1,x2,-Qfj,alA,xl,st,c0,h1']
   have:=hk hB aB
   rw[hF]at this
   simpa[OutV.p,h1']using this
  ·by_cases h2':left < x.value
   ·simp[Qfj,t3,t6,t7,t8,hlt',x1,x2,-Qfj,alA,xl,st,c0,h1',h2']
    have:=hk hB aB
    rw[hF]at this
    simpa[OutV.p,h1',h2']using this
   ·have hw2:IntKind.i64.wrap (left-x.value)=left-x.value:=Qao (by omega) (by omega)
    simp[Qfj,t3,t6,t7,t8,hlt',x1,x2,-Qfj,alA,xl,st,c0,h1',h2',hw,hw2]
    refine⟨l.length-(i+1),by omega,_,hB,i+1,left-x.value,rfl,by simp,by simp[t6],by simp[t7],by simp,by omega,rfl,aB,by omega,by omega,?_⟩
    rw[hF,if_neg (by simp only[OutV.p];omega)]
    rfl
 ·have hlt':¬ (i:Int) < (l.length:Int):=by omega
  have : i=l.length:=by omega
  subst this
  simp[Qfj,t3,t6,t7,t8]
  have:=hk h1 hold
  rw[hF,List.drop_length]at this
  exact this
end
theorem Yow{A:Type}{l:List A}{p:A}:(l ++ [p]).Nodup↔l.Nodup/\p ∉ l:=by
 rw[List.nodup_append]
 constructor
 ·rintro⟨h1, -,h2⟩
  exact⟨h1,fun hp=>h2 p hp p (by simp) rfl⟩
 ·rintro⟨h1,h2⟩
  refine⟨h1,by simp,fun a ha c hc e => ?_⟩
  simp at hc
  subst hc
  exact h2 (e ▸ ha)
def PTI(v:Value)(l:List InV)(h:Heap)(mb:Nat)(k:Nat)(s:St):Prop:=∃ (t:Tr Value) (h1:Heap) (i:Nat) (es:List PE) (clk:Nat),s=⟨⟨22,t⟩,[],h1⟩/\t.get 0=some v/\t.get 3=some (.map (some mb))/\t.get 7=some v/\t.get 8=some (.int .i64 (l.length:Int))/\t.get 9=some (.int .i64 (i:Int))/\i<=l.length/\k=l.length-i/\Old h h1 /\
 h1.get mb=some (.map ⟨es.map PE.e⟩ clk)/\(∀ p,p ∈ es.map (·.key)↔p ∈ (l.take i).map (·.pt))/\(es.length=i/\((l.take i).map (·.pt)).Nodup∨es.length < i/\¬ ((l.take i).map (·.pt)).Nodup)
section
attribute [local simp] Qy3 Xrp Qb5 Q9c Qdv Z7 Qgl Qjs Qlw Qbo Vo Zd J2
theorem Zkb(b:Nat){h:Heap}{v:Value}{l:List InV}(s:Ins h v l)(K:KP)(hk:∀ h',Old h h'->K (.ret (.bool (decide (l.map (·.pt)).Nodup))) h'):FK b 55 [v] h K:=by
 refine FF b (Qb5 b) Ymf Y8f Y5i rfl ?_
 have hn:=s.n
 have len:∀ hx,Qn4 (E b).toEnv 39 v hx=some (.int .i64 (l.length:Int)):=fun hx=>Qfg (T39 b) s.s
 obtain⟨rm,me,md⟩:∃ rm,(E b).toEnv.ty.get 157=some rm/\rm.desc=.map 46 3:=⟨((E b).toEnv.ty.get 157).getD ⟨.invalid,0,0,.bool false,[]⟩,by kernel_rfl,by kernel_rfl⟩
 obtain⟨hM,eM⟩:∃ hM,hM=h.push (.map #[] 0):=⟨_,rfl⟩
 have aM':=Qkm eM
 have gM:hM.get h.next=some (.map ⟨([]:List PE).map PE.e⟩ 0):=by rw[eM,Heap.get_push,if_pos rfl];rfl
 have mk:Qy1 (E b).toEnv 157 none h=some (.map (some h.next),hM):=by rw[eM];exact Zc8 (b:=b) me md
 simp[Qk5,len,mk]
 refine Qj1 (PTI v l h h.next) l.length ⟨_,hM,0,[],0,rfl,by simp,by simp,by simp,by simp,by simp,by omega,rfl,aM',gM,by simp,.inl ⟨rfl,by simp⟩⟩ ?_
 rintro k s' ⟨t,h1,i,es,clk,rfl,t0,t3,t7,t8,t9,hi,rfl,hold,g1,hmem,hnd⟩ _
 by_cases hlt:i < l.length
 ·have hlt':(i:Int) < (l.length:Int):=by omega
  obtain⟨x,hx⟩:∃ x,l[i]? = some x:=⟨_,List.getElem?_eq_getElem hlt⟩
  have hw:=wS (i:=i) (by omega)
  obtain⟨bk,off, -,x1,x2, -⟩:=Yzt (b:=b) (T39 b) Qok (s.s.old hold) hx
  obtain⟨zz,ez⟩:∃ zz:List Value,zz=R73.zero.cells.toList:=⟨_,rfl⟩
  have zl:zz.length=34:=by rw[ez];kernel_rfl
  obtain⟨hA,eA⟩:∃ hA,hA=h1.push (.cells true 1 zz):=⟨_,rfl⟩
  have alA:Qba (E b).toEnv 73 h1=some (.pointer (some ⟨h1.next,0,none⟩),hA):=by rw[eA,ez];simp only[Qba,Y13]
  have gA:hA.get h1.next=some (.cells true 1 zz):=by rw[eA,Heap.get_push,if_pos rfl]
  have lA:=Heap.get_lt gA
  have lM:h.next < h1.next:=Heap.get_lt g1
  obtain⟨hB,eB⟩:∃ hB,hB=hA.set h1.next (some (.cells true 1 x.cells)):=⟨_,rfl⟩
  have st:Uj hA h1.next 0 x.cells=some hB:=by
   rw[W5 gA (by rw[zl,InV.len];omega),eB]
   congr 4
   rw[InV.len]
   simp[zl]
  have gB:hB.get h1.next=some (.cells true 1 x.cells):=by rw[eB,Heap.get_set _ _ _ _ lA,if_pos rfl]
  have aB:Old h1 hB:=by rw[eB,eA];exact(Old.push _ _).set _ (Nat.le_refl _) (by rw[<- eA];exact lA)
  have gMB:=aB.get g1
  have ldp:Qb9 hB h1.next 0 33=some (.agg ⟨x.pt.cells⟩):=by rw[Jx gB (by rw[InV.len];omega),List.drop_zero,Yun]
  have hB1:(l.take (i+1)).map (·.pt)=(l.take i).map (·.pt) ++ [x.pt]:=by rw[List.take_succ,hx];simp
  have lMB:=Heap.get_lt gMB
  have step:∃ (h2:Heap) (es':List PE) (clk':Nat),Qf9 (E b).toEnv 157 (.map (some h.next)) (.agg ⟨x.pt.cells⟩) (.int .i64 1) hB=some h2/\h2.get h.next=some (.map ⟨es'.map PE.e⟩ clk')/\Old h h2/\(∀ p,p ∈ es'.map (·.key)↔p ∈ (l.take (i+1)).map (·.pt))/\(es'.length=i+1/\((l.take (i+1)).map (·.pt)).Nodup∨es'.length < i+1/\¬ ((l.take (i+1)).map (·.pt)).Nodup):=by
   cases hf:Qvx x.pt es 0 with
   | none =>
    have hno:=X4o.1 hf
    have hnot:x.pt ∉ (l.take i).map (·.pt):=fun e=>by
     obtain⟨y,hy,e2⟩:=List.mem_map.1 ((hmem _).2 e)
     exact hno y hy e2
    refine⟨_,es ++ [⟨x.pt,.int .i64 1,clk⟩],clk+1,Zkq me md gMB hf _,by rw[Heap.get_set _ _ _ _ lMB,if_pos rfl],(hold.trans aB).set _ (Nat.le_refl _) lMB,fun p => ?_,?_⟩
    ·rw[hB1,List.map_append,List.mem_append,List.mem_append,hmem p]
     simp
    ·rw[hB1,Yow]
     rcases hnd with⟨q1,q2⟩ | ⟨q1,q2⟩
     ·exact .inl ⟨by simp[q1],q2,hnot⟩
     ·exact .inr ⟨by simp;omega,fun e=>q2 e.1⟩
   | some q =>
    obtain⟨j,w⟩:=q
    obtain⟨y,hy, -,hyk, -⟩:=Xdp hf
    have hin:x.pt ∈ (l.take i).map (·.pt):=(hmem _).1 (List.mem_map.2 ⟨y,List.mem_of_getElem? hy,hyk⟩)
    have keys:∀ es:List PE,(Zih x.pt (.int .i64 1) es).map (·.key)=es.map (·.key):=by
     intro es
     induction es with
     | nil=>rfl
     | cons a es ih=>unfold Zih;split <;> simp[ih]
    refine⟨_,Zih x.pt (.int .i64 1) es,clk,Y2k me md gMB hf _,by rw[Heap.get_set _ _ _ _ lMB,if_pos rfl],(hold.trans aB).set _ (Nat.le_refl _) lMB,fun p => ?_,?_⟩
    ·rw[keys,hB1,List.mem_append,hmem p]
     simp
     rintro rfl
     simpa using hin
    ·have hl:(Zih x.pt (.int .i64 1) es).length=es.length:=by have:=congrArg List.length (keys es);simpa using this
     rw[hB1,Yow,hl]
     refine .inr ⟨by rcases hnd with⟨q1,_⟩ | ⟨q1,_⟩ <;> omega,fun e=>e.2 hin⟩
  obtain⟨h2,es',clk',up,g2,a2,m2,n2⟩:=step
  simp[Qk5,t0,t3,t7,t8,t9,hlt',x1,x2,-Qk5,alA,InV.len,st,ldp,up,hw]
  exact⟨l.length-(i+1),by omega,_,h2,i+1,es',clk',rfl,by simp[t0],by simp[t3],by simp[t7],by simp[t8],by simp,by omega,rfl,a2,g2,m2,n2⟩
 ·have hlt':¬ (i:Int) < (l.length:Int):=by omega
  have : i=l.length:=by omega
  subst this
  rw[List.take_length]at hnd
  have ml:Qn4 (E b).toEnv 157 (.map (some h.next)) h1=some (.int .i64 ((es.length:Nat):Int)):=by
   rw[Zsq (b:=b) me md g1]
   simp
  simp[Qk5,t0,t3,t7,t8,t9,ml,len]
  have:=hk h1 hold
  rcases hnd with⟨q1,q2⟩ | ⟨q1,q2⟩
  ·have e:(es.length:Int)=(l.length:Int):=by omega
   rw[decide_eq_true q2]at this
   simpa[e]using this
  ·have e:¬ (es.length:Int)=(l.length:Int):=by omega
   rw[decide_eq_false q2]at this
   simpa[e]using this
end
theorem any_map' {A B:Type}(f:A->B)(q:B->Bool)(l:List A):(l.map f).any q=l.any fun x=>q (f x):=by
 rw[List.any_map];rfl
theorem Zpj(l:List InV):(l.map InV.p).map (·.pt)=l.map (·.pt):=by
 rw[List.map_map];rfl
section
attribute [local simp] Qbc Qek Jf Qld V3 Qbr Qdv Qa0 Vk Qd6 Qea Qb2 Wu Zn Qbm Qb4 Qa2 Qb5 Ws Zm Qb1 Wy
theorem Yqa(b:Nat){h:Heap}{iv ov:Value}{ins:List InV}{outs:List OutV}{lock:Int}(si:Ins h iv ins)(so:Outs h ov outs)(K:KP)(hk:∀ h',Old h h'->K (.ret (.int .i64 (Qla (ptx ins outs lock)))) h') :
  FK b 29 [.agg ⟨txC iv ov lock⟩] h K:=by
 refine FF b (Jf b) Ywt Zev Zax rfl ?_
 obtain⟨hA,eA,aA,gA⟩:=Qoa h ((txC iv ov lock))
 have nA:=Q4v eA
 have bx:=Qr2 eA
 obtain⟨z,hz⟩:∃ z,Qba (E b).toEnv 118 hA=some (.pointer (some ⟨hA.next,0,none⟩),hA.push (.cells true 1 [z])):=⟨_,Quh b hA⟩
 obtain⟨hB,eB⟩:∃ hB,hB=(hA.push (.cells true 1 [z])).set hA.next (some (.cells true 1 [.func (.func 50) #[] #[]])):=⟨_,rfl⟩
 have gZ:(hA.push (.cells true 1 [z])).get hA.next=some (.cells true 1 [z]):=by rw[Heap.get_push,if_pos rfl]
 have st:Uj (hA.push (.cells true 1 [z])) hA.next 0 [.func (.func 50) #[] #[]]=some hB:=by rw[Qhj gZ (by simp),eB];rfl
 have gC:hB.get hA.next=some (.cells true 1 [.func (.func 50) #[] #[]]):=by rw[eB,Heap.get_set _ _ _ _ (Heap.get_lt gZ),if_pos rfl]
 have aB':Old hA hB:=by rw[eB];exact(Old.push _ _).set _ (Nat.le_refl _) (Heap.get_lt gZ)
 have aB:Old h hB:=aA.trans aB'
 have gT:hB.get h.next=some (.cells true 1 (txC iv ov lock)):=aB'.get gA
 have cs:∀ {hx:Heap},Old hB hx->Jl hx h.next 0=some iv/\Jl hx h.next 1=some ov/\Jl hx h.next 2=some (.int .i64 lock):=fun {hx} o=>by
  have:=o.get gT
  exact⟨by rw[J5 this];rfl,by rw[J5 this];rfl,by rw[J5 this];rfl⟩
 have lenI:∀ hx,Qn4 (E b).toEnv 39 iv hx=some (.int .i64 (ins.length:Int)):=fun hx=>Qfg (T39 b) si.s
 have lenO:∀ hx,Qn4 (E b).toEnv 36 ov hx=some (.int .i64 (outs.length:Int)):=fun hx=>Qfg (T36 b) so.s
 obtain⟨c0,c1,c2⟩:=cs (Old.refl hB)
 simp[Quh,bx,-Quh,hz,Zi6,st,c0,lenI]
 refine X2a b _ 1 8 hB _ ?_
 unfold Qla ptx at hk
 simp only[List.length_map,any_map',Zpj]at hk
 have done:∀ (c:Int) hx,Old h hx->(∀ h',Old h h'->K (.ret (.int .i64 c)) h')->K (.ret (.int .i64 c)) hx:=fun c hx o q=>q hx o
 cases q1:inF (ins.length:Int) 1 8 with
 | false =>
  simp only[q1,Bool.not_false,Bool.true_or,if_true]at hk
  simp[Quh]
  exact hk hB aB
 | true =>
 simp[Quh,c1,lenO]
 refine X2a b _ 1 8 hB _ ?_
 cases q2:inF (outs.length:Int) 1 8 with
 | false =>
  simp only[q1,q2,Bool.not_false,Bool.or_true,if_true]at hk
  simp[Quh]
  exact hk hB aB
 | true =>
 simp only[q1,q2,Bool.not_true,Bool.or_false,if_false,Bool.false_eq_true]at hk
 simp[Quh,c0]
 refine Yp0 b (Q2h b) (cap:=[]) (si.s.old aB) si.n (fun x=>Zne x.p) (fun h1 _ x _ K hk=>Zvp b x h1 K hk) _ fun h1 a1 => ?_
 obtain⟨d0,d1,d2⟩:=cs a1
 have aH1:=aB.trans a1
 cases q3:ins.any (fun x=>Zne x.p)with
 | true =>
  simp only[q3,Bool.true_or,if_true]at hk
  simp[Quh]
  exact hk h1 aH1
 | false =>
 simp[Quh,d2]
 refine X2a b _ 0 1073741824 h1 _ ?_
 cases q4:inF lock 0 1073741824 with
 | false =>
  simp only[q3,q4,Bool.not_false,Bool.or_true,if_true]at hk
  simp[Quh]
  exact hk h1 aH1
 | true =>
 simp only[q3,q4,Bool.not_true,Bool.or_false,if_false,Bool.false_eq_true]at hk
 simp[Quh,d0]
 refine Zkb b (si.old aH1) _ fun h2 a2 => ?_
 obtain⟨e0,e1,e2⟩:=cs (a1.trans a2)
 have aH2:=aH1.trans a2
 by_cases q5:(ins.map (·.pt)).Nodup
 case neg =>
  rw[decide_eq_false q5]at hk ⊢
  simp only[Bool.not_false,if_true]at hk
  simp[Quh]
  exact hk h2 aH2
 rw[decide_eq_true q5]at hk ⊢
 simp only[Bool.not_true,if_false,Bool.false_eq_true]at hk
 simp[Quh,e1]
 refine Ziz b (so.old aH2) _ fun h3 a3 => ?_
 obtain⟨f0,f1,f2⟩:=cs ((a1.trans a2).trans a3)
 have aH3:=aH2.trans a3
 cases q6:Xso (outs.map OutV.p) 1125899906842624 with
 | false =>
  simp only[q6,Bool.not_false,if_true]at hk
  simp[Quh]
  exact hk h3 aH3
 | true =>
 simp only[q6,Bool.not_true,if_false,Bool.false_eq_true]at hk
 simp[Quh,f1]
 refine Y96 b (Xk8 b) (cap:=[]) (so.s.old aH3) so.n (fun x=>Yl3 x.p) (fun h4 a4 x hx K hk=>Zrj b (((so.old aH3).old a4).a x hx) K hk) _ fun h4 a4 => ?_
 obtain⟨g0,g1,g2⟩:=cs (((a1.trans a2).trans a3).trans a4)
 have aH4:=aH3.trans a4
 cases q7:outs.any (fun x=>Yl3 x.p)with
 | true =>
  simp only[q7,Bool.true_or,if_true]at hk
  simp[Quh]
  exact hk h4 aH4
 | false =>
 simp[Quh,g0]
 have gC4:=(((a1.trans a2).trans a3).trans a4).get gC
 refine Yp0 b (Qvq b) (cap:=[.pointer (some ⟨hA.next,0,none⟩)]) (si.s.old aH4) si.n (fun x=>Ykl x.p) (fun h5 a5 x hx K hk=>Zsr b (((si.old aH4).old a5).a x hx) (a5.get gC4) K hk) _ fun h5 a5 => ?_
 have aH5:=aH4.trans a5
 simp only[q7,Bool.false_or]at hk
 cases q8:ins.any (fun x=>Ykl x.p)with
 | true =>
  simp only[q8,if_true]at hk
  simp[Quh]
  exact hk h5 aH5
 | false =>
 simp only[q8,if_false,Bool.false_eq_true]at hk
 simp[Quh]
 exact hk h5 aH5
end
def Qyp:Nat->List Value
 | 0=>[.int .u8 253,.int .i64 2,.int .u64 253]
 | 1=>[.int .u8 254,.int .i64 4,.int .u64 65536]
 | _=>[.int .u8 255,.int .i64 8,.int .u64 4294967296]
def Xa7:Nat->Nat
 | 0=>253
 | 1=>65536
 | _=>4294967296
def Q3k:Nat->Nat
 | 0=>2
 | 1=>4
 | _=>8
def Xyj:Nat->Int
 | 0=>253
 | 1=>254
 | _=>255
def X2u(n:Nat):Nat->Nat
 | 0=>0
 | i+1=>if Xa7 (i+1)<=n then i+1 else X2u n i
theorem Ze0(n:Nat):∀ i,X2u n i<=i
 | 0=>Nat.le_refl _
 | i+1=>by unfold X2u;split;exact Nat.le_refl _;exact Nat.le_succ_of_le (Ze0 n i)
theorem Ybz(j:Nat)(h:j<=2):Qyp j=[.int .u8 (Xyj j),.int .i64 (Q3k j:Int),.int .u64 (Xa7 j:Int)]:=by
 match j,h with
 | 0,_=>rfl
 | 1,_=>rfl
 | 2,_=>rfl
theorem Zii{n:Nat}(h:¬ n < 253):X03 n=Xyj (X2u n 2)::leN (Q3k (X2u n 2)) n:=by
 unfold X03 X2u
 rw[if_neg h]
 by_cases h2:n < 4294967296
 ·rw[if_neg (show ¬ Xa7 2<=n from fun e=>by have : (4294967296:Nat)<=n:=e;omega)]
  unfold X2u
  by_cases h1:n < 65536
  ·rw[if_neg (show ¬ Xa7 (0+1)<=n from fun e=>by have : (65536:Nat)<=n:=e;omega),if_pos h1];rfl
  ·rw[if_pos (show Xa7 (0+1)<=n from(by omega:(65536:Nat)<=n)),if_neg h1,if_pos h2];rfl
 ·rw[if_pos (show Xa7 2<=n from(by omega:(4294967296:Nat)<=n)),if_neg (by omega),if_neg h2];rfl
theorem Zxb(x y:Int)(h:y=0∨y=8∨y=16∨y=24∨y=32∨y=40∨y=48∨y=56):Qep (binOp .shr 96 (.int .u64 x) (.int .i64 y))=some (.int .u64 (x.fdiv (2 ^ y.toNat))):=by
 rcases h with rfl | rfl | rfl | rfl | rfl | rfl | rfl | rfl
 ·exact(by kernel_rfl:Qep (binOp .shr 96 (.int .u64 x) (.int .i64 0))=some (.int .u64 (x.fdiv (2 ^ 0))))
 ·exact(by kernel_rfl:Qep (binOp .shr 96 (.int .u64 x) (.int .i64 8))=some (.int .u64 (x.fdiv (2 ^ 8))))
 ·exact(by kernel_rfl:Qep (binOp .shr 96 (.int .u64 x) (.int .i64 16))=some (.int .u64 (x.fdiv (2 ^ 16))))
 ·exact(by kernel_rfl:Qep (binOp .shr 96 (.int .u64 x) (.int .i64 24))=some (.int .u64 (x.fdiv (2 ^ 24))))
 ·exact(by kernel_rfl:Qep (binOp .shr 96 (.int .u64 x) (.int .i64 32))=some (.int .u64 (x.fdiv (2 ^ 32))))
 ·exact(by kernel_rfl:Qep (binOp .shr 96 (.int .u64 x) (.int .i64 40))=some (.int .u64 (x.fdiv (2 ^ 40))))
 ·exact(by kernel_rfl:Qep (binOp .shr 96 (.int .u64 x) (.int .i64 48))=some (.int .u64 (x.fdiv (2 ^ 48))))
 ·exact(by kernel_rfl:Qep (binOp .shr 96 (.int .u64 x) (.int .i64 56))=some (.int .u64 (x.fdiv (2 ^ 56))))
theorem Zkp:∀ (k n i:Nat),i < k->(leN k n)[i]? = some (((n / 256 ^ i) % 256:Nat):Int)
 | 0,_,_,h=>by omega
 | k+1,n,0,_=>by simp[leN]
 | k+1,n,i+1,h=>by
  simp only[leN,List.getElem?_cons_succ]
  rw[Zkp k (n / 256) i (by omega),Nat.div_div_eq_div_mul,Nat.pow_succ,Nat.mul_comm 256]
theorem Zou(n i:Nat):IntKind.u8.wrap ((n:Int).fdiv (2 ^ (8*(i:Int)).toNat))=(((n / 256 ^ i) % 256:Nat):Int):=by
 have e:(8*(i:Int)).toNat=8*i:=by omega
 rw[e,show(256:Nat) ^ i=2 ^ (8*i) by rw[Nat.pow_mul]]
 have e2:((2:Int) ^ (8*i))=((2 ^ (8*i):Nat):Int):=by rw[Int.natCast_pow];rfl
 rw[e2,Int.fdiv_eq_ediv_of_nonneg _ (Int.natCast_nonneg _),<- Int.natCast_ediv]
 show(((n / 2 ^ (8*i):Nat):Int) % (2 ^ 8:Int))=_
 omega
def IN1(bv:Value)(n:Nat)(h:Heap)(A:Nat)(k:Nat)(s:St):Prop:=∃ (t:Tr Value) (h1:Heap) (i:Nat),s=⟨⟨57,t⟩,[],h1⟩/\t.get 0=some bv/\t.get 5=some (.int .u64 (n:Int))/\t.get 6=some (.pointer (some ⟨A,0,none⟩))/\t.get 25=some (.slice (some ⟨2,3,none⟩) 2 2)/\t.get 26=some (.int .i64 2)/\t.get 27=some (.int .i64 (i:Int))/\i<=2/\k=2-i/\Old h h1/\h1.get A=some (.cells true 1 (Qyp (X2u n i)))
def IN2(n w:Nat)(p:List Int)(h:Heap)(k:Nat)(s:St):Prop:=∃ (t:Tr Value) (h1:Heap) (o:Value) (i:Nat),s=⟨⟨57,t⟩,[],h1⟩/\t.get 5=some (.int .u64 (n:Int))/\t.get 9=some o/\t.get 43=some (.int .i64 (w:Int))/\t.get 44=some (.int .i64 (i:Int))/\i<=w/\k=w-i/\Old h h1/\OB h1 h.next o (p++(leN w n).take i)
section
attribute [local simp] Qhu Qna V9 Qlo Qlp Xo8 Q2e Ytf Xeu U6 U5 Qci X2r Xzm X0r Z7 Xw3 Xhc Zd Q2v Qxs Q1g Qis Xkw Xj8
theorem Ypu(b:Nat){h:Heap}(laid:Ab.LaidIn h laidAll){bv:Value}{xs:List Int}(s:SB h bv xs){n:Nat}(hn:n < 9223372036854775808)(hl:xs.length < 999999000)(K:KP)(hk:∀ v h',OB h' h.next v (xs++X03 n)->Old h h'->K (.ret v) h') :
  FK b 42 [bv,.int .i64 (n:Int)] h K:=by
 by_cases h253:n < 253
 ·have e:X03 n=[(n:Int)]:=by unfold X03;rw[if_pos h253]
  rw[e]at hk
  exact Y03 b laid s h253 (by omega) K hk
 refine FF b (V9 b) X2m Ypk Yc7 rfl ?_
 rw[Zii h253]at hk
 have g1:h.get 2=some (.cells false 0 Qp0):=laid (2,Qp0) (by simp[laidAll])
 have l1:=Heap.get_lt g1
 have ld:Jl h 2 2=some (.int .u64 253):=by rw[J5 g1];rfl
 have ldf:Qb9 h 2 0 3=some (.agg ⟨Qyp 0⟩):=by rw[Jx g1 (by simp[Qp0])];rfl
 have hx:Vg (E b).toEnv 150 (.pointer (some ⟨2,0,none⟩)) (.int .i64 0)=some (.pointer (some ⟨2,0,none⟩)):=by simpa using Xo8 b (bk:=2) (o:=0) (k:=.i64) (i:=0) ⟨by omega,by omega⟩
 have w1:IntKind.u64.wrap (n:Int)=(n:Int):=Ytw (by omega) (by omega)
 have c1:¬ (n:Int) < 253:=by omega
 obtain⟨zz,ez⟩:∃ zz:List Value,zz=[.int .u8 0,.int .i64 0,.int .u64 0]:=⟨_,rfl⟩
 obtain⟨hA,eA⟩:∃ hA,hA=h.push (.cells true 1 zz):=⟨_,rfl⟩
 have alA:Qba (E b).toEnv 149 h=some (.pointer (some ⟨h.next,0,none⟩),hA):=by rw[eA,ez];exact Q92 b h
 have gA:hA.get h.next=some (.cells true 1 zz):=by rw[eA,Heap.get_push,if_pos rfl]
 have lA:=Heap.get_lt gA
 obtain⟨hB,eB⟩:∃ hB,hB=hA.set h.next (some (.cells true 1 (Qyp 0))):=⟨_,rfl⟩
 have stB:Uj hA h.next 0 (Qyp 0)=some hB:=by rw[W5 gA (by simp[ez,Qyp]),eB,ez];rfl
 have gB:hB.get h.next=some (.cells true 1 (Qyp 0)):=by rw[eB,Heap.get_set _ _ _ _ lA,if_pos rfl]
 have aB:Old h hB:=by rw[eB];exact(by rw[eA];exact Old.push _ _:Old h hA).set _ (Nat.le_refl _) lA
 have sl:∀ hx,Qer (E b).toEnv 150 (.pointer (some ⟨2,0,none⟩)) (some (.int .i64 1)) none none hx=some (.slice (some ⟨2,3,none⟩) 2 2,hx):=fun hx=>by kernel_rfl
 have f3:∀ j,(Qyp j).length=3:=fun j=>by unfold Qyp;split <;> rfl
 simp[Q92,gn1,hx,ld,ldf,w1,c1,h253,-Q92,alA,f3,stB,sl]
 refine Qj1 (IN1 bv n h h.next) 2 ⟨_,hB,0,rfl,by simp,by simp,by simp,by simp,by simp,by simp,by omega,rfl,aB,gB⟩ ?_
 rintro k s' ⟨t,h1,i,rfl,t0,t5,t6,t25,t26,t27,hi,rfl,hold,gf⟩ _
 by_cases hlt:i < 2
 ·have hlt':(i:Int) < 2:=by omega
  have hw:=wS (i:=i) (by omega)
  have gG:h1.get 2=some (.cells false 0 Qp0):=hold.get g1
  have ixf:Vg (E b).toEnv 152 (.slice (some ⟨2,3,none⟩) 2 2) (.int .i64 (i:Int))=some (.pointer (some ⟨2,(i+1)*3,none⟩)):=by
   rw[Xw3 b ⟨by omega,by omega⟩,Int.toNat_natCast,show 3+i*3=(i+1)*3 by omega]
  have ldx:Qb9 h1 2 ((i+1)*3) 3=some (.agg ⟨Qyp (i+1)⟩):=by
   rw[Jx gG (by simp[Qp0];omega)]
   match i,hlt with
   | 0,_=>rfl
   | 1,_=>rfl
  obtain⟨h2,e2⟩:∃ h2,h2=h1.push (.cells true 1 zz):=⟨_,rfl⟩
  have al2:Qba (E b).toEnv 149 h1=some (.pointer (some ⟨h1.next,0,none⟩),h2):=by rw[e2,ez];exact Q92 b h1
  have g2:h2.get h1.next=some (.cells true 1 zz):=by rw[e2,Heap.get_push,if_pos rfl]
  have lf:=Heap.get_lt gf
  have l2:=Heap.get_lt g2
  obtain⟨h3,e3⟩:∃ h3,h3=h2.set h1.next (some (.cells true 1 (Qyp (i+1)))):=⟨_,rfl⟩
  have st3:Uj h2 h1.next 0 (Qyp (i+1))=some h3:=by
   rw[W5 g2 (by simp[ez,f3]),e3,ez]
   congr 4
   simp[f3]
  have g3:h3.get h1.next=some (.cells true 1 (Qyp (i+1))):=by rw[e3,Heap.get_set _ _ _ _ l2,if_pos rfl]
  have o3:Old h1 h3:=by rw[e3];exact(by rw[e2];exact Old.push _ _:Old h1 h2).set _ (Nat.le_refl _) l2
  have gf3:=o3.get gf
  have lf3:=Heap.get_lt gf3
  have c3:Jl h3 h1.next 2=some (.int .u64 (Xa7 (i+1):Int)):=by rw[J5 g3,Ybz _ (by omega)];rfl
  by_cases hc:Xa7 (i+1)<=n
  ·have hc':(Xa7 (i+1):Int)<=(n:Int):=by omega
   have ldg:Qb9 h3 h1.next 0 3=some (.agg ⟨Qyp (i+1)⟩):=agW g3 (by rw[f3];omega) (by rw[f3];omega)
   obtain⟨h4,e4⟩:∃ h4,h4=h3.set h.next (some (.cells true 1 (Qyp (i+1)))):=⟨_,rfl⟩
   have st4:Uj h3 h.next 0 (Qyp (i+1))=some h4:=by
    rw[W5 gf3 (by simp[f3]),e4]
    congr 4
    simp[f3]
   have g4:h4.get h.next=some (.cells true 1 (Qyp (X2u n (i+1)))):=by
    rw[e4,Heap.get_set _ _ _ _ lf3,if_pos rfl]
    unfold X2u
    rw[if_pos hc]
   simp[Q92,t0,t5,t6,t25,t26,t27,hlt',ixf,ldx,-Q92,al2,f3,st3,c3,hc,hc',ldg,st4,hw]
   exact⟨2-(i+1),by omega,_,h4,i+1,rfl,by simp[t0],by simp[t5],by simp[t6],by simp[t25],by simp[t26],by simp,by omega,rfl,by rw[e4];exact(hold.trans o3).set _ (Nat.le_refl _) lf3,g4⟩
  ·have hc':¬ (Xa7 (i+1):Int)<=(n:Int):=by omega
   simp[Q92,t0,t5,t6,t25,t26,t27,hlt',ixf,ldx,-Q92,al2,f3,st3,c3,hc,hc',hw]
   refine⟨2-(i+1),by omega,_,h3,i+1,rfl,by simp[t0],by simp[t5],by simp[t6],by simp[t25],by simp[t26],by simp,by omega,rfl,hold.trans o3,?_⟩
   rw[gf3]
   have : X2u n (i+1)=X2u n i:=by
    conv=>lhs;unfold X2u
    rw[if_neg hc]
   rw[this]
 ·have : i=2:=by omega
  subst this
  have hlt':¬ ((2:Nat):Int) < 2:=by omega
  obtain⟨j,hj⟩:∃ j,j=X2u n 2:=⟨_,rfl⟩
  have hj2:j<=2:=by rw[hj];exact Ze0 n 2
  rw[<- hj]at gf hk
  have cA:Jl h1 h.next 0=some (.int .u8 (Xyj j)):=by rw[J5 gf,Ybz _ hj2];rfl
  have cW:∀ {hx},Old h1 hx->Jl hx h.next 1=some (.int .i64 (Q3k j:Int)):=fun o=>by rw[J5 (o.get gf),Ybz _ hj2];rfl
  have sB:SB (h1.push (.cells true 1 [i8 (Xyj j)])) (.slice (some ⟨h1.next,0,none⟩) 1 1) [Xyj j]:=SB.push (xs:=[Xyj j]) (by simp)
  simp[Q92,t0,t5,t6,t25,t26,t27,cA,Q22]
  refine Yef b ((s.old hold).old (Old.push _ _)) sB (by simp;omega) _ fun v h2 o2 a2 => ?_
  have a12:Old h1 h2:=(Old.push _ _).trans a2
  have cW2:=cW a12
  have w8:Q3k j<=8:=by unfold Q3k;split <;> omega
  simp[Q92,t0,t5,t6,t25,t26,t27,cW2]
  refine Qj1 (IN2 n (Q3k j) (xs ++ [Xyj j]) h) (Q3k j) ⟨_,h2,v,0,rfl,by simp[t5],by simp,by simp,by simp,by omega,rfl,hold.trans a12,by rw[List.take_zero,List.append_nil];exact o2.low (Nat.le_trans hold.1 (Nat.le_succ _))⟩ ?_
  rintro k s' ⟨t,h3,o,i,rfl,t5,t9,t43,t44,hi,rfl,hold3,ob⟩ _
  by_cases hlt:i < Q3k j
  ·have hlt':(i:Int) < (Q3k j:Int):=by omega
   have hw:=wS (i:=i) (by omega)
   have hm:IntKind.i64.wrap (8*(i:Int))=8*(i:Int):=Qao (by omega) (by omega)
   have sh:=Zxb (n:Int) (8*(i:Int)) (by omega)
   have by8':=Zou n i
   have gi:=Zkp (Q3k j) n i hlt
   obtain⟨d,hd⟩:∃ d:Int,d=(n:Int).fdiv (2 ^ (8*(i:Int)).toNat):=⟨_,rfl⟩
   rw[<- hd]at sh by8'
   obtain⟨c,hc⟩:∃ c:Int,c=(((n / 256 ^ i) % 256:Nat):Int):=⟨_,rfl⟩
   rw[<- hc]at by8' gi
   have tk:(leN (Q3k j) n).take (i+1)=(leN (Q3k j) n).take i ++ [c]:=by rw[List.take_succ,gi];rfl
   obtain⟨v',h4,k1,k2,k3⟩:=Zh5 (b:=b) ob hold3.1 (by simp;omega) c
   simp only[i8]at k1
   simp[Q92,t5,t9,t43,t44,hlt',hm,sh,by8',Q22,i8,k1,hw]
   exact⟨Q3k j-(i+1),by omega,_,h4,v',i+1,rfl,by simp[t5],by simp,by simp[t43],by simp,by omega,rfl,k3.old hold3 ob,by rw[tk,<- List.append_assoc];exact k2⟩
  ·have hlt':¬ (i:Int) < (Q3k j:Int):=by omega
   have : i=Q3k j:=by omega
   subst this
   simp[Q92,t5,t9,t43,t44]
   refine hk o h3 ?_ hold3
   rw[List.take_of_length_le (by rw[Ys6];exact Nat.le_refl _),List.append_assoc]at ob
   exact ob
end
section
theorem Zs5(b:Nat){h:Heap}{bv:Value}{xs:List Int}(s:SB h bv xs){d:List Nat}(hd:d.length=32)(hl:xs.length < 999999000)(K:KP)(hk:∀ v h',OB h' h.next v (xs++Qlz d)->Old h h'->K (.ret v) h') :
  FK b 88 [bv,.agg ⟨d.map u8v⟩] h K:=by
 refine FF b (Qp4 b) Ylu Y7c Yxz rfl ?_
 obtain⟨hA,eA,aA,gA⟩:=Qoa h ((d.map u8v))
 have bx:=Qr2 eA
 have sd:SB hA (.slice (some ⟨h.next,0,none⟩) 32 32) (Qlz d):=by
  have:=Zxj gA (by omega)
  rwa [hd]at this
 have ld:(Qlz d).length=32:=by simp[Qlz,hd]
 simp[Xa3,X5t,Qp4,Qci,bx,Yat]
 refine Yef b (s.old aA) sd (by omega) _ fun v h' o a => ?_
 simp[Xa3,X5t,Qp4,Qci]
 exact hk v h' (o.low aA.1) (aA.trans a)
theorem Zqr(b:Nat){h:Heap}(laid:Ab.LaidIn h laidAll){bv pv:Value}{xs ys:List Int}(s:SB h bv xs)(sp:SB h pv ys)(hl:xs.length < 999990000)(hp:ys.length < 1000000)(K:KP)(hk:∀ v h',OB h' h.next v (xs++Za1 ys)->Old h h'->K (.ret v) h') :
  FK b 91 [bv,pv] h K:=by
 refine FF b (Qox b) Yko Y92 Y1d rfl ?_
 have len:=fun hx=>Qpb (b:=b) (h1:=hx) sp
 simp[Xat,X66,Qox,Va,V9,len]
 refine Ypu b laid s (n:=ys.length) (by omega) (by omega) _ fun v h1 o1 a1 => ?_
 have il:=Qxx ys.length
 obtain⟨v',h2,k1,k2,k3⟩:=Zd1 (b:=b) o1 a1.1 (sp.old a1) (by rw[List.length_append];omega)
 simp[Xat,X66,Qox,Va,V9,k1]
 refine hk v' h2 ?_ (k3.old a1 o1)
 rw[Za1,<- List.append_assoc]
 exact k2
end
theorem Y6l{A:Type}{g:A->List Int}{l:List A}{i:Nat}{x:A}(hx:l[i]? = some x):(l.take (i+1)).flatMap g=(l.take i).flatMap g++g x:=by
 rw[List.take_succ,hx]
 simp
theorem Zke{A:Type}(g:A->List Int)(l:List A)(i:Nat):((l.take i).flatMap g).length<=(l.flatMap g).length:=by
 conv=>rhs;rw[<- List.take_append_drop i l]
 rw[List.flatMap_append,List.length_append]
 omega
def Zza(v fv:Value)(l:List InV)(g:InV->List Int)(p:List Int)(h:Heap)(k:Nat)(s:St):Prop:=∃ (t:Tr Value) (h1:Heap) (o:Value) (i:Nat),s=⟨⟨25,t⟩,[],h1⟩/\t.get 0=some o/\t.get 2=some fv/\t.get 13=some v/\t.get 14=some (.int .i64 (l.length:Int))/\t.get 15=some (.int .i64 (i:Int))/\i<=l.length/\k=l.length-i/\Old h h1/\OB h1 h.next o (p++(l.take i).flatMap g)
section
attribute [local simp] Qgj Qli Qbb Qdv V9 Z7 Qgl Qjs Qlw Zd
theorem Zwp(b:Nat){h:Heap}(laid:Ab.LaidIn h laidAll){bv v:Value}{xs:List Int}{l:List InV}(sb:SB h bv xs)(s:Sl h 34 v l.length (Qfv l))(hn:l.length < 1000000)(g:InV->List Int){f:FuncId}{F:Func}(hF:(E b).fn.get f=some F)(hl:xs.length+(l.flatMap g).length < 900000000)
  (hf:∀ h1,Old h h1->∀ x ∈ l,∀ bv1 ys,SB h1 bv1 ys->ys.length < 900000010->∀ K,(∀ w h2,OB h2 h1.next w (ys++g x)->Old h1 h2->K (.ret w) h2)->FK b f [bv1,.agg ⟨x.cells⟩] h1 K)
  (K:KP) (hk:∀ w h',OB h' h.next w (xs++(X03 l.length++l.flatMap g))->Old h h'->K (.ret w) h') :
  FK b 86 [bv,v,.func (.func f) #[] #[]] h K:=by
 refine FF b (Qbb b) Xtc X4f X14 rfl ?_
 have len:∀ hx,Qn4 (E b).toEnv 39 v hx=some (.int .i64 (l.length:Int)):=fun hx=>Qfg (T39 b) s
 simp[Qk5,len]
 refine Ypu b laid sb (n:=l.length) (by omega) (by omega) _ fun v0 h0 o0 a0 => ?_
 have il:=Qxx l.length
 simp[Qk5,len]
 refine Qj1 (Zza v (.func (.func f) #[] #[]) l g (xs++X03 l.length) h) l.length ⟨_,h0,v0,0,rfl,by simp,by simp,by simp,by simp,by simp,by omega,rfl,a0,by simpa using o0⟩ ?_
 rintro k s' ⟨t,h1,o,i,rfl,t0,t2,t13,t14,t15,hi,rfl,hold,ob⟩ _
 have fl:=Zke g l i
 by_cases hlt:i < l.length
 ·have hlt':(i:Int) < (l.length:Int):=by omega
  obtain⟨x,hx⟩:∃ x,l[i]? = some x:=⟨_,List.getElem?_eq_getElem hlt⟩
  have hw:=wS (i:=i) (by omega)
  obtain⟨bk,off, -,x1,x2, -⟩:=Yzt (b:=b) (T39 b) Qok (s.old hold) hx
  obtain⟨zz,ez⟩:∃ zz:List Value,zz=R73.zero.cells.toList:=⟨_,rfl⟩
  have zl:zz.length=34:=by rw[ez];kernel_rfl
  obtain⟨hA,eA⟩:∃ hA,hA=h1.push (.cells true 1 zz):=⟨_,rfl⟩
  have alA:Qba (E b).toEnv 73 h1=some (.pointer (some ⟨h1.next,0,none⟩),hA):=by rw[eA,ez];simp only[Qba,Y13]
  have gA:hA.get h1.next=some (.cells true 1 zz):=by rw[eA,Heap.get_push,if_pos rfl]
  have lA:=Heap.get_lt gA
  obtain⟨hB,eB⟩:∃ hB,hB=hA.set h1.next (some (.cells true 1 x.cells)):=⟨_,rfl⟩
  have xl:x.cells.length=34:=InV.len x
  have st:Uj hA h1.next 0 x.cells=some hB:=by
   rw[W5 gA (by rw[zl,xl];omega),eB]
   congr 4
   rw[xl]
   simp[zl]
  have gB:hB.get h1.next=some (.cells true 1 x.cells):=by rw[eB,Heap.get_set _ _ _ _ lA,if_pos rfl]
  have aB:Old h1 hB:=by rw[eB,eA];exact(Old.push _ _).set _ (Nat.le_refl _) (by rw[<- eA];exact lA)
  have ldx:Qb9 hB h1.next 0 34=some (.agg ⟨x.cells⟩):=agW gB (by omega) (by omega)
  simp[Qk5,t0,t2,t13,t14,t15,hlt',x1,x2,-Qk5,alA,xl,st,ldx,hF]
  refine hf hB (hold.trans aB) x (List.mem_of_getElem? hx) o _ (ob.sl.old aB) (by simp only[List.length_append];omega) _ fun w h2 o2 a2 => ?_
  simp[Qk5,t0,t2,t13,t14,t15,hw]
  refine⟨l.length-(i+1),by omega,_,h2,w,i+1,rfl,by simp,by simp[t2],by simp[t13],by simp[t14],by simp,by omega,rfl,(hold.trans aB).trans a2,?_⟩
  rw[Y6l hx,<- List.append_assoc]
  exact o2.low (Nat.le_trans hold.1 aB.1)
 ·have hlt':¬ (i:Int) < (l.length:Int):=by omega
  have : i=l.length:=by omega
  subst this
  rw[List.take_length,List.append_assoc]at ob
  simp[Qk5,t0,t2,t13,t14,t15]
  exact hk o h1 ob hold
end
def Zuj(v fv:Value)(l:List OutV)(g:OutV->List Int)(p:List Int)(h:Heap)(k:Nat)(s:St):Prop:=∃ (t:Tr Value) (h1:Heap) (o:Value) (i:Nat),s=⟨⟨25,t⟩,[],h1⟩/\t.get 0=some o/\t.get 2=some fv/\t.get 13=some v/\t.get 14=some (.int .i64 (l.length:Int))/\t.get 15=some (.int .i64 (i:Int))/\i<=l.length/\k=l.length-i/\Old h h1/\OB h1 h.next o (p++(l.take i).flatMap g)
section
attribute [local simp] V9
theorem Zs2(b:Nat){h:Heap}(laid:Ab.LaidIn h laidAll){bv v:Value}{xs:List Int}{l:List OutV}(sb:SB h bv xs)(s:Sl h 2 v l.length (Xf3 l))(hn:l.length < 1000000)(g:OutV->List Int){f:FuncId}{F:Func}(hF:(E b).fn.get f=some F)(hl:xs.length+(l.flatMap g).length < 900000000)
  (hf:∀ h1,Old h h1->∀ x ∈ l,∀ bv1 ys,SB h1 bv1 ys->ys.length < 900000010->∀ K,(∀ w h2,OB h2 h1.next w (ys++g x)->Old h1 h2->K (.ret w) h2)->FK b f [bv1,.agg ⟨x.cells⟩] h1 K)
  (K:KP) (hk:∀ w h',OB h' h.next w (xs++(X03 l.length++l.flatMap g))->Old h h'->K (.ret w) h') :
  FK b 89 [bv,v,.func (.func f) #[] #[]] h K:=by
 refine FF b (Qai b) Xqb X24 Xym rfl ?_
 have len:∀ hx,Qn4 (E b).toEnv 36 v hx=some (.int .i64 (l.length:Int)):=fun hx=>Qfg (T36 b) s
 simp[Qfo,Qke,Qai,Qi7,Qea,Z7,Qia,Qh5,Qgo,Qfj,Qhg,Zd,Qgw,Qgx,len]
 refine Ypu b laid sb (n:=l.length) (by omega) (by omega) _ fun v0 h0 o0 a0 => ?_
 have il:=Qxx l.length
 simp[Qfo,Qke,Qai,Qi7,Qea,Z7,Qia,Qh5,Qgo,Qfj,Qhg,Zd,Qgw,Qgx,len]
 refine Qj1 (Zuj v (.func (.func f) #[] #[]) l g (xs++X03 l.length) h) l.length ⟨_,h0,v0,0,rfl,by simp,by simp,by simp,by simp,by simp,by omega,rfl,a0,by simpa using o0⟩ ?_
 rintro k s' ⟨t,h1,o,i,rfl,t0,t2,t13,t14,t15,hi,rfl,hold,ob⟩ _
 have fl:=Zke g l i
 by_cases hlt:i < l.length
 ·have hlt':(i:Int) < (l.length:Int):=by omega
  obtain⟨x,hx⟩:∃ x,l[i]? = some x:=⟨_,List.getElem?_eq_getElem hlt⟩
  have hw:=wS (i:=i) (by omega)
  obtain⟨bk,off, -,x1,x2, -⟩:=X47 (b:=b) (T36 b) Qlb (s.old hold) hx
  obtain⟨zz,ez⟩:∃ zz:List Value,zz=R35.zero.cells.toList:=⟨_,rfl⟩
  have zl:zz.length=2:=by rw[ez];kernel_rfl
  obtain⟨hA,eA⟩:∃ hA,hA=h1.push (.cells true 1 zz):=⟨_,rfl⟩
  have alA:Qba (E b).toEnv 35 h1=some (.pointer (some ⟨h1.next,0,none⟩),hA):=by rw[eA,ez];simp only[Qba,Yyq]
  have gA:hA.get h1.next=some (.cells true 1 zz):=by rw[eA,Heap.get_push,if_pos rfl]
  have lA:=Heap.get_lt gA
  obtain⟨hB,eB⟩:∃ hB,hB=hA.set h1.next (some (.cells true 1 x.cells)):=⟨_,rfl⟩
  have xl:x.cells.length=2:=OutV.len x
  have st:Uj hA h1.next 0 x.cells=some hB:=by
   rw[W5 gA (by rw[zl,xl];omega),eB]
   congr 4
   rw[xl]
   simp[zl]
  have gB:hB.get h1.next=some (.cells true 1 x.cells):=by rw[eB,Heap.get_set _ _ _ _ lA,if_pos rfl]
  have aB:Old h1 hB:=by rw[eB,eA];exact(Old.push _ _).set _ (Nat.le_refl _) (by rw[<- eA];exact lA)
  have ldx:Qb9 hB h1.next 0 2=some (.agg ⟨x.cells⟩):=agW gB (by omega) (by omega)
  simp[Qfo,Qke,Qai,Qi7,Qea,Z7,Qia,Qh5,Qgo,Qfj,Qhg,Zd,Qgw,Qgx,t0,t2,t13,t14,t15,hlt',x1,x2,-Qfj,alA,xl,st,ldx,hF]
  refine hf hB (hold.trans aB) x (List.mem_of_getElem? hx) o _ (ob.sl.old aB) (by simp only[List.length_append];omega) _ fun w h2 o2 a2 => ?_
  simp[Qfo,Qke,Qai,Qi7,Qea,Z7,Qia,Qh5,Qgo,Qfj,Qhg,Zd,Qgw,Qgx,t0,t2,t13,t14,t15,hw]
  refine⟨l.length-(i+1),by omega,_,h2,w,i+1,rfl,by simp,by simp[t2],by simp[t13],by simp[t14],by simp,by omega,rfl,(hold.trans aB).trans a2,?_⟩
  rw[Y6l hx,<- List.append_assoc]
  exact o2.low (Nat.le_trans hold.1 aB.1)
 ·have hlt':¬ (i:Int) < (l.length:Int):=by omega
  have : i=l.length:=by omega
  subst this
  rw[List.take_length,List.append_assoc]at ob
  simp[Qfo,Qke,Qai,Qi7,Qea,Z7,Qia,Qh5,Qgo,Qfj,Qhg,Zd,Qgw,Qgx,t0,t2,t13,t14,t15]
  exact hk o h1 ob hold
theorem Zxd(b:Nat){h:Heap}(laid:Ab.LaidIn h laidAll){bv:Value}{ys:List Int}(x:InV)(hx:0<=x.pt.n/\x.pt.n<=8)(s:SB h bv ys)(hl:ys.length < 900000010)(K:KP)(hk:∀ w h',OB h' h.next w (ys++inB x.p)->Old h h'->K (.ret w) h') :
  FK b 87 [bv,.agg ⟨x.cells⟩] h K:=by
 refine FF b (Qpa b) Ymj Y9e Y1m rfl ?_
 obtain⟨hA, -,bx,aA, -,gA,c32, -⟩:=Zl0 x h
 have ldh:∀ {hx},Old hA hx->Qb9 hx h.next 0 32=some (.agg ⟨x.pt.id.map u8v⟩):=fun {hx} o=>by
  rw[Jx (o.get gA) (by rw[InV.len];omega),List.drop_zero]
  have : x.cells.take 32=x.pt.id.map u8v:=by
   rw[InV.cells,Pt.cells,List.append_assoc,List.take_append_of_le_length (by simp[x.pt.hd]),List.take_of_length_le (by simp[x.pt.hd])]
  rw[this]
 have ldn:∀ {hx},Old hA hx->Jl hx h.next 32=some (.int .i64 x.pt.n):=fun {hx} o=>by rw[J5 (o.get gA),Z08]
 have idl:(Qlz x.pt.id).length=32:=by simp[Qlz,x.pt.hd]
 obtain⟨_,hC,q1,n1,v1,rfl,o1,a1⟩:=Zs5 b (s.old aA) x.pt.hd (by omega) (fun r h' => ∃ v,r=.ret v/\OB h' hA.next v (ys++Qlz x.pt.id)/\Old hA h') (fun v h' o a=>⟨v,rfl,o,a⟩)
 obtain⟨m,hm⟩:∃ m:Nat,x.pt.n=(m:Int):=⟨x.pt.n.toNat,by omega⟩
 obtain⟨_,hD,q2,n2,v2,rfl,o2,a2⟩:=Ypu b (Laid.old laid (aA.trans a1)) o1.sl (n:=m) (by omega) (by rw[List.length_append];omega) (fun r h' => ∃ v,r=.ret v/\OB h' hC.next v (ys++Qlz x.pt.id++X03 m)/\Old hC h') (fun v h' o a=>⟨v,rfl,o,a⟩)
 have d0:=ldh (Old.refl hA)
 have d1:=ldn (Old.refl hA)
 have d2:=ldn a1
 rw[hm]at d1 d2
 simp[Qrt,Q8l,Qpa,Qbo,Yso,Uh,Qp4,X41,Uk,bx]
 refine Qfn [⟨88,[bv,.agg ⟨x.pt.id.map u8v⟩],hA,v1,hC,true⟩,⟨42,[v1,.int .i64 (m:Int)],hC,v2,hD,true⟩] ?_ X10 X3w X0m (by simp[X9n,Yez,Ye6,Qrt,Q8l,Qpa,Qbo,Yso,Uh,Qp4,X41,d0,d1,d2,Qe6,Qm0];exact⟨rfl,rfl⟩) ?_ ?_
 ·exact zk2 ⟨q1,n1,fun _ c hc=>a1.2 c hc⟩ ⟨q2,n2,fun _ c hc=>a2.2 c hc⟩
 ·simp[Qhv,Qrt,Q8l,Qpa,Qbo,Yso,Uh,Qp4,X41,d1,d2,Yc9]
 simp[Qrt,Q8l,Qpa,Qbo,Yso,Uh,Qp4,X41,Uk]
 refine hk v2 hD ?_ (aA.trans (a1.trans a2))
 have e:inB x.p=Qlz x.pt.id++X03 m:=by
  show x.pt.id.map Int.ofNat++X03 x.pt.n.toNat=_
  rw[hm];rfl
 rw[e,<- List.append_assoc]
 exact o2.low (aA.trans a1).1
theorem Zte(b:Nat){h:Heap}(laid:Ab.LaidIn h laidAll){bv:Value}{ys:List Int}{x:OutV}(hx:0<=x.value/\x.value<=1125899906842624)(a:OutAt h x)(s:SB h bv ys)(hl:ys.length < 900000010)(K:KP)(hk:∀ w h',OB h' h.next w (ys++Zm4 x.p)->Old h h'->K (.ret w) h') :
  FK b 90 [bv,.agg ⟨x.cells⟩] h K:=by
 refine FF b (Qpj b) Yof Zbh Y70 rfl ?_
 obtain⟨hA,eA,aA,gA⟩:=Qoa h x.cells
 have bx:=Qr2 eA
 obtain⟨m,hm⟩:∃ m:Nat,x.value=(m:Int):=⟨x.value.toNat,by omega⟩
 have il:=Qxx m
 have ld0:∀ {hx},Old hA hx->Jl hx h.next 0=some (.int .i64 (m:Int)):=fun {hx} o=>by rw[J5 (o.get gA),<- hm];rfl
 have ld1:∀ {hx},Old hA hx->Jl hx h.next 1=some x.sv:=fun {hx} o=>by rw[J5 (o.get gA)];rfl
 obtain⟨_,hC,q1,n1,v1,rfl,o1,a1⟩:=Ypu b (Laid.old laid aA) (s.old aA) (n:=m) (by omega) (by omega) (fun r h' => ∃ v,r=.ret v/\OB h' hA.next v (ys++X03 m)/\Old hA h') (fun v h' o a=>⟨v,rfl,o,a⟩)
 obtain⟨_,hD,q2,n2,v2,rfl,o2,a2⟩:=Zqr b (Laid.old laid (aA.trans a1)) o1.sl ((a.s.old aA).old a1) (by rw[List.length_append];omega) a.l (fun r h' => ∃ v,r=.ret v/\OB h' hC.next v (ys++X03 m++Za1 x.script)/\Old hC h') (fun v h' o a=>⟨v,rfl,o,a⟩)
 have d0:=ld0 (Old.refl hA)
 have d1:=ld1 (Old.refl hA)
 have d2:=ld1 a1
 simp[Qry,Q8g,Qpj,Qev,Uk,Qfw,Vf,Qox,bx]
 refine Qfn [⟨42,[bv,.int .i64 (m:Int)],hA,v1,hC,true⟩,⟨91,[v1,x.sv],hC,v2,hD,true⟩] ?_ X0g X4x X27 (by simp[X7e,Yh0,Ybp,Qry,Q8g,Qpj,Qev,Qfw,Vf,Qox,d0,d1,d2,Qe6,Qm0];exact⟨rfl,rfl⟩) ?_ ?_
 ·exact zk2 ⟨q1,n1,fun _ c hc=>a1.2 c hc⟩ ⟨q2,n2,fun _ c hc=>a2.2 c hc⟩
 ·simp[Qhq,Qry,Q8g,Qpj,Qev,Qfw,Vf,Qox,d1,d2,Zc0 a.s]
 simp[Qry,Q8g,Qpj,Qev,Uk,Qfw,Vf,Qox]
 refine hk v2 hD ?_ (aA.trans (a1.trans a2))
 have e:Zm4 x.p=X03 m++Za1 x.script:=by
  show X03 x.value.toNat++Za1 x.script=_
  rw[hm];rfl
 rw[e,<- List.append_assoc]
 exact o2.low (aA.trans a1).1
end
structure TxOk (t:PTx):Prop where
 insN:1<=t.ins.length/\t.ins.length<=8
 outsN:1<=t.outs.length/\t.outs.length<=8
 far:∀ x ∈ t.ins,0<=x.pt.n/\x.pt.n<=8
 lock:0<=t.lock/\t.lock<=1073741824
 pts:(t.ins.map (·.pt)).Nodup
 vals:Xso t.outs 1125899906842624=true
 script:∀ o ∈ t.outs,o.script.length<=256
 wit:∀ x ∈ t.ins,x.wit.length<=16/\∀ w ∈ x.wit,w.length<=64
theorem Xxv{n a b:Int}:inF n a b=true↔a<=n/\n<=b:=by simp[inF]
theorem X0p{t:PTx}(h:Qla t=0):TxOk t:=by
 unfold Qla at h
 split at h
 ·cases h
 rename_i h1
 split at h
 ·cases h
 rename_i h2
 split at h
 ·cases h
 rename_i h3
 split at h
 ·cases h
 rename_i h4
 split at h
 ·cases h
 rename_i h5
 simp only[Bool.or_eq_true,Bool.not_eq_true',not_or,Bool.not_eq_false,Bool.not_eq_true,Xxv]at h1 h2 h3 h4 h5
 have hf:∀ x ∈ t.ins,Zne x=false:=fun x hx=>by
  have:=List.any_eq_false.1 h2.1 x hx
  simpa using this
 have hl:∀ x ∈ t.outs,Yl3 x=false:=fun x hx=>by
  have:=List.any_eq_false.1 h5.1 x hx
  simpa using this
 have hw:∀ x ∈ t.ins,Ykl x=false:=fun x hx=>by
  have:=List.any_eq_false.1 h5.2 x hx
  simpa using this
 refine⟨by omega,by omega,fun x hx => ?_,h2.2,by simpa using h3,h4,fun o ho => ?_,fun x hx => ?_⟩
 ·have:=hf x hx
  simpa[Zne,Xxv]using this
 ·have:=hl o ho
  simp only[Yl3,decide_eq_false_iff_not]at this
  omega
 ·have:=hw x hx
  simp only[Ykl,Bool.or_eq_false_iff,decide_eq_false_iff_not]at this
  refine⟨by omega,fun w hw => ?_⟩
  have:=List.any_eq_false.1 this.2 w hw
  simp only[decide_eq_true_eq]at this
  omega
theorem Ysr:∀ {l:List POut} {left:Int},Xso l left=true->left<=1125899906842624->∀ o ∈ l,1<=o.value/\o.value<=1125899906842624
 | [],_,_,_,o,ho=>by cases ho
 | p::l,left,h,hle,o,ho=>by
  unfold Xso at h
  split at h
  ·cases h
  ·rename_i hp
   rcases List.mem_cons.1 ho with rfl | ho
   ·omega
   ·exact Ysr h (by omega) o ho
theorem X3g{A:Type}{g:A->List Int}{m:Nat}:∀ {l:List A},(∀ x ∈ l,(g x).length<=m)->(l.flatMap g).length<=l.length*m
 | [],_=>by simp
 | x::l,h=>by
  have h1:=h x (by simp)
  have h2:=X3g (g:=g) (l:=l) fun y hy=>h y (by simp[hy])
  rw[List.flatMap_cons,List.length_append,List.length_cons,Nat.add_mul]
  omega
theorem Zsf(x:PIn):(inB x).length<=41:=by
 have:=Qxx x.pt.n.toNat
 simp[inB,x.pt.hd];omega
theorem Znv{o:POut}(h:o.script.length<=256):(Zm4 o).length<=274:=by
 have:=Qxx o.value.toNat
 have:=Qxx o.script.length
 simp[Zm4,Za1];omega
theorem flat_map' {A B:Type}(f:A->B)(g:B->List Int)(l:List A):(l.map f).flatMap g=l.flatMap fun x=>g (f x):=by
 rw[List.flatMap_map]
theorem Qps{xs ys:List Int}(h1:Bytes xs)(h2:Bytes ys):Bytes (xs++ys):=fun z hz=>by
 rcases List.mem_append.1 hz with q | q
 ·exact h1 z q
 ·exact h2 z q
theorem Y2l{t:PTx}(k:TxOk t):(X59 t).length<=4096:=by
 have h1:=Qxx t.ins.length
 have h2:=Qxx t.outs.length
 have h3:=Qxx t.lock.toNat
 have h4:=X3g (g:=inB) (l:=t.ins) (m:=41) fun x _=>Zsf x
 have h5:=X3g (g:=Zm4) (l:=t.outs) (m:=274) fun x hx=>Znv (k.script x hx)
 have h6:=k.insN
 have h7:=k.outsN
 simp only[X59,List.length_append]
 omega
section
attribute [local simp] Qpk Q3f Qmq V2 Jf Zw V3 Qbr Qbb Vk Qd6 Qai Qbm V9
theorem Zr8(b:Nat){h:Heap}(laid:Ab.LaidIn h laidAll){iv ov:Value}{ins:List InV}{outs:List OutV}{lock:Int}(si:Ins h iv ins)(so:Outs h ov outs)(K:KP)
  (hbad:∀ h',Qla (ptx ins outs lock)≠0->Old h h'->K (.ret (.tuple #[.slice none 0 0,.int .i64 (Qla (ptx ins outs lock))])) h')
  (hk:∀ v h',Qla (ptx ins outs lock)=0->OB h' h.next v (X59 (ptx ins outs lock))->Old h h'->K (.ret (.tuple #[v,.int .i64 0])) h') :
  FK b 66 [.agg ⟨txC iv ov lock⟩] h K:=by
 refine FF b (Qmq b) Y5q Zh7 Zfj rfl ?_
 obtain⟨hA,eA,aA,gA⟩:=Qoa h ((txC iv ov lock))
 have bx:=Qr2 eA
 have ldt:Qb9 hA h.next 0 3=some (.agg ⟨txC iv ov lock⟩):=by rw[Jx gA (by simp[txC])];rfl
 have cs:∀ {hx:Heap},Old hA hx->Jl hx h.next 0=some iv/\Jl hx h.next 1=some ov/\Jl hx h.next 2=some (.int .i64 lock):=fun {hx} o=>by
  have:=o.get gA
  exact⟨by rw[J5 this];rfl,by rw[J5 this];rfl,by rw[J5 this];rfl⟩
 simp[bx,ldt]
 refine Yqa b (si.old aA) (so.old aA) _ fun h1 a1 => ?_
 by_cases hc:Qla (ptx ins outs lock)=0
 case neg =>
  simp[hc]
  exact hbad h1 hc (aA.trans a1)
 have k:=X0p hc
 rw[hc]
 obtain⟨c0, -, -⟩:=cs a1
 simp[c0,Qpa]
 have kl:=Y2l k
 have e1:(ptx ins outs lock).ins.flatMap inB=ins.flatMap fun x=>inB x.p:=flat_map' _ _ _
 have e2:(ptx ins outs lock).outs.flatMap Zm4=outs.flatMap fun x=>Zm4 x.p:=flat_map' _ _ _
 have n1:(ptx ins outs lock).ins.length=ins.length:=by simp[ptx]
 have n2:(ptx ins outs lock).outs.length=outs.length:=by simp[ptx]
 have e3:X59 (ptx ins outs lock)=X03 ins.length++(ins.flatMap fun x=>inB x.p)++(X03 outs.length++outs.flatMap fun x=>Zm4 x.p)++X03 lock.toNat:=by
  unfold X59
  rw[e1,e2,n1,n2]
  rfl
 rw[e3]at kl
 simp only[List.length_append]at kl
 have a01:=aA.trans a1
 refine Zwp b (Laid.old laid a01) (xs:=[]) Sl.nil (si.s.old a01) si.n (fun x=>inB x.p) (Qpa b) (by simp only[List.length_nil];omega) (fun h2 a2 x hx bv1 ys s1 hl K hk=>Zxd b (Laid.old laid (a01.trans a2)) x (k.far x.p (List.mem_map.2 ⟨x,hx,rfl⟩)) s1 hl K hk) _ fun v2 h2 o2 a2 => ?_
 obtain⟨-,c1, -⟩:=cs (a1.trans a2)
 simp[c1,Qpj]
 have a02:=a01.trans a2
 refine Zs2 b (Laid.old laid a02) o2.sl (so.s.old a02) so.n (fun x=>Zm4 x.p) (Qpj b) (by simp only[List.length_append,List.length_nil];omega) (fun h3 a3 x hx bv1 ys s1 hl K hk=>Zte b (Laid.old laid (a02.trans a3)) (by have:=Ysr k.vals (Int.le_refl _) x.p (List.mem_map.2 ⟨x,hx,rfl⟩);exact⟨by have:=this.1;show(0:Int)<=x.p.value;omega,this.2⟩) (((so.old a02).old a3).a x hx) s1 hl K hk) _ fun v3 h3 o3 a3 => ?_
 obtain⟨-, -,c2⟩:=cs ((a1.trans a2).trans a3)
 obtain⟨m,hm⟩:∃ m:Nat,lock=(m:Int):=⟨lock.toNat,by have:=k.lock.1;show lock=_;simp only[ptx]at this;omega⟩
 rw[hm]at c2
 have hlk:=k.lock.2
 simp only[ptx]at hlk
 simp[c2]
 have a03:=a02.trans a3
 refine Ypu b (Laid.old laid a03) o3.sl (n:=m) (by omega) (by simp only[List.length_append,List.length_nil];omega) _ fun v4 h4 o4 a4 => ?_
 simp
 refine hk v4 h4 hc ?_ (a03.trans a4)
 rw[e3,show lock.toNat=m by omega]
 have q:=o4.low (a03.1)
 rw[List.nil_append]at q
 exact q
end
def Zuu(s:List Nat)(l:List Nat):List Nat:=Bl.keyed1 [] (Bl.keyed1 [] s++l)
theorem Yqf(s l:List Nat):(Zuu s l).length=32:=Qls _
theorem Zeb(s:ByteArray):(Xla s).length=s.size:=by
 simp[Xla]
theorem Zo9(b:Nat){s:ByteArray}{l:List Nat}(hs:Xla s=l.map u8v)(h:Heap):Xb1 (E b).toEnv 9 30 (.string s) h=some (.slice (some ⟨h.next,0,none⟩) l.length Qhx,h.push (.cells true 1 (l.map u8v))):=by
 obtain⟨rs,hrs⟩:∃ rs,(E b).toEnv.ty.get 9=some rs:=⟨((E b).toEnv.ty.get 9).getD ⟨.invalid,0,0,.bool false,[]⟩,by kernel_rfl⟩
 have h1:R30.desc=.slice 5:=(T30 b).d
 have h3:R5.desc=.int .u8:=by kernel_rfl
 have hl:s.size=l.length:=by rw[<- Zeb,hs,List.length_map]
 simp only[Xb1,hrs,Xmj,h1,Zc5,h3,hs,hl]
section
attribute [local simp] Qqr Q5b Qi8 Y9w Xv Jn
theorem Zgu(b:Nat){h:Heap}(laid:Ab.LaidIn h laidAll){s:ByteArray}{l d:List Nat}(hs:Xla s=l.map u8v)(hl:l.length < 1000){v:Value}(sv:SN h v d)(hd:d.length < 1000000)(K:KP)(hk:∀ h',Old h h'->K (.ret (.agg ⟨(Zuu l d).map u8v⟩)) h') :
  FK b 67 [.string s,v] h K:=by
 refine FF b (Qi8 b) X44 Ylk Yfd rfl ?_
 obtain⟨hA,eA,aA,gA⟩:=Qoa h z32
 have alA:Qba (E b).toEnv 23 h=some (.pointer (some ⟨h.next,0,none⟩),hA):=by rw[eA];exact Vr b h
 obtain⟨hB,eB,aB,gB⟩:=Qoa hA ((l.map u8v))
 have cv:=Zo9 b hs hA
 rw[<- eB]at cv
 have sB:SN hB (.slice (some ⟨hA.next,0,none⟩) l.length Qhx) l:=(Own.new (n0:=0) (z:=1) (Nat.zero_le _) gB (by simp) (by unfold Qhx;omega) (.inl ⟨rfl,rfl⟩)).sl
 simp[Vr,-Vr,alA,cv]
 have aAB:=aA.trans aB
 refine Yp3 b (Qx5 (Laid.old laid aAB)) sB (by omega) _ fun h1 a1 => ?_
 obtain⟨dg,hdg⟩:∃ dg,dg=Bl.keyed1 [] l:=⟨_,rfl⟩
 have dl:dg.length=32:=by rw[hdg];exact Qls _
 rw[<- hdg]
 have a01:=aAB.trans a1
 obtain⟨hC,eC⟩:∃ hC,hC=h1.push (.cells true 1 z32):=⟨_,rfl⟩
 have alC:Qba (E b).toEnv 23 h1=some (.pointer (some ⟨h1.next,0,none⟩),hC):=by rw[eC];exact Vr b h1
 have gC:hC.get h1.next=some (.cells true 1 z32):=by rw[eC,Heap.get_push,if_pos rfl]
 have lC:=Heap.get_lt gC
 obtain⟨hD,eD⟩:∃ hD,hD=hC.set h1.next (some (.cells true 1 (dg.map u8v))):=⟨_,rfl⟩
 have stD:Uj hC h1.next 0 (dg.map u8v)=some hD:=by
  rw[W5 gC (by simp[z32,dl]),eD]
  congr 4
  simp[z32,dl]
 have gD:hD.get h1.next=some (.cells true 1 (dg.map u8v)):=by rw[eD,Heap.get_set _ _ _ _ lC,if_pos rfl]
 have aD:Old h1 hD:=by rw[eD,eC];exact(Old.push _ _).set _ (Nat.le_refl _) (by rw[<- eC];exact lC)
 have a0D:=a01.trans aD
 have oD:Own hD h1.next 1 (.slice (some ⟨h1.next,0,none⟩) 32 32) 32 (dg.map u8v):=Own.new (Nat.le_refl _) gD (by simp[dl]) (by decide) (.inr rfl)
 obtain⟨v',h2,k1,k2,k3⟩:=Q3d (T30 b) (tx:=30) (m:=d.length) Qgp (by omega) oD aD.1 (Xpp (T30 b) Qgp (sv.old a0D)) (by simp) (by rw[Qxt];omega) (by omega)
 have a2:Old h1 h2:=k3.old aD oD
 simp[Vr,-Vr,alC,dl,stD,Yat,k1]
 have s2:SN h2 v' (dg++d):=by
  have:=k2.sl
  rw[SN,List.length_append,List.map_append,dl]
  exact this
 have a02:=a01.trans a2
 refine Yp3 b (Qx5 (Laid.old laid a02)) s2 (by simp[dl];omega) _ fun h3 a3 => ?_
 obtain⟨dt,hdt⟩:∃ dt,dt=Bl.keyed1 [] (dg++d):=⟨_,rfl⟩
 have tl:dt.length=32:=by rw[hdt];exact Qls _
 have te:dt=Zuu l d:=by rw[hdt,hdg];rfl
 rw[<- hdt]
 have a03:=a02.trans a3
 have g3:h3.get h.next=some (.cells true 1 z32):=(((aB.trans a1).trans a2).trans a3).get gA
 have l3:=Heap.get_lt g3
 have st3:Uj h3 h.next 0 (dt.map u8v)=some (h3.set h.next (some (.cells true 1 (dt.map u8v)))):=by
  rw[W5 g3 (by simp[z32,tl])]
  congr 4
  simp[z32,tl]
 have ld3:Qb9 (h3.set h.next (some (.cells true 1 (dt.map u8v)))) h.next 0 32=some (.agg ⟨dt.map u8v⟩):=by
  rw[Jx (by rw[Heap.get_set _ _ _ _ l3,if_pos rfl]) (by simp[tl]),List.drop_zero,List.take_of_length_le (by simp[tl])]
 simp[Vr,Uh,tl,st3,ld3]
 rw[te]
 exact hk _ (a03.set _ (Nat.le_refl _) l3)
end
def dgF(s:List Nat)(t:PTx):List Nat:=if Qla t=0 then Zuu s (Yv9 (X59 t))else List.replicate 32 0
theorem Q5w(s:List Nat)(t:PTx):(dgF s t).length=32:=by
 unfold dgF
 split
 ·exact Yqf _ _
 ·simp
theorem Q3c(l:List Nat)(h:∀ n ∈ l,n < 256):Bytes (Qlz l):=fun z hz=>by
 obtain⟨n,hn,rfl⟩:=List.mem_map.1 hz
 have:=h n hn
 show(0:Int)<=(n:Int)/\(n:Int) < 256
 omega
def PtB(p:Pt):Prop:=∀ n ∈ p.id,n < 256
theorem Y9r{t:PTx}(hi:∀ x ∈ t.ins,PtB x.pt)(ho:∀ o ∈ t.outs,Bytes o.script):Bytes (X59 t):=by
 have fm:∀ {A:Type} (g:A->List Int) (l:List A),(∀ x ∈ l,Bytes (g x))->Bytes (l.flatMap g):=fun g l h z hz=>by
  obtain⟨x,hx,hz⟩:=List.mem_flatMap.1 hz
  exact h x hx z hz
 unfold X59
 refine Qps (Qps (Qps (Q3g _) (fm _ _ fun x hx => ?_)) (Qps (Q3g _) (fm _ _ fun o h => ?_))) (Q3g _)
 ·exact Qps (Q3c _ (hi x hx)) (Q3g _)
 ·exact Qps (Q3g _) (Qps (Q3g _) (ho o h))
section
attribute [local simp] Qst Q89 Qlk V2 Qmq Js Qi8 Jn
theorem Zcg(b:Nat){h:Heap}(laid:Ab.LaidIn h laidAll){s:ByteArray}{l:List Nat}(hs:Xla s=l.map u8v)(hl:l.length < 1000){iv ov:Value}{ins:List InV}{outs:List OutV}{lock:Int}(si:Ins h iv ins)(so:Outs h ov outs)(hp:∀ x ∈ ins,PtB x.pt)(K:KP)
  (hk:∀ h',Old h h'->K (.ret (.agg ⟨(dgF l (ptx ins outs lock)).map u8v⟩)) h'):FK b 34 [.string s,.agg ⟨txC iv ov lock⟩] h K:=by
 refine FF b (Qlk b) Ynz Zan Y3e rfl ?_
 obtain⟨hA,eA,aA,gA⟩:=Qoa h ((txC iv ov lock))
 have nA:=Q4v eA
 have bx:=Qr2 eA
 obtain⟨hB,eB,aB,gB⟩:=Qoa hA z32
 have alB:Qba (E b).toEnv 23 hA=some (.pointer (some ⟨hA.next,0,none⟩),hB):=by rw[eB];exact Vr b hA
 have aAB:=aA.trans aB
 have ldt:Qb9 hB h.next 0 3=some (.agg ⟨txC iv ov lock⟩):=by rw[Jx (aB.get gA) (by simp[txC])];rfl
 simp[Vr,bx,-Vr,alB,ldt]
 have fin:∀ (h1:Heap) (dt:List Nat),Old hB h1->dt.length=32->∃ h2,Uj h1 hA.next 0 (dt.map u8v)=some h2/\Qb9 h2 hA.next 0 32=some (.agg ⟨dt.map u8v⟩)/\Old h h2:=by
  intro h1 dt a1 tl
  have g3:=a1.get gB
  have l3:=Heap.get_lt g3
  refine⟨h1.set hA.next (some (.cells true 1 (dt.map u8v))),?_,?_,(aAB.trans a1).set _ (by omega) l3⟩
  ·rw[W5 g3 (by simp[z32,tl])]
   congr 4
   simp[z32,tl]
  ·rw[Jx (by rw[Heap.get_set _ _ _ _ l3,if_pos rfl]) (by simp[tl]),List.drop_zero,List.take_of_length_le (by simp[tl])]
 refine Zr8 b (Laid.old laid aAB) (si.old aAB) (so.old aAB) _ (fun h1 hc a1 => ?_) (fun v h1 hc o1 a1 => ?_)
 ·obtain⟨zd,ezd⟩:∃ zd:List Nat,zd=List.replicate 32 0:=⟨_,rfl⟩
  obtain⟨h2,k1,k2,k3⟩:=fin h1 zd a1 (by rw[ezd];simp)
  have zh:Qg1 (E b).toEnv 23 []=some (.agg ⟨zd.map u8v⟩):=by rw[ezd];kernel_rfl
  have rl:zd.length=32:=by rw[ezd];simp
  simp[Vr,hc,zh,rl,k1,Uh,k2]
  have:=hk h2 k3
  unfold dgF at this
  rw[if_neg hc,<- ezd]at this
  exact this
 ·have k:=X0p hc
  have kl:=Y2l k
  have kb:Bytes (X59 (ptx ins outs lock)):=Y9r (fun x hx=>by
   obtain⟨y,hy,rfl⟩:=List.mem_map.1 hx
   exact hp y hy) (fun o ho=>by
   obtain⟨y,hy,rfl⟩:=List.mem_map.1 ho
   exact(so.a y hy).b)
  simp[Vr]
  refine Zgu b (Laid.old laid (aAB.trans a1)) hs hl (SN.of o1.sl kb) (by simp;omega) _ fun h2 a2 => ?_
  obtain⟨h3,k1,k2,k3⟩:=fin h2 _ (a1.trans a2) (Yqf l ((X59 (ptx ins outs lock)).map Int.toNat))
  simp[Vr,Uh,Yqf,k1,k2]
  have:=hk h3 k3
  unfold dgF at this
  rw[if_pos hc]at this
  exact this
end
def Qzz:List Nat:=[115,105,103,110]
section
attribute [local simp] Xax X6c Vl V2 Qlk Jn
theorem Yz9(b:Nat){h:Heap}(laid:Ab.LaidIn h laidAll){iv ov:Value}{ins:List InV}{outs:List OutV}{lock:Int}(si:Ins h iv ins)(so:Outs h ov outs)(hp:∀ x ∈ ins,PtB x.pt)(K:KP)
  (hk:∀ h',Old h h'->K (.ret (.agg ⟨(dgF Qzz (ptx ins outs lock)).map u8v⟩)) h'):FK b 30 [.agg ⟨txC iv ov lock⟩] h K:=by
 refine FF b (Vl b) Yib Y9y Y0a rfl ?_
 obtain⟨hA,eA,aA,gA⟩:=Qoa h ((txC iv ov lock))
 have nA:=Q4v eA
 have bx:=Qr2 eA
 obtain⟨hB,eB,aB,gB⟩:=Qoa hA z32
 have alB:Qba (E b).toEnv 23 hA=some (.pointer (some ⟨hA.next,0,none⟩),hB):=by rw[eB];exact Vr b hA
 have aAB:=aA.trans aB
 have ldt:Qb9 hB h.next 0 3=some (.agg ⟨txC iv ov lock⟩):=by rw[Jx (aB.get gA) (by simp[txC])];rfl
 simp[Vr,bx,-Vr,alB,ldt]
 refine Zcg b (l:=Qzz) (Laid.old laid aAB) rfl (by simp[Qzz]) (si.old aAB) (so.old aAB) hp _ fun h1 a1 => ?_
 obtain⟨dt,hdt⟩:∃ dt,dt=dgF Qzz (ptx ins outs lock):=⟨_,rfl⟩
 have tl:dt.length=32:=by rw[hdt];exact Q5w _ _
 rw[<- hdt]at hk ⊢
 have g3:=a1.get gB
 have l3:=Heap.get_lt g3
 have st3:Uj h1 hA.next 0 (dt.map u8v)=some (h1.set hA.next (some (.cells true 1 (dt.map u8v)))):=by
  rw[W5 g3 (by simp[z32,tl])]
  congr 4
  simp[z32,tl]
 have ld3:Qb9 (h1.set hA.next (some (.cells true 1 (dt.map u8v)))) hA.next 0 32=some (.agg ⟨dt.map u8v⟩):=by
  rw[Jx (by rw[Heap.get_set _ _ _ _ l3,if_pos rfl]) (by simp[tl]),List.drop_zero,List.take_of_length_le (by simp[tl])]
 simp[Vr,Uh,tl,st3,ld3]
 exact hk _ ((aAB.trans a1).set _ (by omega) l3)
end
end Go.Proofs.YtgjlmnnggnajmaaGreatDoor
end
