import Derived.Test.YtmgonkaadhbnpaaGreatDoorAbA
import Derived.Test.YtmgonkaadhbnpaaGreatDoorAbE
set_option linter.all false
open List renaming length→L
open Option renaming some→U,none→O
open Bool renaming true→Y,false→J
open Go renaming Value→V
open Go.Value renaming int→I,slice→M
open Go.IntKind renaming i64→X
open Go.Ab.Blk renaming cells→S
namespace Go.Ab.Bl
def w32(x:Nat):Nat:=Nat.mod x 4294967296
def rot(x n:Nat):Nat:=w32 (Nat.lor (w32 (w32 (Nat.mul x (Nat.pow 2 (Nat.sub 32 n))))) (w32 (Nat.div x (Nat.pow 2 n))))
def xr(a b:Nat):Nat:=w32 (Nat.xor (w32 a) (w32 b))
def orr(a b:Nat):Nat:=w32 (Nat.lor (w32 a) (w32 b))
def wd(l:List Nat)(i:Nat):Nat:=l.getD i 0
def half(ws:List Nat)(a b c d x s t:Nat):List Nat :=
 let j:=ws.set a (w32 (wd ws a+w32 (wd ws b+x)))
 let C:=j.set d (rot (xr (wd j d) (wd j a)) s)
 let T:=C.set c (w32 (wd C c+wd C d))
 T.set b (rot (xr (wd T b) (wd T c)) t)
def begins:List Nat:=[1779033703,3144134277,1013904242,2773480762,1359893119,2600822924,528734635,1541459225]
def orders:List (List Nat):=[[0,1,2,3,4,5,6,7,8,9,10,11,12,13,14,15],[14,10,4,8,9,15,13,6,1,12,0,2,11,7,5,3],[11,8,12,0,5,2,15,13,10,14,3,6,7,1,9,4],[7,9,3,1,13,12,11,14,2,6,5,10,4,0,15,8],[9,0,5,7,2,4,10,15,14,1,11,12,6,8,3,13],[2,12,6,10,0,11,8,3,4,13,7,5,15,14,1,9],[12,5,1,15,14,13,4,10,0,7,6,3,9,2,8,11],[13,11,7,14,12,1,3,9,5,0,15,4,8,6,2,10],[6,15,14,9,11,3,0,8,12,2,13,7,1,4,10,5],[10,2,8,4,7,6,1,5,15,11,9,14,3,12,13,0]]
def places:List (List Nat):=[[0,4,8,12],[1,5,9,13],[2,6,10,14],[3,7,11,15],[0,5,10,15],[1,6,11,12],[2,7,8,13],[3,4,9,14]]
def step(ms o ws:List Nat)(k:Nat):List Nat:=match places[k]? with
 | some [a,b,c,d]=>half (half ws a b c d (wd ms (wd o (2*k))) 16 12) a b c d (wd ms (wd o (2*k+1))) 8 7
 | _=>ws
def round(ms o ws:List Nat):Nat->List Nat
 | 0=>ws
 | k+1=>step ms o (round ms o ws k) k
def rounds(ms ws:List Nat):Nat->List Nat
 | 0=>ws
 | r+1=>round ms (orders.getD r []) (rounds ms ws r) 8
def le4(a b c d:Nat):Nat:=orr (orr (orr (w32 a) (w32 (Nat.mul (w32 b) 256))) (w32 (Nat.mul (w32 c) 65536))) (w32 (Nat.mul (w32 d) 16777216))
def LE(l:List Nat)(n:Nat):Nat:=le4 (wd l n) (wd l (n+1)) (wd l (n+2)) (wd l (n+3))
def words(l:List Nat):List Nat:=(List.range 16).map fun j=>LE l (4*j)
def first(hs:List Nat)(count:Nat)(last:Bool):List Nat :=
 let a:=((hs++begins).set 12 (xr 1359893119 (w32 count))).set 13 (xr 2600822924 (w32 (Nat.div count 4294967296)))
 match last with
 | true=>a.set 14 3766232660
 | false=>a
def outL(hs ws:List Nat):List Nat:=(List.range 8).map fun i=>xr (wd hs i) (xr (wd ws i) (wd ws (i+8)))
def take(hs l:List Nat)(count:Nat)(last:Bool):List Nat:=outL hs (rounds (words l) (first hs count last) 10)
def out(hs:List Nat):List Nat:=(List.range 32).map fun i=>wd hs (i / 4) / 2 ^ (8*(i % 4)) % 256
def blk(l:List Nat):List Nat:=l.take 64++List.replicate (64-L l) 0
def blocks:Nat->List Nat->List Nat->Nat->List Nat
 | 0,h,_,_=>h
 | n+1,h,text,count =>
  match Nat.ble (L text) 64 with
  | true=>take h (blk text) (count+L text) Y
  | false=>blocks n (take h (blk text) (count+64) J) (text.drop 64) (count+64)
def start(k:Nat):List Nat:=begins.set 0 (Nat.xor 1779033703 (Nat.xor 16842784 (Nat.shiftLeft k 8)))
def textOf(key b:List Nat):List Nat:=match key with
 | []=>b
 | _=>key++(List.replicate (64-L key) 0++b)
def keyed1(key b:List Nat):List Nat:=out (blocks (L (textOf key b)).succ (start (L key)) (textOf key b) 0)
def keyed(key b:List Nat):List Nat:=match Nat.ble (L key) 32 with
 | true=>keyed1 key b
 | false=>keyed1 (keyed1 [] key) b
end Go.Ab.Bl
noncomputable section
namespace Go.Ab
def We4(a b:Int):Int:=IntKind.wrap .u32 (a+b)
def sW(a b:Int):Int:=IntKind.wrap .u32 ((BitVec.ofInt 32 a ^^^ BitVec.ofInt 32 b).toNat:Nat)
def Wea(x:Int)(s:Nat):Int:=IntKind.wrap .u32 ((BitVec.ofInt 32 (IntKind.wrap .u32 (x*2 ^ s)) ||| BitVec.ofInt 32 (x.fdiv (2 ^ (32-s)))).toNat:Nat)
def uP(a b:Int):Int:=IntKind.wrap .u32 ((BitVec.ofInt 32 a ||| BitVec.ofInt 32 b).toNat:Nat)
def y9(n:Nat):Int:=IntKind.wrap .u32 (.ofNat n)
def Bp(a:Int)(s:Nat):Int:=IntKind.wrap .u32 (a*2 ^ s)
def ZN(a b c d:Nat):Int:=uP (uP (uP (y9 a) (Bp (y9 b) 8)) (Bp (y9 c) 16)) (Bp (y9 d) 24)
def xh(n:Nat):IntKind.wrap .u32 (n:Int)=((Bl.w32 n:Nat):Int):=by
 show(n:Int) % (2 ^ 32:Int)=((n % 4294967296:Nat):Int);omega
def Np(a b:Nat):We4 (.ofNat a) (.ofNat b)=.ofNat (Bl.w32 (Nat.add a b)):=by
 show IntKind.wrap .u32 ((a:Int)+(b:Int))=_;rw[<- Int.natCast_add,xh];rfl
def Ci(n:Nat):(BitVec.ofInt 32 (n:Int)).toNat=Bl.w32 n:=by
 rw[BitVec.toNat_ofInt];show((n:Int) % ((2 ^ 32:Nat):Int)).toNat=n % 4294967296;omega
def NJ(a b:Nat):sW (.ofNat a) (.ofNat b)=.ofNat (Bl.xr a b):=by
 show IntKind.wrap .u32 (((BitVec.ofInt 32 (a:Int) ^^^ BitVec.ofInt 32 (b:Int)).toNat:Nat):Int)=_;rw[xh,BitVec.toNat_xor,Ci,Ci];rfl
def Ump(x s:Nat)(hs:s<=32):Wea (.ofNat x) s=.ofNat (Bl.rot x (32-s)):=by
 show IntKind.wrap .u32 (((BitVec.ofInt 32 (IntKind.wrap .u32 ((x:Int)*2 ^ s)) ||| BitVec.ofInt 32 ((x:Int).fdiv (2 ^ (32-s)))).toNat:Nat):Int)=_;have j:(x:Int)*2 ^ s=((x*2 ^ s:Nat):Int):=jA
 have C:(x:Int).fdiv (2 ^ (32-s))=((x / 2 ^ (32-s):Nat):Int):=by
  grind
 rw[j,C,xh,xh,fM,Ci,Ci];have : Nat.sub 32 (32-s)=s:=by grind
 unfold Bl.rot;rw[this];rfl
def U41(a b:Nat):uP (.ofNat a) (.ofNat b)=.ofNat (Bl.orr a b):=by
 show IntKind.wrap .u32 (((BitVec.ofInt 32 (a:Int) ||| BitVec.ofInt 32 (b:Int)).toNat:Nat):Int)=_;rw[xh,fM,Ci,Ci];rfl
def Uwf(n:Nat):y9 n=.ofNat (Bl.w32 n):=xh n
def Uzf(a s:Nat):Bp (.ofNat a) s=.ofNat (Bl.w32 (Nat.mul a (2 ^ s))):=by
 show IntKind.wrap .u32 ((a:Int)*2 ^ s)=_;have j:(a:Int)*2 ^ s=((a*2 ^ s:Nat):Int):=jA
 rw[j,xh];rfl
def U0s(a b c d:Nat):ZN a b c d=.ofNat (Bl.le4 a b c d):=by
 simp only[ZN,Uwf,Uzf,U41,Bl.le4]
 try rfl
def U1e(a:Nat):Int.fdiv (.ofNat a) (2 ^ 32)=((Nat.div a 4294967296:Nat):Int):=by
 show Int.fdiv (a:Int) (2 ^ 32)=_;rw[fQ _ kA]
 first | rfl | (show(a:Int) / (2 ^ 32)=((a / 4294967296:Nat):Int);omega)
def iG(n:Nat):V:=.int .u32 (.ofNat n)
def ET(c:List V):Prop:=∀ v ∈ c,flat v=Y/\v.oneCell'=Y
def LaidIn(h:N)(laid:List (Nat × List V)):Prop:=∀ x ∈ laid,h.A x.1=U (S J 0 x.2)
def dk(n:Nat):V:=.int .u8 (.ofNat n)
def lF(n:Nat):V:=I X (.ofNat n)
def B9(s:St)(d:Option Tmp)(v:V)(h:N):(s.put d v h).h=h:=by cases d <;> rfl
section
variable{P:Program}{G:Bs}{M_:Ren}{h h1:N}{w:World}
def c_.sub(H:c_ G M_ h w)(hn:h1.Q=h.Q)(hb:∀ b x,h1.A b=U x->h.A b=U x):c_ G M_ h1 w:=by
 have T:∀ b,h1.own b=Y->h.own b=Y:=fun b j=>by
  obtain⟨x,C,hk⟩:=Iy j;rw[wJ (hb b x C)];exact hk
 have hc:∀ b,h1.live b=Y->h.live b=Y:=fun b j=>by
  unfold N.live at j;split at j
  next x C=>rw[IC (hb b x C)];exact j
  ·cases j
 refine⟨fun b p hp=>by rw[hn];exact H.dom b p hp,fun b p x hp C=>H.fits b p x hp (hb b x C),fun b c p q hp hq h2 j hl=>H.apart b c p q hp hq h2 (T b j) (hc c hl),fun g hg=>⟨(H.glob g hg).1,?_⟩,by rw[hn];exact H.globs,fun b x C => ?_,fun b p x hp C=>H.base b p x hp (hb b x C),H.bsz⟩
 ·cases j:h1.own g with
  | false=>rfl
  | true=>have:=T g j;rw[(H.glob g hg).2]at this;cases this
 ·rw[hn];exact H.wf b x (hb b x C)
end
end Go.Ab
