/-
  The script's machine: what lies where; must, pop, push, says, off.
-/
import Derived.Test.YtgeeklmjfbiieaaDoorBlB
import Derived.Test.YtgeeklmjfbiieaaDoorFactsR
set_option linter.all false
noncomputable section
namespace Go.Proofs.YtgeeklmjfbiieaaDoor
open Go Go.Ab
set_option maxRecDepth 100000
structure Menv where
 nk:Value
 dig:List Value
 lk:Int
 hd:dig.length=32
def Menv.cells(e:Menv):List Value:=e.nk::e.dig ++ [.int .i64 e.lk]
theorem Menv.len(e:Menv):e.cells.length=34:=by simp[Menv.cells,e.hd]
structure Br where
 off:Bool
 dead:Bool
 turned:Bool
def Br.cells(x:Br):List Value:=[.bool x.off,.bool x.dead,.bool x.turned]
def Wk(l:List Br):List Value:=l.flatMap Br.cells
theorem Qpa(l:List Br):(Wk l).length=l.length*3:=by
 induction l with
 | nil=>rfl
 | cons x l ih=>simp[Wk,Br.cells]at ih ⊢;omega
structure Itm (h:Heap) (MB:Nat→Prop) (v:Value) (x:List Int):Prop where
 sb:SB h v x
 by8:Bytes x
 out:∀ c,Vn v=some c→¬ MB c
structure Mv (MB MB':Nat→Prop) (h h':Heap):Prop where
 next:h.next≤h'.next
 same:∀ c,c < h.next→¬ MB c→h'.get c=h.get c
 sub:∀ c,MB' c→MB c∨h.next≤c
theorem Mv.refl(MB:Nat→Prop)(h:Heap):Mv MB MB h h:=⟨Nat.le_refl _,fun _ _ _=>rfl,fun _ h => .inl h⟩
theorem Mv.trans{A B C:Nat→Prop}{h h' h'':Heap}(a:Mv A B h h')(c:Mv B C h' h''):Mv A C h h'' :=
  ⟨Nat.le_trans a.next c.next,fun k hk hn=>by
    rw[c.same k (Nat.lt_of_lt_of_le hk a.next) (fun hb=>by
      rcases a.sub k hb with h | h
      · exact hn h
      · omega),a.same k hk hn],
   fun k hk=>by
    rcases c.sub k hk with h | h
    · exact a.sub k h
    · exact .inr (Nat.le_trans a.next h)⟩
theorem Mv.old{MB:Nat→Prop}{h h':Heap}(a:Old h h'):Mv MB MB h h':=⟨a.1,fun c hc _=>a.2 c hc,fun _ h => .inl h⟩
theorem Itm.mv{MB MB':Nat→Prop}{h h':Heap}{v:Value}{x:List Int}(i:Itm h MB v x)(m:Mv MB MB' h h'):Itm h' MB' v x :=
 ⟨i.sb.keep fun c hc hl=>m.same c hl (i.out c hc),i.by8,fun c hc hm=>by
  rcases m.sub c hm with h | h
  ·exact i.out c hc h
  ·have:=i.sb.blk hc;omega⟩
structure MRow (h:Heap) (MB:Nat→Prop) (μ:Nat) (e:Menv) (ps:List (Value × List Int)) (op:List Br) (sv ov:Value) (z:Nat):Prop where
 at':h.get μ=some (.cells true z (e.cells ++ [sv,ov]))
 mb:MB μ
 st:Own h 0 1 sv ps.length (ps.reverse.map (·.1))
 op:Own h 0 3 ov op.length (Wk op.reverse)
 ms:∀ c,Vn sv=some c→MB c∧c≠μ
 mo:∀ c,Vn ov=some c→MB c∧c≠μ∧Vn sv≠some c
structure Mach (h:Heap) (MB:Nat→Prop) (μ:Nat) (e:Menv) (ps:List (Value × List Int)) (op:List Br):Prop where
 row:∃ sv ov z,MRow h MB μ e ps op sv ov z
 items:∀ p ∈ ps,Itm h MB p.1 p.2
 low:∀ c,MB c→c < h.next
theorem X46(e:Menv)(a c:Value):(e.cells ++ [a,c])[34]? = some a:=by rw[List.getElem?_append_right (by rw[e.len];omega),e.len];rfl
theorem X0e(e:Menv)(a c:Value):(e.cells ++ [a,c])[35]? = some c:=by rw[List.getElem?_append_right (by rw[e.len];omega),e.len];rfl
theorem X17(e:Menv)(a c x:Value):(e.cells ++ [a,c]).set 34 x=e.cells ++ [x,c]:=by rw[List.set_append_right _ _ (by rw[e.len];omega),e.len];rfl
theorem X21(e:Menv)(a c x:Value):(e.cells ++ [a,c]).set 35 x=e.cells ++ [a,x]:=by rw[List.set_append_right _ _ (by rw[e.len];omega),e.len];rfl
theorem MRow.c34{h:Heap}{MB:Nat→Prop}{μ z:Nat}{e:Menv}{ps:List (Value × List Int)}{op:List Br}{sv ov:Value}(m:MRow h MB μ e ps op sv ov z):Vs h μ 34=some sv:=by rw[Qas m.at',X46]
theorem MRow.c35{h:Heap}{MB:Nat→Prop}{μ z:Nat}{e:Menv}{ps:List (Value × List Int)}{op:List Br}{sv ov:Value}(m:MRow h MB μ e ps op sv ov z):Vs h μ 35=some ov:=by rw[Qas m.at',X0e]
theorem MRow.s34{h:Heap}{MB:Nat→Prop}{μ z:Nat}{e:Menv}{ps:List (Value × List Int)}{op:List Br}{sv ov:Value}(m:MRow h MB μ e ps op sv ov z)(x:Value):Uv h μ 34 [x]=some (h.set μ (some (.cells true z (e.cells ++ [x,ov])))):=by rw[Qd1 m.at' (by simp[e.len]),X17]
theorem MRow.s35{h:Heap}{MB:Nat→Prop}{μ z:Nat}{e:Menv}{ps:List (Value × List Int)}{op:List Br}{sv ov:Value}(m:MRow h MB μ e ps op sv ov z)(x:Value):Uv h μ 35 [x]=some (h.set μ (some (.cells true z (e.cells ++ [sv,x])))):=by rw[Qd1 m.at' (by simp[e.len]),X21]
theorem Qb1(a:Addr):Qvf (.pointer (some a))=some (.pointer (some a)):=Eq.trans rfl rfl
def pe(z:Int):List PanicEntry:=[{v:=.iface 35 (.int .i64 z),recovered:=false}]
section
attribute [local simp] Qa Yh Xh X6 Yj Q5 Qd Xg Qq Qe Xi Qk Y1 Z9 Z2 aop X4 nth Ab.g0 gv gs Qx X2 aev evs evO X7 Tr.get_put St.put Tm.put flat flatA Z3 Xe Xc Xf Xa Xb Xd X9 Xj X8 Qt Qu Q6 X5 Qo Qf Q2 Qp Qg Q7 Yf Yn Ye Y0 Yi.putAll Xy X0 Qb Q3 Qy Qz X1 Q4 Qc Qw
theorem Qs2(b:Nat)(h:Heap)(z:Int)(K:AEnd→Heap→Prop)(hk:K (.ret (.tuple #[])) h):FnK Tryd.prog (E b).G 50 [.bool true,.int .i64 z] h K:=by
 refine Qal (E b) (Wp b) (V2 b) Vm (Wv b) (Qak b) (Qa b) Qrr Q0m Qxf rfl ?_
 simp[Qij,Qxj,X2c]
 exact hk
theorem Qm9(b:Nat)(h:Heap)(z:Int)(K:AEnd→Heap→Prop)(hk:K (.panic (pe z)) h):FnK Tryd.prog (E b).G 50 [.bool false,.int .i64 z] h K:=by
 refine Qal (E b) (Wp b) (V2 b) Vm (Wv b) (Qak b) (Qa b) Qrr Q0m Qxf rfl ?_
 simp[Qij,Qxj,X2c]
 exact hk
theorem Qk7(b:Nat){h:Heap}{MB:Nat→Prop}{μ:Nat}{e:Menv}{op:List Br}(M:Mach h MB μ e [] op)(K:AEnd→Heap→Prop)(hk:K (.panic (pe 16)) h):FnK Tryd.prog (E b).G 86 [.pointer (some ⟨μ,0,none⟩)] h K:=by
 refine Qal (E b) (Wp b) (V2 b) Vm (Wv b) (Qak b) (Q0 b) Qg9 Qio Qhz rfl ?_
 obtain⟨⟨sv,ov,z,r⟩, -, -⟩:=M
 have e0:∀ h1,Qib (E b).toEnv 43 sv h1=some (.int .i64 0):=fun h1=>Qdu (T43 b) r.st.sl
 simp[J0,Jh,Q0,Jx,Qeb,Jd,Yv,J5,Qbf,Zs,Qg0,Qb1,r.c34,e0]
 refine Qm9 b h 16 _ ?_
 simp[J0,Jh,Q0,Jx,Qeb,Jd,Yv,J5,Qbf,Zs,Qg0]
 exact hk
end
section
attribute [local simp] J0 Jh Q0 Jx Qeb Jd Yv Qa J5 Qbf Zs Qg0 Yh Z2 aop X4 nth Ab.g0 gv gs Qx X2 aev evs evO X7 Tr.get_put St.put Tm.put flat flatA Z3 Xe Xc Xf Xa Xb Xd X9 Xj X8 Qt Qu Xy X0 Qb Q3 Qy Qz X1 Q4 Qc Qw
theorem Qe3(b:Nat){h:Heap}{MB:Nat→Prop}{μ:Nat}{e:Menv}{v:Value}{x:List Int}{ps:List (Value × List Int)}{op:List Br}(M:Mach h MB μ e ((v,x)::ps) op)(hl:ps.length < 1000)(K:AEnd→Heap→Prop)(hk:∀ h',Mach h' MB μ e ps op→Mv MB MB h h'→h'.next=h.next→Itm h' MB v x→(∀ ov,Vs h μ 35=some ov→Vs h' μ 35=some ov)→K (.ret v) h'):FnK Tryd.prog (E b).G 86 [.pointer (some ⟨μ,0,none⟩)] h K:=by
 refine Qal (E b) (Wp b) (V2 b) Vm (Wv b) (Qak b) (Q0 b) Qg9 Qio Qhz rfl ?_
 obtain⟨⟨sv,ov,z,r⟩,its,low⟩:=M
 have e0:∀ h1,Qib (E b).toEnv 43 sv h1=some (.int .i64 ((ps.length:Int)+1)):=fun h1=>by have:=Qdu (T43 b) r.st.sl (h1:=h1);simpa using this
 have h0:(0:Int) < (ps.length:Int)+1:=by omega
 have hw:IntKind.i64.wrap (ps.length:Int)=(ps.length:Int):=Qbe (by omega) (by omega)
 obtain⟨bk,o,q1,q2,q3, -⟩:=Xiw (T43 b) Qcj r.st.sl (k:=.i64) (i:=(ps.length:Int)) (by omega) (by simp;try omega)
 have q4:Vs h bk o=some v:=by
  have:=q3 0 (by omega)
  simpa using this
 obtain⟨sv',t1,t2,t3⟩:=Xst (T43 b) Qcj (by omega) r.st (k:=.i64) (i:=(ps.length:Int)) (by omega) (by simp;try omega)
 have t2':Own h 0 1 sv' ps.length (ps.reverse.map (·.1)):=by simpa using t2
 have st:Wy (E b).toEnv 43 (.pointer (some ⟨μ,34,none⟩)) sv' h=_:=(X1b b h μ 34 sv' t2'.one).trans (r.s34 sv')
 simp[Xh,X6,Yj,Q5,Qd,Xg,Qq,Qe,Xi,Qk,Y1,Z9,Q6,X5,Qo,Qf,Q2,Qp,Qg,Q7,Yf,Yn,Ye,Y0,Yi.putAll,Qb1,r.c34,e0,h0]
 refine Qs2 b h 16 _ ?_
 simp[Xh,X6,Yj,Q5,Qd,Xg,Qq,Qe,Xi,Qk,Y1,Z9,Q6,X5,Qo,Qf,Q2,Qp,Qg,Q7,Yf,Yn,Ye,Y0,Yi.putAll]
 refine Qke [] (by simp) Qkp Qls Qkw (by simp[Ab.runT,Zk,Zb,ldv,Nat.testBit,U8,Zj,Z1,Zt,loadAt,Qa9,Vo,Qmt,Qb1,r.c34,e0,hw,q2,q4];exact⟨rfl,rfl⟩) ?_ ?_
 ·simp[Zk,Zb,Ux,ldv,Ab.runT,Zk,Zb,ldv,Nat.testBit,U8,Zj,Z1,Zt,loadAt,Qa9,Vo]
 simp[Xh,X6,Yj,Q5,Qd,Xg,Qq,Qe,Xi,Qk,Y1,Z9,Q6,X5,Qo,Qf,Q2,Qp,Qg,Q7,Yf,Yn,Ye,Y0,Yi.putAll]
 have hos:Xhf (some sv) (some sv)=true:=Xbn r.st
 refine Qke [] (by simp) Qju Qln Qkn (by simp[Ab.runT,Zk,Zb,ldv,Nat.testBit,U8,Zj,Z1,Zt,loadAt,Qa9,Vo,Qmk,Qmh,Qb1,r.c34,e0,hw,t1,st];exact⟨rfl,rfl⟩) ?_ ?_
 ·simp[Zk,Zb,Vi,ldv,Ab.runT,Zk,Zb,ldv,Nat.testBit,U8,Zj,Z1,Zt,loadAt,Qa9,Vo,hos,r.c34]
 simp[Xh,X6,Yj,Q5,Qd,Xg,Qq,Qe,Xi,Qk,Y1,Z9,Q6,X5,Qo,Qf,Q2,Qp,Qg,Q7,Yf,Yn,Ye,Y0,Yi.putAll]
 have hlt:=Heap.get_lt r.at'
 have mv:Mv MB MB h (h.set μ (some (.cells true z (e.cells ++ [sv',ov])))):=⟨Nat.le_refl _,fun c _ hn=>by rw[Heap.get_set _ _ _ _ hlt,if_neg (fun q=>hn (by subst q;exact r.mb))],fun _ h => .inl h⟩
 have kp:∀ c,c≠μ→(h.set μ (some (.cells true z (e.cells ++ [sv',ov])))).get c=h.get c:=fun c hc=>by rw[Heap.get_set _ _ _ _ hlt,if_neg (Ne.symm hc)]
 refine hk _ ⟨⟨sv',ov,z,?_⟩,fun p hp=>(its p (by simp[hp])).mv mv,low⟩ mv rfl ((its (v,x) (by simp)).mv mv) fun ov9 q=>by
  rw[r.c35]at q
  rw[Qas (by rw[Heap.get_set _ _ _ _ hlt,if_pos rfl]),X0e,q]
 exact⟨by rw[Heap.get_set _ _ _ _ hlt,if_pos rfl],r.mb,t2'.keep fun c hc _=>kp c (r.ms c (t3 ▸ hc)).2,r.op.keep fun c hc _=>kp c (r.mo c hc).2.1,fun c hc=>r.ms c (t3 ▸ hc),fun c hc=>by rw[t3];exact r.mo c hc⟩
end
section
attribute [local simp] Us Qav Qh Jx Qeb Jd Zo Qa Qg0 Yh Xh X6 Yj Q5 Qd Xg Qq Qe Xi Qk Y1 Z9 Z2 aop X4 nth Ab.g0 gv gs Qx X2 aev evs evO X7 Tr.get_put St.put Tm.put flat flatA Z3 Xe Xc Xf Xa Xb Xd X9 Xj X8 Qt Qu Q6 X5 Qo Qf Q2 Qp Qg Q7 Yf Yn Ye Y0 Yi.putAll Xy X0 Qb Q3 Qy Qz X1 Q4 Qc Qw
theorem Qq8(b:Nat){h:Heap}{MB:Nat→Prop}{μ:Nat}{e:Menv}{v:Value}{x:List Int}{ps:List (Value × List Int)}{op:List Br}(M:Mach h MB μ e ps op)(i:Itm h MB v x)(hl:ps.length < 16)(K:AEnd→Heap→Prop)(hk:∀ h' MB',Mach h' MB' μ e ((v,x)::ps) op→Mv MB MB' h h'→K (.ret (.tuple #[])) h'):FnK Tryd.prog (E b).G 83 [.pointer (some ⟨μ,0,none⟩),v] h K:=by
  refine Qal (E b) (Wp b) (V2 b) Vm (Wv b) (Qak b) (Qh b) Qfd Qi4 Qh7 rfl ?_
  obtain⟨⟨sv,ov,z,r⟩,its,low⟩:=M
  have e0:∀ h1,Qib (E b).toEnv 43 sv h1=some (.int .i64 (ps.length:Int)):=fun h1=>Qdu (T43 b) r.st.sl
  have h0:(ps.length:Int) < 16:=by omega
  have hv:=i.sb.one
  obtain⟨hnt,hcl⟩:=Q0z hv
  have hb:=Q7l (T43 b) (z:=1) Qcj (by omega) (by omega) hnt (ys:=[v]) (by rw[hcl]) rfl (h:=h)
  obtain⟨sv',h2,a1,a2,a3,a4⟩:=Qn5 (T43 b) Qcj (by omega) r.st (Nat.zero_le _) (ys:=[v]) rfl (by rw[Qzb];omega) (by omega)
  have hlt:=Heap.get_lt r.at'
  have g2:h2.get μ=some (.cells true z (e.cells ++ [sv,ov])):=by rw[a3.2 μ hlt fun q=>(r.ms _ q).2 rfl];exact r.at'
  have st:Wy (E b).toEnv 43 (.pointer (some ⟨μ,34,none⟩)) sv' h2=some (h2.set μ (some (.cells true z (e.cells ++ [sv',ov])))):=(X1b b h2 μ 34 sv' a2.one).trans (by rw[Qd1 g2 (by simp[e.len]),X17])
  simp[Qb1,r.c34,e0,h0]
  refine Qs2 b h 16 _ ?_
  simp[Qb1,r.c34,e0,h0,hb,a1,st]
  have hlt2:μ < h2.next:=Heap.get_lt g2
  have mv:Mv MB (fun c=>MB c∨Vn sv'=some c) h (h2.set μ (some (.cells true z (e.cells ++ [sv',ov])))) :=
    ⟨a3.1,fun c hc hn=>by rw[Heap.get_set _ _ _ _ hlt2,if_neg (fun q=>hn (by subst q;exact r.mb)),a3.2 c hc (fun q=>hn (r.ms c q).1)],
     fun c hc=>by
      rcases hc with hc | hc
      · exact .inl hc
      · rcases a4 c hc with q | q
        · exact .inl (r.ms c q).1
        · exact .inr q⟩
  have nμ:∀ c,Vn sv'=some c→c≠μ:=fun c hc=>by
    rcases a4 c hc with q | q
    · exact(r.ms c q).2
    · omega
  refine hk _ _ ⟨⟨sv',ov,z,?_⟩,?_,?_⟩ mv
  · refine⟨by rw[Heap.get_set _ _ _ _ hlt2,if_pos rfl],.inl r.mb,?_,?_,fun c hc=>⟨.inr hc,nμ c hc⟩,fun c hc=>⟨.inl (r.mo c hc).1,(r.mo c hc).2.1,fun q => ?_⟩⟩
    · have : Own h2 0 1 sv' ((v,x)::ps).length (((v,x)::ps).reverse.map (·.1)):=by simpa using a2
      exact this.keep fun c hc _=>by rw[Heap.get_set _ _ _ _ hlt2,if_neg (Ne.symm (nμ c hc))]
    · exact r.op.keep fun c hc hlt3=>by rw[Heap.get_set _ _ _ _ hlt2,if_neg (Ne.symm (r.mo c hc).2.1),a3.2 c hlt3 (r.mo c hc).2.2]
    · rcases a4 c q with q | q
      · exact(r.mo c hc).2.2 q
      · have:=r.op.out hc;omega
  · intro p hp
    simp only[List.mem_cons]at hp
    rcases hp with rfl | hp
    · exact i.mv mv
    · exact(its p hp).mv mv
  · rintro c (hc | hc)
    · exact Nat.lt_of_lt_of_le (low c hc) a3.1
    · exact a2.out hc
theorem Qoj(b:Nat){h:Heap}{MB:Nat→Prop}{μ:Nat}{e:Menv}{v:Value}{ps:List (Value × List Int)}{op:List Br}(M:Mach h MB μ e ps op)(hl:16≤ps.length)(K:AEnd→Heap→Prop)(hk:K (.panic (pe 16)) h):FnK Tryd.prog (E b).G 83 [.pointer (some ⟨μ,0,none⟩),v] h K:=by
 refine Qal (E b) (Wp b) (V2 b) Vm (Wv b) (Qak b) (Qh b) Qfd Qi4 Qh7 rfl ?_
 obtain⟨⟨sv,ov,z,r⟩,its,low⟩:=M
 have e0:∀ h1,Qib (E b).toEnv 43 sv h1=some (.int .i64 (ps.length:Int)):=fun h1=>Qdu (T43 b) r.st.sl
 have h0:¬ (ps.length:Int) < 16:=by omega
 simp[Qb1,r.c34,e0,h0]
 refine Qm9 b h 16 _ ?_
 simp
 exact hk
end
end Go.Proofs.YtgeeklmjfbiieaaDoor
end
noncomputable section
namespace Go.Proofs.YtgeeklmjfbiieaaDoor
open Go Go.Ab
set_option maxRecDepth 100000
def isT(x:List Int):Bool:=x.any fun z=>z != 0
def TLI(v:Value)(xs:List Int)(h:Heap)(k:Nat)(s:St):Prop:=∃ (t:Tr Value) (h1:Heap) (w:Value) (ys:List Int),s=⟨⟨21,t⟩,[],h1⟩∧t.get 0=some w∧t.get 1=some (.int .u8 0)∧SB h1 w ys∧Old h h1∧k=ys.length∧ys.length≤xs.length∧isT ys=isT xs∧t.get 4=some (.slice none 0 0)
section
attribute [local simp] Uw Qba Jg Qae Ys Yv Qaf Qiv Q35 Qah Qa0 Ym Wz Yh Xh X6 Yj Q5 Qd Xg Qq Qe Xi Qk Y1 Z9 Z2 aop X4 nth Ab.g0 gv gs Qx X2 aev evs evO X7 Tr.get_put St.put Tm.put flat flatA Z3 Xe Xc Xf Xa Xb Xd X9 Xj X8 Qt Qu Q6 X5 Qo Qf Q2 Qp Qg Q7 Yf Yn Ye Y0 Yi.putAll Xy X0 Qb Q3 Qy Qz X1 Q4 Qc Qw
theorem Xwf(b:Nat){h:Heap}{v:Value}{xs:List Int}(s:SB h v xs)(hn:xs.length < 1000000000)(K:AEnd→Heap→Prop)(hk:∀ w ys h',SB h' w ys→ys.length≤xs.length→isT ys=isT xs→(ys=[]∨ys.head? ≠ some 0)→Old h h'→K (.ret w) h'):FnK Tryd.prog (E b).G 124 [v,.int .u8 0] h K:=by
 refine Qal (E b) (Wp b) (V2 b) Vm (Wv b) (Qak b) (Jg b) Qrc Qx1 Qw9 rfl ?_
 simp
 refine Qs0 (TLI v xs h) xs.length ⟨_,h,v,xs,rfl,by simp,by simp,s,Old.refl _,rfl,Nat.le_refl _,rfl,by simp⟩ ?_
 rintro k s' ⟨t,h1,w,ys,rfl,t0,t1,sw,hold,rfl,hle,hT,t4⟩ _
 have e0:=fun h1=>Qdr (b:=b) (h1:=h1) sw
 cases ys with
 | nil =>
  simp at e0
  simp[t0,t1,t4,e0]
  exact hk _ [] h1 Sl.nil (by simp) hT (.inl rfl) hold
 | cons z r =>
  obtain⟨bk,off,hblk,hix,hld⟩:=Xp0 (b:=b) sw (k:=.i64) (i:=0) (z:=z) rfl
  have hpos:(0:Int) < (r.length:Int)+1:=by omega
  have hne:¬ ((r.length:Int)+1=0):=by omega
  simp at e0 hix
  by_cases hz:z=0
  ·subst hz
   obtain⟨w',h2,q1,q2,q3,q4,q5⟩:=Xhp (b:=b) sw (k:=.i64) (i:=1) (by omega) (by simp;omega)
   simp only[i8]at hld
   simp[t0,t1,t4,e0,hpos,hix,hld,q1]
   exact⟨r.length,by omega,_,h2,w',r,rfl,by simp,by simp[t1],by simpa using q2,hold.trans q3,rfl,by simp at hle;omega,by rw[← hT];simp[isT],by simp[t4]⟩
  ·simp only[i8]at hld
   simp[t0,t1,t4,e0,hpos,hne,hix,hld,hz]
   exact hk w (z::r) h1 sw hle hT (.inr (by simpa using hz)) hold
end
def TRI(v:Value)(xs:List Int)(h:Heap)(k:Nat)(s:St):Prop:=∃ (t:Tr Value) (w:Value) (ys:List Int),s=⟨⟨24,t⟩,[],h⟩∧t.get 0=some w∧t.get 1=some (.int .u8 0)∧SB h w ys∧k=ys.length∧ys.length≤xs.length∧isT ys=isT xs∧t.get 4=some (.slice none 0 0)
section
attribute [local simp] Ut Qay Ja Qa1 Ys Yv J5 Qaf Qiv Q35 Qa2 Wq Yh Xh X6 Yj Q5 Qd Xg Qq Qe Xi Qk Y1 Z9 Z2 aop X4 nth Ab.g0 gv gs Qx X2 aev evs evO X7 Tr.get_put St.put Tm.put flat flatA Z3 Xe Xc Xf Xa Xb Xd X9 Xj X8 Qt Qu Q6 X5 Qo Qf Q2 Qp Qg Q7 Yf Yn Ye Y0 Yi.putAll Xy X0 Qb Q3 Qy Qz X1 Q4 Qc Qw
theorem Xrh(b:Nat){h:Heap}{v:Value}{xs:List Int}(s:SB h v xs)(hn:xs.length < 1000000000)(K:AEnd→Heap→Prop)(hk:∀ w ys,SB h w ys→ys.length≤xs.length→isT ys=isT xs→K (.ret w) h):FnK Tryd.prog (E b).G 125 [v,.int .u8 0] h K:=by
 refine Qal (E b) (Wp b) (V2 b) Vm (Wv b) (Qak b) (Ja b) Qp1 Qu9 Qtg rfl ?_
 simp
 refine Qs0 (TRI v xs h) xs.length ⟨_,v,xs,rfl,by simp,by simp,s,rfl,Nat.le_refl _,rfl,by simp⟩ ?_
 rintro k s' ⟨t,w,ys,rfl,t0,t1,sw,rfl,hle,hT,t4⟩ _
 have e0:=fun h1=>Qdr (b:=b) (h1:=h1) sw
 rcases List.eq_nil_or_concat ys with rfl | ⟨r,z,rfl⟩
 ·simp at e0
  simp[t0,t1,t4,e0]
  exact hk _ [] sw (by simp) hT
 ·rw[List.concat_eq_append]at *
  obtain⟨bk,off,hblk,hix,hld⟩:=Xp0 (b:=b) sw (k:=.i64) (i:=r.length) (z:=z) (by simp)
  have hpos:(0:Int) < (r.length:Int)+1:=by omega
  have hwr:IntKind.i64.wrap (r.length:Int)=(r.length:Int):=by
   simp at hle
   exact Qbe (by omega) (by omega)
  simp at e0 hix
  simp only[i8]at hld
  by_cases hz:z=0
  ·subst hz
   obtain⟨w',q1,q2,q3⟩:=X1l (b:=b) sw (k:=.i64) (i:=(r.length:Int)) (by omega) (by simp;try omega)
   simp[t0,t1,t4,e0,hpos,hix,hld,hwr,q1]
   exact⟨r.length,by simp,_,w',r,rfl,by simp,by simp[t1],by simpa using q2,rfl,by simp at hle;omega,by rw[← hT];simp[isT],by simp[t4]⟩
  ·simp[t0,t1,t4,e0,hpos,hix,hld,hwr,hz]
   exact hk w (r ++ [z]) sw hle hT
end
section
attribute [local simp] Qc3 Qfn Qbg Ys Ym Qdm X0t Xio Qcr Qc2 Ja Jg Wt Xl1 Xl5 Uz Wa Uj Ur Yh Z2 aop X4 nth Ab.g0 gv gs Qx X2 aev evs evO X7 Tr.get_put St.put Tm.put flat flatA Z3 Xe Xc Xf Xa Xb Xd X9 Xj X8 Qt Qu Xy X0 Qb Q3 Qy Qz X1 Q4 Qc Qw
theorem X0k(b:Nat){h:Heap}{v:Value}{xs:List Int}(s:SB h v xs)(hn:xs.length < 1000000000)(K:AEnd→Heap→Prop)(hk:∀ w (n:Nat) h',(∀ h1,Qib (E b).toEnv 47 w h1=some (.int .i64 n))→decide (0 < n)=isT xs→Old h h'→K (.ret w) h'):FnK Tryd.prog (E b).G 91 [v,.string ⟨⟨[0]⟩⟩] h K:=by
 refine Qal (E b) (Wp b) (V2 b) Vm (Wv b) (Qak b) (Qbg b) Xah Xk3 Xgw rfl ?_
 have e0:=fun h1=>Qdr (b:=b) (h1:=h1) s
 have e2:Xj9 (E b).toEnv 9 (.string ⟨⟨[0]⟩⟩) (.int .i64 0)=some (.int .u8 0):=by kernel_rfl
 have e3:Qa3 (binOp .eql 9 (.string ⟨⟨[0]⟩⟩) (.string ⟨⟨[]⟩⟩))=some (.bool false):=by kernel_rfl
 have e4:(ByteArray.mk ⟨[0]⟩).size=1:=by rfl
 cases xs with
 | nil =>
  simp at e0
  simp[Xh,X6,Yj,Q5,Qd,Xg,Qq,Qe,Xi,Qk,Y1,Z9,Q6,X5,Qo,Qf,Q2,Qp,Qg,Q7,Yf,Yn,Ye,Y0,Yi.putAll,e0]
  exact hk _ 0 h (fun _=>by kernel_rfl) (by simp[isT]) (Old.refl _)
 | cons z tl =>
  have hne:¬ ((tl.length:Int)+1=0):=by omega
  simp at e0
  obtain⟨_,_,c1,n1,w1,ys1,rfl,rfl,s1,l1,t1⟩:=Xrh b s hn (fun r h' => ∃ w ys,r=.ret w∧h=h'∧SB h w ys∧ys.length≤(z::tl).length∧isT ys=isT (z::tl)) (fun w ys q1 q2 q3=>⟨w,ys,rfl,rfl,q1,q2,q3⟩)
  obtain⟨_,h2,c2,n2,w2,ys2,rfl,s2,l2,t2,hd2,old2⟩:=Xwf b s1 (by omega) (fun r h' => ∃ w ys,r=.ret w∧SB h' w ys∧ys.length≤ys1.length∧isT ys=isT ys1∧(ys=[]∨ys.head? ≠ some 0)∧Old h h') (fun w ys h' q1 q2 q3 q4 q5=>⟨w,ys,rfl,q1,q2,q3,q4,q5⟩)
  simp[Xh,X6,Yj,Q5,Qd,Xg,Qq,Qe,Xi,Qk,Y1,Z9,Q6,X5,Qo,Qf,Q2,Qp,Qg,Q7,Yf,Yn,Ye,Y0,Yi.putAll,e0,hne,e2,e3,e4]
  refine Qke [⟨125,[v,.int .u8 0],h,w1,h,true⟩,⟨124,[w1,.int .u8 0],h,w2,h2,true⟩] ?_ Qxv Q09 Qxy (by simp[Ab.runT,Zk,Zb,ldv,Nat.testBit,U8,Zj,Z1,Zt,loadAt,Qa9,Vo,Q1r,Q6e,Q4b,e2,Qy8];exact⟨rfl,rfl⟩) ?_ ?_
  ·simp only[List.mem_cons,List.not_mem_nil,or_false]
   rintro e (rfl | rfl)
   ·exact⟨c1,n1,fun _ _ _=>rfl⟩
   ·exact⟨c2,n2,fun _ c hc=>old2.2 c hc⟩
  ·simp[Zk,Zb,Uy,ldv,Ab.runT,Zk,Zb,ldv,Nat.testBit,U8,Zj,Z1,Zt,loadAt,Qa9,Vo,e2]
  simp[Xh,X6,Yj,Q5,Qd,Xg,Qq,Qe,Xi,Qk,Y1,Z9,Q6,X5,Qo,Qf,Q2,Qp,Qg,Q7,Yf,Yn,Ye,Y0,Yi.putAll]
  refine hk w2 ys2.length h2 (fun h1=>Qdr s2) ?_ old2
  rw[← t1,← t2]
  cases ys2 with
  | nil=>simp[isT]
  | cons y l =>
   have : y≠0:=by simpa using hd2
   simp[isT,this]
end
section
attribute [local simp] Qg6 Qrq Qn Qbg Ys Yv Yh Xh X6 Yj Q5 Qd Xg Qq Qe Xi Qk Y1 Z9 Z2 aop X4 nth Ab.g0 gv gs Qx X2 aev evs evO X7 Tr.get_put St.put Tm.put flat flatA Z3 Xe Xc Xf Xa Xb Xd X9 Xj X8 Qt Qu Q6 X5 Qo Qf Q2 Qp Qg Q7 Yf Yn Ye Y0 Yi.putAll Xy X0 Qb Q3 Qy Qz X1 Q4 Qc Qw
theorem Xc4(b:Nat){h:Heap}{v:Value}{xs:List Int}(s:SB h v xs)(hn:xs.length < 1000000000)(K:AEnd→Heap→Prop)(hk:∀ h',Old h h'→K (.ret (.bool (isT xs))) h'):FnK Tryd.prog (E b).G 53 [v] h K:=by
 refine Qal (E b) (Wp b) (V2 b) Vm (Wv b) (Qak b) (Qn b) Q0h Xb3 Q74 rfl ?_
 simp
 refine X0k b s hn _ fun w n h' q1 q2 q3 => ?_
 have e:decide ((0:Int) < (n:Int))=isT xs:=by rw[← q2];congr 1;simp
 simp[q1,-Int.natCast_pos,e]
 exact hk h' q3
end
theorem Mach.old{h h':Heap}{MB:Nat→Prop}{μ:Nat}{e:Menv}{ps:List (Value × List Int)}{op:List Br}(M:Mach h MB μ e ps op)(a:Old h h'):Mach h' MB μ e ps op:=by
 obtain⟨⟨sv,ov,z,r⟩,its,low⟩:=M
 refine⟨⟨sv,ov,z,?_⟩,fun p hp=>(its p hp).mv (Mv.old a),fun c hc=>Nat.lt_of_lt_of_le (low c hc) a.1⟩
 exact⟨a.get r.at',r.mb,r.st.keep fun c _ hc=>a.2 c hc,r.op.keep fun c _ hc=>a.2 c hc,r.ms,r.mo⟩
theorem Itm.nil{h:Heap}{MB:Nat→Prop}:Itm h MB (.slice none 0 0) []:=⟨Sl.nil,(fun _ h=>by cases h),(fun _ h=>by cases h)⟩
def Xzx(x:Bool):List Int:=if x then [1]else []
theorem Itm.new{h:Heap}{MB:Nat→Prop}(low:∀ c,MB c→c < h.next){xs:List Int}(hb:Bytes xs)(hl:xs.length < 1000000):Itm (h.push (.cells true 1 (xs.map i8))) MB (.slice (some ⟨h.next,0,none⟩) xs.length xs.length) xs:=by
 refine⟨(Own.new (n0:=0) (Nat.zero_le _) (by rw[Heap.get_push,if_pos rfl]) (by simp) (by unfold Qaz;omega) (.inr rfl)).sl,hb,fun c hc hm => ?_⟩
 cases hc
 exact absurd (low _ hm) (Nat.lt_irrefl _)
section
attribute [local simp] V1 Uf Qv Qh Yh Xh X6 Yj Q5 Qd Xg Qq Qe Xi Qk Y1 Z9 Z2 aop X4 nth Ab.g0 gv gs Qx X2 aev evs evO X7 Tr.get_put St.put Tm.put flat flatA Z3 Xe Xc Xf Xa Xb Xd X9 Xj X8 Qt Qu Q6 X5 Qo Qf Q2 Qp Qg Q7 Yf Yn Ye Y0 Yi.putAll Xy X0 Qb Q3 Qy Qz X1 Q4 Qc Qw
theorem Xu5(b:Nat){h:Heap}{MB:Nat→Prop}{μ:Nat}{e:Menv}{ps:List (Value × List Int)}{op:List Br}(x:Bool)(M:Mach h MB μ e ps op)(K:AEnd→Heap→Prop)(hk:ps.length < 16→∀ v h' MB',Mach h' MB' μ e ((v,Xzx x)::ps) op→Mv MB MB' h h'→K (.ret (.tuple #[])) h')
  (hp:16≤ps.length→∀ h',Old h h'→K (.panic (pe 16)) h'):FnK Tryd.prog (E b).G 88 [.pointer (some ⟨μ,0,none⟩),.bool x] h K:=by
 refine Qal (E b) (Wp b) (V2 b) Vm (Wv b) (Qak b) (Qv b) Qnc Qw7 Qtb rfl ?_
 cases x with
 | true =>
  have i:=Itm.new (h:=h) (MB:=MB) M.low (xs:=[1]) (by intro z hz;simp at hz;omega) (by simp)
  simp[Qqx]
  by_cases hl:ps.length < 16
  ·refine Qq8 b (M.old (Old.push _ _)) i hl _ fun h' MB' q1 q2 => ?_
   simp
   exact hk hl _ h' MB' q1 ((Mv.old (Old.push _ _)).trans q2)
  ·refine Qoj b (M.old (Old.push _ _)) (by omega) _ ?_
   simp
   exact hp (by omega) _ (Old.push _ _)
 | false =>
  simp
  by_cases hl:ps.length < 16
  ·refine Qq8 b M Itm.nil hl _ fun h' MB' q1 q2 => ?_
   simp
   exact hk hl _ h' MB' q1 q2
  ·refine Qoj b M (by omega) _ ?_
   simp
   exact hp (by omega) _ (Old.refl _)
end
def Xlb:List Br→Bool
 | []=>false
 | x::_=>x.off
theorem X3r(b:Nat){h:Heap}{ov:Value}{x:Br}{r:List Br}(o:Own h 0 3 ov (x::r).length (Wk (x::r).reverse))(k:IntKind):∃ bk o1,Vn ov=some bk∧J7 (E b).toEnv 105 ov (.int k (r.length:Int))=some (.pointer (some ⟨bk,o1,none⟩))∧Vs h bk o1=some (.bool x.off)∧Vs h bk (o1+1)=some (.bool x.dead)∧Vs h bk (o1+2)=some (.bool x.turned):=by
 obtain⟨bk,o1,q1,q2,q3, -⟩:=Xiw (Xv1 b) Quq o.sl (k:=k) (i:=(r.length:Int)) (by omega) (by simp;try omega)
 have e1:Wk (x::r).reverse=Wk r.reverse++x.cells:=by simp[Wk]
 have e2:(Wk r.reverse).length=r.length*3:=by rw[Qpa];simp
 have g:∀ j,j < 3→Vs h bk (o1+j)=x.cells[j]? := fun j hj=>by
  rw[q3 j hj,e1,Int.toNat_natCast,← e2,List.getElem?_append_right (Nat.le_add_right _ _),Nat.add_sub_cancel_left]
 exact⟨bk,o1,q1,q2,g 0 (by omega),g 1 (by omega),g 2 (by omega)⟩
section
attribute [local simp] Jq U1 Q9 Vj Zi V0 V5 Yv J5 Wc Jj Ql8 Yh Z2 aop X4 nth Ab.g0 gv gs Qx X2 aev evs evO X7 Tr.get_put St.put Tm.put flat flatA Z3 Xe Xc Xf Xa Xb Xd X9 Xj X8 Qt Qu Xy X0 Qb Q3 Qy Qz X1 Q4 Qc Qw
theorem Qvi(b:Nat){h:Heap}{MB:Nat→Prop}{μ:Nat}{e:Menv}{ps:List (Value × List Int)}{op:List Br}(M:Mach h MB μ e ps op)(hl:op.length < 1000)(K:AEnd→Heap→Prop)(hk:K (.ret (.bool (Xlb op))) h):FnK Tryd.prog (E b).G 85 [.pointer (some ⟨μ,0,none⟩)] h K:=by
 refine Qal (E b) (Wp b) (V2 b) Vm (Wv b) (Qak b) (Q9 b) Qpy Qx8 Qum rfl ?_
 obtain⟨⟨sv,ov,z,r⟩,its,low⟩:=M
 have e0:∀ h1,Qib (E b).toEnv 105 ov h1=some (.int .i64 (op.length:Int)):=fun h1=>Qdu (Xv1 b) r.op.sl
 simp[Xh,X6,Yj,Q5,Qd,Xg,Qq,Qe,Xi,Qk,Y1,Z9,Q6,X5,Qo,Qf,Q2,Qp,Qg,Q7,Yf,Yn,Ye,Y0,Yi.putAll]
 cases op with
 | nil =>
  simp at e0
  refine Qke [] (by simp) Qdv Qe7 Qdq (by simp[Ab.runT,Zk,Zb,ldv,Nat.testBit,U8,Zj,Z1,Zt,loadAt,Qa9,Vo,Qes,Qei,Qb1,r.c35,e0];exact⟨rfl,rfl⟩) ?_ ?_
  ·simp[Zk,Zb,Ub,ldv,Ab.runT,Zk,Zb,ldv,Nat.testBit,U8,Zj,Z1,Zt,loadAt,Qa9,Vo]
  simp[Xh,X6,Yj,Q5,Qd,Xg,Qq,Qe,Xi,Qk,Y1,Z9,Q6,X5,Qo,Qf,Q2,Qp,Qg,Q7,Yf,Yn,Ye,Y0,Yi.putAll]
  exact hk
 | cons x l =>
  obtain⟨bk,o1,q1,q2,g0',g1,g2⟩:=X3r b r.op .i64
  have h0:(0:Int) < (l.length:Int)+1:=by omega
  have hw:IntKind.i64.wrap (l.length:Int)=(l.length:Int):=by
   simp at hl
   exact Qbe (by omega) (by omega)
  simp at e0
  refine Qke [] (by simp) Qdv Qe7 Qdq (by simp[Ab.runT,Zk,Zb,ldv,Nat.testBit,U8,Zj,Z1,Zt,loadAt,Qa9,Vo,Qes,Qei,Qb1,r.c35,e0,h0,hw,q2,g0'];exact⟨rfl,rfl⟩) ?_ ?_
  ·simp[Zk,Zb,Ub,ldv,Ab.runT,Zk,Zb,ldv,Nat.testBit,U8,Zj,Z1,Zt,loadAt,Qa9,Vo]
  simp[Xh,X6,Yj,Q5,Qd,Xg,Qq,Qe,Xi,Qk,Y1,Z9,Q6,X5,Qo,Qf,Q2,Qp,Qg,Q7,Yf,Yn,Ye,Y0,Yi.putAll]
  exact hk
end
end Go.Proofs.YtgeeklmjfbiieaaDoor
end
noncomputable section
namespace Go.Proofs.YtgeeklmjfbiieaaDoor
open Go Go.Ab
set_option maxRecDepth 100000
theorem Qgd{h:Heap}{n0 z n:Nat}{v:Value}{xs:List Value}(o:Own h n0 z v n xs){bk i:Nat}(hb:Vn v=some bk)(hi:i < xs.length)(w:Value) :
  ∃ h',Uv h bk i [w]=some h'∧Own h' n0 z v n (xs.set i w)∧h'.next=h.next∧∀ c,c≠bk→h'.get c=h.get c:=by
 rcases o with⟨rfl,rfl,rfl⟩ | ⟨bk',c,z',rest,rfl,h1,h2,h3,h4,h5,h6⟩
 ·cases hb
 ·simp only[Vn,Option.some.injEq]at hb
  subst hb
  have hlt:=Heap.get_lt h2
  refine⟨_,Qd1 h2 (by simp;omega),.inr ⟨bk',c,z',rest,rfl,h1,by rw[Heap.get_set _ _ _ _ hlt,if_pos rfl,List.set_append_left _ _ hi],by simpa using h3,h4,h5,by simpa using h6⟩,rfl,fun k hk=>by rw[Heap.get_set _ _ _ _ hlt,if_neg (Ne.symm hk)]⟩
theorem Xxp(b:Nat){h:Heap}{ov:Value}{x:Br}{r:List Br}(o:Own h 0 3 ov (x::r).length (Wk (x::r).reverse)):∃ bk,Vn ov=some bk∧J7 (E b).toEnv 105 ov (.int .i64 (r.length:Int))=some (.pointer (some ⟨bk,r.length*3,none⟩))∧∀ h1 x1,Own h1 0 3 ov (x::r).length (Wk r.reverse++x1)→x1.length=3→∀ j,j < 3→Vs h1 bk (r.length*3+j)=x1[j]? := by
 have e2:(Wk r.reverse).length=r.length*3:=by rw[Qpa];simp
 rcases o with⟨_,h,_⟩ | ⟨bk',c,z',rest,rfl,h1,h2,h3,h4,h5,h6⟩
 ·cases h
 ·refine⟨bk',rfl,?_,fun k x1 ho hx1 j hj => ?_⟩
  ·rw[Wc b ⟨by omega,by simp;try omega⟩]
   simp
  ·rcases ho with⟨h,_⟩ | ⟨bk2,c2,z2,rest2,e,g1,g2,g3⟩
   ·cases h
   ·simp only[Value.slice.injEq,Option.some.injEq,Addr.mk.injEq]at e
    obtain⟨⟨rfl,_⟩,_⟩:=e
    rw[Qas g2,List.append_assoc,List.getElem?_append_right (by omega),e2,Nat.add_sub_cancel_left,List.getElem?_append_left (by omega)]
def brF(code:Int)(st:List (List Int))(op:List Br):Option (Option (List (List Int) × List Br)) :=
 if code=136 then some (if Xlb op then some (st,⟨true,true,false⟩::op)else match st with
  | []=>none
  | x::r=>some (r,⟨!isT x,false,false⟩::op))
 else if code=137∨code=138 then some (match op with
  | []=>none
  | x::l=>if code=138 then some (st,l)else if x.turned then none else some (st,⟨x.dead || !x.off,x.dead,true⟩::l))
 else none
def MOk(MB:Nat→Prop)(h:Heap)(μ:Nat)(e:Menv)(st:List (List Int))(op:List Br)(h':Heap):Prop:=∃ ps MB',ps.map (·.2)=st∧Mach h' MB' μ e ps op∧Mv MB MB' h h'
def Xm6(MB:Nat→Prop)(h h':Heap):Prop:=∃ MB',Mv MB MB' h h'
theorem Xni(b:Nat)(x y:Bool):Qzu (E b).toEnv 197 [(0,.bool x),(1,.bool y)]=some (.agg ⟨[.bool x,.bool y,.bool false]⟩):=by kernel_rfl
theorem Mach.opened{b:Nat}{h:Heap}{MB:Nat→Prop}{μ:Nat}{e:Menv}{ps:List (Value × List Int)}{op:List Br}(M:Mach h MB μ e ps op)(hl:op.length < 1000){ov:Value}(hov:Vs h μ 35=some ov)(x y:Bool) :
    ∃ ov' h2,Jl (E b).toEnv 105 1 [(0,.agg ⟨[.bool x,.bool y,.bool false]⟩)] h=some (.slice (some ⟨h.next,0,none⟩) 1 1,h.push (.cells true 1 [.bool x,.bool y,.bool false])) ∧
      Qad (E b).toEnv 105 105 ov (.slice (some ⟨h.next,0,none⟩) 1 1) (h.push (.cells true 1 [.bool x,.bool y,.bool false]))=some (ov',h2) ∧
      ∃ h3,Wy (E b).toEnv 105 (.pointer (some ⟨μ,35,none⟩)) ov' h2=some h3∧Xhf (some ov) (some ov)=true∧∃ MB',Mach h3 MB' μ e ps (⟨x,y,false⟩::op)∧Mv MB MB' h h3:=by
  obtain⟨⟨sv,ov0,z,r⟩,its,low⟩:=M
  rw[r.c35]at hov
  cases hov
  have hbl:=Q7l (Xv1 b) (z:=3) Quq (by omega) (by omega) (y:=.agg ⟨[.bool x,.bool y,.bool false]⟩) rfl (ys:=[.bool x,.bool y,.bool false]) rfl rfl (h:=h)
  obtain⟨ov',h2,a1,a2,a3,a4⟩:=Qn5 (Xv1 b) Quq (by omega) r.op (Nat.zero_le _) (ys:=[.bool x,.bool y,.bool false]) rfl (by rw[Xq6];omega) (by omega)
  have hlt:=Heap.get_lt r.at'
  have g2:h2.get μ=some (.cells true z (e.cells ++ [sv,ov])):=by rw[a3.2 μ hlt fun q=>(r.mo _ q).2.1 rfl];exact r.at'
  have hlt2:μ < h2.next:=Heap.get_lt g2
  refine⟨ov',h2,hbl,a1,h2.set μ (some (.cells true z (e.cells ++ [sv,ov']))),?_,Xbn r.op,fun c=>MB c∨Vn ov'=some c,?_,?_⟩
  · exact(Xy6 b h2 μ 35 ov' a2.one).trans (by rw[Qd1 g2 (by simp[e.len]),X21])
  all_goals have mv:Mv MB (fun c=>MB c∨Vn ov'=some c) h (h2.set μ (some (.cells true z (e.cells ++ [sv,ov'])))) :=
    ⟨a3.1,fun c hc hn=>by rw[Heap.get_set _ _ _ _ hlt2,if_neg (fun q=>hn (by subst q;exact r.mb)),a3.2 c hc (fun q=>hn (r.mo c q).1)],
     fun c hc=>by
      rcases hc with hc | hc
      · exact .inl hc
      · rcases a4 c hc with q | q
        · exact .inl (r.mo c q).1
        · exact .inr q⟩
  · have nμ:∀ c,Vn ov'=some c→c≠μ:=fun c hc=>by
      rcases a4 c hc with q | q
      · exact(r.mo c q).2.1
      · omega
    refine⟨⟨sv,ov',z,?_⟩,fun p hp=>(its p hp).mv mv,?_⟩
    · refine⟨by rw[Heap.get_set _ _ _ _ hlt2,if_pos rfl],.inl r.mb,?_,?_,fun c hc=>⟨.inl (r.ms c hc).1,(r.ms c hc).2⟩,fun c hc=>⟨.inr hc,nμ c hc,fun q => ?_⟩⟩
      · exact r.st.keep fun c hc hlt3=>by rw[Heap.get_set _ _ _ _ hlt2,if_neg (Ne.symm (r.ms c hc).2),a3.2 c hlt3 (fun q=>(r.mo c q).2.2 hc)]
      · have : Own h2 0 3 ov' (⟨x,y,false⟩::op:List Br).length (Wk (⟨x,y,false⟩::op:List Br).reverse):=by simpa[Wk,Br.cells]using a2
        exact this.keep fun c hc _=>by rw[Heap.get_set _ _ _ _ hlt2,if_neg (Ne.symm (nμ c hc))]
      · rcases a4 c hc with q' | q'
        · exact(r.mo c q').2.2 q
        · have:=r.st.out q;omega
    · rintro c (hc | hc)
      · exact Nat.lt_of_lt_of_le (low c hc) a3.1
      · exact a2.out hc
  · exact mv
end Go.Proofs.YtgeeklmjfbiieaaDoor
end
noncomputable section
namespace Go.Proofs.YtgeeklmjfbiieaaDoor
open Go Go.Ab
set_option maxRecDepth 100000
theorem MOk.mk' {MB MB':Nat→Prop}{h h':Heap}{μ:Nat}{e:Menv}{ps:List (Value × List Int)}{op:List Br}{st:List (List Int)}(hs:ps.map (·.2)=st)(M:Mach h' MB' μ e ps op)(m:Mv MB MB' h h'):MOk MB h μ e st op h':=⟨ps,MB',hs,M,m⟩
theorem X3j(b:Nat){h:Heap}{MB:Nat→Prop}{μ:Nat}{e:Menv}{ps:List (Value × List Int)}{op:List Br}(M:Mach h MB μ e ps op)(h1:ps.length < 1000)(h2:op.length < 1000)(h3:∀ p ∈ ps,p.2.length < 1000000000)(K:AEnd→Heap→Prop)
  (hk:∀ st' op',brF 136 (ps.map (·.2)) op=some (some (st',op'))→∀ h',MOk MB h μ e st' op' h'→K (.ret (.bool true)) h')
  (hp:brF 136 (ps.map (·.2)) op=some none→∀ h',Xm6 MB h h'→K (.panic (pe 16)) h'):CallOK Tryd.prog (E b).G 84 [.pointer (some ⟨μ,0,none⟩),.int .i64 136] h K:=by
 refine Qe9 (E b) (Vg _ _) (Wp b) (V2 b) Vm (Wv b) (Q1 b) U0 Ui Uc rfl ?_
 simp[Yc,Yg,Q1,Ym,Q9,Zi,V0,Q0,Qn,Vw,V5,Yv,Qa,J5,Wc,Yb,Vz,Ql8,W3,Vy,Jj,Y9,Y6,Ya,Yh,Xh,X6,Yj,Q5,Qd,Xg,Qq,Qe,Xi,Qk,Y1,Z9,Z2,aop,X4,nth,Ab.g0,gv,gs,Qx,X2,aev,evs,evO,X7,Tr.get_put,St.put,Tm.put,flat,flatA,Z3,Xe,Xc,Xf,Xa,Xb,Xd,X9,Xj,X8,Qt,Qu,Q6,X5,Qo,Qf,Q2,Qp,Qg,Q7,Yf,Yn,Ye,Y0,Yi.putAll,Xy,X0,Qb,Q3,Qy,Qz,X1,Q4,Qc,Qw]
 refine(Qvi b M h2 _ ?_).ok
 simp[Yc,Yg,Q1,Ym,Q9,Zi,V0,Q0,Qn,Vw,V5,Yv,Qa,J5,Wc,Yb,Vz,Ql8,W3,Vy,Jj,Y9,Y6,Ya,Yh,Xh,X6,Yj,Q5,Qd,Xg,Qq,Qe,Xi,Qk,Y1,Z9,Z2,aop,X4,nth,Ab.g0,gv,gs,Qx,X2,aev,evs,evO,X7,Tr.get_put,St.put,Tm.put,flat,flatA,Z3,Xe,Xc,Xf,Xa,Xb,Xd,X9,Xj,X8,Qt,Qu,Q6,X5,Qo,Qf,Q2,Qp,Qg,Q7,Yf,Yn,Ye,Y0,Yi.putAll,Xy,X0,Qb,Q3,Qy,Qz,X1,Q4,Qc,Qw]
 obtain⟨ov,hov⟩:∃ ov,Vs h μ 35=some ov:=by
  obtain⟨⟨sv,ov,z,r⟩,_,_⟩:=M
  exact⟨ov,r.c35⟩
 cases hd:Xlb op with
 | true =>
  obtain⟨ov',h4,q1,q2,h5,q3,q4,MB',q5,q6⟩:=M.opened (b:=b) h2 hov true true
  refine Qke [] (by simp) W6 Wj Qbq (by simp[Ab.runT,Zk,Zb,ldv,Nat.testBit,U8,Zj,Z1,Zt,loadAt,Qa9,Vo,aop,X4,nth,Ab.g0,gv,gs,Qx,X2,Yh,aev,evs,evO,X7,Tr.get_put,St.put,Tm.put,flat,flatA,Z3,Xe,Xc,Xf,Xa,Xb,Xd,X9,Xj,Z2,X8,Qt,Qu,Xy,X0,Qb,Q3,Qy,Qz,X1,Q4,Qc,Qw,Qc8,Qc9,Qcq,Qcx,Qca,Qcb,Yc,Yg,Q1,Ym,Q9,Zi,V0,Q0,Qn,Vw,V5,Yv,Qa,J5,Wc,Yb,Vz,Ql8,W3,Vy,Jj,Y9,Y6,Ya,Qb1,hov,Xni,q1,q2,q3];exact⟨rfl,rfl⟩) ?_ ?_
  ·simp[Zk,Zb,Yt,ldv,Ab.runT,Zk,Zb,ldv,Nat.testBit,U8,Zj,Z1,Zt,loadAt,Qa9,Vo,aop,X4,nth,Ab.g0,gv,gs,Qx,X2,Yh,aev,evs,evO,X7,Tr.get_put,St.put,Tm.put,flat,flatA,Z3,Xe,Xc,Xf,Xa,Xb,Xd,X9,Xj,Z2,X8,Qt,Qu,Xy,X0,Qb,Q3,Qy,Qz,X1,Q4,Qc,Qw,Yc,Yg,Q1,Ym,Q9,Zi,V0,Q0,Qn,Vw,V5,Yv,Qa,J5,Wc,Yb,Vz,Ql8,W3,Vy,Jj,Y9,Y6,Ya,q4,hov]
  simp[Yh,Xh,X6,Yj,Q5,Qd,Xg,Qq,Qe,Xi,Qk,Y1,Z9,Z2,aop,X4,nth,Ab.g0,gv,gs,Qx,X2,aev,evs,evO,X7,Tr.get_put,St.put,Tm.put,flat,flatA,Z3,Xe,Xc,Xf,Xa,Xb,Xd,X9,Xj,X8,Qt,Qu,Q6,X5,Qo,Qf,Q2,Qp,Qg,Q7,Yf,Yn,Ye,Y0,Yi.putAll,Xy,X0,Qb,Q3,Qy,Qz,X1,Q4,Qc,Qw,Yc,Yg,Q1,Ym,Q9,Zi,V0,Q0,Qn,Vw,V5,Yv,Qa,J5,Wc,Yb,Vz,Ql8,W3,Vy,Jj,Y9,Y6,Ya]
  exact hk _ _ (by simp[brF,hd]) _ ⟨ps,MB',rfl,q5,q6⟩
 | false =>
  cases ps with
  | nil =>
   have hdl:Qxp 8 86 #[.tmp 19] Zm Yt 0=[⟨(some 12),.move (.tmp 0),0, "",#[],none⟩,⟨(some 13),.move (.tmp 0),0, "",#[],none⟩,⟨(some 14),.nilCheck (.tmp 13),0, "",#[],none⟩,⟨(some 15),.fieldAddr 107 (.tmp 14) 2,0, "",#[],none⟩,⟨(some 16),.load 105 (.tmp 15),0, "",#[],none⟩,⟨(some 17),.move (.tmp 5),0, "",#[],none⟩,⟨(some 18),.move (.tmp 17),0, "",#[],none⟩,⟨(some 19),.move (.tmp 0),0, "",#[],(some (6,false))⟩,⟨(some 20),.makeFunc (.func 86) #[(.tmp 19)] #[],0, "",#[],(some (6,false))⟩,⟨(some 21),.assign (.const (.bool false)),0, "",#[],(some (6,false))⟩,⟨(some 22),.assign (.const (.bool false)),0, "",#[],(some (6,false))⟩,⟨(some 23),.assign (.const (.bool false)),0, "",#[],none⟩,⟨(some 24),.move (.tmp 5),0, "",#[],none⟩,⟨(some 25),.assign (.const (.bool false)),0, "",#[],none⟩,⟨(some 26),.assign (.const (.bool false)),0, "",#[],none⟩,⟨(some 27),.assign (.const (.bool false)),0, "",#[],none⟩,⟨(some 28),.assign (.const (.bool false)),0, "",#[],none⟩,⟨(some 29),.assign (.const (.bool false)),0, "",#[],none⟩,⟨none,.assign (.const (.bool false)),0, "",#[],none⟩]:=by kernel_rfl
   refine X43 (p0:=8) (d0:=20) (f:=86) (args:=#[.tmp 19]) (o:=(Jk.toList[8]?).getD ⟨none,.move (.tmp 0),0, "",#[],none⟩) (c:={callee:=.value (.func 86),args:=#[.tmp 19],argTypes:=#[100]}) (l:=[.pointer (some ⟨μ,0,none⟩)]) (ch:=pe 16) (h':=h) rfl W6 Wj (by kernel_rfl) (by kernel_rfl) (by kernel_rfl) rfl rfl (by kernel_rfl) (by kernel_rfl) (by kernel_rfl) (by rw[hdl];simp[Qgp,Qvw,Qy0,Qy1,aop,X4,nth,Ab.g0,gv,gs,Qx,X2,Yh,aev,evs,evO,X7,Tr.get_put,St.put,Tm.put,flat,flatA,Z3,Xe,Xc,Xf,Xa,Xb,Xd,X9,Xj,Z2,X8,Qt,Qu,Xy,X0,Qb,Q3,Qy,Qz,X1,Q4,Qc,Qw,Yc,Yg,Q1,Ym,Q9,Zi,V0,Q0,Qn,Vw,V5,Yv,Qa,J5,Wc,Yb,Vz,Ql8,W3,Vy,Jj,Y9,Y6,Ya,Qb1,hov,Q2x];rfl) (by simp[Tr.get_put]) (by kernel_rfl) ?_ ?_
   ·exact(Qk7 b M (fun r h1=>r=.panic (pe 16)∧h1=h) ⟨rfl,rfl⟩).ok
   ·intro T hT
    simp[Yh,Xh,X6,Yj,Q5,Qd,Xg,Qq,Qe,Xi,Qk,Y1,Z9,Z2,aop,X4,nth,Ab.g0,gv,gs,Qx,X2,aev,evs,evO,X7,Tr.get_put,St.put,Tm.put,flat,flatA,Z3,Xe,Xc,Xf,Xa,Xb,Xd,X9,Xj,X8,Qt,Qu,Q6,X5,Qo,Qf,Q2,Qp,Qg,Q7,Yf,Yn,Ye,Y0,Yi.putAll,Xy,X0,Qb,Q3,Qy,Qz,X1,Q4,Qc,Qw,Yc,Yg,Q1,Ym,Q9,Zi,V0,Q0,Qn,Vw,V5,Yv,Qa,J5,Wc,Yb,Vz,Ql8,W3,Vy,Jj,Y9,Y6,Ya]
    exact hp (by simp[brF,hd]) h ⟨MB,Mv.refl _ _⟩
  | cons p ps =>
   obtain⟨v,x⟩:=p
   have hx:=h3 (v,x) (by simp)
   obtain⟨_,h4,c1,n1,rfl,M1,m1,e1,i1,k1⟩:=Qe3 b M (by simp at h1;omega) (fun r h'=>r=.ret v∧Mach h' MB μ e ps op∧Mv MB MB h h'∧h'.next=h.next∧Itm h' MB v x∧(∀ ov,Vs h μ 35=some ov→Vs h' μ 35=some ov)) (fun h' q1 q2 q3 q4 q5=>⟨rfl,q1,q2,q3,q4,q5⟩)
   obtain⟨_,h5,c2,n2,rfl,a2⟩:=Xc4 b i1.sb hx (fun r h'=>r=.ret (.bool (isT x))∧Old h4 h') (fun h' q=>⟨rfl,q⟩)
   have hov4:=k1 ov hov
   have hov5:Vs h5 μ 35=some ov:=by
    obtain⟨⟨sv,ov1,z,r⟩,_,_⟩:=M1
    rw[r.c35]at hov4
    rw[Qas (a2.get r.at'),X0e]
    exact hov4
   obtain⟨ov',h6,q1,q2,h7,q3,q4,MB',q5,q6⟩:=(M1.old a2).opened (b:=b) h2 hov5 (!isT x) false
   refine Qke [⟨86,[.pointer (some ⟨μ,0,none⟩)],h,v,h4,false⟩,⟨53,[v],h4,.bool (isT x),h5,true⟩] ?_ W6 Wj Qbq (by simp[Ab.runT,Zk,Zb,ldv,Nat.testBit,U8,Zj,Z1,Zt,loadAt,Qa9,Vo,aop,X4,nth,Ab.g0,gv,gs,Qx,X2,Yh,aev,evs,evO,X7,Tr.get_put,St.put,Tm.put,flat,flatA,Z3,Xe,Xc,Xf,Xa,Xb,Xd,X9,Xj,Z2,X8,Qt,Qu,Xy,X0,Qb,Q3,Qy,Qz,X1,Q4,Qc,Qw,Qc8,Qc9,Qcq,Qcx,Qca,Qcb,Yc,Yg,Q1,Ym,Q9,Zi,V0,Q0,Qn,Vw,V5,Yv,Qa,J5,Wc,Yb,Vz,Ql8,W3,Vy,Jj,Y9,Y6,Ya,Qb1,hov,Xni,q1,q2,q3,Qy8];exact⟨rfl,rfl⟩) ?_ ?_
   ·simp only[List.mem_cons,List.not_mem_nil,or_false]
    rintro e (rfl | rfl)
    ·exact⟨c1,n1,fun q=>by cases q⟩
    ·exact⟨c2,n2,fun _ c hc=>a2.2 c hc⟩
   ·simp[Zk,Zb,Yt,ldv,Ab.runT,Zk,Zb,ldv,Nat.testBit,U8,Zj,Z1,Zt,loadAt,Qa9,Vo,aop,X4,nth,Ab.g0,gv,gs,Qx,X2,Yh,aev,evs,evO,X7,Tr.get_put,St.put,Tm.put,flat,flatA,Z3,Xe,Xc,Xf,Xa,Xb,Xd,X9,Xj,Z2,X8,Qt,Qu,Xy,X0,Qb,Q3,Qy,Qz,X1,Q4,Qc,Qw,Yc,Yg,Q1,Ym,Q9,Zi,V0,Q0,Qn,Vw,V5,Yv,Qa,J5,Wc,Yb,Vz,Ql8,W3,Vy,Jj,Y9,Y6,Ya,q4,hov,hov4,hov5]
   simp[Yh,Xh,X6,Yj,Q5,Qd,Xg,Qq,Qe,Xi,Qk,Y1,Z9,Z2,aop,X4,nth,Ab.g0,gv,gs,Qx,X2,aev,evs,evO,X7,Tr.get_put,St.put,Tm.put,flat,flatA,Z3,Xe,Xc,Xf,Xa,Xb,Xd,X9,Xj,X8,Qt,Qu,Q6,X5,Qo,Qf,Q2,Qp,Qg,Q7,Yf,Yn,Ye,Y0,Yi.putAll,Xy,X0,Qb,Q3,Qy,Qz,X1,Q4,Qc,Qw,Yc,Yg,Q1,Ym,Q9,Zi,V0,Q0,Qn,Vw,V5,Yv,Qa,J5,Wc,Yb,Vz,Ql8,W3,Vy,Jj,Y9,Y6,Ya]
   refine hk _ _ (by simp[brF,hd]) _ ⟨ps,MB',rfl,q5,m1.trans ((Mv.old a2).trans q6)⟩
section
attribute [local simp] Yc Yg Q1 Ym Q9 Zi V0 Q0 Qn Vw V5 Yv Qa J5 Wc Yb Vz Ql8 W3 Vy Jj Y9 Y6 Ya Yh Z2 aop X4 nth Ab.g0 gv gs Qx X2 aev evs evO X7 Tr.get_put St.put Tm.put flat flatA Z3 Xe Xc Xf Xa Xb Xd X9 Xj X8 Qt Qu Xy X0 Qb Q3 Qy Qz X1 Q4 Qc Qw
theorem Qmo(b:Nat){h:Heap}{μ:Nat}{code:Int}(hc:brF code [] []=none)(K:AEnd→Heap→Prop)(hk:K (.ret (.bool false)) h):CallOK Tryd.prog (E b).G 84 [.pointer (some ⟨μ,0,none⟩),.int .i64 code] h K:=by
 have c1:¬ code=136:=fun q=>by subst q;simp[brF]at hc
 have c2:¬ code=137:=fun q=>by subst q;simp[brF]at hc
 have c3:¬ code=138:=fun q=>by subst q;simp[brF]at hc
 refine Qe9 (E b) (Vg _ _) (Wp b) (V2 b) Vm (Wv b) (Q1 b) U0 Ui Uc rfl ?_
 simp[Xh,X6,Yj,Q5,Qd,Xg,Qq,Qe,Xi,Qk,Y1,Z9,Q6,X5,Qo,Qf,Q2,Qp,Qg,Q7,Yf,Yn,Ye,Y0,Yi.putAll,c1,c2,c3]
 exact hk
theorem Xto(b:Nat){h:Heap}{MB:Nat→Prop}{μ:Nat}{e:Menv}{ps:List (Value × List Int)}(M:Mach h MB μ e ps []){code:Int}(hc:code=137∨code=138)(K:AEnd→Heap→Prop)(hp:K (.panic (pe 16)) h):CallOK Tryd.prog (E b).G 84 [.pointer (some ⟨μ,0,none⟩),.int .i64 code] h K:=by
 obtain⟨⟨sv,ov,z,r⟩,its,low⟩:=M
 have e0:∀ h1,Qib (E b).toEnv 105 ov h1=some (.int .i64 0):=fun h1=>Qdu (Xv1 b) r.op.sl
 refine Qe9 (E b) (Vg _ _) (Wp b) (V2 b) Vm (Wv b) (Q1 b) U0 Ui Uc rfl ?_
 rcases hc with rfl | rfl
 all_goals
  simp[Xh,X6,Yj,Q5,Qd,Xg,Qq,Qe,Xi,Qk,Y1,Z9,Q6,X5,Qo,Qf,Q2,Qp,Qg,Q7,Yf,Yn,Ye,Y0,Yi.putAll,Qb1,r.c35,e0]
  refine(Qm9 b h 16 _ ?_).ok
  simp[Xh,X6,Yj,Q5,Qd,Xg,Qq,Qe,Xi,Qk,Y1,Z9,Q6,X5,Qo,Qf,Q2,Qp,Qg,Q7,Yf,Yn,Ye,Y0,Yi.putAll]
  exact hp
theorem X23(b:Nat){h:Heap}{MB:Nat→Prop}{μ:Nat}{e:Menv}{ps:List (Value × List Int)}{x:Br}{l:List Br}(M:Mach h MB μ e ps (x::l))(hl:l.length < 1000)(K:AEnd→Heap→Prop)(hk:∀ h',Mach h' MB μ e ps l→Mv MB MB h h'→K (.ret (.bool true)) h'):CallOK Tryd.prog (E b).G 84 [.pointer (some ⟨μ,0,none⟩),.int .i64 138] h K:=by
 obtain⟨⟨sv,ov,z,r⟩,its,low⟩:=M
 have e0:∀ h1,Qib (E b).toEnv 105 ov h1=some (.int .i64 ((l.length:Int)+1)):=fun h1=>by have:=Qdu (Xv1 b) r.op.sl (h1:=h1);simpa using this
 have h0:(0:Int) < (l.length:Int)+1:=by omega
 have hw:IntKind.i64.wrap (l.length:Int)=(l.length:Int):=Qbe (by omega) (by omega)
 obtain⟨bk,q1,q2,q3⟩:=Xxp b r.op
 obtain⟨ov',t1,t2,t3⟩:=Xst (Xv1 b) Quq (by omega) r.op (k:=.i64) (i:=(l.length:Int)) (by omega) (by simp;try omega)
 have t2':Own h 0 3 ov' l.length (Wk l.reverse):=by
  have e1:Wk (x::l).reverse=Wk l.reverse++x.cells:=by simp[Wk]
  have e2:(Wk l.reverse).length=l.length*3:=by rw[Qpa];simp
  rw[e1,Int.toNat_natCast,← e2,List.take_left]at t2
  exact t2
 have st:Wy (E b).toEnv 105 (.pointer (some ⟨μ,35,none⟩)) ov' h=_:=(Xy6 b h μ 35 ov' t2'.one).trans (r.s35 ov')
 have hos:Xhf (some ov) (some ov)=true:=Xbn r.op
 refine Qe9 (E b) (Vg _ _) (Wp b) (V2 b) Vm (Wv b) (Q1 b) U0 Ui Uc rfl ?_
 simp[Xh,X6,Yj,Q5,Qd,Xg,Qq,Qe,Xi,Qk,Y1,Z9,Q6,X5,Qo,Qf,Q2,Qp,Qg,Q7,Yf,Yn,Ye,Y0,Yi.putAll,Qb1,r.c35,e0,h0]
 refine(Qs2 b h 16 _ ?_).ok
 simp[Xh,X6,Yj,Q5,Qd,Xg,Qq,Qe,Xi,Qk,Y1,Z9,Q6,X5,Qo,Qf,Q2,Qp,Qg,Q7,Yf,Yn,Ye,Y0,Yi.putAll]
 refine Qke [] (by simp) Qbr Qc6 Qbs (by simp[Ab.runT,Zk,Zb,ldv,Nat.testBit,U8,Zj,Z1,Zt,loadAt,Qa9,Vo,Qcc,Qb1,r.c35,e0,hw,q2];exact⟨rfl,rfl⟩) ?_ ?_
 ·simp[Zk,Zb,Ju,ldv,Ab.runT,Zk,Zb,ldv,Nat.testBit,U8,Zj,Z1,Zt,loadAt,Qa9,Vo]
 simp[Xh,X6,Yj,Q5,Qd,Xg,Qq,Qe,Xi,Qk,Y1,Z9,Q6,X5,Qo,Qf,Q2,Qp,Qg,Q7,Yf,Yn,Ye,Y0,Yi.putAll]
 refine Qke [] (by simp) Qgb Qgn Qfr (by simp[Ab.runT,Zk,Zb,ldv,Nat.testBit,U8,Zj,Z1,Zt,loadAt,Qa9,Vo,Qhi,Qhh,Qb1,r.c35,e0,hw,t1,st];exact⟨rfl,rfl⟩) ?_ ?_
 ·simp[Zk,Zb,Jc,ldv,Ab.runT,Zk,Zb,ldv,Nat.testBit,U8,Zj,Z1,Zt,loadAt,Qa9,Vo,hos,r.c35]
 simp[Xh,X6,Yj,Q5,Qd,Xg,Qq,Qe,Xi,Qk,Y1,Z9,Q6,X5,Qo,Qf,Q2,Qp,Qg,Q7,Yf,Yn,Ye,Y0,Yi.putAll]
 have hlt:=Heap.get_lt r.at'
 have mv:Mv MB MB h (h.set μ (some (.cells true z (e.cells ++ [sv,ov'])))):=⟨Nat.le_refl _,fun c _ hn=>by rw[Heap.get_set _ _ _ _ hlt,if_neg (fun q=>hn (by subst q;exact r.mb))],fun _ h => .inl h⟩
 have kp:∀ c,c≠μ→(h.set μ (some (.cells true z (e.cells ++ [sv,ov'])))).get c=h.get c:=fun c hc=>by rw[Heap.get_set _ _ _ _ hlt,if_neg (Ne.symm hc)]
 refine hk _ ⟨⟨sv,ov',z,?_⟩,fun p hp=>(its p hp).mv mv,low⟩ mv
 exact⟨by rw[Heap.get_set _ _ _ _ hlt,if_pos rfl],r.mb,r.st.keep fun c hc _=>kp c (r.ms c hc).2,t2'.keep fun c hc _=>kp c (r.mo c (t3 ▸ hc)).2.1,r.ms,fun c hc=>r.mo c (t3 ▸ hc)⟩
theorem X0f(b:Nat){h:Heap}{MB:Nat→Prop}{μ:Nat}{e:Menv}{ps:List (Value × List Int)}{x:Br}{l:List Br}(M:Mach h MB μ e ps (x::l))(hl:l.length < 1000)(K:AEnd→Heap→Prop)(hk:x.turned=false→∀ h',Mach h' MB μ e ps (⟨x.dead || !x.off,x.dead,true⟩::l)→Mv MB MB h h'→K (.ret (.bool true)) h')
  (hp:x.turned=true→K (.panic (pe 16)) h):CallOK Tryd.prog (E b).G 84 [.pointer (some ⟨μ,0,none⟩),.int .i64 137] h K:=by
 obtain⟨⟨sv,ov,z,r⟩,its,low⟩:=M
 have e0:∀ h1,Qib (E b).toEnv 105 ov h1=some (.int .i64 ((l.length:Int)+1)):=fun h1=>by have:=Qdu (Xv1 b) r.op.sl (h1:=h1);simpa using this
 have h0:(0:Int) < (l.length:Int)+1:=by omega
 have hw:IntKind.i64.wrap (l.length:Int)=(l.length:Int):=Qbe (by omega) (by omega)
 have e1:Wk (x::l).reverse=Wk l.reverse++x.cells:=by simp[Wk]
 have e2:(Wk l.reverse).length=l.length*3:=by rw[Qpa];simp
 obtain⟨bk,q1,q2,q3⟩:=Xxp b r.op
 have o0:=r.op
 rw[e1]at o0
 have g:=q3 h x.cells o0 rfl
 have g2:Vs h bk (l.length*3+2)=some (.bool x.turned):=g 2 (by omega)
 obtain⟨h1,s1,o1,n1,k1⟩:=Qgd o0 q1 (i:=l.length*3+2) (by simp[e2,Br.cells]) (.bool true)
 have w1:(Wk l.reverse++x.cells).set (l.length*3+2) (.bool true)=Wk l.reverse ++ [Value.bool x.off,.bool x.dead,.bool true]:=by rw[List.set_append_right _ _ (by omega),e2,Nat.add_sub_cancel_left];rfl
 rw[w1]at o1
 have f:=q3 h1 _ o1 rfl
 have f0:Vs h1 bk (l.length*3)=some (.bool x.off):=f 0 (by omega)
 have f1:Vs h1 bk (l.length*3+1)=some (.bool x.dead):=f 1 (by omega)
 obtain⟨h2,s2,o2,n2,k2⟩:=Qgd o1 q1 (i:=l.length*3) (by simp[e2]) (.bool (x.dead || !x.off))
 have w2:(Wk l.reverse ++ [Value.bool x.off,.bool x.dead,.bool true]).set (l.length*3) (.bool (x.dead || !x.off))=Wk (⟨x.dead || !x.off,x.dead,true⟩::l:List Br).reverse:=by rw[List.set_append_right _ _ (by omega),e2,Nat.sub_self];simp[Wk,Br.cells]
 rw[w2]at o2
 refine Qe9 (E b) (Vg _ _) (Wp b) (V2 b) Vm (Wv b) (Q1 b) U0 Ui Uc rfl ?_
 simp[Xh,X6,Yj,Q5,Qd,Xg,Qq,Qe,Xi,Qk,Y1,Z9,Q6,X5,Qo,Qf,Q2,Qp,Qg,Q7,Yf,Yn,Ye,Y0,Yi.putAll,Qb1,r.c35,e0,h0]
 refine(Qs2 b h 16 _ ?_).ok
 simp[Xh,X6,Yj,Q5,Qd,Xg,Qq,Qe,Xi,Qk,Y1,Z9,Q6,X5,Qo,Qf,Q2,Qp,Qg,Q7,Yf,Yn,Ye,Y0,Yi.putAll]
 refine Qke [] (by simp) Qbr Qc6 Qbs (by simp[Ab.runT,Zk,Zb,ldv,Nat.testBit,U8,Zj,Z1,Zt,loadAt,Qa9,Vo,Qcc,Qb1,r.c35,e0,hw,q2];exact⟨rfl,rfl⟩) ?_ ?_
 ·simp[Zk,Zb,Ju,ldv,Ab.runT,Zk,Zb,ldv,Nat.testBit,U8,Zj,Z1,Zt,loadAt,Qa9,Vo]
 simp[Xh,X6,Yj,Q5,Qd,Xg,Qq,Qe,Xi,Qk,Y1,Z9,Q6,X5,Qo,Qf,Q2,Qp,Qg,Q7,Yf,Yn,Ye,Y0,Yi.putAll,Qb1,g2]
 cases ht:x.turned with
 | true =>
  refine(Qm9 b h 16 _ ?_).ok
  simp[Xh,X6,Yj,Q5,Qd,Xg,Qq,Qe,Xi,Qk,Y1,Z9,Q6,X5,Qo,Qf,Q2,Qp,Qg,Q7,Yf,Yn,Ye,Y0,Yi.putAll]
  exact hp ht
 | false =>
  refine(Qs2 b h 16 _ ?_).ok
  have sb:bk≠μ∧Vn sv≠some bk:=(r.mo bk q1).2
  have kk:∀ c,c≠bk→h2.get c=h.get c:=fun c hc=>by rw[k2 c hc,k1 c hc]
  have mv:Mv MB MB h h2:=⟨by omega,fun c _ hn=>kk c (fun q=>hn (by subst q;exact(r.mo _ q1).1)),fun _ h => .inl h⟩
  have fin:Mach h2 MB μ e ps (⟨x.dead || !x.off,x.dead,true⟩::l):=by
   refine⟨⟨sv,ov,z,?_⟩,fun p hp=>(its p hp).mv mv,fun c hc=>by rw[n2,n1];exact low c hc⟩
   exact⟨by rw[kk μ (Ne.symm sb.1)];exact r.at',r.mb,r.st.keep fun c hc _=>kk c (fun q=>sb.2 (by subst q;exact hc)),by simpa using o2,r.ms,r.mo⟩
  cases hd:x.dead with
  | true =>
   simp[hd]at f1 s2
   simp[Xh,X6,Yj,Q5,Qd,Xg,Qq,Qe,Xi,Qk,Y1,Z9,Q6,X5,Qo,Qf,Q2,Qp,Qg,Q7,Yf,Yn,Ye,Y0,Yi.putAll,Qb1,s1,f1,s2]
   exact hk ht h2 (by simpa[hd]using fin) mv
  | false =>
   simp[hd]at f1 s2
   simp[Xh,X6,Yj,Q5,Qd,Xg,Qq,Qe,Xi,Qk,Y1,Z9,Q6,X5,Qo,Qf,Q2,Qp,Qg,Q7,Yf,Yn,Ye,Y0,Yi.putAll,Qb1,s1,f1,f0,s2]
   exact hk ht h2 (by simpa[hd]using fin) mv
end
end Go.Proofs.YtgeeklmjfbiieaaDoor
end
