/- Calls by contracts. Over any program. -/
import Derived.Test.YtdjgagoledoaaaaGreatDoorXA
import Derived.KernelRfl
set_option maxHeartbeats 0
section
namespace Go.Proofs.Xv
open Go Go.RowKit Go.Proofs.Sv
theorem Sat.after{X:Cx}{G:Gh}(S:Sat X G){w':World}{go:Option Nat}(m:WE go G.w w'){K':Nat->Prop}(hK:∀k,G.K k->K' k)(aA:∀k,K' k->UFg w' X.w0.heap.size k)(u:∀k,K' k->X.K0 k∨X.base<=k)
  (aC:∀id o b,b9 G.o id=some o->G.γ id=some b->¬K' b) (aF:∀id b,G.δ id b->I2 (b9 G.o id)=true->¬K' b) {a:List (Nat×Ob)}
  (hu:(go=none/\a=[])∨∃id b T cs0 t,∃z:j6 t,go=some b/\a=[(id,Ob.box T (r5 false t z))]/\b9 G.o id=some (.box T cs0)/\G.γ id=some b/\∃us,Blk w' b us T/\RT K' w' t us z) :
  Sat X ⟨G.ρ,G.γ,K',w',a++G.o,G.B,G.δ⟩/\GLe G ⟨G.ρ,G.γ,K',w',a++G.o,G.B,G.δ⟩:=by
 have V:∀k,G.K k->go≠some k:=fun k n e=>by
  grind
 have Q:∀k,G.K k->k<G.w.heap.size->w'.heap[k]?=G.w.heap[k]?:=fun k n hl=>m.block k hl (V k n)
 -- where the objects stand
 have Y:∀i,(∃T cs0 t,∃z:j6 t,b9 (a++G.o) i=some (.box T (r5 false t z))/\b9 G.o i=some (.box T cs0)/\go=G.γ i/\(∃b us,G.γ i=some b/\Blk w' b us T/\RT K' w' t us z))∨(b9 (a++G.o) i=b9 G.o i/\∀o b,b9 G.o i=some o->G.γ i=some b->go≠some b):=fun i=>by
  rcases hu with ⟨rfl,rfl⟩ | ⟨id,b,T,cs0,t,z,rfl,rfl,g,hγ,us,hB,hR⟩
  ·grind
  ·by_cases e:id=i
   ·subst e;exact .inl ⟨T,cs0,t,z,by rw[List.cons_append,lK,if_pos rfl],g,hγ.symm,b,us,hγ,hB,hR⟩
   ·refine .inr ⟨by rw[List.cons_append,lK,if_neg e]; rfl,fun o b' d y e'=>?_⟩;cases e';exact e (S.inj id i _ _ b g d hγ y)
 have l:GLe G ⟨G.ρ,G.γ,K',w',a++G.o,G.B,G.δ⟩:=by
  refine⟨rfl,fun k n hl=>⟨hK k n,Q k n hl⟩,fun i T cs hi=>⟨rfl,?_⟩,fun i T Te fr t xs W hi=>⟨rfl,?_⟩,fun i T fr t xs aB hi=>?_⟩
  ·grind
  ·grind
  ·grind
 have f:∀i o,b9 (a++G.o) i=some o->∃o',b9 G.o i=some o':=fun i o h=>by
  grind
 have E:∀i,I2 (b9 (a++G.o) i)=true->I2 (b9 G.o i)=true:=fun i h=>by
  rcases Y i with ⟨T',_,t,z,q,_⟩ | ⟨q,_⟩
  ·rw[q] at h; cases h
  grind
 refine⟨⟨S.base,m.os.trans S.os,m.tape.trans S.tape,m.output.trans S.output,Nat.le_trans S.size m.size,fun k n hi=>?_,?_,?_,?_,?_,aA,u,fun i b s hg=>?_,fun i v h=>(S.pin i v h).mono l⟩,l⟩
 rotate_right
 ·have hg:=E i hg;obtain⟨s1,s2,s3,s4⟩:=S.sep i b s hg
  grind
 ·refine(m.block k (Nat.lt_of_lt_of_le n S.size) (fun e=>?_)).trans (S.block k n hi);rcases hu with ⟨rfl,_⟩ | ⟨id,b,T,cs0,t,z,rfl,_,g,hγ,_⟩
  ·cases e
  ·cases e;rcases S.own id _ k g hγ with h | h
   ·omega
   grind
 ·intro i o g;rcases Y i with ⟨T,cs0,t,z,q,H,_,b,us,h3,h4,h5⟩ | ⟨q,H⟩
  ·rw[q] at g;cases g;obtain⟨b',aD,r,F,_⟩:=S.obs i _ H;rw[h3] at r;cases r;exact⟨b,us,h3,F,h4,AU (RT.up h5 (fun k n=>⟨n,(fun e=>by cases e)⟩))⟩
  ·have d:b9 G.o i=some o:=by rw[<- q]; exact g
   have:=S.obs i o d;cases o with
   | box T cs =>
     obtain⟨b,us,r,F,P,g4⟩:=this;exact⟨b,us,r,F,P.we m (fun j hj e=>by grind),g4.mono l⟩
   | arr T fr t xs aB =>
     obtain⟨cs,r,F,P⟩:=this;exact⟨cs,r.we m (fun j hj e=>H _ j d e hj),F.mapR (fun c x hr=>RT.same (w:=G.w) l.hR hr),P⟩
   | grd T Te fr t xs W =>
     obtain⟨vs,bs,r,F,P⟩:=this;refine⟨vs,bs,r.we m (fun j hj e=>H _ j d e hj),F.up l (fun _=>Iff.rfl) m (fun b s E=>?_),P⟩;rcases hu with ⟨rfl,_⟩ | ⟨id,b',T,cs0,t,z,rfl,_,ho2,hγ,_⟩
     ·grind
     ·cases E;exact(S.sep i b s (by rw[d]; rfl)).2.2.1 id _ ho2 hγ
 ·intro i i' o o' b g d s y;obtain⟨o1,q⟩:=f i o g;obtain⟨o2,H⟩:=f i' o' d;exact S.inj i i' o1 o2 b q H s y
 ·grind
 ·intro i o b g s;obtain⟨o1,q⟩:=f i o g;exact S.own i o1 b q s
theorem Sat.add{X:Cx}{G:Gh}(S:Sat X G){id:Nat}{ob:Ob}{r:Value}{g:Option Nat}(hd:b9 G.o id=none)(hg:∀b,g=some b->(X.w0.heap.size<=b∨X.io b)/\¬G.K b/\(∀i o,b9 G.o i=some o->G.γ i≠some b)/\∀i,G.δ i b->I2 (b9 G.o i)=true->False)
  (aC:GLe G (G.put id ob r g G.w)->ObR (G.put id ob r g G.w) id ob):Sat X (G.put id ob r g G.w)/\GLe G (G.put id ob r g G.w):=by
 have d:∀i,b9 (G.put id ob r g G.w).o i=if id=i then some ob else b9 G.o i:=fun i=>lK _ _ _ _
 have y:∀i o,b9 G.o i=some o->¬id=i:=fun i o h e=>by grind
 have f:GLe G (G.put id ob r g G.w):=by
  refine⟨rfl,fun k u _=>⟨u,rfl⟩,fun i T z hi=>?_,fun i T Te H t x n hi=>?_,fun i T H t x E hi=>?_⟩
  ·grind[Gh.put]
  ·grind[Gh.put]
  ·have e:=y i _ hi;rw[d,if_neg e];simp only[Gh.put,if_neg (Ne.symm e)]
   grind
 refine⟨⟨S.base,S.os,S.tape,S.output,S.size,S.block,?_,?_,?_,?_,S.klt,S.kfrom,fun i b c q=>?_,fun i v h=>(S.pin i v h).mono f⟩,f⟩
 rotate_right
 ·obtain⟨Y,c⟩:=c;rw[d,if_neg (Ne.symm Y)] at q;obtain⟨s1,s2,s3,s4⟩:=S.sep i b c q;refine⟨s1,s2,fun j o a P=>?_,fun j P aA=>?_⟩
  ·grind[Gh.put]
  ·obtain⟨aB,P⟩:=P
   grind
 ·intro i o a;rw[d] at a;by_cases e:id=i
  ·grind
  ·rw[if_neg e] at a;have:=S.obs i o a;cases o with
   | box T z =>
     obtain⟨b,us,V,s,F,h4⟩:=this;exact⟨b,us,by grind[Gh.put],by grind[Gh.put],F,h4.mono f⟩
   | arr T H t x E =>
     obtain⟨z,V,s,F⟩:=this;exact⟨z,by grind[Gh.put],s,by grind[Gh.put]⟩
   | grd T Te H t x n =>
     obtain⟨vs,bs,V,s,F⟩:=this;exact⟨vs,bs,by grind[Gh.put],s.up f (fun b=>⟨fun h=>h.2,fun h=>⟨Ne.symm e,h⟩⟩) (WE.refl (g:=none) _) (fun _ _ h=>by cases h),by grind[Gh.put]⟩
 ·intro i W o o' b a l c m;rw[d] at a l;simp only[Gh.put] at c m;by_cases e:i=id
  ·grind
  ·rw[if_neg e] at c;rw[if_neg (Ne.symm e)] at a;by_cases Q:W=id
   ·grind
   ·rw[if_neg Q] at m;rw[if_neg (Ne.symm Q)] at l;exact S.inj i W o o' b a l c m
 ·intro i o b a c u;rw[d] at a;simp only[Gh.put] at c u;by_cases e:i=id
  ·grind
  ·rw[if_neg e] at c;rw[if_neg (Ne.symm e)] at a;exact S.imm i o b a c u
 ·intro i o b a c;rw[d] at a;simp only[Gh.put] at c;by_cases e:i=id
  ·grind
  ·rw[if_neg e] at c;rw[if_neg (Ne.symm e)] at a;exact S.own i o b a c
mutual
def H5(d:Nat):Nat->AV->AV×List (Nat×Ob)×Nat
 | j,.ow T fr t xs=>(.os (1000*j+d) 0,[(1000*j+d,.arr T fr t xs 0)],j+1)
 | j,.ob T xs=>match N4 d j xs with | (ys,o,k)=>(.ptr (1000*k+d) 0,(1000*k+d,.box T ys) :: o,k+1)
 | j,.agg xs=>match N4 d j xs with | (ys,o,k)=>(.agg ys,o,k)
 | j,.tup xs=>match N4 d j xs with | (ys,o,k)=>(.tup ys,o,k)
 | j,.v x=>(.v x,[],j)
 | j,.d fr t x=>(.d fr t x,[],j)
 | j,a=>(a,[],j)
def N4(d:Nat):Nat->List AV->List AV×List (Nat×Ob)×Nat
 | j,[]=>([],[],j)
 | j,a :: r=>match H5 d j a with
   | (b,o,k)=>match N4 d k r with | (s,o',k')=>(b :: s,o'++o,k')
end
theorem XP{a:Type}{l m:List (Nat×a)}{i:Nat}(h:∀x∈l,x.1≠i):b9 (l++m) i=b9 m i:=by
 induction l with
 | nil=>rfl
 | cons x r b =>
   obtain⟨d,v⟩:=x;rw[List.cons_append,lK,if_neg (h (d,v) (by simp))]
   grind
structure XQ(X:Cx)(d j k:Nat)(G:Gh)(obs:List (Nat×Ob))(gs:List (Option Nat))(G':Gh):Prop where
 sat:Sat X G'
 le:GLe G G'
 w:G'.w=G.w
 K:G'.K=G.K
 o:G'.o=obs++G.o
 jk:j<=k
 num:∀x∈obs,∃i,j<=i/\i<k/\x.1=1000*i+d
 far:∀b,some b ∉ gs->(∀i o,b9 G.o i=some o->G.γ i≠some b)->∀i o,b9 G'.o i=some o->G'.γ i≠some b
 dl:∀i b,G'.δ i b->I2 (b9 G'.o i)=true->G.δ i b/\I2 (b9 G.o i)=true
def RX(X:Cx)(G:Gh)(gs:List (Option Nat)):Prop:=∀b,some b∈gs->X.w0.heap.size<=b/\¬G.K b/\(∀i o,b9 G.o i=some o->G.γ i≠some b)/\∀i,G.δ i b->I2 (b9 G.o i)=true->False
theorem m0U:∀{g h:List (Option Nat)},CU (g++h)->CU g/\CU h/\∀b,some b∈g->some b ∉ h
 | [],h,k=>⟨trivial,k,fun _ a=>by cases a⟩
 | x :: r,h,⟨k1,k2⟩=>by
   obtain⟨d,f,i⟩:=m0U k2;refine⟨⟨fun b a c=>k1 b a (by simp[c]),d⟩,f,fun b a c=>?_⟩;rcases List.mem_cons.1 a with e | a
   ·exact k1 b e.symm (by simp[c])
   grind
theorem XR{X:Cx}{d j:Nat}{G:Gh}(S:Sat X G){b:List (Option Nat)}:XQ X d j j G [] b G :=
 ⟨S,GLe.refl G,rfl,rfl,rfl,Nat.le_refl _,(fun _ h=>by cases h),(fun _ _ h=>h),fun _ _ h a=>⟨h,a⟩⟩
mutual
theorem i0f{X:Cx}{d:Nat}{K:Bool->Nat->Prop}:∀(a:AV) {j k:Nat} {b:AV} {obs:List (Nat×Ob)} {G:Gh} {u:Value} {gs:List (Option Nat)},H5 d j a=(b,obs,k)->Sat X G->(∀fr i,K fr i->rg G fr i)->ResR K G.w a u gs->CU gs->RX X G gs->(∀x∈obs,b9 G.o x.1=none) ->
  ∃G',XQ X d j k G obs gs G'/\AVR G' b u
 | .ow T fr t xs,j,k,b,obs,G,u,gs,h,S,hK,hR,hN,hF,hfr=>by
   simp only[H5,pj] at h;obtain⟨rfl,rfl,rfl⟩:=h;obtain⟨g,cs,rfl,z,hO,hA⟩:=hR;have hd:=hfr _ (List.mem_singleton.2 rfl);have f:=S.add (id:=1000*j+d) (ob:=.arr T fr t xs 0) (r:=u) (g:=g) hd (fun b m=>let h:=hF b (by grind); ⟨.inl h.1,h.2⟩) (fun E=>⟨cs,by grind[Gh.put],hA.mapR (fun c x hr=>RT.same (w:=G.w) (fun k hk _=>⟨hK fr k hk,rfl⟩) hr),fun b e=>by simp only[Gh.put,if_true] at e ⊢; subst e; exact Nat.le_trans S.le (hF b (by simp)).1⟩);refine⟨_,⟨f.1,f.2,rfl,rfl,rfl,Nat.le_succ _,fun x H=>?_,fun b m q i o hi=>?_,fun i b m n=>?_⟩,z,T,fr,t,xs,0,?_,Nat.le_refl _,fun _=>by simp[Gh.put]⟩
   ·cases List.mem_singleton.1 H;exact⟨j,Nat.le_refl _,Nat.lt_succ_self _,rfl⟩
   ·rw[show(Gh.put G (1000*j+d) (.arr T fr t xs 0) u g G.w).o=(1000*j+d,.arr T fr t xs 0) :: G.o from rfl,lK] at hi
    grind[Gh.put]
   ·obtain⟨hn,m⟩:=m;rw[show(Gh.put G (1000*j+d) (.arr T fr t xs 0) u g G.w).o=(1000*j+d,.arr T fr t xs 0) :: G.o from rfl,lK,if_neg (Ne.symm hn)] at n;exact⟨m,n⟩
   ·rw[show(Gh.put G (1000*j+d) (.arr T fr t xs 0) u g G.w).o=(1000*j+d,.arr T fr t xs 0) :: G.o from rfl,lK]; simp
 | .agg xs,j,k,b,obs,G,u,gs,h,S,hK,⟨us,e,hR⟩,hN,hF,hfr=>by
   simp only[H5] at h;cases f:N4 d j xs with
   | mk F r =>
     obtain⟨o,s⟩:=r;rw[f] at h;simp only[pj] at h;obtain⟨rfl,rfl,rfl⟩:=h;obtain⟨G',z,W⟩:=RY xs f S hK hR hN hF hfr;exact⟨G',z,us,e,W⟩
 | .tup xs,j,k,b,obs,G,u,gs,h,S,hK,⟨us,e,hR⟩,hN,hF,hfr=>by
   simp only[H5] at h;cases f:N4 d j xs with
   | mk F r =>
     obtain⟨o,s⟩:=r;rw[f] at h;simp only[pj] at h;obtain⟨rfl,rfl,rfl⟩:=h;obtain⟨G',z,W⟩:=RY xs f S hK hR hN hF hfr;exact⟨G',z,us,e,W⟩
 | .v x,j,k,b,obs,G,u,gs,h,S,hK,⟨hR,e⟩,hN,hF,hfr=>by
   simp only[H5,pj] at h;obtain⟨rfl,rfl,rfl⟩:=h;exact⟨G,XR S,hR⟩
 | .d fr t x,j,k,b,obs,G,u,gs,h,S,hK,⟨hR,e⟩,hN,hF,hfr=>by
   simp only[H5,pj] at h;obtain⟨rfl,rfl,rfl⟩:=h;exact⟨G,XR S,RT.same (w:=G.w) (fun k hk _=>⟨hK fr k hk,rfl⟩) hR⟩
 | .ptr _ _,_,_,_,_,_,_,_,_,_,_,hR,_,_,_=>hR.elim
 | .pel _ _ _ _ _,_,_,_,_,_,_,_,_,_,_,hR,_,_,_=>hR.elim
 | .os _ _,_,_,_,_,_,_,_,_,_,_,hR,_,_,_=>hR.elim
 | .fn _ _,_,_,_,_,_,_,_,_,_,_,hR,_,_,_=>hR.elim
 | .gel _ _,_,_,_,_,_,_,_,_,_,_,hR,_,_,_=>hR.elim
 | .og _,_,_,_,_,_,_,_,_,_,_,hR,_,_,_=>hR.elim
 | .ob T xs,j,k,b,obs,G,u,gs,h,S,hK,⟨b0,us,gs',eg,hu,hB,hR⟩,hN,hF,hfr=>by
   subst eg;simp only[H5] at h;cases f:N4 d j xs with
   | mk F r =>
     obtain⟨o,s⟩:=r;rw[f] at h;simp only[pj] at h;obtain⟨rfl,rfl,rfl⟩:=h;obtain⟨n1,n2⟩:=hN;have Q:=JT xs f;have E:=JU xs f;obtain⟨V,l,A1⟩:=RY xs f S hK hR n2 (fun b m=>hF b (by grind)) (fun x H=>hfr x (by grind));obtain⟨f1,f2,f3,f4⟩:=hF b0 (by simp);have hd:b9 V.o (1000*s+d)=none:=by
      rw[l.o,XP]
      ·simp_all
      ·intro y hy e;obtain⟨i',aC,aB,aA⟩:=Q y hy;rw[aA] at e;omega
     have f:=l.sat.add (id:=1000*s+d) (ob:=.box T F) (r:=u) (g:=some b0) hd (fun b m=>by
      cases m;exact⟨.inl f1,by rw[l.K]; exact f2,l.far b0 (n1 b0 rfl) f3,fun i hi P=>f4 i (l.dl i b0 hi P).1 (l.dl i b0 hi P).2⟩) (fun E=>⟨b0,us,by simp[Gh.put],by simp[Gh.put,hu],by show Blk V.w b0 us T; rw[l.w]; exact hB,A1.mono E⟩)
     have Y:(Gh.put V (1000*s+d) (.box T F) u (some b0) V.w).o=(1000*s+d,.box T F) :: V.o:=rfl;refine⟨_,⟨f.1,GLe.trans l.le f.2 (by rw[l.w]; exact Nat.le_refl _),l.w,l.K,by rw[Y,l.o]; rfl,by omega,fun x H=>?_,fun b m q i o hi=>?_,fun i b m n=>?_⟩,⟨T,F,by rw[Y,lK,if_pos rfl]⟩,b0,by simp[Gh.put,hu],by rw[hu]⟩
     ·rcases List.mem_cons.1 H with rfl | H
      ·exact⟨s,by omega,by omega,rfl⟩
      ·obtain⟨i,z,W,h3⟩:=l.num x H;exact⟨i,z,by omega,h3⟩
     ·rw[Y,lK] at hi;simp only[Gh.put];by_cases e:i=1000*s+d
      ·grind
      ·rw[if_neg e];rw[if_neg (Ne.symm e)] at hi;exact l.far b (fun h=>m (by simp[h])) q i o hi
     ·obtain⟨hn,m⟩:=m;rw[Y,lK,if_neg (Ne.symm hn)] at n;exact l.dl i b m n
theorem RY{X:Cx}{d:Nat}{K:Bool->Nat->Prop}:∀(as':List AV) {j k:Nat} {bs:List AV} {obs:List (Nat×Ob)} {G:Gh} {us:List Value} {gs:List (Option Nat)},N4 d j as'=(bs,obs,k)->Sat X G->(∀fr i,K fr i->rg G fr i)->ResRs K G.w as' us gs->CU gs->RX X G gs->(∀x∈obs,b9 G.o x.1=none) ->
  ∃G',XQ X d j k G obs gs G'/\AVRs G' bs us
 | [],j,k,bs,obs,G,us,gs,h,S,hK,⟨hR,e⟩,hN,hF,hfr=>by
   simp only[N4,pj] at h;obtain⟨rfl,rfl,rfl⟩:=h;exact⟨G,XR S,hR⟩
 | a :: r,j,k,bs,obs,G,us,gs,h,S,hK,⟨u,us',g1,g2,e1,e2,hR1,hR2⟩,hN,hF,hfr=>by
   subst e1; subst e2;simp only[N4] at h;cases hp:H5 d j a with
   | mk b q =>
     obtain⟨o,T⟩:=q;rw[hp] at h;simp only at h;cases hp2:N4 d T r with
     | mk s q =>
       obtain⟨o',k2⟩:=q;rw[hp2] at h;simp only[pj] at h;obtain⟨rfl,rfl,rfl⟩:=h;obtain⟨n1,n2,n3⟩:=m0U hN;obtain⟨Y,c,A1⟩:=i0f a hp S hK hR1 n1 (fun b g=>hF b (by simp[g])) (fun x l=>hfr x (by simp[l]));have P:RX X Y g2:=fun b g=>by
        obtain⟨f1,f2,f3,f4⟩:=hF b (by simp[g]);exact⟨f1,by rw[c.K]; exact f2,c.far b (fun h=>n3 b h g) f3,fun i hi t=>f4 i (c.dl i b hi t).1 (c.dl i b hi t).2⟩
       have v:∀x∈o',b9 Y.o x.1=none:=fun x l=>by
        obtain⟨i,aB,aA,H⟩:∃i,T<=i/\i<k2/\x.1=1000*i+d:=by
         exact JT r hp2 x l
        rw[c.o,XP]
        ·grind
        ·intro y hy e;obtain⟨i',W,V,F⟩:=c.num y hy;rw[F,H] at e;omega
       obtain⟨G2,f,A2⟩:=RY r hp2 c.sat (fun fr i hi=>by obtain⟨z,m⟩:=hK fr i hi; exact⟨by rw[c.K]; exact z,fun e=>by rw[c.le.hB]; exact m e⟩) (by rw[c.w]; exact hR2) n2 P v;refine⟨G2,⟨f.sat,?_,f.w.trans c.w,f.K.trans c.K,?_,Nat.le_trans c.jk f.jk,?_,?_,fun i b g E=>c.dl i b (f.dl i b g E).1 (f.dl i b g E).2⟩,u,us',rfl,A1.mono f.le,A2⟩
       ·exact GLe.trans c.le f.le (by rw[c.w]; exact Nat.le_refl _)
       ·rw[f.o,c.o,List.append_assoc]
       ·intro x l;rcases List.mem_append.1 l with l | l
        ·obtain⟨i,z,m,Q⟩:=f.num x l;exact⟨i,Nat.le_trans c.jk z,m,Q⟩
        ·obtain⟨i,z,m,Q⟩:=c.num x l;exact⟨i,z,Nat.lt_of_lt_of_le m f.jk,Q⟩
       ·intro b g n;exact f.far b (fun h=>g (by simp[h])) (c.far b (fun h=>g (by simp[h])) n)
theorem XS{d:Nat}:∀(a:AV) {j k:Nat} {b:AV} {obs:List (Nat×Ob)},H5 d j a=(b,obs,k)->(∀x∈obs,∃i,j<=i/\i<k/\x.1=1000*i+d)/\j<=k
 | .ow T fr t xs,j,k,b,obs,h=>by
   simp only[H5,pj] at h;obtain⟨rfl,rfl,rfl⟩:=h;refine⟨fun x c=>?_,Nat.le_succ _⟩;cases List.mem_singleton.1 c;exact⟨j,Nat.le_refl _,Nat.lt_succ_self _,rfl⟩
 | .agg xs,j,k,b,obs,h=>by
   simp only[H5] at h;cases hp:N4 d j xs with
   | mk l r =>
     obtain⟨o,g⟩:=r;rw[hp] at h;simp only[pj] at h;obtain⟨rfl,rfl,rfl⟩:=h;exact⟨JT xs hp,JU xs hp⟩
 | .tup xs,j,k,b,obs,h=>by
   simp only[H5] at h;cases hp:N4 d j xs with
   | mk l r =>
     obtain⟨o,g⟩:=r;rw[hp] at h;simp only[pj] at h;obtain⟨rfl,rfl,rfl⟩:=h;exact⟨JT xs hp,JU xs hp⟩
 | .v x,j,k,b,obs,h=>by simp only[H5,pj] at h; grind
 | .d fr t x,j,k,b,obs,h=>by simp only[H5,pj] at h; grind
 | .ptr _ _,j,k,b,obs,h=>by simp only[H5,pj] at h; grind
 | .pel _ _ _ _ _,j,k,b,obs,h=>by simp only[H5,pj] at h; grind
 | .os _ _,j,k,b,obs,h=>by simp only[H5,pj] at h; grind
 | .fn _ _,j,k,b,obs,h=>by simp only[H5,pj] at h; grind
 | .gel _ _,j,k,b,obs,h=>by simp only[H5,pj] at h; grind
 | .og _,j,k,b,obs,h=>by simp only[H5,pj] at h; grind
 | .ob T xs,j,k,b,obs,h=>by
   simp only[H5] at h;cases hp:N4 d j xs with
   | mk l r =>
     obtain⟨o,g⟩:=r;rw[hp] at h;simp only[pj] at h;obtain⟨rfl,rfl,rfl⟩:=h;have e:=JT xs hp;have f:=JU xs hp;refine⟨fun x c=>?_,by omega⟩;rcases List.mem_cons.1 c with rfl | c
     ·exact⟨g,f,by omega,rfl⟩
     ·obtain⟨i,m,q,n⟩:=e x c;exact⟨i,m,by omega,n⟩
theorem JU{d:Nat}:∀(as':List AV) {j k:Nat} {bs:List AV} {obs:List (Nat×Ob)},N4 d j as'=(bs,obs,k)->j<=k
 | [],j,k,bs,obs,h=>by simp only[N4,pj] at h; omega
 | a :: r,j,k,bs,obs,h=>by
   simp only[N4] at h;cases hp:H5 d j a with
   | mk b q =>
     obtain⟨o,c⟩:=q;rw[hp] at h;simp only at h;cases hp2:N4 d c r with
     | mk s q =>
       obtain⟨f,e⟩:=q;rw[hp2] at h;simp only[pj] at h;obtain⟨rfl,rfl,rfl⟩:=h;exact Nat.le_trans (XS a hp).2 (JU r hp2)
theorem JT{d:Nat}:∀(as':List AV) {j k:Nat} {bs:List AV} {obs:List (Nat×Ob)},N4 d j as'=(bs,obs,k)->∀x∈obs,∃i,j<=i/\i<k/\x.1=1000*i+d
 | [],j,k,bs,obs,h=>by simp only[N4,pj] at h; grind
 | a :: r,j,k,bs,obs,h=>by
   simp only[N4] at h;cases hp:H5 d j a with
   | mk b q =>
     obtain⟨o,l⟩:=q;rw[hp] at h;simp only at h;cases hp2:N4 d l r with
     | mk s q =>
       obtain⟨m,n⟩:=q;rw[hp2] at h;simp only[pj] at h;obtain⟨rfl,rfl,rfl⟩:=h;intro x c;rcases List.mem_append.1 c with c | c
       ·obtain⟨i,f,e,g⟩:=JT r hp2 x c;exact⟨i,Nat.le_trans (XS a hp).2 f,e,g⟩
       ·obtain⟨i,f,e,g⟩:=(XS a hp).1 x c;exact⟨i,f,Nat.lt_of_lt_of_le e (JU r hp2),g⟩
end
def Ga:(ps:List Par)->B6 ps->List AV
 | [],_=>[]
 | .io _ t :: _,z=>r5 false t z
 | .dat _ :: r,z=>Ga r z
 | .agg _ :: r,z=>Ga r z
 | .fn _ _ :: r,z=>Ga r z
 | .nof _ :: r,z=>Ga r z
 | .nil :: r,z=>Ga r z
 | .os _ _ :: r,z=>Ga r z
def As(o:List (Nat×Ob))(ps:List Par)(z:B6 ps):Option Nat->List (Nat×Ob)
 | none=>[]
 | some id=>match b9 o id with
   | some (.box T _)=>[(id,.box T (Ga ps z))]
   | _=>[]
def Cg{α:Type}:List α->Bool
 | []=>true
 | _ :: _=>false
theorem NN{c:Type}{l:List c}(h:Cg l=true):l=[]:=by cases l with
 | nil=>rfl
 | cons a b=>cases h
def isNone{α:Type}:Option α->Bool
 | none=>true
 | some _=>false
def CV(o:List (Nat×Ob)):List (Nat×Ob)->Bool
 | []=>true
 | (i,_) :: r=>AZ o i&&CV o r
def Gb(i:Nat):List Nat->Bool
 | []=>true
 | x :: r=>!Nat.beq x i&&Gb i r
def NO(l:List Nat):Option Nat->Bool
 | none=>true
 | some i=>Gb i l
def RZ:List Par->List AV->Bool
 | .fn f _ :: r,.fn f' _ :: s=>Nat.beq f f'&&RZ r s
 | .nof f :: r,.fn f' _ :: s=>Nat.beq f f'&&RZ r s
 | _ :: r,_ :: s=>RZ r s
 | _,_=>true
/- Data that lead Z9 new memory alone, or nowhere. -/
mutual
def BB:AV->Bool
 | .d fr t _=>fr||D4 t
 | .ow _ fr t _=>fr||D4 t
 | .ob _ xs=>JV xs
 | .agg xs=>JV xs
 | .tup xs=>JV xs
 | _=>true
def JV:List AV->Bool
 | []=>true
 | a :: r=>BB a&&JV r
end
mutual
theorem ResR.fresh{K K':Bool->Nat->Prop}{w:World}(f:∀fr k,K true k->K' fr k):∀{a:AV} {u:Value} {gs:List (Option Nat)},BB a=true->ResR K w a u gs->ResR K' w a u gs
 | .v _,_,_,_,h=>h
 | .d fr t x,u,gs,hf,⟨h,e⟩=>by
   refine⟨?_,e⟩;simp only[BB,Bool.or_eq_true] at hf
   grind[RT.up,RT.free]
 | .ow T fr t xs,u,gs,hf,⟨g,cs,h1,h2,h3,h4⟩=>by
   refine⟨g,cs,h1,h2,h3,h4.mapR (fun c x h=>?_)⟩;simp only[BB,Bool.or_eq_true] at hf
   grind[RT.up,RT.free]
 | .agg xs,u,gs,hf,⟨us,e,h⟩=>⟨us,e,ResRs.fresh f (by grind[BB]) h⟩
 | .ob T xs,u,gs,hf,⟨b,us,gs',e1,e2,h1,h⟩=>⟨b,us,gs',e1,e2,h1,ResRs.fresh f (by grind[BB]) h⟩
 | .tup xs,u,gs,hf,⟨us,e,h⟩=>⟨us,e,ResRs.fresh f (by grind[BB]) h⟩
theorem ResRs.fresh{K K':Bool->Nat->Prop}{w:World}(b:∀fr k,K true k->K' fr k):∀{as':List AV} {us:List Value} {gs:List (Option Nat)},JV as'=true->ResRs K w as' us gs->ResRs K' w as' us gs
 | [],_,_,_,h=>h
 | a :: r,us,gs,hf,⟨u,us',g1,g2,e1,e2,h1,h2⟩=>by
   simp only[JV,ba] at hf;exact⟨u,us',g1,g2,e1,e2,ResR.fresh b hf.1 h1,ResRs.fresh b hf.2 h2⟩
end
def Sb(o:List (Nat×Ob))(q:Prop)(rv:AV)(l:List Nat):Option Nat->Option (Prop×AV×List (Nat×Ob)×List Nat)
 | some id=>match rv,b9 o id with
   | .ow T fr t xs,some (.arr _ _ _ _ ver)=>bif D4 t&&Cg l then some (q,.os id (ver+1),[(id,.arr T fr t xs (ver+1))],[id]) else none
   | _,_=>none
 | none=>none
def HN(o:List (Nat×Ob))(d f:Nat)(as':List AV):List Ct->Option (Prop×AV×List (Nat×Ob)×List Nat)
 | []=>none
 | c :: r=>bif Nat.beq c.f f&&RZ c.ps as' then(match L4 o c.ps as' with
   | some (x,l,io)=>match c.res x with
     | ⟨q,rv,z⟩=>bif F4 c.ps then Sb o q rv l io else(match H5 d 0 rv with
       | (av,obs,_)=>bif NO l io&&CV o obs&&(Cg l||(BB rv&&isNone io)) then some (q,av,obs++As o c.ps z io,(obs.map Prod.fst)++(l++io.toList)) else none)
   | none=>none) else HN o d f as' r
def CW(T:List Ct)(st:St)(p:Pa)(d:Nat):Op->Option (Prop×AV×List (Nat×Ob)×List Nat)
 | .call ⟨.value x,xs,_⟩=>match rd st p x,L9 st p xs.toList with
   | some (.fn f caps),some as'=>HN st.o d f (as'++caps) T
   | _,_=>none
 | _=>none
def Cl(X:Cx)(G:Gh)(a:Act)(op:Op)(ty:TypeId)(av:AV)(obs:List (Nat×Ob)):Prop :=
 ∃f vs,(∀dst pos after g,(execOp a.eval ⟨dst,op,ty,pos,after,g⟩).run X.P G.w=.ok (.enter f vs) G.w) /\
  Calls X.P f vs G.w fun en w'=>∃v G',en=.returned v/\G'.w=w'/\Sat X G'/\GLe G G'/\G'.o=obs++G.o/\AVR G' av v
theorem j0a{o:List (Nat×Ob)}:∀{l:List (Nat×Ob)},CV o l=true->∀x∈l,b9 o x.1=none
 | [],_,_,h=>by cases h
 | (i,b) :: r,h,x,hx=>by
   simp only[CV,ba] at h;rcases List.mem_cons.1 hx with rfl | hx
   ·grind[FW]
   ·exact j0a h.2 x hx
theorem HO{i:Nat}:∀{l:List Nat},Gb i l=true->i ∉ l
 | [],_,h=>by cases h
 | x :: r,h,hx=>by
   simp only[Gb,ba,Bool.not_eq_true'] at h;rcases List.mem_cons.1 hx with rfl | hx
   ·simp at h
   ·exact HO h.2 hx
theorem IOR.get{K:Nat->Prop}{w:World}{b:Nat}:∀{ps:List Par} {z:B6 ps} {Ka:Nat->Prop} {wa:World} {x:s9 ps} {vs:List Value},¬F4 ps=true->IOR K w (some b) ps z->ArgsR Ka wa (some b) ps x vs->∃t,∃z':j6 t,∃T us cs0,Ga ps z=r5 false t z'/\Blk w b us T/\RT K w t us z'/\Blk wa b cs0 T
 | [],_,_,_,_,_,_,_,h=>by cases h.2
 | .os _ _ :: r,_,_,_,_,_,hv,_,_=>(hv rfl).elim
 | .io T t :: r,z,_,_,x,vs,_,⟨b',cs,e,hB,hR⟩,⟨b2,cs2,us,_,e2,_,hB2,_⟩=>by cases e; cases e2; exact⟨t,z,T,cs,_,rfl,hB,hR,hB2⟩
 | .dat _ :: r,z,_,_,x,vs,hv,h,⟨_,_,_,_,k⟩=>IOR.get (ps:=r) hv h k
 | .agg _ :: r,z,_,_,x,vs,hv,h,⟨_,_,_,_,k⟩=>IOR.get (ps:=r) hv h k
 | .fn _ _ :: r,z,_,_,x,vs,hv,h,⟨_,_,_,_,k⟩=>IOR.get (ps:=r) hv h k
 | .nof _ :: r,z,_,_,x,vs,hv,h,⟨_,_,k⟩=>IOR.get (ps:=r) hv h k
 | .nil :: r,z,_,_,x,vs,hv,h,⟨_,_,k⟩=>IOR.get (ps:=r) hv h k
theorem XT{o:List (Nat×Ob)}:∀{ps:List Par} {as':List AV} {x:s9 ps} {l:List Nat} {io:Option Nat},L4 o ps as'=some (x,l,io)->∀id∈l,∃ob,b9 o id=some ob
 | [],[],x,l,io,h=>by
   simp only[L4,oi,pj] at h
   grind
 | [],_ :: _,x,l,io,h=>by grind[L4]
 | _ :: _,[],x,l,io,h=>by grind[L4]
 | p :: r,a :: as',x,l,io,h=>by
   simp only[L4] at h;split at h
   ·rename_i g e i b;split at h
    ·rename_i y m j d;have f:=XT d;have c:∀id∈e,∃ob,b9 o id=some ob:=by
      unfold Cf at b;split at b
      ·split at b
       ·grind[oi,pj,FZ]
       grind
      ·split at b
       ·grind[oi,pj,FZ]
       grind
      ·rw[ce] at b;split at b
       ·split at b
        ·grind[oi,pj,FZ]
        grind
       grind
      ·grind
      ·grind
      ·grind
      ·grind
      ·cases b
     grind
    grind
   grind
theorem r0i{X:Cx}{G:Gh}(S:Sat X G){d:Nat}{aH:List AV}{us:List Value}(hA:AVRs G aH us){ps:List Par}(aG:¬F4 ps=true){x:s9 ps}{l:List Nat}{m:Option Nat}(E:L4 G.o ps aH=some (x,l,m))(aL:NO l m=true) :
  (∀k,Y3 G l k->k<G.w.heap.size)/\∃go,ArgsR (Y3 G l) G.w go ps x us/\∀(res:s9 ps->FY ps),CV G.o (H5 d 0 (res x).r).2.1=true/\(Cg l||(BB (res x).r&&isNone m))=true->∀(en:Ending) (w':World),
  (∃v gs,en=.returned v/\WE go G.w w'/\CU gs/\(∀b,some b∈gs->G.w.heap.size<=b∨(F4 ps=true/\go=some b))/\ResR (fun fr=>NM fr (Y3 G l) G.w w' gs) w' (res x).r v gs /\
    IOR (fun k=>(Y3 G l k∨G.w.heap.size<=k)/\UFg w' G.w.heap.size k/\some k ∉ gs/\go≠some k) w' go ps (res x).z) ->
  ∃v G',en=.returned v/\G'.w=w'/\Sat X G'/\GLe G G'/\G'.o=((H5 d 0 (res x).r).2.1++As G.o ps (res x).z m)++G.o/\AVR G' (H5 d 0 (res x).r).1 v:=by
 have Y:=XT E;obtain⟨_,go,aM,aJ⟩:=JS S Y E (fun _ h=>h) (fun i hi=>by subst hi; exact HO aL) hA;have aW:∀k,Y3 G l k->k<G.w.heap.size:=by
  rintro k (h | ⟨id,aF,c⟩)
  ·exact(S.klt k h).lt
  ·obtain⟨ob,u⟩:=Y id aF;have:=S.obs id ob u;cases ob with
   | box T cs=>obtain⟨b,us,a,n,q,h4⟩:=this; rw[c] at a; cases a; exact(Xy q).lt
   | arr T fr t xs aT=>obtain⟨cs,a,n,_⟩:=this; rw[c] at a; exact(FT a).lt
   | grd T Te fr t xs aK=>obtain⟨vs,bs,a,_⟩:=this; rw[c] at a; exact(FT a).lt
 have aN:∀k,G.K k->go≠some k:=fun k c e=>by
  rcases aJ with ⟨_,W⟩ | ⟨id,b,T',cs',_,W,ho',hγ'⟩ | ⟨_,_,_,_,_,_,_,_,_,W⟩
  ·grind
  ·rw[W] at e; cases e; exact S.imm id _ _ ho' hγ' c
  grind
 refine⟨aW,go,aM,fun res aI en w' aC=>?_⟩;obtain⟨v,gs,rfl,hw,hN,F,hR,aQ⟩:=aC;have hc:(NO l m=true/\CV G.o (H5 d 0 (res x).r).2.1=true)/\(Cg l||(BB (res x).r&&isNone m))=true:=⟨⟨aL,aI.1⟩,aI.2⟩;have F:∀b,some b∈gs->G.w.heap.size<=b:=fun b f=>(F b f).resolve_right (fun h=>aG h.1);have aX:∀id o b,b9 G.o id=some o->G.γ id=some b->b<G.w.heap.size:=fun id o b u f=>by
  have:=S.obs id o u;cases o with
  | box T cs=>obtain⟨b',us,a,n,q,h4⟩:=this; rw[f] at a; cases a; exact q.lt
  | arr T fr t xs aT=>obtain⟨cs,a,n,_⟩:=this; exact a.lt b f
  | grd T Te fr t xs aK=>obtain⟨vs,bs,a,_⟩:=this; exact a.lt b f
 -- the region that data may lead to now
 let K':Nat->Prop:=fun k=>G.K k∨(G.w.heap.size<=k/\UF w' k/\some k ∉ gs)
 have aY:l=[]->∀k,Y3 G l k->G.K k:=fun aA k c=>by
  subst aA;rcases c with h | ⟨id,aF,_⟩
  ·exact h
  grind
 have aD:l=[]∨(BB (res x).r=true/\m=none):=by
  have:=hc.2;simp only[Bool.or_eq_true,ba] at this;rcases this with h | ⟨a,n⟩
  ·grind[NN]
  ·refine .inr ⟨a,?_⟩;cases m with
   | none=>rfl
   | some i=>cases n
 obtain⟨KR,aS,hR⟩:∃KR:Bool->Nat->Prop,(∀fr k,KR fr k->K' k/\(fr=true->G.B<=k))/\ResR KR w' (res x).r v gs:=by
  rcases aD with aA | ⟨aB,_⟩
  ·refine⟨_,fun fr k c=>?_,hR⟩;obtain⟨a | a,n,q⟩:=c
   ·grind
   ·exact⟨.inr ⟨a,n.2 a,q⟩,fun _=>Nat.le_trans S.le (Nat.le_trans S.size a)⟩
  ·refine⟨fun _=>NM true (Y3 G l) G.w w' gs,fun fr k c=>?_,ResR.fresh (fun _ _ h=>h) aB hR⟩;obtain⟨a | a,n,q⟩:=c
   ·grind
   ·exact⟨.inr ⟨a,n.2 a,q⟩,fun _=>Nat.le_trans S.le (Nat.le_trans S.size a)⟩
 have s:(go=none/\As G.o ps (res x).z m=[])∨∃id b T H t,∃z:j6 t,go=some b/\As G.o ps (res x).z m=[(id,Ob.box T (r5 false t z))]/\b9 G.o id=some (.box T H)/\G.γ id=some b/\∃us,Blk w' b us T/\RT K' w' t us z:=by
  rcases aJ with ⟨rfl,rfl⟩ | ⟨id,b,T,cs,rfl,rfl,u,hγ⟩ | ⟨_,_,_,_,_,_,_,_,_,e⟩
  rotate_right
  ·grind
  ·exact .inl ⟨rfl,rfl⟩
  ·obtain⟨t,z',T',aV,H,e,hB,aR,Q⟩:=IOR.get aG aQ aM;obtain⟨b',aZ,a,n,q,h4⟩:=S.obs id _ u;rw[hγ] at a;cases a;have aP:T=T':=by
    unfold Blk at q Q;rw[q] at Q;simp only[oi,Obj.cells.injEq] at Q;exact Q.2.1
   subst aP;refine .inr ⟨id,b,T,cs,t,z',rfl,?_,u,hγ,aV,hB,RT.same (w:=w') (fun k c _=>⟨?_,rfl⟩) aR⟩
   ·grind[As]
   ·obtain⟨a | a,n,q,h4⟩:=c
    ·grind
    ·exact .inr ⟨a,n.2 a,q⟩
 obtain⟨S1,L1⟩:=Sat.after S hw (K':=K') (fun k c=>.inl c) (by
  rintro k (h | h)
  ·exact(S.klt k h).same hw.size (hw.block k (S.klt k h).lt (aN k h))
  ·exact h.2.1.g) (by
  rintro k (h | h)
  ·exact S.kfrom k h
  ·exact .inr (Nat.le_trans S.base.2 (Nat.le_trans S.size h.1))) (by
  rintro id o b u f (h | h)
  ·exact S.imm id o b u f h
  grind) (by
  rintro id b f V (h | h)
  ·exact(S.sep id b f V).2.1 h
  ·have:=S.dlt f V; omega) s
 have aO:∀i o,b9 (As G.o ps (res x).z m++G.o) i=some o->∃o',b9 G.o i=some o':=fun i o h=>by
  rcases s with ⟨_,e⟩ | ⟨id,b,T,H,t,z,_,e,u,_⟩
  ·rw[e] at h; exact⟨o,h⟩
  ·rw[e,List.cons_append,lK] at h;by_cases W:id=i
   ·subst W; exact⟨_,u⟩
   ·rw[if_neg W] at h; exact⟨o,h⟩
 have aU:∀i,I2 (b9 (As G.o ps (res x).z m++G.o) i)=true->I2 (b9 G.o i)=true:=fun i h=>by
  rcases s with ⟨_,e⟩ | ⟨id,b,T,H,t,z,_,e,u,_⟩
  ·grind
  ·rw[e,List.cons_append,lK] at h;by_cases W:id=i
   ·rw[if_pos W] at h; cases h
   grind
 have hF:RX X ⟨G.ρ,G.γ,K',w',As G.o ps (res x).z m++G.o,G.B,G.δ⟩ gs:=fun b f=>by
  refine⟨Nat.le_trans S.size (F b f),?_,fun i o hi e=>?_,fun i hi V=>?_⟩
  ·rintro(h | h)
   ·have:=(S.klt b h).lt; have:=F b f; omega
   grind
  ·grind
  ·have:=S.dlt hi (aU i V);have:=F b f;omega
 have aB:∀y∈(H5 d 0 (res x).r).2.1,b9 (As G.o ps (res x).z m++G.o) y.1=none:=fun y hy=>by
  grind[j0a,b9,As]
 obtain⟨G',P,hv⟩:=i0f (K:=KR) (res x).r (d:=d) (j:=0) rfl S1 aS hR hN hF aB;refine⟨v,G',rfl,P.w,P.sat,GLe.trans L1 P.le hw.size,?_,hv⟩;rw[P.o,List.append_assoc]
theorem i0S{X:Cx}{G:Gh}(S:Sat X G){d f:Nat}{Y:List AV}{us:List Value}(hA:AVRs G Y us):∀{T:List Ct},(∀c∈T,Ok X.P c)->∀{q:Prop} {av:AV} {obs:List (Nat×Ob)} {fp:List Nat},HN G.o d f Y T=some (q,av,obs,fp)->q ->
  Ar X.P f=true/\Calls X.P f us.toArray G.w fun en w'=>∃v G',en=.returned v/\G'.w=w'/\Sat X G'/\GLe G G'/\G'.o=obs++G.o/\AVR G' av v
 | [],_,q,av,obs,fp,h,_=>by cases h
 | c :: r,hT,q,av,obs,fp,h,hq=>by
   have hr:=i0S S (d:=d) hA (T:=r) (fun c hc=>hT c (by grind)) (f:=f) (q:=q) (av:=av) (obs:=obs) (fp:=fp);simp only[HN,ce] at h;split at h
   ·rename_i H;rw[ba] at H;have H:=nb H.1;split at h
    ·rename_i x l io a;by_cases n:F4 c.ps=true
     ·rw[if_pos n] at h;unfold Sb at h;split at h
      ·rename_i id;split at h
       ·rename_i T fr t xs E' aG t' aH j aD ho;rw[ce] at h;split at h
        ·rename_i E;rw[ba] at E;have aC:=NN E.2;subst aC;simp only[oi,pj] at h;obtain⟨rfl,rfl,rfl,_⟩:=h;obtain⟨W,s⟩:=hT c (by simp);refine⟨by grind,?_⟩;have V:=XT a;obtain⟨_,go,F,y⟩:=JS S V a (fun _ h=>h) (fun i hi h=>by cases h) hA;have y:go=G.γ id:=by
          rcases y with ⟨e,_⟩ | ⟨id',b,T',cs',e,_,ho',_⟩ | ⟨id',_,_,_,_,_,e,hg,_⟩
          ·cases e
          ·grind
          ·grind
         subst y;obtain⟨_,_,_,aI⟩:=S.obs id _ ho;have z:∀k,Y3 G [] k->k<G.w.heap.size:=by
          rintro k (h | ⟨id,aJ,hk⟩)
          ·exact(S.klt k h).lt
          ·grind
         rw[<- H];refine Calls.mono (s x hq G.w us (G.γ id) (Y3 G []) z F) ?_;rintro en w' ⟨v,gs,rfl,hw,hN,aN,hR,aK⟩;rw[aD] at hR;obtain⟨g,cs,rfl,Q,hO,aF⟩:=hR;have aA:∀b,g=some b->G.γ id=some b∨G.w.heap.size<=b:=fun b hb=>by
          grind
         have m:=S.put (id:=id) (ob:=.arr T fr t xs (j+1)) (r:=v) (g:=g) (w':=w') (go:=G.γ id) ⟨(fun T cs h=>by grind),(fun T aG t' aH aL h=>by grind),by rw[ho]; rfl⟩
          (fun b hb=>⟨⟨_,ho⟩,hb⟩) hw aA
          (fun aM=>⟨cs,by grind[Gh.put],aF.mapR (fun c x h=>RT.free E.1 h),fun b e=>by
            simp only[Gh.put,if_true] at e ⊢;rcases aA b e with h | h
            ·exact aI b h
            ·exact Nat.le_trans S.le (Nat.le_trans S.size h)⟩)
         exact⟨v,_,rfl,rfl,m.1,m.2,rfl,Q,T,fr,t,xs,j+1,by rw[show(Gh.put G id (.arr T fr t xs (j+1)) v g w').o=(id,.arr T fr t xs (j+1)) :: G.o from rfl,lK]; simp,Nat.le_refl _,fun _=>by simp[Gh.put]⟩
        ·cases h
       ·cases h
      ·cases h
     rw[if_neg n] at h;split at h
     ·rename_i hc;simp only[ba] at hc;simp only[oi,pj] at h;obtain⟨rfl,rfl,rfl,_⟩:=h;obtain⟨W,s⟩:=hT c (by simp);refine⟨by grind,?_⟩;obtain⟨z,go,F,aB⟩:=r0i S (d:=d) hA n a hc.1.1;rw[<- H];exact Calls.mono (s x hq G.w us go (Y3 G l) z F) (fun en w' u=>aB c.res ⟨hc.1.2,hc.2⟩ en w' u)
     grind
    grind
   grind
theorem k0F{X:Cx}{G:Gh}{a:Act}{st:St}{p:Pa}{T:List Ct}(v:∀c∈T,Ok X.P c)(S:Sat X G)(H:G.o=st.o)(s:EnvR X.n G st.e a)(m:PathP p a){t:Op}{ty:TypeId}{d:Nat}{q:Prop}{r:AV}{obs:List (Nat×Ob)}{fp:List Nat}
  (h:CW T st p d t=some (q,r,obs,fp)) (Y:q):Cl X G a t ty r obs:=by
 unfold CW at h;split at h
 ·rename_i x k Ts;split at h
  ·rename_i f l z V u;obtain⟨cs,E,Q⟩:=D0 s m V;have W:=AX s m u;rw[<- H] at h;obtain⟨i,b⟩:=i0S S (AVRs.app Q W) v h Y;refine⟨f,_,fun w F j g=>?_,b⟩
   haveI:Rs X.P f:=⟨i⟩
   have y:k.map a.eval=(k.toList.map a.eval).toArray:=by grind
   simp only[execOp,resolve,y,E];simp[Deferred.ofValue,invoke,Xs]
  grind
 grind
def BC(Γ:p5)(st:St)(p:Pa)(d:Nat):Op->Option (Prop×AV×List (Nat×Ob)×List Nat)
 | .load T x=>match rd st p x,b9 Γ T with
   | some (.gel id k),some ⟨_,_,_,.sl _,_⟩=>match b9 st.o id with
     | some (.grd T0 Te fr t xs none)=>bif AZ st.o d then some (k<xs.length,.os d 0,[(d,.arr Te fr t (xs.getD k []) 0),(id,.grd T0 Te fr t xs (some k))],[d,id]) else none
     | _=>none
   | _,_=>none
 | .slice T x l h none=>match rd st p x,U3 st p l,U3 st p h,b9 Γ T with
   | some (.os id ver),some lo,some none,some ⟨_,_,_,.sl E,_⟩=>match b9 Γ E,b9 st.o id with
     | some te,some (.arr E' fr t xs ver')=>bif Nat.beq ver ver'&&Nat.beq te.size (sz t) then some (NL (lo.getD 0) xs.length xs.length,.os id (ver+1),[(id,.arr E' fr t (HM xs lo none) (ver+1))],[id]) else none
     | _,_=>none
   | _,_,_,_=>none
 | _=>none
def Ch(Γ:p5)(st:St)(p:Pa):Op->Option (Prop×List (Nat×Ob)×List Nat)
 | .store T x y=>match rd st p x,rd st p y,b9 Γ T with
   | some (.gel id k),some (.os d ver),some ti=>match b9 st.o id,b9 st.o d with
     | some (.grd T0 Te fr t xs (some k')),some (.arr Te' fr' t' l ver')=>match Y1 (.sl t') (.sl t) l with
       | some l'=>bif Nat.beq ver ver'&&Nat.beq Te Te'&&Nat.beq ti.size 1 then some (k<xs.length/\k=k',[(id,.grd T0 Te (fr&&fr') t (xs.set k l') none),(d,.arr Te' fr' t' [] (ver+1))],[id,d]) else none
       | none=>none
     | _,_=>none
   | _,_,_=>none
 | _=>none
def Ml(X:Cx)(G:Gh)(a:Act)(op:Op)(ty:TypeId)(av:AV)(obs:List (Nat×Ob)):Prop :=
 ∃v G',(∀dst pos after g,(execOp a.eval ⟨dst,op,ty,pos,after,g⟩).run X.P G.w=.ok (.value v) G'.w)/\Sat X G'/\GLe G G'/\G'.o=obs++G.o/\AVR G' av v
def Ul(X:Cx)(G:Gh)(a:Act)(op:Op)(ty:TypeId)(obs:List (Nat×Ob)):Prop :=
 ∃G',(∀dst pos after g,(execOp a.eval ⟨dst,op,ty,pos,after,g⟩).run X.P G.w=.ok .skip G'.w)/\Sat X G'/\GLe G G'/\G'.o=obs++G.o
theorem v0S{a:Type}{l:List a}{k:Nat}(b:k<l.length)(z:a):l[k]?=some (l.getD k z):=by grind
section
variable {X:Cx} {G:Gh} {a:Act} {st:St} {Γ:p5} {p:Pa}
theorem D0l(S:Sat X G){id d k:Nat}{n Te:TypeId}{fr:Bool}{t:Ty}{xs:List (List (j6 t))}(E:b9 G.o id=some (.grd n Te fr t xs none))(hd:b9 G.o d=none)(u:k<xs.length){vs:List Value}{m:Nat->Option Nat}
  (hO:Own G.w n 1 (G.γ id) (G.ρ id) xs.length vs) (f:Rows G id Te fr t xs none vs m) (Q:∀b,G.γ id=some b->G.B<=b) :
  ∃G',Sat X G'/\GLe G G'/\G'.w=G.w/\G'.o=[(d,.arr Te fr t (xs.getD k []) 0),(id,.grd n Te fr t xs (some k))]++G.o/\AVR G' (.os d 0) (vs.getD k (.bool false)):=by
 have aA:¬id=d:=fun e=>by grind
 obtain⟨cs,Y,W,r3⟩:=f.row k u (fun h=>by cases h);have q:∀b j,j<xs.length->m j=some b->(X.w0.heap.size<=b∨X.io b)/\¬G.K b/\(∀i o,b9 G.o i=some o->G.γ i≠some b)/\∀i,G.δ i b->I2 (b9 G.o i)=true->id=i:=fun b j a c=>S.sep id b ((f.blk b).2 ⟨j,a,(fun h=>by cases h),c⟩) (by rw[E]; rfl)
 have h1:=S.grd (id:=id) (T':=n) (Te':=Te) (fr':=fr) (t':=t) (xs':=xs) (hole':=some k) (D:=fun b=>∃j,j<xs.length/\j≠k/\m j=some b) (w':=G.w) (go:=none) E (fun _ e=>by cases e) (WE.refl _)
  (fun b ⟨j,a,_,c⟩=>by
    grind)
  (fun F=>⟨vs,m,hO,⟨f.len,fun b=>⟨fun h=>?_,fun⟨j,a,V,c⟩=>.inl ⟨rfl,j,a,(fun e=>V (by rw[e])),c⟩⟩,fun j j' b a v _ _ c y=>f.inj j j' b a v (fun h=>by cases h) (fun h=>by cases h) c y,fun j a _=>f.row j a (fun h=>by cases h),f.one⟩,Q⟩)
 ·obtain⟨S1,T⟩:=h1;have s:∀i,b9 (G.grd id (.grd n Te fr t xs (some k)) (fun b=>∃j,j<xs.length/\j≠k/\m j=some b) G.w).o i=if id=i then some (.grd n Te fr t xs (some k)) else b9 G.o i:=fun i=>lK _ _ _ _
  have P:=S1.add (id:=d) (ob:=.arr Te fr t (xs.getD k []) 0) (r:=vs.getD k (.bool false)) (g:=m k) (by grind)
   (fun b c=>by
     obtain⟨s1,s2,H,s4⟩:=q b k u c;refine⟨s1,s2,fun i o hi=>?_,fun i hi z=>?_⟩
     ·rw[s] at hi;by_cases e:id=i
      ·subst e; exact H _ _ E
      ·rw[if_neg e] at hi; exact H i o hi
     ·rw[s] at z;rcases hi with ⟨_,j,a,l,x⟩ | ⟨hi,hib⟩
      ·exact l (f.inj j k b a u (fun h=>by cases h) (fun h=>by cases h) x c)
      ·rw[if_neg (Ne.symm hi)] at z;exact hi (s4 i hib z).symm)
   (fun F=>⟨cs,by simp only[Gh.put,if_true]; exact Y,W,fun b e=>by simp only[Gh.put,if_true] at e ⊢; exact r3 b e⟩)
  obtain⟨S2,L2⟩:=P;refine⟨_,S2,T.trans L2 (Nat.le_refl _),rfl,rfl,f.one _ ?_,Te,fr,t,xs.getD k [],0,by rw[show ∀G0:Gh,(Gh.put G0 d (.arr Te fr t (xs.getD k []) 0) (vs.getD k (.bool false)) (m k) G0.w).o=(d,.arr Te fr t (xs.getD k []) 0) :: G0.o from fun _=>rfl,lK]; simp,Nat.le_refl _,fun _=>by simp[Gh.put]⟩;exact List.mem_of_getElem? (v0S (by rw[f.len]; exact u) _)
 ·rcases h with ⟨_,j,a,l,c⟩ | ⟨h,_⟩
  ·exact⟨j,a,(fun e=>l (Option.some.inj e).symm),c⟩
  ·exact(h rfl).elim
theorem y0z{w:World}{E s:Nat}{g:Option Nat}{d:Option Addr}{n a:Nat}{cs:List Value}(h:Own w E s g (.slice d n a) n cs){k:Nat}(j:k<=n):∃g',(g'=none∨g'=g)/\n<=a/\Own w E s g' (.slice (if a=k then d else d.map (·.add (k*s))) (n-k) (a-k)) (n-k) (cs.drop (k*s)):=by
 have f:=h.clen;rcases h with ⟨rfl,rfl,rfl,p,e⟩ | ⟨b,o,c,cur,rfl,e,h1,h2,h3,h4,rfl⟩
 ·cases e;have:k=0:=by omega
  subst this;exact⟨none,.inl rfl,Nat.le_refl _,.inl ⟨rfl,rfl,by simp,d,by simp⟩⟩
 ·cases e;by_cases i:a=k
  ·refine⟨none,.inl rfl,h2,.inl ⟨rfl,by omega,?_,some ⟨b,o,none⟩,?_⟩⟩
   ·grind
   grind
  ·refine⟨some b,.inr rfl,h2,.inr ⟨b,o+k*s,a-k,cur,rfl,?_,h1,by omega,by omega,?_,?_⟩⟩
   ·grind[Addr.add]
   ·have:=Nat.mul_le_mul_right s (show k<=a by omega)
    grind[Nat.sub_mul]
   grind[List.drop_take,List.drop_drop,Nat.sub_mul]
theorem k0X(F:x9 X.P Γ)(S:Sat X G)(hE:EnvR X.n G st.e a)(hp:PathP p a){T E m ty id ver:Nat}{s0 y0:Nat}{z0:Value}{aD:Ty}{x:Operand}{l h:Option Operand}{lo:Option Int}{fr:Bool}{t:Ty}{xs:List (j6 t)}{u:TI}
  (hT:b9 Γ T=some ⟨s0,y0,z0,.sl E,aD⟩) (aB:b9 Γ E=some u) (W:b9 G.o id=some (.arr m fr t xs ver)) (hs:u.size=sz t) (hx:AVR G (.os id ver) (a.eval x)) (hl:U3 st p l=some lo) (hh:U3 st p h=some none) (hq:NL (lo.getD 0) xs.length xs.length) :
  Ml X G a (.slice T x l h none) ty (.os id (ver+1)) [(id,.arr m fr t (HM xs lo none) (ver+1))]:=by
 obtain⟨_,T1,aN,t1,aM,aI,g1,g2,g3⟩:=hx;rw[W] at g1;cases g1;have hu:=g3 rfl;obtain⟨cs,hO,hA,aC⟩:=S.obs id _ W;obtain⟨q,d,hv⟩:=hO.len;rw[hv] at hO hu;have hU:=(F T _ hT).2.2.2.2.2;have hI:Info X.P E u.size u.bytes u.zero:=⟨(F E _ aB).1⟩;obtain⟨aL,i,h2,h3,h5⟩:=hI.get;have V:HM xs lo none=xs.drop (lo.getD 0).toNat:=by
  rw[w0o xs lo none hq];simp
 rw[V];have Y:h=none:=by
  rcases RQ hE hp hh with ⟨j,_⟩ | ⟨y,n,k,_,e2,_⟩
  ·exact j
  ·cases e2
 subst Y;have aA:(∃n k,l=some n/\a.eval n=.int k (lo.getD 0))∨(l=none/\lo.getD 0=0):=by
  rcases RQ hE hp hl with ⟨j,e2⟩ | ⟨y,n,k,j,e2,e3⟩
  ·grind
  ·grind
 generalize lo.getD 0=l0 at *
 obtain⟨q1,q2,q3⟩:=hq;have hk:l0.toNat<=xs.length:=by omega
 obtain⟨g',Q,aH,aG⟩:=y0z hO hk;have v:∀z H f g,(execOp a.eval ⟨z,.slice T x l none none,ty,H,f,g⟩).run X.P G.w=.ok (.value (.slice (if d=l0.toNat then q else q.map (·.add (l0.toNat*sz t))) (xs.length-l0.toNat) (d-l0.toNat))) G.w:=by
  intro z H f g;rcases aA with ⟨n1,k1,rfl,j⟩ | ⟨rfl,j⟩
  ·have r2:=run_sliceBound (P:=X.P) (w:=G.w) k1 l0 xs.length .sliceB q1 q2;simp[execOp,hu,Instr.sliceAt,Instr.slice,Instr.sliceBounds,run_underlying hU,Result.andThen,Y0 G.w i,h2,hs,j,r2]
  ·simp[execOp,hu,Instr.sliceAt,Instr.slice,Instr.sliceBounds,run_underlying hU,Result.andThen,Y0 G.w i,h2,hs,j]
 have h:=S.put (id:=id) (ob:=.arr m fr t (xs.drop l0.toNat) (ver+1)) (r:=.slice (if d=l0.toNat then q else q.map (·.add (l0.toNat*sz t))) (xs.length-l0.toNat) (d-l0.toNat)) (g:=g') (w':=G.w) (go:=G.γ id) ⟨(fun T cs h=>by grind),(fun T aJ t' aK aO h=>by grind),by rw[W]; rfl⟩
  (fun b s=>⟨⟨_,W⟩,s⟩) (WE.refl _) (fun b s=>by
    rcases Q with h | h
    ·rw[h] at s; cases s
    ·exact .inl (h ▸ s))
  (fun aF=>⟨cs.drop (l0.toNat*sz t),by simp only[Gh.put,if_true,List.length_drop]; exact aG,(AllR.takeD (fun c y hy=>RT.len hy) l0.toNat hA).2.mapR (fun c x hr=>RT.same (w:=G.w) aF.hR hr),fun b e=>by
    simp only[Gh.put,if_true] at e ⊢;rcases Q with h | h
    ·rw[h] at e; cases e
    ·exact aC b (h ▸ e)⟩)
 exact⟨_,G.put id (.arr m fr t (xs.drop l0.toNat) (ver+1)) (.slice (if d=l0.toNat then q else q.map (·.add (l0.toNat*sz t))) (xs.length-l0.toNat) (d-l0.toNat)) g' G.w,v,h.1,h.2,rfl,rfl,m,fr,t,xs.drop l0.toNat,ver+1,by rw[show(Gh.put G id (.arr m fr t (xs.drop l0.toNat) (ver+1)) _ _ _).o=(id,.arr m fr t (xs.drop l0.toNat) (ver+1)) :: G.o from rfl,lK]; simp,Nat.le_refl _,fun _=>by simp[Gh.put]⟩
theorem s0L(V:x9 X.P Γ)(S:Sat X G)(ho:G.o=st.o)(hE:EnvR X.n G st.e a)(hp:PathP p a){op:Op}{ty:TypeId}{d:Nat}{q:Prop}{r:AV}{obs:List (Nat×Ob)}{l:List Nat}
  (h:BC Γ st p d op=some (q,r,obs,l)) (hq:q):Ml X G a op ty r obs:=by
 unfold BC at h;split at h
 ·rename_i T x;split at h
  ·rename_i id k s0 y0 z0 E Y h1 h2;split at h
   ·rename_i T0 Te fr t xs F;rw[ce] at h;split at h
    ·rename_i z;simp only[oi,pj] at h;obtain⟨rfl,rfl,rfl,_⟩:=h;rw[<- ho] at F z;have hx:=D0 hE hp h1;obtain⟨_,b,o,n,c,y,hx⟩:=hx;obtain⟨m,bs,H,hR,hB⟩:=S.obs id _ F;have Q:G.γ id=some b:=by
      rcases H with ⟨_,hn,_⟩ | ⟨b',o',cap,cur,Q,f,_⟩
      ·omega
      ·rw[y] at f;simp only[Value.slice.injEq,oi,Addr.mk.injEq] at f;rw[Q,f.1.1]
     have j:At G.w b o m:=by rw[Q] at H; obtain⟨o0,c0,e0,j⟩:=H.at; rw[y] at e0; cases e0; exact j
     have u:=v0S (by rw[hR.len]; exact hq:k<m.length) (.bool false);have s:At G.w b (o+k) [m.getD k (.bool false)]:=by
      intro i v f;cases i with
      | zero =>
        simp only[List.getElem?_cons_zero,oi] at f;subst f;have:=j k _ u;omega
      | succ i=>grind
     obtain⟨v,aB,f⟩:=q0F (ty:=ty) (cs:=[.v (m.getD k (.bool false))]) (av:=.v (m.getD k (.bool false))) hE (V _ _ h2) hx s ⟨_,[],rfl,rfl,rfl⟩ rfl;have f:v=_:=f;subst f;obtain⟨G',S',L',hw,aA,hr⟩:=D0l S F (FW z) hq H hR hB;exact⟨_,G',fun aD aG W g=>by grind,S',L',aA,hr⟩
    grind
   grind
  grind
 ·rename_i T x l0 h0;split at h
  ·rename_i id aF lo s0 y0 z0 E Y h1 h2 F h4;split at h
   ·rename_i te E' fr t xs aC h5 h6;rw[ce] at h;split at h
    ·rename_i z;rw[ba] at z
     grind[oi,pj,nb,k0X,D0]
    grind
   grind
  grind
 grind
theorem x0Y{vs:List Value}{k j:Nat}{u z:Value}(a:k<vs.length):(B7 vs k [u]).getD j z=if j=k then u else vs.getD j z:=by
 grind[B7]
theorem E0R(aO:x9 X.P Γ)(S:Sat X G){id d k ver:Nat}{T0 Te T ty:TypeId}{fr fr':Bool}{t:Ty}{xs:List (List (j6 t))}{l:List (j6 t)}{x y:Operand}{ti:TI}(hT:b9 Γ T=some ti)(hs:ti.size=1)
  (ho:b9 G.o id=some (.grd T0 Te fr t xs (some k))) (Y:b9 G.o d=some (.arr Te fr' t l ver)) (hk:k<xs.length) (hx:AVR G (.gel id k) (a.eval x)) (hy:AVR G (.os d ver) (a.eval y)) :
  Ul X G a (.store T x y) ty [(id,.grd T0 Te (fr&&fr') t (xs.set k l) none),(d,.arr Te fr' t [] (ver+1))]:=by
 haveI:Info X.P T ti.size ti.bytes ti.zero:=⟨(aO T _ hT).1⟩
 have F:¬d=id:=fun e=>by grind
 obtain⟨_,b,o,n,c,aF,bA⟩:=hx;obtain⟨y0,T1,bM,t1,bL,bF,g1,g2,g3⟩:=hy;rw[Y] at g1;cases g1;have aR:=g3 rfl;obtain⟨cs,aY,hA,bH⟩:=S.obs d _ Y;have aG:Own G.w Te (sz t) (G.γ d) (a.eval y) l.length cs:=by rw[aR]; exact aY
 -- the row lets go of its block
 have h1:=S.put (id:=d) (ob:=.arr Te fr' t [] (ver+1)) (r:=.slice none 0 0) (g:=none) (w':=G.w) (go:=none) ⟨(fun T cs h=>by grind),(fun T fr' t' xs' bJ h=>by grind),by rw[Y]; rfl⟩
  (fun _ e=>by cases e) (WE.refl _) (fun _ e=>by cases e) (fun aK=>⟨[],by simp only[Gh.put,if_true]; exact Own.nil,rfl,fun b e=>by grind[Gh.put]⟩)
 generalize hG1:G.put d (.arr Te fr' t [] (ver+1)) (.slice none 0 0) none G.w=G1 at h1;obtain⟨S1,L1⟩:=h1;have aH:G1.w=G.w:=by rw[<- hG1]; rfl
 have aT:G1.K=G.K:=by rw[<- hG1]; rfl
 have aQ:G1.B=G.B:=by rw[<- hG1]; rfl
 have z:∀i,b9 G1.o i=if d=i then some (.arr Te fr' t [] (ver+1)) else b9 G.o i:=fun i=>by rw[<- hG1]; exact lK _ _ _ _
 have W:∀i,i≠d->G1.ρ i=G.ρ i:=fun i hi=>by grind[Gh.put]
 have V:∀i,i≠d->G1.γ i=G.γ i:=fun i hi=>by rw[<- hG1]; simp only[Gh.put,if_neg hi]
 have bD:G1.γ d=none:=by rw[<- hG1]; simp only[Gh.put,if_true]
 have aJ:∀i b,G1.δ i b↔i≠d/\G.δ i b:=fun i b=>by rw[<- hG1]; exact Iff.rfl
 have s:b9 G1.o id=some (.grd T0 Te fr t xs (some k)):=by rw[z,if_neg F]; exact ho
 obtain⟨vs,bs,hO,hR,hB⟩:=S1.obs id _ s;have hb:G1.γ id=some b:=by
  rcases hO with ⟨_,hn,_⟩ | ⟨f,o',cap,cur,hb,q,_⟩
  ·omega
  ·rw[W id (Ne.symm F),aF] at q;simp only[Value.slice.injEq,oi,Addr.mk.injEq] at q;rw[hb,q.1.1]
 have bB:G.γ id=some b:=by rw[<- V id (Ne.symm F)]; exact hb
 -- the store
 have aL:=hO;rw[hb] at aL;rcases aL with ⟨h,_⟩ | ⟨f,o',cap,cur,m,hv2,k1,k2,k3,k4,k5⟩
 ·cases h
 cases m;have Q:G1.ρ id=.slice (some ⟨b,o,none⟩) n c:=(W id (Ne.symm F)).trans aF;have aV:o'=o:=by rw[Q] at hv2; cases hv2; rfl
 subst aV;have bG:cur.toList.length=o'+cap:=by rw[Array.length_toList,k4,Nat.mul_one]
 have H:(a.eval y).cells.toList=[a.eval y]:=by
  have:=y0;cases q:a.eval y <;> rw[q] at this <;> first | rfl | (simp[Value.oneCell'] at this)
 have bC:Blk G.w b cur.toList T0:=by unfold Blk; rw[Array.toArray_toList]; rw[aH] at k1; exact k1
 have aZ:=Ru (P:=X.P) (T:=T) (o:=o'+k) (v:=a.eval y) H (by rw[hs]; rfl) (RF (fun u hu=>by cases List.mem_singleton.1 hu; exact y0)) bC (by simp only[List.length_singleton]; omega);have hW:=NE G.w b (B7 cur.toList (o'+k) [a.eval y]).toArray;have aB:k<vs.length:=by rw[hR.len]; exact hk
 have aA:Own (G.w.setRow b (B7 cur.toList (o'+k) [a.eval y]).toArray) T0 1 (G1.γ id) (G1.ρ id) xs.length (B7 vs k [a.eval y]):=by
  rw[hb] at hO ⊢;have:=Own.set (w':=G.w.setRow b (B7 cur.toList (o'+k) [a.eval y]).toArray) (k:=k) (vs:=[a.eval y]) hO Q hk rfl (fun bE aN=>by
   rw[k1] at aN;cases aN;rw[Nat.mul_one]
   grind[setRow_heap])
  rwa [Nat.mul_one] at this
 have aU:∀f,G.γ d=some f->(X.w0.heap.size<=f∨X.io f)/\¬G.K f/\(∀i o,b9 G1.o i=some o->G1.γ i≠some f)/\∀i,G1.δ i f->I2 (b9 G1.o i)=true->False:=fun f m=>by
  refine⟨S.own d _ f Y m,S.imm d _ f Y m,fun i o hi hg=>?_,fun i hi hg=>?_⟩
  ·by_cases e:i=d
   ·grind
   ·rw[z,if_neg (Ne.symm e)] at hi;rw[V i e] at hg;exact e (S.inj i d _ _ f hi Y hg m)
  ·obtain⟨e,hi⟩:=(aJ i f).1 hi;rw[z,if_neg (Ne.symm e)] at hg;exact(S.sep i f hi hg).2.2.1 d _ Y m
 have h2:=S1.grd (id:=id) (T':=T0) (Te':=Te) (fr':=fr&&fr') (t':=t) (xs':=xs.set k l) (hole':=none) (D:=fun f=>G1.δ id f∨G.γ d=some f) (w':=G.w.setRow b (B7 cur.toList (o'+k) [a.eval y]).toArray) (go:=some b) s (fun f e=>by grind) (by grind[WE.of_wr])
  (fun f m=>by
    rcases m with m | m
    ·obtain⟨s1,s2,s3,s4⟩:=S1.sep id f m (by rw[s]; rfl)
     grind
    grind)
  (fun aK=>by
    refine⟨B7 vs k [a.eval y],fun j=>if j=k then G.γ d else bs j,by rw[List.length_set]; exact aA,⟨?_,fun f=>⟨fun h=>?_,fun h=>?_⟩,fun j j' f E aM _ _ aI aD=>?_,fun j E _=>?_,fun v q=>?_⟩,hB⟩
    ·grind[List.length_set,B7,List.length_append,List.length_take,List.length_drop,List.length_singleton]
    ·have h':G1.δ id f∨G.γ d=some f:=by
      rcases h with ⟨_,h⟩ | ⟨h,_⟩
      ·exact h
      ·omega
     rcases h' with h' | h'
     ·obtain⟨j,E,bI,aC⟩:=(hR.blk f).1 h'
      grind
     ·exact⟨k,by grind,(fun h=>by cases h),by grind⟩
    ·obtain⟨j,E,_,aC⟩:=h;rw[List.length_set] at E;refine .inl ⟨rfl,?_⟩;by_cases e:j=k
     ·grind
     ·rw[if_neg e] at aC; exact .inl ((hR.blk f).2 ⟨j,E,(fun h=>e (Option.some.inj h).symm),aC⟩)
    ·rw[List.length_set] at E aM;have bK:∀i,i<xs.length->i≠k->bs i=some f->G.γ d=some f->False:=fun i hi aW aX aS=>(aU f aS).2.2.2 id ((hR.blk f).2 ⟨i,hi,(fun h=>aW (Option.some.inj h).symm),aX⟩) (by rw[s]; rfl);by_cases e:j=k
     ·grind
     ·by_cases e':j'=k
      ·grind
      ·rw[if_neg e] at aI; rw[if_neg e'] at aD;exact hR.inj j j' f E aM (fun h=>e (Option.some.inj h).symm) (fun h=>e' (Option.some.inj h).symm) aI aD
    ·rw[List.length_set] at E;simp only[x0Y aB];by_cases e:j=k
     ·subst e;simp only[if_true];have eg:(xs.set j l).getD j []=l:=by simp[E]
      rw[eg];refine⟨cs,aG.we (w':=G.w.setRow b (B7 cur.toList (o'+j) [a.eval y]).toArray) (WE.of_wr hW) (fun i hi e=>?_),hA.mapR (fun c x hr=>?_),fun f m=>show G1.B<=f from by grind⟩
      ·grind
      ·refine RT.up (RT.same (K':=rg G fr') (w:=G.w) (fun i hi hl=>⟨hi,?_⟩) hr) (fun i hi=>⟨show G1.K i from by rw[aT]; exact hi.1,fun e=>show G1.B<=i from ?_⟩)
       ·exact hW.block i (fun e=>S.imm id _ b ho bB (by rw[<- e]; exact hi.1))
       ·rw[ba] at e; rw[aQ]; exact hi.2 e.2
     ·simp only[if_neg e];obtain⟨aP,r1,r2,r3⟩:=hR.row j E (fun h=>e (Option.some.inj h).symm);have eg:(xs.set k l).getD j []=xs.getD j []:=by simp[List.getElem?_set_ne (Ne.symm e)]
      rw[eg];refine⟨aP,r1.we (WE.of_wr (by rw[aH]; exact hW)) (fun i hi e'=>?_),r2.mapR (fun c x hr=>RT.up (RT.same (w:=G1.w) aK.hR hr) (fun i hi=>⟨hi.1,fun e=>hi.2 (by grind)⟩)),r3⟩;cases hi;exact(S1.sep id b ((hR.blk b).2 ⟨j,E,(fun h=>e (Option.some.inj h).symm),e'⟩) (by rw[s]; rfl)).2.2.1 id _ s hb
    ·unfold B7 at q;rcases List.mem_append.1 q with q | q
     ·rcases List.mem_append.1 q with q | q
      ·exact hR.one v (List.mem_of_mem_take q)
      grind
     ·exact hR.one v (List.mem_of_mem_drop q))
 obtain⟨S2,L2⟩:=h2;refine⟨_,RW bA aZ,S2,L1.trans L2 (by grind),?_⟩;rw[<- hG1];rfl
theorem p0p(i:x9 X.P Γ)(S:Sat X G)(Q:G.o=st.o)(H:EnvR X.n G st.e a)(F:PathP p a){b:Op}{ty:TypeId}{q:Prop}{obs:List (Nat×Ob)}{l:List Nat}
  (h:Ch Γ st p b=some (q,obs,l)) (hq:q):Ul X G a b ty obs:=by
 unfold Ch at h;split at h
 ·rename_i T x y;split at h
  ·rename_i id k d j Y W m h3;split at h
   ·rename_i u V fr t v z Te' g t' w c s h5;split at h
    ·rename_i E r;rw[ce] at h;split at h
     ·rename_i f;simp only[ba] at f
      grind[oi,pj,nb,DN,E0R,D0]
     grind
    grind
   grind
  grind
 grind
end
def L0y:Op->Bool
 | .move _ | .assign _ | .nilCheck _ | .pick .. | .binOp .. | .unOp .. | .convert .. | .fieldAddr .. | .field .. | .load .. | .indexAddr .. | .index .. | .extract .. | .makeFunc .. | .build .. | .slice ..=>true
 | .call ⟨.builtin .len,_,_⟩ | .call ⟨.builtin .min,_,_⟩ | .call ⟨.builtin .max,_,_⟩=>true
 | _=>false
def L0A:Op->Bool
 | .alloc _ | .box .. | .makeSlice .. | .buildSlice .. | .call ⟨.builtin .append,_,_⟩=>true
 | _=>false
def L0x:Op->Bool
 | .store ..=>true
 | _=>false
def Y4(Γ:p5)(T:List Ct)(st:St)(p:Pa)(o:Oper):Option (Prop×Option AV×List (Nat×Ob)×List Nat):=match o.dst with
 | some d=>bif L0y o.op then(match I6 Γ st p o.op with
   | some (q,r,l)=>some (q,some r,[],l)
   | none=>match BC Γ st p d o.op with
     | some (q,r,obs,l)=>some (q,some r,obs,l)
     | none=>none) else bif L0A o.op then(match Ba Γ st p d o.op with
     | some (q,r,w,l)=>some (q,some r,[w],l)
     | none=>none) else match CW T st p d o.op with
       | some (q,r,obs,l)=>some (q,some r,obs,l)
       | none=>none
 | none=>bif L0x o.op then(match Ce Γ st p o.op with
   | some (q,w,l)=>some (q,none,[w],l)
   | none=>match Ch Γ st p o.op with
     | some (q,obs,l)=>some (q,none,obs,l)
     | none=>none) else match CW T st p 0 o.op with
     | some (q,_,obs,l)=>some (q,none,obs,l)
     | none=>none
def BD(all:List Oper)(e:List (Nat×Sl))(o:Oper):Option Pa:=match o.guard with
 | none=>some []
 | some (j,b)=>match B9 all j with
   | some oj=>match oj.dst with
     | some dj=>match b9 e dj with
       | some ⟨q,.d _ .bool _⟩=>some ((dj,b) :: q)
       | _=>none
     | none=>none
   | none=>none
def Gc(e:List (Nat×Sl)):Pa->Prop
 | []=>True
 | (s,b) :: r=>(match b9 e s with
   | some ⟨q,.d _ .bool x⟩=>if Rz q r=true then x=b else True
   | _=>True)/\Gc e r
def Ci(dst:Option Nat)(p:Pa)(av:Option AV)(e:List (Nat×Sl)):List (Nat×Sl):=match dst,av with
 | some d,some a=>(d,⟨p,a⟩) :: e
 | _,_=>e
def N5(P:Program)(ops:Array Oper)(Q:Exit->Act->World->Prop)(o:Oper)(K:Act->World->Prop)(a:Act)(w:World):Prop :=
 if Region.wanted o (yielded ops a.tmps) then o.wp P a w K Q else K (a.put o.dst undef) w
section
variable {X:Cx} {G:Gh} {a:Act} {st:St} {Γ:p5} {T:List Ct}
theorem q0X(g:EnvR X.n G st.e a):∀{p:Pa},PathP p a->Gc st.e p
 | [],_=>trivial
 | (s,b) :: r,h=>by
   have k:=h (s,b) (by simp);have d:PathP r a:=fun x j=>h x (by grind);refine⟨?_,q0X g d⟩;split
   ·rename_i q f x i;split
    ·rename_i c;have:=BA ((g.val s _ i).1 (d.sub c))
     grind
    grind
   grind
theorem Sc{d:Nat}{v:Value}(b:d<a.tmps.size)(t:Nat):(a.put (some d) v).tmps.getD t undef=if d=t then v else a.tmps.getD t undef:=by
 unfold Act.put;by_cases h:d=t
 ·simp_all
 ·simp[h]
theorem q0g{d:Option Nat}{v:Value}:(a.put d v).tmps.size=a.tmps.size/\(a.put d v).defers=a.defers:=by
 cases d <;> simp[Act.put]
theorem m0M{d:Nat}{v:Value}(c:d<a.tmps.size){p:Pa}(h:∀x∈p,x.1≠d):PathP p (a.put (some d) v)↔PathP p a:=by
 constructor <;> intro k x b
 ·have:=k x b;rw[Sc c,if_neg (Ne.symm (h x b))] at this; omega
 ·rw[Sc c,if_neg (Ne.symm (h x b))]; exact k x b
theorem EnvR.put{g:Gh}{d:Nat}{v:Value}{p:Pa}{r:AV}(f:EnvR X.n g st.e a)(i:d<X.n)(j:∀x∈p,x.1≠d)(h:∀t s,b9 st.e t=some s->∀x∈s.p,x.1≠d)
  (k:(PathP p a->AVR g r v)/\(¬PathP p a->v=undef)):EnvR X.n g ((d,⟨p,r⟩) :: st.e) (a.put (some d) v):=by
 have c:d<a.tmps.size:=by rw[f.size]; exact i
 refine⟨by rw[q0g.2]; exact f.defers,by rw[q0g.1]; exact f.size,fun t s b=>?_⟩;rw[lK] at b;rw[Sc c];by_cases e:d=t
 ·rw[if_pos e] at b ⊢
  grind[m0M]
 ·rw[if_neg e] at b ⊢;rw[m0M c (h t s b)];exact f.val t s b
theorem XU{ops:Array Oper}{all:List Oper}(g:ops=all.toArray){j b:Nat}{c:Oper}(d:B9 all j=some c)(f:c.dst=some b):yielded ops a.tmps j=match a.tmps.getD b undef with
  | .bool v=>some v
  | _=>none:=by
 subst g;rw[W3] at d;unfold yielded;have e:(all.toArray[j]?).bind (·.dst)=some b:=by simp[d,f]
 rw[e];simp only[Option.bind_some];rw[Array.getD_eq_getD_getElem?]
 grind[undef]
theorem s0h{ops:Array Oper}{all:List Oper}(z:ops=all.toArray)(m:EnvR X.n G st.e a){o:Oper}{p:Pa}(c:BD all st.e o=some p) :
  (Region.wanted o (yielded ops a.tmps)=true/\PathP p a)∨(Region.wanted o (yielded ops a.tmps)=false/\¬PathP p a):=by
 unfold BD at c;split at c
 ·rename_i s;simp only[oi] at c; subst c;exact .inl ⟨by grind[Region.wanted],fun x v=>by cases v⟩
 ·rename_i j b s;split at c
  ·rename_i E u;split at c
   ·rename_i l w;split at c
    ·rename_i q f x t;simp only[oi] at c; subst c;have g:=XU (a:=a) z u w;have k:=m.val l _ t;by_cases i:PathP q a
     ·have e:=BA (k.1 i);rw[e] at g;simp only at g;by_cases r:x=b
      ·subst r;refine .inl ⟨by grind[Region.wanted],fun y d=>?_⟩;rcases List.mem_cons.1 d with rfl | h
       ·exact e
       ·exact i y h
      ·refine .inr ⟨by grind[Region.wanted],fun h=>?_⟩;have:=h (l,b) (by simp)
       grind
     ·have e:=k.2 i;rw[e] at g;simp only[undef] at g;exact .inr ⟨by grind[Region.wanted],fun h=>i (fun y d=>h y (by grind))⟩
    grind
   grind
  grind
theorem NP(F:x9 X.P Γ)(hT:∀c∈T,Ok X.P c){ops:Array Oper}{all:List Oper}(ha:ops=all.toArray){Q:Exit->Act->World->Prop}(S:Sat X G)(ho:G.o=st.o)(i:EnvR X.n G st.e a){o:Oper}{p:Pa}{q:Prop}{av:Option AV}{obs:List (Nat×Ob)}{fp:List Nat}
  (hp:BD all st.e o=some p) (h:Y4 Γ T st p o=some (q,av,obs,fp)) (V:Gc st.e p->q) (hg:p=[]∨obs=[]) (hd:∀d,o.dst=some d->d<X.n/\(∀x∈p,x.1≠d)/\∀t s,b9 st.e t=some s->∀x∈s.p,x.1≠d)
  {K:Act->World->Prop} (W:∀a' G',Sat X G'->GLe G G'->G'.o=obs++st.o->EnvR X.n G' (Ci o.dst p av st.e) a'->K a' G'.w):N5 X.P ops Q o K a G.w:=by
 unfold N5;rcases s0h ha i hp with ⟨hw,k⟩ | ⟨hw,k⟩
 ·rw[if_pos hw];have V:=V (q0X i k);unfold Y4 at h;split at h
  ·rename_i d b;obtain⟨z,u,m⟩:=hd d b;rw[ce] at h;split at h
   ·split at h
    ·rename_i q' r l y;simp only[oi,pj] at h;obtain⟨rfl,rfl,rfl,_⟩:=h;obtain⟨v,g,Y⟩:=s0G F S ho i k (ty:=o.type) y V;unfold Oper.wp;have:=g o.dst o.pos o.after o.guard;rw[show(execOp a.eval o).run X.P G.w=.ok (.value v) G.w from this];show K (a.put o.dst v) G.w;rw[b];refine W _ G S (GLe.refl G) (by grind) ?_;rw[b];exact EnvR.put i z u m ⟨fun _=>Y,fun h=>(h k).elim⟩
    ·split at h
     ·rename_i q' r H l y;simp only[oi,pj] at h;obtain⟨rfl,rfl,rfl,_⟩:=h;obtain⟨v,G',g,E,j,hO,Y⟩:=s0L F S ho i k (ty:=o.type) y V;unfold Oper.wp;have:=g o.dst o.pos o.after o.guard;rw[show(execOp a.eval o).run X.P G.w=.ok (.value v) G'.w from this];show K (a.put o.dst v) G'.w;rw[b];refine W _ G' E j (by grind) ?_;rw[b];exact EnvR.put (i.mono j) z u m ⟨fun _=>Y,fun h=>(h k).elim⟩
     grind
   ·rw[ce] at h;split at h
    ·split at h
     ·rename_i q' r w l y;simp only[oi,pj] at h;obtain⟨rfl,rfl,rfl,_⟩:=h;obtain⟨v,G',g,E,j,hO,Y⟩:=s0I F S ho i k (ty:=o.type) y V;unfold Oper.wp;have:=g o.dst o.pos o.after o.guard;rw[show(execOp a.eval o).run X.P G.w=.ok (.value v) G'.w from this];show K (a.put o.dst v) G'.w;rw[b];refine W _ G' E j (by grind) ?_;rw[b];exact EnvR.put (i.mono j) z u m ⟨fun _=>Y,fun h=>(h k).elim⟩
     grind
    ·split at h
     ·rename_i q' r H l y;simp only[oi,pj] at h;obtain⟨rfl,rfl,rfl,_⟩:=h;obtain⟨f,vs,g,hc⟩:=k0F hT S ho i k (ty:=o.type) y V;unfold Oper.wp;have:=g o.dst o.pos o.after o.guard;rw[show(execOp a.eval o).run X.P G.w=.ok (.enter f vs) G.w from this];refine Calls.mono hc ?_;rintro en w' ⟨v,G',rfl,rfl,E,j,hO,Y⟩;show K (a.put o.dst v) G'.w;rw[b];refine W _ G' E j (by grind) ?_;rw[b];exact EnvR.put (i.mono j) z u m ⟨fun _=>Y,fun h=>(h k).elim⟩
     grind
  ·rename_i b;rw[ce] at h;split at h
   ·split at h
    ·rename_i q' w l y;simp only[oi,pj] at h;obtain⟨rfl,rfl,rfl,_⟩:=h;obtain⟨G',g,E,j,hO⟩:=s0E F S ho i k (ty:=o.type) y V;unfold Oper.wp;have:=g o.dst o.pos o.after o.guard;rw[show(execOp a.eval o).run X.P G.w=.ok .skip G'.w from this];show K (a.put o.dst undef) G'.w;rw[b];refine W _ G' E j (by grind) ?_;rw[b];exact i.mono j
    ·split at h
     ·rename_i q' H l y;simp only[oi,pj] at h;obtain⟨rfl,rfl,rfl,_⟩:=h;obtain⟨G',g,E,j,hO⟩:=p0p F S ho i k (ty:=o.type) y V;unfold Oper.wp;have:=g o.dst o.pos o.after o.guard;rw[show(execOp a.eval o).run X.P G.w=.ok .skip G'.w from this];show K (a.put o.dst undef) G'.w;rw[b];refine W _ G' E j (by grind) ?_;rw[b];exact i.mono j
     grind
   ·split at h
    ·rename_i q' r H l y;simp only[oi,pj] at h;obtain⟨rfl,rfl,rfl,_⟩:=h;obtain⟨f,vs,g,hc⟩:=k0F hT S ho i k (ty:=o.type) y V;unfold Oper.wp;have:=g o.dst o.pos o.after o.guard;rw[show(execOp a.eval o).run X.P G.w=.ok (.enter f vs) G.w from this];refine Calls.mono hc ?_;rintro en w' ⟨v,G',rfl,rfl,E,j,hO,Y⟩;show K (a.put o.dst v) G'.w;rw[b];refine W _ G' E j (by grind) ?_;rw[b];exact i.mono j
    grind
 ·rw[if_neg (by grind)];have aA:obs=[]:=by
   rcases hg with rfl | h
   ·exact(k (fun x hx=>by cases hx)).elim
   ·exact h
  subst aA;refine W _ G S (GLe.refl G) (by grind) ?_;cases b:o.dst with
  | none=>cases av <;> exact i
  | some d =>
    obtain⟨z,u,m⟩:=hd d b;have:∃r,av=some r:=by
     unfold Y4 at h;rw[b] at h;simp only[ce] at h;split at h
     ·grind
     ·grind
    obtain⟨r,rfl⟩:=this;exact EnvR.put i z u m ⟨fun h=>(k h).elim,fun _=>rfl⟩
end
section
variable {e e':List (Nat×Sl)} {o o':List (Nat×Ob)}
theorem CX{x:Operand}{p:Pa}(h:∀t,x=.tmp t->b9 e t=b9 e' t):rd ⟨e,o⟩ p x=rd ⟨e',o'⟩ p x:=by
 cases x with
 | tmp t=>simp only[rd,h t rfl]
 | _=>rfl
theorem HP{p:Pa}:∀{xs:List Operand},(∀t,.tmp t∈xs->b9 e t=b9 e' t)->L9 ⟨e,o⟩ p xs=L9 ⟨e',o'⟩ p xs
 | [],_=>rfl
 | x :: r,h=>by
   unfold L9;rw[CX (o:=o) (o':=o') (p:=p) (x:=x) (fun t a=>h t (by grind)),HP (xs:=r) (fun t a=>h t (by grind))]
theorem XV{v:AV}{cs:List AV}{l:List Nat}(h:Y2 o v=some (cs,l))(f:∀id∈l,b9 o id=b9 o' id):Y2 o' v=some (cs,l)/\Cd o' v=Cd o v:=by
 unfold Y2 at h;split at h
 ·rename_i id a;split at h
  ·rename_i T c d;simp only[oi,pj] at h;obtain⟨rfl,rfl⟩:=h
   grind[Y2,Cd]
  grind
 ·rename_i id e k s a;split at h
  ·rename_i T g t i b d;rw[ce] at h;split at h
   ·rename_i j;simp only[oi,pj] at h;obtain⟨rfl,rfl⟩:=h
    grind[Y2,Cd]
   grind
  grind
 ·simp only[oi,pj] at h;obtain⟨rfl,rfl⟩:=h;exact⟨rfl,rfl⟩
 grind
theorem v0O{Γ:p5}{T:TypeId}{v r:AV}{n:Int}{q:Prop}{l:List Nat}(h:JR Γ o T v n=some (q,r,l))(a:∀id∈l,b9 o id=b9 o' id):JR Γ o' T v n=some (q,r,l):=by
 unfold JR at h ⊢;split at h
 ·exact h
 ·grind
 ·exact h
 ·grind
 omega
theorem s0v{d a:(t:Ty)->List AV->Option (j6 t×List Nat×Bool)}(f:∀{t:Ty} {cs:List AV} {x:j6 t} {l:List Nat} {b:Bool},d t cs=some (x,l,b)->(∀id∈l,b9 o id=b9 o' id)->a t cs=some (x,l,b))
  {t:Ty} {c:AV} {x:j6 t} {l:List Nat} {b:Bool} (h:AT o d t c=some (x,l,b)) (r:∀id∈l,b9 o id=b9 o' id):AT o' a t c=some (x,l,b):=by
 unfold AT at h;split at h
 ·grind[AT]
 ·exact h
 ·rename_i e id k;split at h
  ·rename_i T u m E g j;rw[ce] at h;split at h
   ·rename_i z;split at h
    ·rename_i y n;simp only[oi,pj] at h;obtain⟨rfl,rfl,rfl⟩:=h
     grind[AT]
    grind
   grind
  grind
 ·rename_i e id i;split at h
  ·rename_i T cs j;split at h
   ·rename_i w s v q;simp only[oi,pj] at h;obtain⟨rfl,rfl,rfl⟩:=h
    grind[hi,AT]
   grind
  grind
 grind
theorem HQ:∀(n:Nat) {t:Ty} {cs:List AV} {x:j6 t} {l:List Nat} {fl:Bool},F8 o n t cs=some (x,l,fl)->(∀id∈l,b9 o id=b9 o' id)->F8 o' n t cs=some (x,l,fl):=by
 intro n
 induction n with
 | zero=>grind[F8]
 | succ n d =>
   intro t cs x l fl h c;cases t with
   | pr a b =>
     unfold F8 at h ⊢
     grind
   | _ =>
     unfold F8 at h ⊢
     grind[s0v]
theorem k0y{v:AV}{t:Ty}{c:List (j6 t)}{a:List Nat}{b:Bool}(h:CT o v=some ⟨t,c,a,b⟩)(d:∀id∈a,b9 o id=b9 o' id):CT o' v=some ⟨t,c,a,b⟩:=by
 unfold CT at h
 grind[id,CT]
theorem Gd{d:Nat}(h:b9 o d=b9 o' d):AZ o' d=AZ o d:=by grind[AZ]
theorem XW:∀{ps:List Par} {as':List AV} {x:s9 ps} {l:List Nat} {io:Option Nat},L4 o ps as'=some (x,l,io)->(∀id∈l,b9 o id=b9 o' id)->(∀i,io=some i->b9 o i=b9 o' i)->L4 o' ps as'=some (x,l,io)
 | [],[],x,l,io,h,_,_=>h
 | [],_ :: _,x,l,io,h,_,_=>by grind[L4]
 | _ :: _,[],x,l,io,h,_,_=>by grind[L4]
 | p :: r,a :: as',x,l,io,h,hl,hio=>by
   simp only[L4] at h ⊢;split at h
   ·rename_i G q k b;split at h
    ·rename_i y m j w;have V:l=q++m/\((k=none/\io=j)∨(∃i,k=some i/\j=none/\io=some i)):=by
      split at h
      ·grind
      ·grind
      ·cases h
     obtain⟨rfl,f⟩:=V;have d:∀id∈q,b9 o id=b9 o' id:=fun id g=>hl id (by grind);have v:Cf o' p a=some (G,q,k):=by
      unfold Cf at b;split at b
      ·split at b
       ·rename_i c;simp only[oi,pj] at b;obtain⟨rfl,rfl,rfl⟩:=b
        grind[Cf,HQ]
       grind
      ·split at b
       ·rename_i c;simp only[oi,pj] at b;obtain⟨rfl,rfl,rfl⟩:=b
        grind[Cf,HQ]
       grind
      ·rw[ce] at b;split at b
       ·rename_i F;split at b
        ·rename_i c;simp only[oi,pj] at b;obtain⟨rfl,rfl,rfl⟩:=b;simp only[Cf,HQ 24 c d,F,cond_true]
        grind
       grind
      ·exact b
      ·rename_i T t id _;split at b
       ·rename_i T' Y s;rw[ce] at b;split at b
        ·rename_i z;split at b
         ·rename_i P c;simp only[oi,pj] at b;obtain⟨rfl,rfl,rfl⟩:=b;rcases f with ⟨e,_⟩ | ⟨i',e,_,rfl⟩
          ·cases e
          cases e;have n:=hio id rfl;rw[s] at n;simp only[Cf,<- n,z,cond_true,HQ 24 c d]
         grind
        grind
       grind
      ·rename_i E t id H _;split at b
       ·rename_i E' fr t' X u s;rw[ce] at b;split at b
        ·rename_i W;split at b
         ·rename_i P hc;simp only[oi,pj] at b;obtain⟨rfl,rfl,rfl⟩:=b;rcases f with ⟨e,_⟩ | ⟨i',e,_,rfl⟩
          ·cases e
          cases e;have n:=hio id rfl
          grind[Cf]
         grind
        grind
       grind
      ·exact b
      ·cases b
     have Q:=XW w (fun id g=>hl id (by grind)) (fun i hi=>by
      grind)
     grind
    grind
   grind
theorem f0a:∀{l:List (Nat×Ob)},(∀x∈l,b9 o x.1=b9 o' x.1)->CV o' l=CV o l
 | [],_=>rfl
 | (i,b) :: r,h=>by
   simp only[CV];rw[Gd (h (i,b) (by simp)),f0a (fun x a=>h x (by grind))]
theorem i0T{d f:Nat}{g:List AV}:∀{T:List Ct} {q:Prop} {av:AV} {obs:List (Nat×Ob)} {fp:List Nat},HN o d f g T=some (q,av,obs,fp)->(∀id∈fp,b9 o id=b9 o' id)->HN o' d f g T=some (q,av,obs,fp)
 | [],q,av,obs,fp,h,_=>by cases h
 | c :: r,q,av,obs,fp,h,ho=>by
   simp only[HN,ce] at h ⊢;split at h
   ·rename_i u;rw[if_pos u];split at h
    ·rename_i x l m a;by_cases b:F4 c.ps=true
     ·rw[if_pos b] at h;unfold Sb at h;split at h
      ·rename_i id;split at h
       ·rename_i T X t Q V y W E F s k;rw[ce] at h;split at h
        ·rename_i v;simp only[oi,pj] at h;obtain⟨rfl,rfl,rfl,rfl⟩:=h;have j:=NN (ba _ _ ▸ v).2;subst j;have e:b9 o id=b9 o' id:=ho id (by simp);rw[XW a (fun _ h=>by cases h) (fun i hi=>by grind)];simp only[b,if_true,Sb,s,<- e,k,v,cond_true]
        grind
       grind
      grind
     rw[if_neg b] at h;simp only[if_neg b];split at h
     ·rename_i H;have n:=H;simp only[oi,pj] at h;obtain⟨rfl,rfl,rfl,rfl⟩:=h;have G:∀id∈l,b9 o id=b9 o' id:=fun id w=>ho id (by grind);have e:∀i,m=some i->b9 o i=b9 o' i:=fun i hi=>ho i (by grind);rw[XW a G e];simp only;rw[f0a (o:=o) (fun x P=>ho x.1 (List.mem_append.2 (.inl (List.mem_map_of_mem P)))),if_pos n];have:As o' c.ps (c.res x).z m=As o c.ps (c.res x).z m:=by
       cases m with
       | none=>rfl
       | some i=>simp only[As,e i rfl]
      grind
     grind
    grind
   ·rename_i u;rw[if_neg u];exact i0T h ho
def B0F(xs:List Operand):List Nat:=xs.filterMap fun | .tmp t=>some t | _=>none
theorem m0Y{xs:List Operand}{t:Nat}(h:.tmp t∈xs):t∈B0F xs:=List.mem_filterMap.2 ⟨_,h,rfl⟩
theorem XX{p:Pa}{x:Option Operand}(h:∀t,x=some (.tmp t)->b9 e t=b9 e' t):U3 ⟨e,o⟩ p x=U3 ⟨e',o'⟩ p x:=by
 cases x with
 | none=>rfl
 | some y =>
   grind[U3,CX]
theorem h0a{p:Pa}{pl:List (Nat×Nat)}:∀{ps:List (Nat×Operand)} {cs:List AV},(∀t,.tmp t∈ps.map (·.2)->b9 e t=b9 e' t)->AY ⟨e,o⟩ p pl cs ps=AY ⟨e',o'⟩ p pl cs ps
 | [],_,_=>rfl
 | (i,x) :: r,cs,h=>by
   unfold AY;rw[CX (o:=o) (o':=o') (p:=p) (x:=x) (fun t a=>h t (by grind))];have b:=fun cs=>h0a (p:=p) (pl:=pl) (ps:=r) (cs:=cs) (fun t a=>h t (by grind))
   simp_all
theorem g0U{p:Pa}{t:Ty}:∀{ps:List (Nat×Operand)} {k:Nat} {ys:List (j6 t)×Bool},(∀s,.tmp s∈ps.map (·.2)->b9 e s=b9 e' s)->DQ ⟨e,o⟩ p t k ps=some ys->DQ ⟨e',o'⟩ p t k ps=some ys
 | [],_,_,_,h=>h
 | (i,x) :: r,k,ys,hs,h=>by
   unfold DQ at h ⊢;rw[ce] at h ⊢;split at h
   ·rename_i hi;rw[if_pos hi];rw[<- CX (o:=o) (o':=o') (p:=p) (x:=x) (fun t j=>hs t (by grind))];split at h
    ·rename_i v n;split at h
     ·rename_i l m;simp only;split at h
      ·rename_i y f b;rw[HQ 24 b (fun _ h=>by cases h)];simp only;split at h
       ·rename_i d g a;rw[g0U (fun s c=>hs s (by grind)) a];exact h
       grind
      grind
     omega
    omega
   grind
theorem s0H{Γ:p5}{p:Pa}{d:Op}{q:Prop}{r:AV}{l:List Nat}(g:∀t,.tmp t∈d.operands.toList->b9 e t=b9 e' t)(h:I6 Γ ⟨e,o⟩ p d=some (q,r,l))(u:∀id∈l,b9 o id=b9 o' id):I6 Γ ⟨e',o'⟩ p d=some (q,r,l):=by
 have R:∀(p:Pa) (x:Operand),x∈d.operands.toList->rd ⟨e',o'⟩ p x=rd ⟨e,o⟩ p x:=fun p x W=>(CX (fun t j=>g t (by grind))).symm;unfold I6 at h;split at h
 ·grind[I6,Op.operands]
 ·grind[I6,Op.operands]
 ·rename_i x;simp only[I6,R _ x (by simp[Op.operands])];split at h
  ·grind[oi,pj,XV]
  omega
 ·grind[I6,Op.operands]
 ·grind[I6,Op.operands]
 ·grind[I6,Op.operands]
 ·grind[I6,Op.operands]
 ·rename_i x;simp only[I6,R _ x (by simp[Op.operands])]
  grind
 ·rename_i x f;simp only[I6,R _ x (by simp[Op.operands])];split at h
  ·rename_i v y z V b w P E;split at h
   ·rename_i s Q c H k m;split at h
    ·rename_i G n;simp only[oi,pj] at h;obtain⟨rfl,rfl,rfl⟩:=h;simp only[k,(XV m u).1,n]
    grind
   grind
  omega
 ·rename_i x;simp only[I6,R _ x (by simp[Op.operands])];split at h
  ·grind[oi,pj,XV]
  omega
 ·grind[I6,Op.operands,v0O]
 ·grind[I6,Op.operands]
 ·grind[I6,Op.operands]
 ·grind[I6,Op.operands]
 ·grind[L9,HP,Op.operands,I6]
 ·rename_i T a;have:∀b c,AY ⟨e',o'⟩ p b c a.toList=AY ⟨e,o⟩ p b c a.toList:=fun b c=>(h0a (fun t j=>g t (by grind[Op.operands]))).symm
  grind[I6]
 ·grind[U3,XX,Op.operands,I6]
 ·rename_i i F;have:L9 ⟨e',o'⟩ p i.toList=L9 ⟨e,o⟩ p i.toList:=(HP (fun t j=>g t (by grind[Op.operands,Call.operands]))).symm;simp only[I6,this]
  grind
 ·grind[L9,HP,Op.operands,Call.operands,I6]
 ·grind[L9,HP,Op.operands,Call.operands,I6]
 grind
end
section
variable {e e':List (Nat×Sl)} {o o':List (Nat×Ob)}
theorem s0J{Γ:p5}{p:Pa}{d:Nat}{f:Op}{q:Prop}{r:AV}{w:Nat×Ob}{l:List Nat}(k:∀t,.tmp t∈f.operands.toList->b9 e t=b9 e' t)(h:Ba Γ ⟨e,o⟩ p d f=some (q,r,w,l))(c:∀id∈l,b9 o id=b9 o' id):Ba Γ ⟨e',o'⟩ p d f=some (q,r,w,l):=by
 have R:∀(x:Operand),x∈f.operands.toList->rd ⟨e',o'⟩ p x=rd ⟨e,o⟩ p x:=fun x X=>(CX (fun t Q=>k t (by grind))).symm;unfold Ba at h;split at h
 ·simp only[Ba];split at h
  ·split at h
   ·rw[ce] at h ⊢;split at h
    ·rename_i a;have b:=h;simp only[oi,pj] at h;obtain⟨_,_,_,rfl⟩:=h;rw[Gd (c d (by simp)),if_pos a]; exact b
    grind
   omega
  omega
 ·rename_i T x;simp only[Ba,R x (by simp[Op.operands])];split at h
  ·split at h
   ·rw[ce] at h ⊢;split at h
    ·rename_i a;have b:=h;simp only[oi,pj] at h;obtain⟨_,_,_,rfl⟩:=h;rw[Gd (c d (by simp)),if_pos a]; exact b
    grind
   omega
  omega
 ·rename_i T x y;simp only[Ba,R x (by simp[Op.operands]),R y (by simp[Op.operands])];split at h
  ·split at h
   ·split at h
    ·rw[ce] at h ⊢;split at h
     ·rename_i a;have b:=h;simp only[oi,pj] at h;obtain⟨_,_,_,rfl⟩:=h;rw[Gd (c d (by simp)),if_pos a]; exact b
     grind
    ·split at h
     ·split at h
      ·rename_i G;rw[HQ 24 G (fun _ h=>by cases h)];simp only;rw[ce] at h ⊢;split at h
       ·rename_i a;have b:=h;simp only[oi,pj] at h;obtain⟨_,_,_,rfl⟩:=h;rw[Gd (c d (by simp)),if_pos a]; exact b
       grind
      grind
     omega
   omega
  omega
 ·rename_i T n i;simp only[Ba];split at h
  ·split at h
   ·split at h
    ·rename_i j P;rw[g0U (e':=e') (o':=o') (fun s F=>k s (by grind[Op.operands])) P];simp only;rw[ce] at h ⊢;split at h
     ·rename_i a;have b:=h;simp only[oi,pj] at h;obtain⟨_,_,_,rfl⟩:=h;rw[Gd (c d (by simp)),if_pos a]; exact b
     grind
    grind
   omega
  omega
 ·rename_i j V;have:L9 ⟨e',o'⟩ p j.toList=L9 ⟨e,o⟩ p j.toList:=(HP (fun t Q=>k t (by grind[Op.operands,Call.operands]))).symm;simp only[Ba,this];split at h
  ·split at h
   ·rename_i E v m;split at h
    ·rename_i u W;rw[ce] at h;split at h
     ·rename_i a;have b:=h;simp only[oi,pj] at h;obtain⟨_,_,_,rfl⟩:=h;have H:=c _ List.mem_cons_self;simp only at v;rw[v] at H;have z:=k0y (o':=o') m (fun id g=>c id (by grind))
      grind
     grind
    grind
   grind
  ·split at h
   ·rename_i E m;split at h
    ·rename_i u;rw[ce] at h;split at h
     ·rename_i a;have b:=h;simp only[oi,pj] at h;obtain⟨_,_,_,rfl⟩:=h;have z:=k0y (o':=o') m (fun id g=>c id (by grind));simp only[E,z,u,Gd (c d (by simp))]
      grind
     grind
    grind
   grind
  omega
 grind
theorem s0F{Γ:p5}{p:Pa}{a:Op}{q:Prop}{w:Nat×Ob}{l:List Nat}(i:∀t,.tmp t∈a.operands.toList->b9 e t=b9 e' t)(h:Ce Γ ⟨e,o⟩ p a=some (q,w,l))(d:∀id∈l,b9 o id=b9 o' id):Ce Γ ⟨e',o'⟩ p a=some (q,w,l):=by
 have R:∀(x:Operand),x∈a.operands.toList->rd ⟨e',o'⟩ p x=rd ⟨e,o⟩ p x:=fun x n=>(CX (fun t m=>i t (by grind))).symm;unfold Ce at h;split at h
 ·rename_i T x y;simp only[Ce,R x (by simp[Op.operands]),R y (by simp[Op.operands])];split at h
  ·grind
  ·split at h
   ·rename_i c j;split at h
    ·rename_i g;rw[ce] at h;split at h
     ·rename_i k;have f:=h;simp only[oi,pj] at h;obtain⟨_,_,rfl⟩:=h;have b:=d _ (List.mem_singleton.2 rfl);simp only at c;rw[c] at b;simp only[<- b,j,HQ (o':=o') 24 g (fun _ h=>by cases h),k,cond_true]; exact f
     grind
    grind
   grind
  omega
 grind
theorem k0G{T:List Ct}{p:Pa}{d:Nat}{a:Op}{q:Prop}{r:AV}{obs:List (Nat×Ob)}{fp:List Nat}(c:∀t,.tmp t∈a.operands.toList->b9 e t=b9 e' t)(h:CW T ⟨e,o⟩ p d a=some (q,r,obs,fp))(b:∀id∈fp,b9 o id=b9 o' id):CW T ⟨e',o'⟩ p d a=some (q,r,obs,fp):=by
 unfold CW at h
 grind[L9,HP,Op.operands,Call.operands,rd,CX,CW,i0T]
theorem I0V{Γ:p5}{st:St}{p:Pa}{d:Nat}{a:Op}{r:Prop×AV×List (Nat×Ob)×List Nat}(h:BC Γ st p d a=some r):I6 Γ st p a=none:=by
 unfold BC at h
 grind[I6,Y2]
theorem E0W{Γ:p5}{st:St}{p:Pa}{a:Op}{r:Prop×List (Nat×Ob)×List Nat}(h:Ch Γ st p a=some r):Ce Γ st p a=none:=by
 unfold Ch at h
 grind[Ce]
theorem s0M{Γ:p5}{p:Pa}{d:Nat}{a:Op}{q:Prop}{r:AV}{obs:List (Nat×Ob)}{l:List Nat}(b:∀t,.tmp t∈a.operands.toList->b9 e t=b9 e' t)(h:BC Γ ⟨e,o⟩ p d a=some (q,r,obs,l))(g:∀id∈l,b9 o id=b9 o' id):BC Γ ⟨e',o'⟩ p d a=some (q,r,obs,l):=by
 have R:∀(x:Operand),x∈a.operands.toList->rd ⟨e',o'⟩ p x=rd ⟨e,o⟩ p x:=fun x v=>(CX (fun t c=>b t (by grind))).symm;unfold BC at h;split at h
 ·rename_i T x;simp only[BC,R x (by simp[Op.operands])];split at h
  ·rename_i w u;split at h
   ·rename_i j;rw[ce] at h;split at h
    ·rename_i k;have n:=h;simp only[oi,pj] at h;obtain⟨_,_,_,rfl⟩:=h;have i:=g _ (List.mem_cons_of_mem _ (List.mem_singleton.2 rfl));simp only at j;rw[j] at i;simp only at k;simp only[<- i,Gd (g d (by simp)),k,cond_true];exact n
    grind
   grind
  omega
 ·rename_i T x l f;have m:U3 ⟨e',o'⟩ p l=U3 ⟨e,o⟩ p l:=(XX (fun t c=>b t (by grind[Op.operands]))).symm;have s:U3 ⟨e',o'⟩ p f=U3 ⟨e,o⟩ p f:=(XX (fun t c=>b t (by grind[Op.operands]))).symm;simp only[BC,R x (by simp[Op.operands]),m,s]
  grind
 grind
theorem p0q{Γ:p5}{p:Pa}{a:Op}{q:Prop}{obs:List (Nat×Ob)}{l:List Nat}(b:∀t,.tmp t∈a.operands.toList->b9 e t=b9 e' t)(h:Ch Γ ⟨e,o⟩ p a=some (q,obs,l))(d:∀id∈l,b9 o id=b9 o' id):Ch Γ ⟨e',o'⟩ p a=some (q,obs,l):=by
 have R:∀(x:Operand),x∈a.operands.toList->rd ⟨e',o'⟩ p x=rd ⟨e,o⟩ p x:=fun x f=>(CX (fun t c=>b t (by grind))).symm;unfold Ch at h;split at h
 ·rename_i T x y;simp only[Ch,R x (by simp[Op.operands]),R y (by simp[Op.operands])];split at h
  ·grind
  omega
 grind
theorem k0E{Γ:p5}{T:List Ct}{p:Pa}{x:Oper}{q:Prop}{av:Option AV}{obs:List (Nat×Ob)}{fp:List Nat}(c:∀t,.tmp t∈x.op.operands.toList->b9 e t=b9 e' t)(h:Y4 Γ T ⟨e,o⟩ p x=some (q,av,obs,fp))(b:∀id∈fp,b9 o id=b9 o' id) :
  Y4 Γ T ⟨e',o'⟩ p x=some (q,av,obs,fp):=by
 unfold Y4 at h ⊢;split at h
 ·rw[ce] at h ⊢;split at h
  ·rename_i a;rw[if_pos a]
   grind[oi,pj,s0H,s0M,I0V]
  ·rename_i a;rw[if_neg a];rw[ce] at h ⊢;split at h
   ·rename_i a;rw[if_pos a]
    grind[oi,pj,s0J]
   ·rename_i a;rw[if_neg a]
    grind[oi,pj,k0G]
 ·rw[ce] at h ⊢;split at h
  ·rename_i a;rw[if_pos a]
   grind[oi,pj,s0F,p0q,E0W]
  ·rename_i a;rw[if_neg a]
   grind[oi,pj,k0G]
end
structure A7 where
 o:Oper
 p:Pa
 av:Option AV
 obs:List (Nat×Ob)
 fp:List Nat
def Se(e:List (Nat×Sl))(p:Pa)(q:Prop):Prop:=match p with
 | []=>q
 | x :: r=>Gc e (x :: r)->q
def HR(Γ:p5)(T:List Ct)(all:List Oper):List Oper->St->List A7->(St->List A7->Prop)->Prop
 | [],st,rs,K=>K st rs
 | o :: r,st,rs,K=>match BD all st.e o with
   | some p=>match Y4 Γ T st p o with
     | some (q,av,obs,fp)=>bif Cg p||Cg obs then(Se st.e p q/\HR Γ T all r ⟨Ci o.dst p av st.e,obs++st.o⟩ (⟨o,p,av,obs,fp⟩ :: rs) K) else False
     | none=>False
   | none=>False
def I7(n:Nat):Nat->List Nat->List Oper->Bool
 | _,_,[]=>true
 | i,seen,o :: r=>(match o.dst with
   | some d=>Nat.blt d n&&Gb d seen
   | none=>true)&&(match o.guard with
   | some (j,_)=>Nat.blt j i
   | none=>true)&&I7 n (i+1) (match o.dst with
   | some d=>d :: seen
   | none=>seen) r
def C5(st:St)(R:A7):St:=⟨Ci R.o.dst R.p R.av st.e,R.obs++st.o⟩
def Ge(Γ:p5)(T:List Ct)(all:List Oper):St->List A7->Prop
 | _,[]=>True
 | st,R :: r=>BD all st.e R.o=some R.p/\(∃q,Y4 Γ T st R.p R.o=some (q,R.av,R.obs,R.fp)/\(Gc st.e R.p->q))/\(R.p=[]∨R.obs=[])/\Ge Γ T all (C5 st R) r
theorem Bb{Γ:p5}{T:List Ct}{all:List Oper}{K:St->List A7->Prop}:∀{ops:List Oper} {st:St} {rs:List A7},HR Γ T all ops st rs K->∃recs:List A7,recs.map (·.o)=ops/\Ge Γ T all st recs/\K (recs.foldl C5 st) (recs.reverse++rs)
 | [],st,rs,h=>⟨[],rfl,trivial,h⟩
 | o :: r,st,rs,h=>by
   unfold HR at h;split at h
   ·rename_i p c;split at h
    ·rename_i q l a d i;rw[ce] at h;split at h
     ·rename_i g;obtain⟨b,f⟩:=h;obtain⟨recs,m,e,j⟩:=Bb f;refine⟨⟨o,p,l,a,d⟩ :: recs,by grind,⟨c,⟨q,i,?_⟩,?_,e⟩,by simp only[List.foldl_cons,List.reverse_cons,List.append_assoc,List.singleton_append]; exact j⟩
      ·intro k;cases p with
       | nil=>exact b
       | cons x r=>exact b k
      ·rw[Bool.or_eq_true] at g
       grind[NN]
     grind
    grind
   grind
theorem XY{a:Type}{l:List a}{j:Nat}{x:a}(h:B9 l j=some x):l[j]?=some x:=by grind[W3]
section
variable {X:Cx} {Γ:p5} {T:List Ct}
theorem HS(l:x9 X.P Γ)(hT:∀c∈T,Ok X.P c){ops:Array Oper}{all:List Oper}(ha:ops=all.toArray){Q:Exit->Act->World->Prop}{rest:List Oper}:∀(recs:List A7) (i:Nat) (seen:List Nat) (st:St) (G:Gh) (a:Act),(∀j,j<recs.length->recs[j]?.map (·.o)=all[i+j]?)->I7 X.n i seen (recs.map (·.o))=true ->
  (∀j oj dj,j<i->all[j]?=some oj->oj.dst=some dj->dj∈seen)->(∀t s,b9 st.e t=some s->∀x∈s.p,x.1∈seen)->Ge Γ T all st recs->Sat X G->G.o=st.o->EnvR X.n G st.e a ->
  (∀G' a',Sat X G'->G'.o=(recs.foldl C5 st).o->EnvR X.n G' (recs.foldl C5 st).e a'->wpList X.P ops Q rest a' G'.w)->wpList X.P ops Q (recs.map (·.o)++rest) a G.w
 | [],i,seen,st,G,a,_,_,_,_,_,S,ho,hE,hK=>hK G a S ho hE
 | R :: r,i,seen,st,G,a,hall,hreg,hseen,hpath,⟨hp,⟨q,hab,hq⟩,hg,hrun⟩,S,ho,hE,hK=>by
   simp only[List.map_cons,I7,ba] at hreg;obtain⟨⟨g,m⟩,F⟩:=hreg;have k:∀d,R.o.dst=some d->d<X.n/\d ∉ seen:=fun d f=>by
    rw[f] at g;simp only[ba] at g;exact⟨by simp_all,HO g.2⟩
   have Y:∀x∈R.p,x.1∈seen:=by
    unfold BD at hp;split at hp
    ·grind
    ·rename_i j b V;rw[V] at m;have u:j<i:=by simpa using m
     split at hp
     ·rename_i oj hj;split at hp
      ·rename_i dj aA;split at hp
       ·rename_i q' f' x' hs;simp only[oi] at hp; rw[<- hp];intro y W;rcases List.mem_cons.1 W with rfl | W
        ·grind[XY]
        ·exact hpath dj _ hs y W
       grind
      grind
     grind
   have f:∀d,R.o.dst=some d->d<X.n/\(∀x∈R.p,x.1≠d)/\∀t s,b9 st.e t=some s->∀x∈s.p,x.1≠d:=fun d f=>⟨(k d f).1,fun x v e=>(k d f).2 (e ▸ Y x v),fun t s H x v e=>(k d f).2 (e ▸ hpath t s H x v)⟩
   have aC:=NP (K:=wpList X.P ops Q (r.map (·.o)++rest)) l hT ha (Q:=Q) S ho hE hp hab hq hg f (fun a' G' S' _ z E=>by
    refine HS l hT ha r (i+1) _ (C5 st R) G' a' (fun j hj=>?_) F ?_ ?_ hrun S' z E hK
    ·have:=hall (j+1) (by grind);simp only[List.getElem?_cons_succ] at this;rw[this]; congr 1; omega
    ·intro j oj dj hj h1 h2;rcases Nat.lt_or_ge j i with h | h
     ·grind
     ·have u:j=i:=by omega
      subst u;have h0:=hall 0 (by simp)
      grind
    ·intro t s H x v;have aB:x.1∈seen->x.1∈(match R.o.dst with | some d=>d :: seen | none=>seen):=fun h=>by
      grind
     simp only[C5,Ci] at H
     grind[lK])
   grind[wpList,N5]
theorem D0y(l:x9 X.P Γ)(u:∀c∈T,Ok X.P c){ops:Array Oper}{all:List Oper}(v:ops=all.toArray){Q:Exit->Act->World->Prop}(recs:List A7)(i:Nat)(b:List Nat)(st:St)(G:Gh)(a:Act)(k:∀j,recs[j]?.map (·.o)=all[i+j]?)(h:I7 X.n i b (recs.map (·.o))=true)
  (f:∀j oj dj,j<i->all[j]?=some oj->oj.dst=some dj->dj∈b) (d:∀t s,b9 st.e t=some s->∀x∈s.p,x.1∈b) (g:Ge Γ T all st recs) (S:Sat X G) (r:G.o=st.o) (m:EnvR X.n G st.e a)
  (q:∀G' a',Sat X G'->G'.o=(recs.foldl C5 st).o->EnvR X.n G' (recs.foldl C5 st).e a'->Q .normal a' G'.w):wpList X.P ops Q (recs.map (·.o)) a G.w:=by
 have:=HS (rest:=[]) l u v recs i b st G a (fun j _=>k j) h f d g S r m q
 rwa [List.append_nil] at this
end
def A3(D:Nat->Bool):Nat->List A7->St->St
 | _,[],st=>st
 | i,R :: r,st=>A3 D (i+1) r (if D i=true then C5 st R else st)
def DR(R:A7)(t:Nat):Prop:=R.o.dst=some t
def Gf(R:A7)(id:Nat):Prop:=∃x∈R.obs,x.1=id
theorem Sf(st:St)(R:A7)(t:Nat)(h:¬DR R t):b9 (C5 st R).e t=b9 st.e t:=by
 simp only[C5,Ci];split
 ·rename_i d a b _;rw[lK,if_neg (fun e=>h (by rw[<- e]; exact b))]
 ·rfl
theorem Sg(st:St)(R:A7)(id:Nat)(h:¬Gf R id):b9 (C5 st R).o id=b9 st.o id:=by
 simp only[C5];exact XP (fun x a e=>h ⟨x,a,e⟩)
theorem m0v{st st':St}{R:A7}{t:Nat}(h:b9 st.e t=b9 st'.e t):b9 (C5 st R).e t=b9 (C5 st' R).e t:=by
 simp only[C5,Ci]
 grind[lK]
theorem y0P{b:Type}{l m a:List (Nat×b)}{i:Nat}(h:b9 m i=b9 a i):b9 (l++m) i=b9 (l++a) i:=by
 induction l with
 | nil=>exact h
 | cons x r c =>
   grind[lK]
theorem m0u{st st':St}{R:A7}{id:Nat}(h:b9 st.o id=b9 st'.o id):b9 (C5 st R).o id=b9 (C5 st' R).o id:=y0P h
theorem NQ{D b:Nat->Bool}{t:Nat}:∀{recs:List A7} {i:Nat} {st st':St},(∀j R,recs[j]?=some R->DR R t->D (i+j)=b (i+j))->b9 st.e t=b9 st'.e t->b9 (A3 D i recs st).e t=b9 (A3 b i recs st').e t
 | [],_,_,_,_,h=>h
 | R :: r,i,st,st',hD,h=>by
   simp only[A3];refine NQ (fun j c d a=>by have:=hD (j+1) c (by grind) a; rwa [show i+(j+1)=i+1+j by omega] at this) ?_;by_cases a:DR R t
   ·have:=hD 0 R rfl a;simp only[Nat.add_zero] at this
    grind[m0v]
   grind[Sf]
theorem NR{D b:Nat->Bool}{id:Nat}:∀{recs:List A7} {i:Nat} {st st':St},(∀j R,recs[j]?=some R->Gf R id->D (i+j)=b (i+j))->b9 st.o id=b9 st'.o id->b9 (A3 D i recs st).o id=b9 (A3 b i recs st').o id
 | [],_,_,_,_,h=>h
 | R :: r,i,st,st',hD,h=>by
   simp only[A3];refine NR (fun j c d a=>by have:=hD (j+1) c (by grind) a; rwa [show i+(j+1)=i+1+j by omega] at this) ?_;by_cases a:Gf R id
   ·have:=hD 0 R rfl a;simp only[Nat.add_zero] at this
    grind[m0u]
   grind[Sg]
theorem XZ{D:Nat->Bool}{t:Nat}{R:A7}:∀{recs:List A7} {i j:Nat} {st st':St},recs[j]?=some R->DR R t->R.av≠none->D (i+j)=true->(∀k R',j<k->recs[k]?=some R'->DR R' t->D (i+k)=false)->b9 (A3 D i recs st).e t=b9 (C5 st' R).e t
 | R0 :: r,i,0,st,st',hj,hw,hav,hD,hl=>by
   simp only[List.getElem?_cons_zero,oi] at hj; subst hj;simp only[Nat.add_zero] at hD;simp only[A3,hD,if_true];have f:b9 (A3 D (i+1) r (C5 st R0)).e t=b9 (C5 st R0).e t:=by
    have:∀{recs:List A7} {i:Nat} {st:St},(∀k R',recs[k]?=some R'->DR R' t->D (i+k)=false)->b9 (A3 D i recs st).e t=b9 st.e t:=by
     intro recs
     induction recs with
     | nil=>intro i st _; rfl
     | cons d m g =>
       intro i st h;simp only[A3];rw[g (fun k R' c b=>by have:=h (k+1) R' (by grind) b; rwa [show i+(k+1)=i+1+k by omega] at this)];split
       ·rename_i l;refine Sf st d t (fun b=>?_);have:=h 0 d rfl b
        grind
       ·rfl
    exact this (fun k R' c b=>by have:=hl (k+1) R' (by omega) (by grind) b; rwa [show i+(k+1)=i+1+k by omega] at this)
   rw[f];unfold DR at hw;simp only[C5,Ci,hw];cases h:R0.av with
   | none=>grind
   | some a=>simp only[lK,if_true]
 | R0 :: r,i,j+1,st,st',hj,hw,hav,hD,hl=>by
   simp only[A3];exact XZ (j:=j) (by grind) hw hav (by grind) (fun k R' n c b=>by have:=hl (k+1) R' (by omega) (by grind) b; rwa [show i+(k+1)=i+1+k by omega] at this)
theorem o0J{a:Type}{l m b:List (Nat×a)}{i:Nat}(h:∃x∈l,x.1=i):b9 (l++m) i=b9 (l++b) i:=by
 induction l with
 | nil=>grind
 | cons x r c =>
   obtain⟨d,v⟩:=x;rw[List.cons_append,List.cons_append,lK,lK]
   grind
theorem Ya{D:Nat->Bool}{id:Nat}{R:A7}:∀{recs:List A7} {i j:Nat} {st st':St},recs[j]?=some R->Gf R id->D (i+j)=true->(∀k R',j<k->recs[k]?=some R'->Gf R' id->D (i+k)=false)->b9 (A3 D i recs st).o id=b9 (C5 st' R).o id
 | R0 :: r,i,0,st,st',hj,hw,hD,hl=>by
   simp only[List.getElem?_cons_zero,oi] at hj; subst hj;simp only[Nat.add_zero] at hD;simp only[A3,hD,if_true];have d:b9 (A3 D (i+1) r (C5 st R0)).o id=b9 (C5 st R0).o id:=by
    have:∀{recs:List A7} {i:Nat} {st:St},(∀k R',recs[k]?=some R'->Gf R' id->D (i+k)=false)->b9 (A3 D i recs st).o id=b9 st.o id:=by
     intro recs
     induction recs with
     | nil=>intro i st _; rfl
     | cons c g e =>
       intro i st h;simp only[A3];rw[e (fun k R' b a=>by have:=h (k+1) R' (by grind) a; rwa [show i+(k+1)=i+1+k by omega] at this)];split
       ·rename_i f;refine Sg st c id (fun a=>?_);have:=h 0 c rfl a
        grind
       ·rfl
    exact this (fun k R' b a=>by have:=hl (k+1) R' (by omega) (by grind) a; rwa [show i+(k+1)=i+1+k by omega] at this)
   rw[d];exact o0J hw
 | R0 :: r,i,j+1,st,st',hj,hw,hD,hl=>by
   simp only[A3];exact Ya (j:=j) (by grind) hw (by grind) (fun k R' l b a=>by have:=hl (k+1) R' (by omega) (by grind) a; rwa [show i+(k+1)=i+1+k by omega] at this)
theorem Yb{D:Nat->Bool}:∀{recs:List A7} {i:Nat} {st:St},(∀j,j<recs.length->D (i+j)=true)->A3 D i recs st=recs.foldl C5 st
 | [],_,_,_=>rfl
 | R :: r,i,st,h=>by
   have a:=h 0 (by simp);simp only[Nat.add_zero] at a;simp only[A3,a,if_true,List.foldl_cons];exact Yb (fun j b=>by have:=h (j+1) (by grind); rwa [show i+(j+1)=i+1+j by omega] at this)
theorem Yc{Γ:p5}{T:List Ct}{all:List Oper}:∀{recs:List A7} {i:Nat} {st:St} {j:Nat} {R:A7},Ge Γ T all st recs->recs[j]?=some R ->
  ∃sj,sj=A3 (fun k=>decide (k<i+j)) i recs st/\BD all sj.e R.o=some R.p/\(∃q,Y4 Γ T sj R.p R.o=some (q,R.av,R.obs,R.fp)/\(Gc sj.e R.p->q))/\(R.p=[]∨R.obs=[])
 | [],_,_,j,_,_,h=>by grind
 | R0 :: r,i,st,0,R,⟨h1,h2,h3,h4⟩,h=>by
   simp only[List.getElem?_cons_zero,oi] at h; subst h;have:∀{recs:List A7} {i j:Nat} {st:St},i<=j->A3 (fun k=>decide (k<i)) j recs st=st:=by
    intro recs
    induction recs with
    | nil=>intro i j st _; rfl
    | cons R r a =>
      intro i j st b;simp only[A3];rw[if_neg (by grind)];exact a (by omega)
   simp_all
 | R0 :: r,i,st,j+1,R,⟨h1,h2,h3,h4⟩,h=>by
   obtain⟨sj,e,c,d,f⟩:=Yc (i:=i+1) (j:=j) h4 (by simpa using h)
   grind[A3]
def O8(o:Oper):List Nat:=o.after.toList.filterMap fun e=>bif Region.binds .any e then some e.on else none
def O9:Nat->List Oper->Bool
 | _,[]=>true
 | i,o :: r=>(O8 o).all (fun k=>Nat.blt k i)&&O9 (i+1) r
def H6:List (List Nat)->List Oper->List (List Nat)
 | acc,[]=>acc
 | acc,o :: r=>H6 (acc++[O8 o++(O8 o).flatMap fun k=>(B9 acc k).getD []]) r
def M7(x:Nat):List Nat->Bool
 | []=>false
 | y :: r=>Nat.beq x y||M7 x r
theorem P9{x:Nat}:∀{l:List Nat},M7 x l=true↔x∈l
 | []=>by simp[M7]
 | y :: r=>by
   simp only[M7,Bool.or_eq_true,List.mem_cons,P9 (l:=r)]
   simp_all
theorem Aa{o:Oper}{k:Nat}:k∈O8 o↔∃e∈o.after,Region.binds .any e=true/\e.on=k:=by
 unfold O8
 grind
def DS(D:Nat->Bool)(all:List Oper):Prop:=∀i o,all[i]?=some o->D i=true->∀k∈O8 o,D k=true
theorem Si{all:List Oper}:∀{rest:List Oper} {acc:List (List Nat)},(∀j:Nat,rest[j]?=all[acc.length+j]?)->O9 acc.length rest=true ->
  (∀(i:Nat) (l:List Nat),acc[i]?=some l->(∀k∈l,k<i)/\∀D,DS D all->∀o,all[i]?=some o->(∀k∈O8 o,D k=true)->∀k∈l,D k=true) ->
  ∀(i:Nat) (l:List Nat),(H6 acc rest)[i]?=some l->(∀k∈l,k<i)/\∀D,DS D all->∀o,all[i]?=some o->(∀k∈O8 o,D k=true)->∀k∈l,D k=true
 | [],acc,_,_,h=>h
 | o :: r,acc,hall,hb,h=>by
   simp only[O9,ba,List.all_eq_true] at hb;simp only[H6];refine Si (fun j=>?_) (by grind) (fun i l hi=>?_)
   ·have:=hall (j+1);simp only[List.getElem?_cons_succ] at this;rw[this]; congr 1; simp; omega
   ·rcases Nat.lt_or_ge i acc.length with t | hge
    ·rw[List.getElem?_append_left t] at hi;exact h i l hi
    ·have s:i=acc.length:=by
      rcases Nat.eq_or_lt_of_le hge with e | e
      ·exact e.symm
      ·rw[List.getElem?_eq_none (by simp; omega)] at hi; cases hi
     subst s;simp only[List.getElem?_concat_length,oi] at hi;subst hi;have y:∀k:Nat,k∈O8 o->k<acc.length:=fun k y=>by simp_all
     refine⟨fun k f=>?_,fun D v F c q k f=>?_⟩
     ·grind[W3,List.getElem?_eq_getElem]
     ·have w:=hall 0;simp only[List.getElem?_cons_zero,Nat.add_zero] at w;rw[<- w] at c;cases c;rcases List.mem_append.1 f with z | z
      ·grind
      ·obtain⟨m,x,n⟩:=List.mem_flatMap.1 z;rw[W3] at n;have b:=y m x;rw[List.getElem?_eq_getElem b] at n;have u:=q m x;obtain⟨g,a⟩:∃g,all[m]?=some g:=by
        grind
       exact(h m acc[m] (List.getElem?_eq_getElem b)).2 D v g a (fun E d=>v m g a u E d) k n
end Go.Proofs.Xv
end
section
set_option maxHeartbeats 0
namespace Go.Proofs.Xv
open Go Go.RowKit Go.Proofs.Sv
theorem Sat.congr{X:Cx}{G:Gh}(S:Sat X G){o':List (Nat×Ob)}(h:∀i,b9 o' i=b9 G.o i):Sat X { G with o:=o' }/\GLe G { G with o:=o' }:=by
 have c:GLe G { G with o:=o' }:=⟨rfl,fun k F _=>⟨F,rfl⟩,fun i T r hi=>⟨rfl,T,r,(h i).trans hi⟩,fun i T s j t e d hi=>⟨rfl,T,s,j,t,e,d,(h i).trans hi⟩,fun i T j t e f hi=>⟨T,j,t,e,f,(h i).trans hi,Nat.le_refl _,fun _=>rfl⟩⟩;have a:∀i o,b9 o' i=some o->b9 G.o i=some o:=fun i o hi=>(h i).symm.trans hi;refine⟨⟨S.base,S.os,S.tape,S.output,S.size,S.block,fun i o hi=>?_,fun i u o w b hi q=>S.inj i u o w b (a i o hi) (a u w q),fun i o b hi=>S.imm i o b (a i o hi),fun i o b hi=>S.own i o b (a i o hi),S.klt,S.kfrom,fun i b x V=>?_,fun i v h=>(S.pin i v h).mono c⟩,c⟩
 rotate_right
 ·obtain⟨Q,W,P,Y⟩:=S.sep i b x (by grind)
  grind
 have:=S.obs i o (a i o hi);cases o with
 | box T r=>obtain⟨b,z,m,l,n,y⟩:=this; exact⟨b,z,m,l,n,y.mono c⟩
 | arr T j t e f=>exact this
 | grd T s j t e d =>
   obtain⟨E,H,m,l,n⟩:=this;exact⟨E,H,m,l.up c (fun _=>Iff.rfl) (WE.refl (g:=none) _) (fun _ _ h=>by cases h),n⟩
theorem EnvR.congr{n:Nat}{G:Gh}{e e':List (Nat×Sl)}{a:Act}(h:EnvR n G e a)(c:∀t,b9 e' t=b9 e t):EnvR n G e' a :=
 ⟨h.defers,h.size,fun t s b=>h.val t s (by grind)⟩
theorem g0T{all:List Oper}{e e':List (Nat×Sl)}{o:Oper}{p:Pa}(h:BD all e o=some p)(a:∀x∈p,b9 e x.1=b9 e' x.1):BD all e' o=some p:=by
 unfold BD at h ⊢;split at h
 ·exact h
 grind[oi,b9,List.mem_cons_self]
theorem Yd{e e':List (Nat×Sl)}:∀{p:Pa},(∀x∈p,b9 e x.1=b9 e' x.1)->Gc e p->Gc e' p
 | [],_,_=>trivial
 | (s,b) :: r,h,⟨h1,h2⟩=>by
   refine⟨?_,Yd (fun x a=>h x (by grind)) h2⟩
   simp_all
def Ye(R:A7):List Nat:=B0F R.o.op.operands.toList++R.p.map Prod.fst
def NS(l m:List Nat):Bool:=l.all fun x=>!M7 x m
def CY(bs:List (List Nat))(i:Nat)(A:A7)(k:Nat)(B:A7):Bool :=
 (match A.o.dst with
   | some d=>(!M7 d (Ye B)||(M7 i ((B9 bs k).getD [])||M7 k ((B9 bs i).getD [])))&&(!M7 d (B.p.map Prod.fst)||M7 i ((B9 bs k).getD []))
   | none=>true)&&(NS (A.obs.map Prod.fst) (B.fp++B.obs.map Prod.fst)||(M7 i ((B9 bs k).getD [])||M7 k ((B9 bs i).getD [])))
def JW(f:Nat->A7->Bool):Nat->List A7->Bool
 | _,[]=>true
 | i,R :: r=>f i R&&JW f (i+1) r
theorem NT{f:Nat->A7->Bool}:∀{recs:List A7} {i:Nat},JW f i recs=true->∀j R,recs[j]?=some R->f (i+j) R=true
 | [],_,_,j,R,h=>by grind
 | R0 :: r,i,h,0,R,hj=>by
   grind[JW]
 | R0 :: r,i,h,j+1,R,hj=>by
   simp only[JW,ba] at h;have:=NT h.2 j R (by grind)
   grind
def Yf(A:A7):Bool:=match A.o.dst with
 | some d=>!M7 d (A.p.map Prod.fst)
 | none=>true
def DT(bs:List (List Nat))(recs:List A7):Bool:=JW (fun i A=>Yf A&&JW (fun k B=>Nat.beq i k||CY bs i A k B) 0 recs) 0 recs
theorem Gg{a:List (List Nat)}{recs:List A7}(h:DT a recs=true){i k:Nat}{A B:A7}(hi:recs[i]?=some A)(d:recs[k]?=some B)(c:i≠k):CY a i A k B=true:=by
 have b:=NT h i A hi;rw[ba] at b;have e:=NT b.2 k B d
 simp_all
theorem Sj{n:Nat}:∀{l:List Oper} {i:Nat} {seen:List Nat},I7 n i seen l=true->(∀(j:Nat) (o:Oper) (d:Nat),l[j]?=some o->o.dst=some d->d<n/\d ∉ seen)/\(∀(j k:Nat) (o o':Oper) (d:Nat),l[j]?=some o->l[k]?=some o'->o.dst=some d->o'.dst=some d->j=k)
 | [],_,_,_=>⟨fun j o d h=>by grind,fun j k o o' d h=>by grind⟩
 | o0 :: r,i,seen,h=>by
   simp only[I7,ba] at h;obtain⟨⟨a,_⟩,e⟩:=h;obtain⟨g,m⟩:=Sj e;have c:∀d,d∈seen->d∈(match o0.dst with | some d=>d :: seen | none=>seen):=fun d b=>by
    grind
   have f:∀d,o0.dst=some d->d<n/\d ∉ seen:=fun d b=>by
    rw[b] at a;simp only[ba] at a;exact⟨by simp_all,HO a.2⟩
   grind
theorem Yg{b:Type}{p a:b->Bool}:∀{l:List b},(∀x,a x=true->p x=true)->(∃x∈l,p x=true/\a x=false)->(l.filter a).length < (l.filter p).length
 | [],_,⟨x,hx,_⟩=>by cases hx
 | y :: r,h,⟨x,hx,h1,h2⟩=>by
   have d:∀l:List b,(l.filter a).length<=(l.filter p).length:=fun l=>by
    induction l with
    | nil=>grind
    | cons z s c =>
      grind
   rcases List.mem_cons.1 hx with rfl | hx
   ·grind
   ·have c:=Yg h ⟨x,hx,h1,h2⟩;simp only[List.filter_cons];by_cases hz:a y=true
    ·rw[if_pos hz,if_pos (h y hz)]; simp only[List.length_cons]; omega
    ·rw[if_neg hz];split
     ·simp only[List.length_cons]; omega
     ·exact c
theorem Yh{D:Nat->Bool}{t:Nat}{s:Sl}:∀{recs:List A7} {i:Nat} {st:St},b9 (A3 D i recs st).e t=some s->b9 st.e t=some s∨∃k R,recs[k]?=some R/\D (i+k)=true/\s.p=R.p
 | [],_,_,h=>.inl h
 | R :: r,i,st,h=>by
   simp only[A3] at h;rcases Yh h with a | ⟨k,R',h1,h2,h3⟩
   ·by_cases b:D i=true
    ·rw[if_pos b] at a;simp only[C5,Ci] at a;split at a
     ·rw[lK] at a;split at a
      ·cases a;exact .inr ⟨0,R,rfl,b,rfl⟩
      grind
     grind
    grind
   ·exact .inr ⟨k+1,R',by grind,by grind,h3⟩
theorem w0N{Γ:p5}{T:List Ct}{st:St}{p:Pa}{o:Oper}{d:Nat}{q:Prop}{av:Option AV}{obs:List (Nat×Ob)}{fp:List Nat}(h:Y4 Γ T st p o=some (q,av,obs,fp))(a:o.dst=some d):av≠none:=by
 grind[Y4]
section
variable {X:Cx} {Γ:p5} {T:List Ct}
theorem q0V(aX:x9 X.P Γ)(hT:∀c∈T,Ok X.P c){l:List Oper}{recs:List A7}{st:St}{Q:Exit->Act->World->Prop}(hl:recs.map (·.o)=l)(aN:Ge Γ T l st recs)(aT:∀t s,b9 st.e t=some s->s.p=[])
  (aS:I7 X.n 0 [] l=true) (W:O9 0 l=true) (E:DT (H6 [] l) recs=true) (hK:∀G' a',Sat X G'->G'.o=(recs.foldl C5 st).o->EnvR X.n G' (recs.foldl C5 st).e a'->Q .normal a' G'.w) :
  ∀(fuel:Nat) (listed:Array Bool) (G:Gh) (a:Act),((List.range l.length).filter fun i=>!listed.getD i true).length<=fuel->listed.size=l.length->DS (fun k=>listed.getD k false) l->Sat X G->(∀id,b9 G.o id=b9 (A3 (fun k=>listed.getD k false) 0 recs st).o id) ->
   EnvR X.n G (A3 (fun k=>listed.getD k false) 0 recs st).e a->wpAny X.P .any l.toArray Q fuel listed a G.w:=by
 have bP:recs.length=l.length:=by rw[<- hl]; simp
 have bJ:∀(j:Nat) (R:A7),recs[j]?=some R->l[j]?=some R.o:=fun j R h=>by rw[<- hl,List.getElem?_map,h]; rfl
 have bE:∀(j:Nat) (o:Oper),l[j]?=some o->∃R,recs[j]?=some R/\R.o=o:=fun j o h=>by
  rw[<- hl,List.getElem?_map] at h;cases hr:recs[j]? with
  | none=>rw[hr] at h; cases h
  | some R=>rw[hr] at h; cases h; exact⟨R,rfl,rfl⟩
 have bF:=Si (all:=l) (rest:=l) (acc:=[]) (fun j=>by simp) W (fun i m h=>by grind);have aF:=Sj aS;have aR:∀(i:Nat) (o:Oper) (k:Nat),l[i]?=some o->k∈O8 o->k<i:=by
  have:∀{m:List Oper} {i:Nat},O9 i m=true->∀j o k,m[j]?=some o->k∈O8 o->k<i+j:=by
   intro m
   induction m with
   | nil=>grind
   | cons o0 r ih =>
     intro i h j o k hj u;simp only[O9,ba,List.all_eq_true] at h;cases j with
     | zero=>simp only[List.getElem?_cons_zero,oi] at hj; simp_all
     | succ j=>grind
  intro i o k v h2;have:=this W i o k v h2; omega
 -- all is done: the end
 have aC:∀(listed:Array Bool) (G:Gh) (a:Act),(∀i,i<l.length->listed.getD i false=true)->Sat X G->(∀id,b9 G.o id=b9 (A3 (fun k=>listed.getD k false) 0 recs st).o id)->EnvR X.n G (A3 (fun k=>listed.getD k false) 0 recs st).e a->Q .normal a G.w:=by
  intro listed G a aQ S hO hE;rw[Yb (fun j hj=>by grind)] at hO hE;obtain⟨S',L'⟩:=S.congr (o':=(recs.foldl C5 st).o) (fun i=>(hO i).symm);exact hK ⟨G.ρ,G.γ,G.K,G.w,(recs.foldl C5 st).o,G.B,G.δ⟩ a S' rfl (hE.mono L')
 intro fuel
 induction fuel with
 | zero =>
   intro listed G a hf bH aB S hO hE;have aI:(List.range l.length).filter (fun i=>!listed.getD i true)=[]:=List.eq_nil_of_length_eq_zero (by omega);have aQ:∀i,i<l.length->listed.getD i true=true:=fun i hi=>by
    cases h:listed.getD i true with
    | true=>rfl
    | false =>
      have:i∈(List.range l.length).filter (fun i=>!listed.getD i true):=List.mem_filter.2 ⟨List.mem_range.2 hi,by grind⟩;rw[aI] at this; cases this
   refine⟨?_,aC listed G a (fun i hi=>?_) S hO hE⟩
   ·grind[Region.ready,hi,mem_ready,Nat.lt_or_ge,List.getElem?_eq_none]
   grind
 | succ fuel ih =>
   intro listed G a hf bH aB S hO hE;refine⟨fun hr=>aC listed G a ?_ S hO hE,fun i hi=>?_⟩
   · -- nothing is ready: all is done
     intro i
     induction i using Nat.strongRecOn with
     | ind i aZ =>
       intro hi;cases h:listed.getD i false with
       | true=>rfl
       | false =>
         have:i∈Region.ready .any l.toArray listed:=mem_ready.2 ⟨by
          grind,l[i],by grind,fun e he hb=>aZ e.on (aR i l[i] e.on (List.getElem?_eq_getElem hi) (Aa.2 ⟨e,he,hb,rfl⟩)) (by have:=aR i l[i] e.on (List.getElem?_eq_getElem hi) (Aa.2 ⟨e,he,hb,rfl⟩); omega)⟩
         rw[hr] at this; cases this
   ·obtain⟨aM,o,ho,bT⟩:=mem_ready.1 hi;rw[List.getElem?_toArray] at ho;obtain⟨R,hR,rfl⟩:=bE i o ho;have aP:i<l.length:=by
     rcases Nat.lt_or_ge i l.length with h | h
     ·exact h
     ·grind
    have bS:listed.getD i false=false:=by
     have hs:i<listed.size:=by omega
     rw[Array.getD_eq_getD_getElem?,Array.getElem?_eq_getElem hs] at aM ⊢;exact aM
    -- what stands ahead of i is done
    have bQ:∀k∈((B9 (H6 [] l) i).getD []),k<i/\listed.getD k false=true:=by
     intro k u;rw[W3] at u;cases hb:(H6 [] l)[i]? with
     | none=>grind
     | some m =>
       grind[Aa]
    have bU:∀k,listed.getD k false=true->k<l.length->∀m∈((B9 (H6 [] l) k).getD []),m<k/\listed.getD m false=true:=by
     intro k u g m hm;rw[W3] at hm;cases hb:(H6 [] l)[k]? with
     | none=>grind
     | some b =>
       rw[hb] at hm;obtain⟨g1,g2⟩:=bF k b hb;exact⟨g1 m hm,g2 _ aB l[k] (List.getElem?_eq_getElem g) (fun k' bI=>aB k l[k] (List.getElem?_eq_getElem g) u k' bI) m hm⟩
    have bK:∀k,k<l.length->∀m∈((B9 (H6 [] l) k).getD []),m<k:=by
     intro k g m hm;rw[W3] at hm;cases hb:(H6 [] l)[k]? with
     | none=>grind
     | some b=>grind
    -- ordered with i: done exactly if earlier in the text
    have aD:∀k,k<l.length->k≠i->(M7 k ((B9 (H6 [] l) i).getD [])||M7 i ((B9 (H6 [] l) k).getD []))=true->listed.getD k false=decide (k<i):=by
     intro k g bO h;rw[Bool.or_eq_true] at h;rcases h with h | h
     ·grind[P9]
     ·grind[P9]
    obtain⟨sj,aG,aW,⟨q,aO,hq⟩,hg⟩:=Yc (i:=0) aN hR;rw[Nat.zero_add] at aG
    -- the slots and objects that i looks at are as in the text's order
    have aK:∀t,t∈Ye R->b9 sj.e t=b9 (A3 (fun k=>listed.getD k false) 0 recs st).e t:=by
     intro t ht;rw[aG];refine NQ (fun k R' u V=>?_) rfl;rw[Nat.zero_add];by_cases f:k=i
     ·grind
     ·have F:=Gg E u hR f;have g:k<l.length:=by
       rcases Nat.lt_or_ge k l.length with h | h
       ·exact h
       ·grind
      simp only[CY,ba] at F;have V:R'.o.dst=some t:=V;rw[V] at F;simp only[ba] at F;have v:=F.1.1;rw[Bool.or_eq_true] at v;rcases v with v | v
      ·grind[P9]
      ·exact(aD k g f (by omega)).symm
    have aU:∀id,id∈R.fp++R.obs.map Prod.fst->b9 sj.o id=b9 G.o id:=by
     intro id aH;rw[hO,aG];refine NR (fun k R' u V=>?_) rfl;rw[Nat.zero_add];by_cases f:k=i
     ·grind
     ·have F:=Gg E u hR f;have g:k<l.length:=by
       rcases Nat.lt_or_ge k l.length with h | h
       ·exact h
       ·grind
      simp only[CY,ba] at F;have v:=F.2;rw[Bool.or_eq_true] at v;obtain⟨y,hy,bB⟩:=V;rcases v with v | v
      ·grind[NS,List.all_eq_true,List.mem_map_of_mem,P9]
      ·exact(aD k g f (Bool.or_comm _ _ ▸ v)).symm
    have aL:∀x∈R.p,b9 sj.e x.1=b9 (A3 (fun k=>listed.getD k false) 0 recs st).e x.1:=fun x hx=>aK x.1 (List.mem_append.2 (.inr (List.mem_map_of_mem hx)));have bG:=g0T aW aL;have aJ:Y4 Γ T ⟨(A3 (fun k=>listed.getD k false) 0 recs st).e,G.o⟩ R.p R.o=some (q,R.av,R.obs,R.fp) :=
     k0E (e:=sj.e) (o:=sj.o) (fun t ht=>aK t (List.mem_append.2 (.inl (m0Y ht)))) aO (fun id aH=>aU id (List.mem_append.2 (.inl aH)))
    have hd:∀d,R.o.dst=some d->d<X.n/\(∀x∈R.p,x.1≠d)/\∀t s,b9 (A3 (fun k=>listed.getD k false) 0 recs st).e t=some s->∀x∈s.p,x.1≠d:=by
     intro d hd;refine⟨(aF.1 i R.o d ho hd).1,fun x hx e=>?_,fun t s ht x hx e=>?_⟩
     ·have v:=NT E i R hR;rw[Nat.zero_add,ba] at v
      grind[Yf,P9]
     ·rcases Yh ht with h | ⟨k,Rk,u,aA,hsp⟩
      ·grind
      ·rw[Nat.zero_add] at aA;have f:i≠k:=fun e'=>by grind
       have g:k<l.length:=by
        rcases Nat.lt_or_ge k l.length with h | h
        ·exact h
        ·grind
       have F:=Gg E hR u f;simp only[CY,ba,hd] at F;have h2:=F.1.2;rw[Bool.or_eq_true] at h2
       grind[P9]
    have H:∀k,(listed.setIfInBounds i true).getD k false=if k=i then true else listed.getD k false:=fun k=>by
     by_cases f:k=i
     ·subst f;have hs:k<listed.size:=by omega
      simp[hs]
     ·rw[if_neg f]; exact getD_set_ne false (Ne.symm f)
    have bM:=NP (st:=⟨(A3 (fun k=>listed.getD k false) 0 recs st).e,G.o⟩) (K:=wpAny X.P .any l.toArray Q fuel (listed.setIfInBounds i true)) aX hT (ops:=l.toArray) (all:=l) rfl (Q:=Q) S rfl hE bG aJ (fun F=>hq (Yd (fun x hx=>(aL x hx).symm) F)) hg hd (fun a' G' S' _ bC aY=>by
     refine ih (listed.setIfInBounds i true) G' a' ?_ (by grind) ?_ S' ?_ ?_
     ·have:((List.range l.length).filter fun j=>!(listed.setIfInBounds i true).getD j true).length < ((List.range l.length).filter fun j=>!listed.getD j true).length:=by
       refine Yg (fun j hj=>?_) ⟨i,List.mem_range.2 aP,by grind,?_⟩
       ·by_cases bN:i=j
        ·grind
        grind
       ·grind
      omega
     ·intro k o u aA m hm;simp only[H] at aA ⊢;by_cases bA:m=i
      ·grind
      ·rw[if_neg bA];by_cases f:k=i
       ·subst f;rw[ho] at u;cases u;obtain⟨e,he,bR,rfl⟩:=Aa.1 hm
        grind
       ·rw[if_neg f] at aA;exact aB k o u aA m hm
     ·intro id;rw[bC];by_cases V:Gf R id
      ·rw[Ya (D:=fun k=>(listed.setIfInBounds i true).getD k false) (st':=⟨[],G.o⟩) hR V (by grind) (fun k Rk bD u Y=>?_)]
       ·rfl
       ·rw[Nat.zero_add];simp only[H,if_neg (show k≠i by omega)];have g:k<l.length:=by
         rcases Nat.lt_or_ge k l.length with h | h
         ·exact h
         ·grind
        have F:=Gg E u hR (show k≠i by omega);simp only[CY,ba] at F;have v:=F.2;rw[Bool.or_eq_true] at v;obtain⟨y,hy,bB⟩:=Y;obtain⟨z,hz,bL⟩:=V;rcases v with v | v
        ·simp only[NS,List.all_eq_true] at v
         grind[List.mem_map_of_mem,P9]
        grind
      ·have e1:=Sg ⟨[],G.o⟩ R id V;simp only[C5] at e1;rw[e1,hO];refine NR (fun k Rk u Y=>?_) rfl;rw[Nat.zero_add];simp only[H];rw[if_neg (fun e=>by grind)]
     ·refine aY.congr (fun t=>?_);by_cases V:DR R t
      ·have aV:=w0N aO V;rw[XZ (D:=fun k=>(listed.setIfInBounds i true).getD k false) (st':=⟨(A3 (fun k=>listed.getD k false) 0 recs st).e,G.o⟩) hR V aV (by grind) (fun k Rk bD u Y=>by
        have:=aF.2 i k R.o Rk.o t ho (bJ k Rk u) V Y;omega)]
       rfl
      ·have e1:=Sf ⟨(A3 (fun k=>listed.getD k false) 0 recs st).e,G.o⟩ R t V;simp only[C5] at e1;rw[e1];refine NQ (fun k Rk u Y=>?_) rfl;rw[Nat.zero_add];simp only[H];rw[if_neg (fun e=>by grind)])
    grind[wpOp,N5]
end
end Go.Proofs.Xv
end
section
namespace Go.Proofs.Xv
open Go Go.RowKit Go.Proofs.Sv
def VX(X:Cx)(st:St)(c:Code)(Q:Exit->Act->World->Prop):Prop:=∀G a,Sat X G->G.o=st.o->EnvR X.n G st.e a->c.wp X.P Q a G.w
def FX(X:Cx)(st:St)(x:Exit)(Q:Exit->Act->World->Prop):Prop:=∀G a,Sat X G->G.o=st.o->EnvR X.n G st.e a->Q x a G.w
def Gi(e:List (Nat×Sl)):List Nat->List (Nat×Sl)
 | []=>[]
 | t :: r=>match b9 e t with
   | some ⟨[],a⟩=>(t,⟨[],a⟩) :: Gi e r
   | _=>Gi e r
def NU:List Nat->List (Nat×Ob)->List (Nat×Ob)
 | _,[]=>[]
 | seen,(i,b) :: r=>bif M7 i seen then NU seen r else(i,b) :: NU (i :: seen) r
def cut(keep:List Nat)(st:St):St:=⟨Gi st.e keep,NU [] st.o⟩
theorem Sk{e:List (Nat×Sl)}:∀{keep:List Nat} {t:Nat} {s:Sl},b9 (Gi e keep) t=some s->b9 e t=some s/\s.p=[]
 | [],t,s,h=>by cases h
 | k :: r,t,s,h=>by
   unfold Gi at h;split at h
   ·rename_i a b;rw[lK] at h;split at h
    ·grind
    ·exact Sk h
   ·exact Sk h
theorem Yi:∀{o:List (Nat×Ob)} {seen:List Nat} {i:Nat},i ∉ seen->b9 (NU seen o) i=b9 o i
 | [],_,_,_=>rfl
 | (j,b) :: r,seen,i,h=>by
   unfold NU;rw[ce,lK];split
   ·rename_i c;have:¬j=i:=fun e=>h (by grind[P9]);rw[if_neg this];exact Yi h
   ·rw[lK];split
    ·rfl
    ·rename_i a;exact Yi (by grind)
theorem Gj{X:Cx}{st:St}{G:Gh}{a:Act}(b:List Nat)(S:Sat X G)(g:G.o=st.o)(c:EnvR X.n G st.e a):∃G',Sat X G'/\G'.o=(cut b st).o/\G'.w=G.w/\EnvR X.n G' (cut b st).e a:=by
 obtain⟨h,f⟩:=S.congr (o':=(cut b st).o) (fun i=>by rw[g]; exact Yi (by simp));refine⟨_,h,rfl,rfl,c.defers,c.size,fun t s d=>?_⟩;obtain⟨j,_⟩:=Sk d;have:=(c.mono f).val t s j;omega
def K5(e:List (Nat×Sl)):Bool:=e.all fun x=>Cg x.2.p
theorem Bc{e:List (Nat×Sl)}(h:K5 e=true):∀t s,b9 e t=some s->s.p=[]:=by
 intro t s a;have:∃x∈e,x.2=s:=by
  induction e with
  | nil=>cases a
  | cons y r c =>
    obtain⟨d,v⟩:=y;rw[lK] at a;split at a
    ·simp_all
    grind[K5]
 obtain⟨x,b,rfl⟩:=this
 grind[K5,List.all_eq_true,NN]
section
variable {X:Cx} {st:St} {Q:Exit->Act->World->Prop}
theorem vQ{x y:Code}(h:VX X st x (Rm X.P y Q)):VX X st (.seq x y) Q:=fun G a S c b=>wp_seq (h G a S c b)
theorem vB{id:Nat}{c:Code}(h:VX X st c (NA id Q)):VX X st (.block id c) Q:=fun G a S d b=>wp_block (h G a S d b)
theorem vK(h:FX X st .normal Q):VX X st .skip Q:=fun G a S c b=>wp_skip (h G a S c b)
theorem j5(h:FX X st .ret Q):VX X st .ret Q:=fun G a S c b=>wp_ret (h G a S c b)
theorem vE{id:Nat}(h:FX X st (.exit id) Q):VX X st (.exit id) Q:=fun G a S c b=>wp_exit (h G a S c b)
theorem Yj{c:Operand}{x y:Code}{f b:Bool}(k:rd st [] c=some (.d f .bool b))(j:b=true->VX X st x Q)(l:b=false->VX X st y Q):VX X st (.cond c x y) Q:=fun G a S i g=>by
 have e:=BA (D0 g (p:=[]) (fun _ h=>by cases h) k);exact wp_cond_split e (fun h=>j h G a S i g) (fun h=>l h G a S i g)
theorem t0o{c:Operand}{x y:Code}{f:Bool}(b:rd st [] c=some (.d f .bool true))(a:VX X st x Q):VX X st (.cond c x y) Q:=Yj b (fun _=>a) (fun h=>by cases h)
theorem t0p{c:Operand}{x y:Code}{f:Bool}(b:rd st [] c=some (.d f .bool false))(a:VX X st y Q):VX X st (.cond c x y) Q:=Yj b (fun h=>by cases h) (fun _=>a)
theorem fQ{y:Code}(h:VX X st y Q):FX X st .normal (Rm X.P y Q):=fun G a S c b=>h G a S c b
theorem fE{y:Code}{id:Nat}(h:FX X st (.exit id) Q):FX X st (.exit id) (Rm X.P y Q):=fun G a S c b=>h G a S c b
theorem fR{y:Code}(h:FX X st .ret Q):FX X st .ret (Rm X.P y Q):=fun G a S c b=>h G a S c b
theorem fK{id:Nat}(h:FX X st .normal Q):FX X st .normal (NA id Q):=fun G a S c b=>h G a S c b
theorem m4{id:Nat}(h:FX X st .ret Q):FX X st .ret (NA id Q):=fun G a S c b=>h G a S c b
theorem fX{id b:Nat}(c:Nat.beq b id=true)(h:FX X st .normal Q):FX X st (.exit b) (NA id Q):=fun G a S e d=>by
 have:b=id:=by simpa using c
 show(if b=id then Q .normal a G.w else Q (.exit b) a G.w);rw[if_pos this]; exact h G a S e d
theorem n0q{id b:Nat}(d:Nat.beq b id=false)(h:FX X st (.exit b) Q):FX X st (.exit b) (NA id Q):=fun G a S e c=>by
 have:¬b=id:=fun h=>by simp_all
 show(if b=id then Q .normal a G.w else Q (.exit b) a G.w);rw[if_neg this]; exact h G a S e c
theorem A0a{Γ:p5}{T:List Ct}(i:x9 X.P Γ)(r:∀c∈T,Ok X.P c){id:Nat}{l:List Oper}(b:List Nat)(o:I7 X.n 0 [] l=true)(u:K5 st.e=true)
  (h:HR Γ T l l st [] fun st' _=>FX X (cut b st') .normal Q):VX X st (.region id l.toArray false) Q:=by
 intro G a S y v;obtain⟨d,e1,w,H⟩:=Bb h;refine wp_region_lit ?_;have:=D0y i r (ops:=l.toArray) (all:=l) rfl (Q:=Q) d 0 [] st G a (fun j=>by grind) (by grind) (fun j W dj hj=>by omega) (fun t s ht x hx=>by grind[Bc]) w S y v
  (fun Y q z f k=>by
    obtain⟨E,F,m,V,g⟩:=Gj b z f k;have:=H E q F m g
    grind)
 grind
theorem C0q{Γ:p5}{T:List Ct}(s:x9 X.P Γ)(F:∀c∈T,Ok X.P c)[W:K7 X.P]{id:Nat}{l:List Oper}(d:List Nat)(b:(I7 X.n 0 [] l&&O9 0 l)=true)(q:K5 st.e=true)
  (h:HR Γ T l l st [] fun st' rs=>DT (H6 [] l) rs.reverse=true/\FX X (cut d st') .normal Q):VX X st (.region id l.toArray true) Q:=by
 intro G a S ho Y;rw[ba] at b;obtain⟨recs,V,e2,x,y⟩:=Bb h;rw[List.append_nil,List.reverse_reverse] at x;refine wp_region_any W.h ?_;have f:Ext G.w { G.w with drawn:=G.w.drawn+1 }:=(Below.refl _ _).drew;obtain⟨S1,H⟩:=S.ext f;have:=q0V s F (Q:=Q) (l:=l) (recs:=recs) (st:=st) V e2 (Bc q) b.1 b.2 x (fun G' z S' g t=>by
   obtain⟨G2,S2,u,aA,m⟩:=Gj d S' g t;have:=y G2 z S2 u m
   grind) l.length (Array.replicate l.length false) { G with w:={ G.w with drawn:=G.w.drawn+1 } } a
  (by grind) (by simp) (fun i o _ hD=>by
    by_cases hi:i<l.length
    ·simp_all
    grind) S1 (fun id=>by
    have:∀{recs:List A7} {i:Nat} {st:St},(∀j,(Array.replicate l.length false).getD j false=false)->A3 (fun k=>(Array.replicate l.length false).getD k false) i recs st=st:=by
     intro recs
     induction recs with
     | nil=>intro i st _; rfl
     | cons R r E=>grind[A3]
    rw[this (fun j=>by by_cases v:j<l.length <;> simp[v])]
    grind) (by
    have:∀{recs:List A7} {i:Nat} {st:St},(∀j,(Array.replicate l.length false).getD j false=false)->A3 (fun k=>(Array.replicate l.length false).getD k false) i recs st=st:=by
     intro recs
     induction recs with
     | nil=>intro i st _; rfl
     | cons R r E=>grind[A3]
    rw[this (fun j=>by by_cases v:j<l.length <;> simp[v])];exact Y.mono H)
 omega
end
def Gk:Option Ob->Nat->Prop
 | some (.arr _ _ _ _ v),ver=>v=ver
 | _,_=>False
theorem Yk{b:Option Ob}{ver:Nat}(h:Gk b ver):∃T fr t xs,b=some (.arr T fr t xs ver):=by
 unfold Gk at h
 grind
def NV:Option Ob->Prop
 | some (.box _ _)=>True
 | _=>False
theorem q0H{b:Option Ob}(h:NV b):∃T cs,b=some (.box T cs):=by
 unfold NV at h
 grind
def Sm:Option Ob->Prop
 | none=>True
 | _=>False
theorem v0L{b:Option Ob}(h:Sm b):b=none:=by
 grind[Sm]
def HU:Value->Prop
 | .slice none 0 0=>True
 | _=>False
theorem Yl{u:Value}(h:HU u):u=.slice none 0 0:=by
 grind[HU]
def Ym:(t:Ty)->j6 t->Prop
 | .sl _,x=>x=[]
 | _,_=>False
theorem D0P{K:Nat->Prop}{w:World}:∀{t:Ty} {x:j6 t},Ym t x->RT K w t [.slice none 0 0] x
 | .sl _,x,h=>by
   have h:x=[]:=h;subst h;exact⟨none,0,rfl,Nat.le_refl _,by omega,.inl rfl⟩
def Yn:Option Ob->Prop
 | some (.grd ..)=>True
 | _=>False
theorem v0J{b:Option Ob}(h:Yn b):∃T Te fr t xs hole,b=some (.grd T Te fr t xs hole):=by
 unfold Yn at h
 grind
def Yo:Option Nat->Prop
 | none=>True
 | some _=>False
theorem m0T{h:Option Nat}(k:Yo h):h=none:=by
 cases h with
 | none=>rfl
 | some _=>exact k.elim
/- The first value may be taken for the second one. -/
mutual
def N6(o o':List (Nat×Ob)):AV->AV->Prop
 | .d fr t x,b=>match b with
   | .d fr' t' y=>(fr'=true->fr=true)/\Y1 t t' x=some y
   | _=>False
 | .v x,b=>match b with
   | .v y=>x=y
   | .os id ver=>HU x/\Sm (b9 o id)/\Gk (b9 o' id) ver
   | .d _ t y=>HU x/\Ym t y
   | _=>False
 | .os id ver,b=>match b with
   | .os id' ver'=>id=id'/\Gk (b9 o id) ver/\Gk (b9 o' id) ver'
   | _=>False
 | .ptr id off,b=>match b with
   | .ptr id' off'=>id=id'/\off=off'/\NV (b9 o' id)
   | _=>False
 | .agg xs,b=>match b with
   | .agg ys=>Cj o o' xs ys
   | _=>False
 | .tup xs,b=>match b with
   | .tup ys=>Cj o o' xs ys
   | _=>False
 | .fn f xs,b=>match b with
   | .fn g ys=>f=g/\Cj o o' xs ys
   | _=>False
 | .og id,b=>match b with
   | .og id'=>id=id'/\Yn (b9 o' id)
   | _=>False
 | _,_=>False
def Cj(o o':List (Nat×Ob)):List AV->List AV->Prop
 | [],ys=>match ys with
   | []=>True
   | _=>False
 | a :: r,ys=>match ys with
   | b :: s=>N6 o o' a b/\Cj o o' r s
   | _=>False
end
def Yp(o o':List (Nat×Ob)):Option Ob->Ob->Prop
 | some (.box T cs),.box T' cs'=>T=T'/\Cj o o' cs cs'
 | some (.arr T fr t xs _),.arr T' fr' t' ys _=>T=T'/\(fr'=true->fr=true)/\Y1 (.sl t) (.sl t') xs=some ys
 | none,.arr _ _ _ ys _=>ys=[]
 | some (.grd T Te fr t xs h),.grd T' Te' fr' t' ys h'=>T=T'/\Te=Te'/\Yo h/\Yo h'/\(fr'=true->fr=true)/\Y1 (.sl (.sl t)) (.sl (.sl t')) xs=some ys
 | _,_=>False
def Yq(o o':List (Nat×Ob))(b:AV):Option Sl->Prop
 | some ⟨[],a⟩=>N6 o o' a b
 | _=>False
def Yr:Pa->Prop
 | []=>True
 | _=>False
theorem I0z{q:Pa}(h:Yr q):q=[]:=by
 grind[Yr]
def Sn(o o':List (Nat×Ob))(e:List (Nat×Sl)):List (Nat×Sl)->Prop
 | []=>True
 | (t,s) :: r=>Yr s.p/\Yq o o' s.a (b9 e t)/\Sn o o' e r
def NW(o o':List (Nat×Ob)):List (Nat×Ob)->Prop
 | []=>True
 | (i,b) :: r=>Yp o o' (b9 o i) b/\NW o o' r
def pins(o':List (Nat×Ob)):List (Nat×Ob)->Prop
 | []=>True
 | (i,.box _ _) :: r=>(bif Nat.ble 500000 i then NV (b9 o' i) else True)/\pins o' r
 | (_,.arr ..) :: r=>pins o' r
 | (_,.grd ..) :: r=>pins o' r
def NX(st st':St):Prop:=Sn st.o st'.o st.e st'.e/\NW st.o st'.o st'.o/\pins st'.o st.o
def Z9(G:Gh)(o':List (Nat×Ob)):Gh :=
 ⟨fun i=>match b9 G.o i with | some _=>G.ρ i | none=>.slice none 0 0,fun i=>match b9 G.o i with | some _=>G.γ i | none=>none,G.K,G.w,o',G.B,G.δ⟩
theorem HV{G:Gh}{o':List (Nat×Ob)}{i:Nat}{b:Ob}(h:b9 G.o i=some b):(Z9 G o').ρ i=G.ρ i:=by grind[Z9]
theorem So{G:Gh}{o':List (Nat×Ob)}{i:Nat}{b:Ob}(h:b9 G.o i=some b):(Z9 G o').γ i=G.γ i:=by grind[Z9]
theorem q0I{G:Gh}{o':List (Nat×Ob)}{i:Nat}(h:b9 G.o i=none):(Z9 G o').ρ i=.slice none 0 0:=by grind[Z9]
theorem q0J{G:Gh}{o':List (Nat×Ob)}{i:Nat}(h:b9 G.o i=none):(Z9 G o').γ i=none:=by grind[Z9]
mutual
theorem n0D{G:Gh}{o':List (Nat×Ob)}:∀{a b:AV} {u:Value},N6 G.o o' a b->AVR G a u->AVR (Z9 G o') b u
 | .d m t x,b,u,h,c=>by
   unfold N6 at h;split at h
   ·obtain⟨i,g⟩:=h;obtain⟨e,rfl⟩:=DN g;subst e;exact RT.up c (fun k n=>⟨n.1,fun e=>n.2 (i e)⟩)
   grind
 | .v x,b,u,h,c=>by
   have c:u=x:=c;unfold N6 at h;split at h
   ·exact c.trans h
   ·obtain⟨j,i,g⟩:=h;have j:=Yl j;have i:=v0L i;obtain⟨T,m,t,l,g⟩:=Yk g;subst c;subst j;exact⟨rfl,T,m,t,l,_,g,Nat.le_refl _,fun _=>(q0I i).symm⟩
   ·obtain⟨j,i⟩:=h;have j:=Yl j;subst c;subst j;exact D0P i
   grind
 | .os id ver,b,u,h,⟨j,T,m,t,l,ver',k1,k2,k3⟩=>by
   unfold N6 at h;split at h
   ·obtain⟨rfl,i,g⟩:=h;obtain⟨F,q,E,r,i⟩:=Yk i;obtain⟨y,s,z,w,g⟩:=Yk g;rw[k1] at i;cases i;exact⟨j,_,_,_,_,_,g,Nat.le_refl _,fun _=>(k3 rfl).trans (HV k1).symm⟩
   grind
 | .ptr id off,b,u,h,⟨⟨T,cs,k1⟩,b',k2,k3⟩=>by
   unfold N6 at h;split at h
   ·obtain⟨rfl,rfl,g⟩:=h;exact⟨q0H g,b',(HV k1).trans k2,k3⟩
   grind
 | .agg l,b,u,h,⟨us,e,c⟩=>by
   unfold N6 at h;split at h
   ·exact⟨us,e,NY h c⟩
   grind
 | .tup l,b,u,h,⟨us,e,c⟩=>by
   unfold N6 at h;split at h
   ·exact⟨us,e,NY h c⟩
   grind
 | .fn f l,b,u,h,⟨us,e,c⟩=>by
   unfold N6 at h;split at h
   ·obtain⟨rfl,h⟩:=h;exact⟨us,e,NY h c⟩
   grind
 | .pel _ _ _ _ _,b,u,h,c=>by grind[N6]
 | .gel _ _,b,u,h,c=>by grind[N6]
 | .og id,b,u,h,⟨j,⟨T,Te,m,t,l,hole,k1⟩,k2⟩=>by
   unfold N6 at h;split at h
   ·obtain⟨rfl,g⟩:=h;exact⟨j,v0J g,k2.trans (HV k1).symm⟩
   grind
 | .ow _ _ _ _,b,u,h,c=>c.elim
 | .ob _ _,b,u,h,c=>c.elim
theorem NY{G:Gh}{o':List (Nat×Ob)}:∀{as' bs:List AV} {us:List Value},Cj G.o o' as' bs->AVRs G as' us->AVRs (Z9 G o') bs us
 | [],bs,us,h,hu=>by
   unfold Cj at h;split at h
   ·exact hu
   grind
 | a :: r,bs,us,h,⟨u,us',e,k1,k2⟩=>by
   unfold Cj at h;split at h
   ·exact⟨u,us',e,n0D h.1 k1,NY h.2 k2⟩
   grind
end
theorem Ys{o o':List (Nat×Ob)}:∀{l:List (Nat×Ob)} {i:Nat} {b:Ob},NW o o' l->b9 l i=some b->Yp o o' (b9 o i) b
 | [],_,_,_,h=>by cases h
 | (j,c) :: r,i,b,h,hl=>by
   rw[lK] at hl;split at hl
   ·rename_i e; subst e; cases hl; exact h.1
   ·exact Ys h.2 hl
theorem w0m{o o':List (Nat×Ob)}{e:List (Nat×Sl)}:∀{l:List (Nat×Sl)} {t:Nat} {s:Sl},Sn o o' e l->b9 l t=some s->s.p=[]/\Yq o o' s.a (b9 e t)
 | [],_,_,_,h=>by cases h
 | (j,c) :: r,t,s,h,hl=>by
   rw[lK] at hl;split at hl
   ·rename_i e; subst e; cases hl; exact⟨I0z h.1,h.2.1⟩
   ·exact w0m h.2.2 hl
theorem Sq{o':List (Nat×Ob)}:∀{l:List (Nat×Ob)} {i:Nat} {T:TypeId} {cs:List AV},pins o' l->b9 l (500000+i)=some (.box T cs)->NV (b9 o' (500000+i))
 | [],_,_,_,_,h=>by cases h
 | (j,.arr ..) :: r,i,_,_,h,hl=>by
   rw[lK] at hl;split at hl
   ·cases hl
   ·exact Sq (l:=r) h hl
 | (j,.grd ..) :: r,i,_,_,h,hl=>by
   rw[lK] at hl;split at hl
   ·cases hl
   ·exact Sq (l:=r) h hl
 | (j,.box ..) :: r,i,_,_,h,hl=>by
   rw[lK] at hl;split at hl
   ·rename_i e; subst e;have:=h.1
    simp_all
   ·exact Sq h.2 hl
theorem z0o{X:Cx}{G:Gh}{o':List (Nat×Ob)}(S:Sat X G)(h:NW G.o o' o')(F:pins o' G.o):Sat X (Z9 G o'):=by
 have g:∀{i:Nat} {b:Nat},(Z9 G o').γ i=some b->(∃c,b9 G.o i=some c)/\G.γ i=some b:=fun {i b} q=>by
  cases hl:b9 G.o i with
  | none=>grind[q0J]
  | some c=>grind[So]
 have P:∀i,I2 (b9 o' i)=true->I2 (b9 G.o i)=true:=fun i hg=>by
  obtain⟨T,V,n,t,m,d,e⟩:=NG hg;have a:=Ys h e;cases hl:b9 G.o i with
  | none=>rw[hl] at a; exact a.elim
  | some c =>
    rw[hl] at a;cases c with
    | box T r=>exact a.elim
    | arr T n t m u=>exact a.elim
    | grd T V n t m d=>rfl
 refine⟨S.base,S.os,S.tape,S.output,S.size,S.block,?_,?_,?_,?_,S.klt,S.kfrom,fun i b q hg=>?_,fun i v hv=>?_⟩
 rotate_right
 rotate_right
 ·obtain⟨s1,s2,s3,s4⟩:=S.sep i b q (P i hg);exact⟨s1,s2,fun j o ho hj=>by grind,fun j hj aB=>s4 j hj (P j aB)⟩
 ·obtain⟨⟨T,r,l⟩,b,f,w⟩:=S.pin i v hv;exact⟨q0H (Sq F l),b,(HV l).trans f,w⟩
 ·intro id o ho;have a:=Ys h ho;cases hl:b9 G.o id with
  | none =>
    rw[hl] at a;cases o with
    | box T r=>exact a.elim
    | grd T V n t m d=>exact a.elim
    | arr T n t m u =>
      have hx:m=[]:=a;subst hx;refine⟨[],?_,rfl,fun b q=>by grind⟩;rw[q0J hl,q0I hl];exact .inl ⟨rfl,rfl,rfl,none,rfl⟩
  | some c =>
    rw[hl] at a;have:=S.obs id c hl;cases c with
    | box T r =>
      cases o with
      | arr z n t m u=>exact a.elim
      | grd T V n t m d=>exact a.elim
      | box z Q =>
        obtain⟨rfl,a⟩:=a;obtain⟨b,us,l,f,w,E⟩:=this;exact⟨b,us,(So hl).trans l,(HV hl).trans f,w,NY a E⟩
    | arr T n t m u =>
      cases o with
      | box z Q=>exact a.elim
      | arr z H t' ys W =>
        obtain⟨rfl,l,f⟩:=a;obtain⟨e,rfl⟩:=DN f;cases e;obtain⟨r,Y,y,k3⟩:=this;refine⟨r,?_,y.mapR (fun c x hr=>RT.up hr (fun k s=>⟨s.1,fun e=>s.2 (l e)⟩)),fun b q=>k3 b (g q).2⟩;rw[So hl,HV hl];exact Y
      | grd T V n t m d=>exact a.elim
    | grd T V n t m d =>
      cases o with
      | box z Q=>exact a.elim
      | arr z H t' ys W=>exact a.elim
      | grd z Te' H t' ys aC =>
        obtain⟨rfl,rfl,e1,e2,l,f⟩:=a;have e1:=m0T e1;have e2:=m0T e2;subst e1; subst e2;obtain⟨e,rfl⟩:=DN f;cases e;obtain⟨vs,bs,Y,y,k3⟩:=this;refine⟨vs,bs,by rw[So hl,HV hl]; exact Y,⟨y.len,y.blk,y.inj,fun k s hh=>?_,y.one⟩,fun b q=>k3 b (g q).2⟩;obtain⟨r,r1,r2,r3⟩:=y.row k s hh;exact⟨r,r1,r2.mapR (fun c x hr=>RT.up hr (fun k s=>⟨s.1,fun e=>s.2 (l e)⟩)),r3⟩
 ·intro i i' o1 o2 b l f w E;obtain⟨⟨c,a⟩,w⟩:=g w;obtain⟨⟨c',aA⟩,E⟩:=g E;exact S.inj i i' c c' b a aA w E
 ·intro i o1 b l f;obtain⟨⟨c,a⟩,f⟩:=g f;exact S.imm i c b a f
 ·intro i o1 b l f;obtain⟨⟨c,a⟩,f⟩:=g f;exact S.own i c b a f
theorem Yt{X:Cx}{G:Gh}{st st':St}{a:Act}(h:NX st st')(S:Sat X G)(l:G.o=st.o)(b:EnvR X.n G st.e a):∃G',Sat X G'/\G'.o=st'.o/\G'.w=G.w/\EnvR X.n G' st'.e a:=by
 obtain⟨f,d,g⟩:=h;rw[<- l] at f d g;refine⟨Z9 G st'.o,z0o S d g,rfl,rfl,b.defers,b.size,fun t s i=>?_⟩;obtain⟨j,c⟩:=w0m f i;rw[j];refine⟨fun _=>?_,fun m=>(m (fun _ h=>by cases h)).elim⟩;unfold Yq at c;split at c
 ·rename_i q k;exact n0D c ((b.val t _ k).1 (fun _ h=>by cases h))
 grind
section
variable {X:Cx} {st:St} {Q:Exit->Act->World->Prop}
def Sr(X:Cx){σ:Type}(E:σ->St)(J:σ->Prop)(μ:σ->Nat)(s:σ)(Q:Exit->Act->World->Prop):Exit->Act->World->Prop
 | .normal,a,w=>∃s',μ s'<μ s/\J s'/\∃G,Sat X G/\G.o=(E s').o/\G.w=w/\EnvR X.n G (E s').e a
 | e,a,w=>Q e a w
theorem C0p{c:Code}(st':St)(h:NX st st')(k:VX X st' c Q):VX X st c Q:=fun G a S g e=>by
 obtain⟨j,i,b,f,d⟩:=Yt h S g e;have:=k j a i b d
 grind
theorem C0o{b:Code}{f:Type}(E:f->St)(J:f->Prop)(g:f->Nat)(d:f)(y:J d)(q:NX st (E d))
  (c:∀s,J s->VX X (E s) b (Sr X E J g s Q)):VX X st (.loop b) Q:=by
 intro G a S l i;obtain⟨v,z,k,j,h⟩:=Yt q S l i;refine wp_loop_ghost (fun m a w=>∃s,g s=m/\J s/\∃G,Sat X G/\G.o=(E s).o/\G.w=w/\EnvR X.n G (E s).e a) (g d) ⟨d,rfl,y,v,z,k,j,h⟩ ?_;rintro m a w ⟨s,rfl,F,G,S,l,rfl,i⟩;refine wp_mono (c s F G a S l i) ?_;intro x T V r;cases x with
 | normal =>
   obtain⟨t,H,u,P⟩:=r;exact⟨g t,H,t,rfl,u,P⟩
 | _=>exact r
theorem E0p{b:Type}{E:b->St}{J:b->Prop}{g:b->Nat}{s:b}(c:b)(m:J c)(f:g c<g s)(k:NX st (E c)):FX X st .normal (Sr X E J g s Q):=fun G a S j i=>by
 obtain⟨n,l,d,e,h⟩:=Yt k S j i;exact⟨c,f,m,n,l,d,e,h⟩
theorem n0p{b:Type}{E:b->St}{J:b->Prop}{e:b->Nat}{s:b}{id:Nat}(h:FX X st (.exit id) Q):FX X st (.exit id) (Sr X E J e s Q):=fun G a S c d=>h G a S c d
theorem o0V{b:Type}{E:b->St}{J:b->Prop}{e:b->Nat}{s:b}(h:FX X st .ret Q):FX X st .ret (Sr X E J e s Q):=fun G a S c d=>h G a S c d
end
def L5:Nat->(ps:List Par)->s9 ps->List (Nat×Sl)
 | _,[],_=>[]
 | i,.dat t :: r,x=>(i,⟨[],.d false t x.1⟩) :: L5 (i+1) r x.2
 | i,.agg t :: r,x=>(i,⟨[],.agg (r5 false t x.1)⟩) :: L5 (i+1) r x.2
 | i,.fn f c :: r,x=>(i,⟨[],.fn f (r5 false c x.1)⟩) :: L5 (i+1) r x.2
 | i,.nof f :: r,x=>(i,⟨[],.fn f []⟩) :: L5 (i+1) r x.2
 | i,.nil :: r,x=>(i,⟨[],.v (.pointer none)⟩) :: L5 (i+1) r x.2
 | i,.io _ _ :: r,x=>(i,⟨[],.ptr (500000+i) 0⟩) :: L5 (i+1) r x.2
 | i,.os _ _ :: r,x=>(i,⟨[],.os (500000+i) 0⟩) :: L5 (i+1) r x.2
def H7:Nat->(ps:List Par)->s9 ps->List (Nat×Ob)
 | _,[],_=>[]
 | i,.io T t :: _,x=>[(500000+i,.box T (r5 false t x.1))]
 | i,.os E t :: _,x=>[(500000+i,.arr E true t x.1 0)]
 | i,.dat _ :: r,x=>H7 (i+1) r x.2
 | i,.agg _ :: r,x=>H7 (i+1) r x.2
 | i,.fn _ _ :: r,x=>H7 (i+1) r x.2
 | i,.nof _ :: r,x=>H7 (i+1) r x.2
 | i,.nil :: r,x=>H7 (i+1) r x.2
def r6:Nat->List Par->Option Nat->Option (Nat×Value)
 | _,[],_=>none
 | i,.io _ _ :: _,some b=>some (i,.pointer (some ⟨b,0,none⟩))
 | _,.os _ _ :: _,_=>none
 | i,_ :: r,go=>r6 (i+1) r go
def Ck:List Par->Bool
 | []=>true
 | .io _ _ :: _=>false
 | .os _ _ :: _=>false
 | .dat _ :: r=>Ck r
 | .agg _ :: r=>Ck r
 | .fn _ _ :: r=>Ck r
 | .nof _ :: r=>Ck r
 | .nil :: r=>Ck r
def Ab:List Par->Bool
 | []=>true
 | .io _ _ :: r=>Ck r
 | .os _ _ :: r=>Ck r
 | .dat _ :: r=>Ab r
 | .agg _ :: r=>Ab r
 | .fn _ _ :: r=>Ab r
 | .nof _ :: r=>Ab r
 | .nil :: r=>Ab r
theorem HW:∀{ps:List Par} {i:Nat} {x:s9 ps},Ck ps=true->H7 i ps x=[]
 | [],_,_,_=>rfl
 | .io _ _ :: _,_,_,h=>by cases h
 | .os _ _ :: _,_,_,h=>by cases h
 | .dat _ :: r,i,x,h=>HW (ps:=r) (i:=i+1) h
 | .agg _ :: r,i,x,h=>HW (ps:=r) (i:=i+1) h
 | .fn _ _ :: r,i,x,h=>HW (ps:=r) (i:=i+1) h
 | .nof _ :: r,i,x,h=>HW (ps:=r) (i:=i+1) h
 | .nil :: r,i,x,h=>HW (ps:=r) (i:=i+1) h
theorem JX{K:Nat->Prop}{w:World}{go:Option Nat}:∀{ps:List Par} {z:B6 ps},Ck ps=true->IOR K w go ps z
 | [],_,_=>trivial
 | .io _ _ :: _,_,h=>by cases h
 | .os _ _ :: _,_,h=>by cases h
 | .dat _ :: r,z,h=>JX (ps:=r) h
 | .agg _ :: r,z,h=>JX (ps:=r) h
 | .fn _ _ :: r,z,h=>JX (ps:=r) h
 | .nof _ :: r,z,h=>JX (ps:=r) h
 | .nil :: r,z,h=>JX (ps:=r) h
theorem JY:∀{ps:List Par},Ck ps=true->¬F4 ps=true
 | [],_=>fun e=>by cases e
 | .io _ _ :: _,h=>by cases h
 | .os _ _ :: _,h=>by cases h
 | .dat _ :: r,h=>JY (ps:=r) h
 | .agg _ :: r,h=>JY (ps:=r) h
 | .fn _ _ :: r,h=>JY (ps:=r) h
 | .nof _ :: r,h=>JY (ps:=r) h
 | .nil :: r,h=>JY (ps:=r) h
theorem JZ{K:Nat->Prop}{w:World}{go:Option Nat}:∀{ps:List Par} {z:B6 ps},Ab ps=true->F4 ps=true->IOR K w go ps z
 | [],_,_,_=>trivial
 | .io _ _ :: r,_,h,g=>(JY (ps:=r) h g).elim
 | .os _ _ :: r,_z,h,_=>JX (ps:=r) h
 | .dat _ :: r,_z,h,g=>JZ (ps:=r) h g
 | .agg _ :: r,_z,h,g=>JZ (ps:=r) h g
 | .fn _ _ :: r,_z,h,g=>JZ (ps:=r) h g
 | .nof _ :: r,_z,h,g=>JZ (ps:=r) h g
 | .nil :: r,_z,h,g=>JZ (ps:=r) h g
theorem HX:∀{ps:List Par},Ck ps=true->Ab ps=true
 | [],_=>rfl
 | .io _ _ :: _,h=>by cases h
 | .os _ _ :: _,h=>by cases h
 | .dat _ :: r,h=>HX (ps:=r) h
 | .agg _ :: r,h=>HX (ps:=r) h
 | .fn _ _ :: r,h=>HX (ps:=r) h
 | .nof _ :: r,h=>HX (ps:=r) h
 | .nil :: r,h=>HX (ps:=r) h
def HY(o:Option (Nat×Value)):Nat->Value->Prop:=fun i v=>o=some (i,v)
def Au:List Par->List Value->Value
 | .io _ _ :: _,v :: _=>v
 | .os _ _ :: _,v :: _=>v
 | _ :: r,_ :: us=>Au r us
 | _,_=>undef
def CZ(K:Nat->Prop)(w:World)(go:Option Nat)(r0:Value)(B:Nat)(o:List (Nat×Ob)):Gh:=⟨fun _=>r0,fun _=>go,K,w,o,B,fun _ _=>False⟩
@[reducible] def cx (P:Program) (n:Nat) (y:World×(Nat->Prop)×(Nat->Prop)×(Nat->Value->Prop)×Nat):Cx:=⟨P,n,y.1,y.2.1,y.2.2.1,y.2.2.2.1,y.2.2.2.2⟩
def M0(ps:List Par)(w:World):Nat:=bif F4 ps then 0 else w.heap.size
theorem Yu{ps:List Par}{w:World}(h:¬F4 ps=true):M0 ps w=w.heap.size:=by
 grind[M0]
theorem k0D{ps:List Par}{w:World}(h:F4 ps=true):M0 ps w=0:=by
 grind[M0]
theorem w0C(ps:List Par)(w:World):M0 ps w<=w.heap.size:=by
 by_cases h:F4 ps=true
 ·rw[k0D h]; exact Nat.zero_le _
 ·rw[Yu h]; exact Nat.le_refl _
theorem Ss{K:Nat->Prop}{w:World}{go:Option Nat}{r0:Value}{B:Nat}{o:List (Nat×Ob)}{t:Ty}{us:List Value}{x:j6 t}(h:RT K w t us x):RT (rg (CZ K w go r0 B o) false) (CZ K w go r0 B o).w t us x :=
 RT.up h (fun _ a=>⟨a,fun e=>by cases e⟩)
theorem Gl{K:Nat->Prop}{w:World}:∀{ps:List Par} {i:Nat} {x:s9 ps} {vs:List Value} {go:Option Nat},ArgsR K w go ps x vs ->
  (H7 i ps x=[]/\go=none/\r6 i ps go=none/\¬F4 ps=true)∨(∃j b T t z cs,H7 i ps x=[(500000+j,.box T (r5 false t z))]/\go=some b/\r6 i ps go=some (j,.pointer (some ⟨b,0,none⟩))/\Au ps vs=.pointer (some ⟨b,0,none⟩)/\Blk w b cs T/\RT K w t cs z/\¬K b) ∨
    ∃j E t,∃xs:List (j6 t),∃cs,H7 i ps x=[(500000+j,.arr E true t xs 0)]/\r6 i ps go=none/\(Au ps vs).oneCell'=true/\Own w E (sz t) go (Au ps vs) xs.length cs/\AllR (RT K w t) cs xs/\(∀b,go=some b->¬K b)/\F4 ps=true
 | [],i,x,vs,go,h=>.inl ⟨rfl,h.2,rfl,fun e=>by cases e⟩
 | .dat t :: r,i,x,vs,go,⟨v,us,e,_,h⟩=>by
   subst e;have:=Gl (i:=i+1) h;cases go <;> exact this
 | .agg t :: r,i,x,vs,go,⟨v,us,e,_,h⟩=>by
   subst e;have:=Gl (i:=i+1) h;cases go <;> exact this
 | .fn f t :: r,i,x,vs,go,⟨v,us,e,_,h⟩=>by
   subst e;have:=Gl (i:=i+1) h;cases go <;> exact this
 | .nof f :: r,i,x,vs,go,⟨us,e,h⟩=>by
   subst e;have:=Gl (i:=i+1) h;cases go <;> exact this
 | .nil :: r,i,x,vs,go,⟨us,e,h⟩=>by
   subst e;have:=Gl (i:=i+1) h;cases go <;> exact this
 | .io T t :: r,i,x,vs,go,⟨b,cs,us,e,hgo,h1,h2,h3,h⟩=>by
   subst hgo;subst e;exact .inr (.inl ⟨i,b,T,t,x.1,cs,rfl,rfl,rfl,rfl,h2,h3,h1⟩)
 | .os E t :: r,i,x,vs,go,⟨v,cs,us,e,h1,h2,h3,h4,h⟩=>by
   subst e;exact .inr (.inr ⟨i,E,t,x.1,cs,rfl,(by cases go <;> rfl),h2,h3,h4,h1,rfl⟩)
theorem DU{K:Nat->Prop}{w:World}{o:List (Nat×Ob)}{g0:Option Nat}{r0:Value}{B:Nat}:∀{ps:List Par} {i:Nat} {x:s9 ps} {vs:List Value} {go:Option Nat},Ab ps=true->ArgsR K w go ps x vs->(H7 i ps x≠[]->Au ps vs=r0)->(∀z∈H7 i ps x,b9 o z.1=some z.2) ->
  ∀t s,b9 (L5 i ps x) t=some s->i<=t/\s.p=[]/\∃u,vs[t-i]?=some u/\AVR (CZ K w g0 r0 B o) s.a u
 | [],i,x,vs,go,_,h,_,_,t,s,ht=>by cases ht
 | .dat ty :: r,i,x,vs,go,hn,⟨v,us,e,h1,h⟩,hg,hz,t,s,ht=>by
   subst e;unfold L5 at ht;rw[lK] at ht;split at ht
   ·rename_i e; subst e; cases ht; exact⟨Nat.le_refl _,rfl,v,by simp,Ss h1⟩
   ·obtain⟨l,d,u,m,c⟩:=DU (ps:=r) (i:=i+1) hn h hg hz t s ht;exact⟨by omega,d,u,by grind,c⟩
 | .agg ty :: r,i,x,vs,go,hn,⟨v,us,e,h1,h⟩,hg,hz,t,s,ht=>by
   subst e;unfold L5 at ht;rw[lK] at ht;split at ht
   ·rename_i e; subst e; cases ht; exact⟨Nat.le_refl _,rfl,_,by simp,v,rfl,AU (Ss h1)⟩
   ·obtain⟨l,d,u,m,c⟩:=DU (ps:=r) (i:=i+1) hn h hg hz t s ht;exact⟨by omega,d,u,by grind,c⟩
 | .fn f ty :: r,i,x,vs,go,hn,⟨v,us,e,h1,h⟩,hg,hz,t,s,ht=>by
   subst e;unfold L5 at ht;rw[lK] at ht;split at ht
   ·rename_i e; subst e; cases ht; exact⟨Nat.le_refl _,rfl,_,by simp,v,rfl,AU (Ss h1)⟩
   ·obtain⟨l,d,u,m,c⟩:=DU (ps:=r) (i:=i+1) hn h hg hz t s ht;exact⟨by omega,d,u,by grind,c⟩
 | .nof f :: r,i,x,vs,go,hn,⟨us,e,h⟩,hg,hz,t,s,ht=>by
   subst e;unfold L5 at ht;rw[lK] at ht;split at ht
   ·rename_i e; subst e; cases ht; exact⟨Nat.le_refl _,rfl,_,by simp,[],rfl,rfl⟩
   ·obtain⟨l,d,u,m,c⟩:=DU (ps:=r) (i:=i+1) hn h hg hz t s ht;exact⟨by omega,d,u,by grind,c⟩
 | .nil :: r,i,x,vs,go,hn,⟨us,e,h⟩,hg,hz,t,s,ht=>by
   subst e;unfold L5 at ht;rw[lK] at ht;split at ht
   ·rename_i e; subst e; cases ht; exact⟨Nat.le_refl _,rfl,_,by simp,rfl⟩
   ·obtain⟨l,d,u,m,c⟩:=DU (ps:=r) (i:=i+1) hn h hg hz t s ht;exact⟨by omega,d,u,by grind,c⟩
 | .io T ty :: r,i,x,vs,go,hn,⟨b,cs,us,e,hgo,h1,h2,h3,h⟩,hg,hz,t,s,ht=>by
   subst e;have k:Value.pointer (some ⟨b,0,none⟩)=r0:=hg (fun e=>by cases e);unfold L5 at ht;rw[lK] at ht;split at ht
   ·rename_i e; subst e; cases ht;exact⟨Nat.le_refl _,rfl,_,by simp,⟨_,_,hz _ (List.mem_singleton.2 rfl)⟩,b,k.symm,rfl⟩
   ·have g:H7 (i+1) r x.2=[]:=HW hn;obtain⟨l,d,u,m,c⟩:=DU (ps:=r) (i:=i+1) (HX hn) h (fun e=>(e g).elim) (fun z j=>by rw[g] at j; cases j) t s ht;exact⟨by omega,d,u,by grind,c⟩
 | .os E ty :: r,i,x,vs,go,hn,⟨v,cs,us,e,h1,h2,h3,h4,h⟩,hg,hz,t,s,ht=>by
   subst e;have k:v=r0:=hg (fun e=>by cases e);unfold L5 at ht;rw[lK] at ht;split at ht
   ·rename_i e; subst e; cases ht;exact⟨Nat.le_refl _,rfl,_,by simp,h2,_,_,_,_,_,hz _ (List.mem_singleton.2 rfl),Nat.le_refl _,fun _=>k⟩
   ·have g:H7 (i+1) r x.2=[]:=HW hn;obtain⟨l,d,u,m,c⟩:=DU (ps:=r) (i:=i+1) (HX hn) h (fun e=>(e g).elim) (fun z j=>by rw[g] at j; cases j) t s ht;exact⟨by omega,d,u,by grind,c⟩
theorem ArgsR.len{K:Nat->Prop}{w:World}:∀{ps:List Par} {x:s9 ps} {vs:List Value} {go:Option Nat},ArgsR K w go ps x vs->vs.length=ps.length
 | [],x,vs,go,h=>by rw[h.1]; rfl
 | .dat t :: r,x,vs,go,⟨v,us,e,_,h⟩=>by rw[e,List.length_cons,h.len]; rfl
 | .agg t :: r,x,vs,go,⟨v,us,e,_,h⟩=>by rw[e,List.length_cons,h.len]; rfl
 | .fn f t :: r,x,vs,go,⟨v,us,e,_,h⟩=>by rw[e,List.length_cons,h.len]; rfl
 | .nof f :: r,x,vs,go,⟨us,e,h⟩=>by rw[e,List.length_cons,h.len]; rfl
 | .nil :: r,x,vs,go,⟨us,e,h⟩=>by rw[e,List.length_cons,h.len]; rfl
 | .io T t :: r,x,vs,go,⟨b,cs,us,e,_,_,_,_,h⟩=>by rw[e,List.length_cons,h.len]; rfl
 | .os E t :: r,x,vs,go,⟨v,cs,us,e,_,_,_,_,h⟩=>by rw[e,List.length_cons,h.len]; rfl
theorem m0x{P:Program}{n:Nat}{K:Nat->Prop}{w:World}{ps:List Par}{x:s9 ps}{vs:List Value}{go:Option Nat}(l:∀k,K k->k<w.heap.size)(h:ArgsR K w go ps x vs) :
  Sat (cx P n ⟨w,fun k=>go=some k,K,HY (r6 0 ps go),M0 ps w⟩) (CZ K w go (Au ps vs) (M0 ps w) (H7 0 ps x)):=by
 have l:∀k,K k->UFg w w.heap.size k:=fun k d=>⟨l k d,fun h=>absurd (l k d) (Nat.not_lt.2 h)⟩;have q:∀i,(CZ K w go (Au ps vs) (M0 ps w) (H7 0 ps x)).γ i=go:=fun _=>rfl;have g:=w0C ps w;rcases Gl (i:=0) h with ⟨m,F,r,_⟩ | ⟨j,b,T,t,z,cs,m,F,r,hr,h1,h2,h3⟩ | ⟨j,E,t,xs,cs,m,r,h1,h2,h3,h4,hv⟩
 ·have a:∀i o,b9 (CZ K w go (Au ps vs) (M0 ps w) (H7 0 ps x)).o i=some o->False:=fun i o e=>by
   have:b9 (H7 0 ps x) i=some o:=e;rw[m] at this; cases this
  refine⟨⟨rfl,g⟩,rfl,rfl,rfl,Nat.le_refl _,fun _ _ _=>rfl,fun i o e=>(a i o e).elim,fun i _ o _ _ e=>(a i o e).elim,fun i o _ e=>(a i o e).elim,fun i o _ e=>(a i o e).elim,l,fun k d=>.inl d,fun _ _ h=>h.elim,fun i v e=>?_⟩;have:r6 0 ps go=some (i,v):=e
  grind
 ·subst F;have a:∀i o,b9 (CZ K w (some b) (Au ps vs) (M0 ps w) (H7 0 ps x)).o i=some o->i=500000+j/\o=.box T (r5 false t z):=fun i o e=>by
   have:b9 (H7 0 ps x) i=some o:=e;rw[m,lK] at this;split at this
   ·grind
   ·cases this
  refine⟨⟨rfl,g⟩,rfl,rfl,rfl,Nat.le_refl _,fun _ _ _=>rfl,fun i o e=>?_,fun i y o u _ e f _ _=>(a i o e).1.trans (a y u f).1.symm,fun i o s e f d=>?_,fun i o s e f=>.inr (by grind),l,fun k d=>.inl d,fun _ _ h=>h.elim,fun i v e=>?_⟩
  ·obtain⟨rfl,rfl⟩:=a i o e;exact⟨b,cs,rfl,hr,h1,AU (Ss h2)⟩
  ·rw[q] at f; cases f; exact h3 d
  ·have:r6 0 ps (some b)=some (i,v):=e;rw[r] at this;cases this;refine⟨⟨T,r5 false t z,?_⟩,b,hr,rfl⟩;show b9 (H7 0 ps x) _=_;rw[m,lK,if_pos rfl]
 ·have a:∀i o,b9 (CZ K w go (Au ps vs) (M0 ps w) (H7 0 ps x)).o i=some o->i=500000+j/\o=.arr E true t xs 0:=fun i o e=>by
   have:b9 (H7 0 ps x) i=some o:=e;rw[m,lK] at this;split at this
   ·grind
   ·cases this
  have G:=k0D (w:=w) hv;refine⟨⟨rfl,g⟩,rfl,rfl,rfl,Nat.le_refl _,fun _ _ _=>rfl,fun i o e=>?_,fun i y o u _ e f _ _=>(a i o e).1.trans (a y u f).1.symm,fun i o s e f d=>?_,fun i o s e f=>.inr (by grind),l,fun k d=>.inl d,fun _ _ h=>h.elim,fun i v e=>?_⟩
  ·obtain⟨rfl,rfl⟩:=a i o e;exact⟨cs,h2,h3.mapR (fun c x H=>RT.up H (fun k d=>⟨d,fun _=>by show M0 ps w<=k; omega⟩)),fun b _=>by show M0 ps w<=b; omega⟩
  ·rw[q] at f; exact h4 s f d
  ·have:r6 0 ps go=some (i,v):=e;rw[r] at this;cases this
/- A value as the wanted result: on what condition, the rows handed over, the objects that become data. -/
mutual
def N7(o:List (Nat×Ob)):AV->AV->Option (Prop×List (Option Nat)×List Nat)
 | a,.ow T fr t xs=>match a with
   | .os id ver=>match b9 o id with
     | some (.arr T' fr' t' ys ver')=>bif Nat.beq ver ver'&&Nat.beq T' T then some ((fr=true->fr'=true)/\Y1 (.sl t') (.sl t) ys=some xs,[some id],[]) else none
     | _=>none
   | .v x=>some (HU x/\xs=[],[none],[])
   | _=>none
 | a,.d fr t x=>match F8 o 24 t [a] with
   | some (y,l,fl)=>some ((fr=true->fl=true)/\y=x,[],l)
   | none=>none
 | a,.ob T rs=>match a with
   | .ptr id 0=>match b9 o id with
     | some (.box T' cs)=>bif Nat.beq T' T then(match Da o cs rs with
       | some (q,m,f)=>some (q,some id :: m,f)
       | none=>none) else none
     | _=>none
   | _=>none
 | a,.v x=>match a with
   | .v y=>some (y=x,[],[])
   | _=>none
 | a,.agg rs=>match a with
   | .agg as'=>Da o as' rs
   | _=>none
 | a,.tup rs=>match a with
   | .tup as'=>Da o as' rs
   | _=>none
 | _,_=>none
def Da(o:List (Nat×Ob)):List AV->List AV->Option (Prop×List (Option Nat)×List Nat)
 | as',[]=>match as' with
   | []=>some (True,[],[])
   | _=>none
 | as',r :: rs=>match as' with
   | a :: t=>match N7 o a r with
     | some (q,m,f)=>match Da o t rs with
       | some (q',m',f')=>some (q/\q',m++m',f++f')
       | none=>none
     | none=>none
   | []=>none
end
def Y5(G:Gh)(mv:List (Option Nat)):List (Option Nat):=mv.map fun o=>o.bind G.γ
def Yv(G:Gh)(mv:List (Option Nat)):Prop:=∀id,some id∈mv->∃o,b9 G.o id=some o
mutual
theorem Su{X:Cx}{G:Gh}(S:Sat X G){K':Nat->Prop}(n:∀k,G.K k->K' k){Kf:Bool->Nat->Prop}(s:∀fr k,rk G K' fr k->Kf fr k):∀{a r:AV} {u:Value} {q:Prop} {mv:List (Option Nat)} {fz:List Nat},N7 G.o a r=some (q,mv,fz)->q->(∀id∈fz,(∃o,b9 G.o id=some o)->∀b,G.γ id=some b->K' b)->AVR G a u ->
  ResR Kf G.w r u (Y5 G mv)/\Yv G mv
 | a,.ow T fr t xs,u,q,mv,fz,h,hq,hz,f=>by
   unfold N7 at h;split at h
   ·rename_i id aD;split at h
    ·rename_i T' aC t' ys aA F;rw[ce] at h;split at h
     ·rename_i W;simp only[ba] at W;have P:=nb W.1;have V:=nb W.2;subst P; subst V;simp only[oi,pj] at h;obtain⟨rfl,rfl,rfl⟩:=h;obtain⟨g,m⟩:=hq;obtain⟨e,rfl⟩:=DN m;cases e;obtain⟨h0,T1,aG,t1,aF,aB,Y,k2,k3⟩:=f;rw[F] at Y;cases Y;have f:=k3 rfl;subst f;obtain⟨cs,g1,H,g3⟩:=S.obs id _ F;exact⟨⟨G.γ id,cs,rfl,h0,g1,H.mapR (fun c x hr=>RT.up hr (fun k E=>s fr k ⟨n k E.1,fun e=>E.2 (g e)⟩))⟩,fun i hi=>by
       grind⟩
     grind
    grind
   ·rename_i x;simp only[oi,pj] at h;obtain⟨rfl,rfl,rfl⟩:=h;obtain⟨g,rfl⟩:=hq;have g:=Yl g;have f:u=x:=f;subst f;subst g;exact⟨⟨none,[],rfl,rfl,.inl ⟨rfl,rfl,rfl,none,rfl⟩,rfl⟩,fun i hi=>by grind⟩
   grind
 | a,.d fr t x,u,q,mv,fz,h,hq,hz,f=>by
   unfold N7 at h;split at h
   ·rename_i y l fl hd;simp only[oi,pj] at h;obtain⟨rfl,rfl,rfl⟩:=h;obtain⟨g,rfl⟩:=hq;exact⟨⟨RT.up (DO S n 24 hd (fun id j=>hz id j (FZ 24 hd id j)) ⟨u,[],rfl,f,rfl⟩) (fun k E=>s fr k ⟨E.1,fun e=>E.2 (g e)⟩),rfl⟩,fun i hi=>by cases hi⟩
   grind
 | a,.ob T rs,u,q,mv,fz,h,hq,hz,f=>by
   unfold N7 at h;split at h
   ·rename_i id;split at h
    ·rename_i T' cs F;rw[ce] at h;split at h
     ·rename_i Q;have Q:=nb Q;subst Q;split at h
      ·rename_i q1 m1 f1 g;simp only[oi,pj] at h;obtain⟨rfl,rfl,rfl⟩:=h;obtain⟨_,b,hb,rfl⟩:=f;obtain⟨b',z,g1,H,g3,g4⟩:=S.obs id _ F;rw[hb] at H;cases H;obtain⟨a1,a2⟩:=Sw S n s g hq hz g4;refine⟨⟨b,z,Y5 G m1,by grind[Y5],rfl,g3,a1⟩,fun i hi=>?_⟩;rcases List.mem_cons.1 hi with e | hi
       ·grind
       ·exact a2 i hi
      grind
     grind
    grind
   grind
 | a,.v x,u,q,mv,fz,h,hq,hz,f=>by
   unfold N7 at h;split at h
   ·simp only[oi,pj] at h;obtain⟨rfl,rfl,rfl⟩:=h;exact⟨⟨(show u=_ from f).trans hq,rfl⟩,fun i hi=>by cases hi⟩
   grind
 | a,.agg rs,u,q,mv,fz,h,hq,hz,f=>by
   unfold N7 at h;split at h
   ·obtain⟨z,e,f⟩:=f;obtain⟨g,m⟩:=Sw S n s h hq hz f;exact⟨⟨z,e,g⟩,m⟩
   grind
 | a,.tup rs,u,q,mv,fz,h,hq,hz,f=>by
   unfold N7 at h;split at h
   ·obtain⟨z,e,f⟩:=f;obtain⟨g,m⟩:=Sw S n s h hq hz f;exact⟨⟨z,e,g⟩,m⟩
   grind
 | a,.ptr _ _,u,q,mv,fz,h,hq,hz,f=>by grind[N7]
 | a,.pel _ _ _ _ _,u,q,mv,fz,h,hq,hz,f=>by grind[N7]
 | a,.os _ _,u,q,mv,fz,h,hq,hz,f=>by grind[N7]
 | a,.fn _ _,u,q,mv,fz,h,hq,hz,f=>by grind[N7]
 | a,.gel _ _,u,q,mv,fz,h,hq,hz,f=>by grind[N7]
 | a,.og _,u,q,mv,fz,h,hq,hz,f=>by grind[N7]
theorem Sw{X:Cx}{G:Gh}(S:Sat X G){K':Nat->Prop}(j:∀k,G.K k->K' k){Kf:Bool->Nat->Prop}(l:∀fr k,rk G K' fr k->Kf fr k):∀{as' rs:List AV} {us:List Value} {q:Prop} {mv:List (Option Nat)} {fz:List Nat},Da G.o as' rs=some (q,mv,fz)->q->(∀id∈fz,(∃o,b9 G.o id=some o)->∀b,G.γ id=some b->K' b)->AVRs G as' us ->
  ResRs Kf G.w rs us (Y5 G mv)/\Yv G mv
 | as',[],us,q,mv,fz,h,hq,hz,hu=>by
   unfold Da at h;split at h
   ·simp only[oi,pj] at h;obtain⟨rfl,rfl,rfl⟩:=h;exact⟨⟨hu,rfl⟩,fun i hi=>by cases hi⟩
   grind
 | as',r :: rs,us,q,mv,fz,h,hq,hz,hu=>by
   unfold Da at h;split at h
   ·rename_i a t;split at h
    ·rename_i P z H s;split at h
     ·rename_i Q v F m;simp only[oi,pj] at h;obtain⟨rfl,rfl,rfl⟩:=h;obtain⟨u,d,e,g,f⟩:=hu;obtain⟨x,y⟩:=Su S j l s hq.1 (fun id c=>hz id (by grind)) g;obtain⟨E,n⟩:=Sw S j l m hq.2 (fun id c=>hz id (by grind)) f;refine⟨⟨u,d,Y5 G z,Y5 G v,e,by simp[Y5],x,E⟩,fun i hi=>?_⟩;rcases List.mem_append.1 hi with h | h
      ·exact y i h
      ·exact n i h
     grind
    grind
   grind
end
def Ac(o:List (Nat×Ob)):Nat->(ps:List Par)->B6 ps->Option (Prop×List Nat×Option Nat)
 | _,[],_=>some (True,[],none)
 | i,.io T t :: _,z=>match b9 o (500000+i) with
   | some (.box T' cs)=>bif Nat.beq T' T then(match F8 o 24 t cs with
     | some (y,l,_)=>some (y=z,l,some (500000+i))
     | none=>none) else none
   | _=>none
 | i,.dat _ :: r,z=>Ac o (i+1) r z
 | i,.agg _ :: r,z=>Ac o (i+1) r z
 | i,.fn _ _ :: r,z=>Ac o (i+1) r z
 | i,.nof _ :: r,z=>Ac o (i+1) r z
 | i,.nil :: r,z=>Ac o (i+1) r z
 | i,.os _ _ :: r,z=>Ac o (i+1) r z
def NZ(Γ:p5)(st:St):ResultVar->Option (Prop×AV)
 | .tmp t=>match b9 st.e t with
   | some ⟨[],a⟩=>some (True,a)
   | _=>none
 | .cell t ty=>match b9 st.e t with
   | some ⟨[],p⟩=>match Y2 st.o p with
     | some (cs,_)=>match b9 Γ ty with
       | some ti=>match JP ti cs with
         | some a=>some (Cd st.o p,a)
         | none=>none
       | none=>none
     | none=>none
   | _=>none
def HZ(Γ:p5)(st:St):List ResultVar->Option (Prop×List AV)
 | []=>some (True,[])
 | r :: rs=>match NZ Γ st r with
   | some (q,a)=>match HZ Γ st rs with
     | some (q',l)=>some (q/\q',a :: l)
     | none=>none
   | none=>none
def Ia(tmps:Array Value):ResultVar->Sem Value
 | .tmp t=>pure (tmps.getD t undef)
 | .cell a t=>do loadVar t (<- asAddr (tmps.getD a undef))
theorem s0c{X:Cx}{Γ:p5}(x:x9 X.P Γ){G:Gh}{st:St}{a:Act}(S:Sat X G)(ho:G.o=st.o)(H:EnvR X.n G st.e a){r:ResultVar}{q:Prop}{b:AV}(h:NZ Γ st r=some (q,b))(T:q) :
  ∃v,(Ia a.tmps r).run X.P G.w=.ok v G.w/\AVR G b v:=by
 unfold NZ at h;split at h
 ·rename_i t;split at h
  ·rename_i a0 y;simp only[oi,pj] at h;obtain⟨rfl,rfl⟩:=h;exact⟨_,rfl,(H.val t _ y).1 (fun _ h=>by cases h)⟩
  grind
 ·rename_i t f;split at h
  ·rename_i p y;split at h
   ·rename_i cs l F;split at h
    ·rename_i i s;split at h
     ·rename_i av d;simp only[oi,pj] at h;obtain⟨rfl,rfl⟩:=h;rw[<- ho] at F T;obtain⟨bk,o,V,hp,g,z⟩:=XG S F T ((H.val t _ y).1 (fun _ h=>by cases h));obtain⟨hi,Y,_,_,m⟩:=x _ _ s;have m:=B0X m;have k:∀v,(loadVar f ⟨bk,o,none⟩).run X.P G.w=.ok v G.w->(Ia a.tmps (.cell t f)).run X.P G.w=.ok v G.w:=fun v hv=>by
       grind[undef,Array.getD_eq_getD_getElem?,Ia,asAddr]
      unfold JP at d;rw[ce] at d;split at d
      ·rename_i Q;rw[ce] at d;split at d
       ·rename_i j;simp only[oi] at d; subst d;have j:=Nat.le_of_ble_eq_true j
        haveI:Rr X.P f:=⟨m.1 Q⟩
        haveI:Info X.P f i.size i.bytes i.zero:=⟨hi⟩
        have E:=z.len;exact⟨_,k _ (i0r (by grind) (XD g i.size)),V.take i.size,rfl,(z.take _).1⟩
       grind
      ·rename_i Q;split at d
       ·rename_i c r;simp only[oi] at d; subst d
        haveI:Rp X.P f:=⟨m.2 (by grind)⟩
        obtain⟨u,aA,rfl,W,_⟩:=z;exact⟨u,k _ (i0q (by simpa using g 0 u rfl)),W⟩
       grind
     grind
    grind
   grind
  grind
theorem Yw{X:Cx}{Γ:p5}(c:x9 X.P Γ){G:Gh}{st:St}{a:Act}(S:Sat X G)(g:G.o=st.o)(f:EnvR X.n G st.e a):∀{rs:List ResultVar} {q:Prop} {bs:List AV},HZ Γ st rs=some (q,bs)->q ->
  ∃vs,(rs.mapM (Ia a.tmps)).run X.P G.w=.ok vs G.w/\AVRs G bs vs/\vs.length=rs.length
 | [],q,bs,h,hq=>by
   simp only[HZ,oi,pj] at h;obtain⟨rfl,rfl⟩:=h;exact⟨[],rfl,rfl,rfl⟩
 | r :: rs,q,bs,h,hq=>by
   unfold HZ at h;split at h
   ·rename_i t b k;split at h
    ·rename_i x l i;simp only[oi,pj] at h;obtain⟨rfl,rfl⟩:=h;obtain⟨v,u,j⟩:=s0c c S g f k hq.1;obtain⟨vs,s,d,m⟩:=Yw c S g f i hq.2;exact⟨v :: vs,by simp_all,⟨v,vs,rfl,j,d⟩,by grind⟩
    grind
   grind
def Yx:List AV->AV
 | [a]=>a
 | as'=>.tup as'
def M0n:List Value->Value
 | [v]=>v
 | vs=>.tuple vs.toArray
theorem Yy{G:Gh}{c:List AV}{vs:List Value}(h:AVRs G c vs):AVR G (Yx c) (M0n vs):=by
 match c,vs,h with
 | [],vs,h=>have h:vs=[]:=h; subst h; exact⟨[],rfl,rfl⟩
 | [a],vs,⟨u,us,e,h1,d⟩=>have d:us=[]:=d; subst d; subst e; exact h1
 | a :: b :: r,vs,⟨u,us,e,h1,u2,us2,e2,d,h3⟩=>subst e2; subst e; exact⟨u :: u2 :: us2,rfl,u,_,rfl,h1,u2,us2,rfl,d,h3⟩
theorem Yz{b:Func}{rs:List ResultVar}(c:b.results=rs.toArray){P:Program}{a:Array Value}{w:World}{vs:List Value}(h:(rs.mapM (Ia a)).run P w=.ok vs w):(results b a).run P w=.ok (M0n vs) w:=by
 have d:results b a=(do
   let vs <- Array.mapM (Ia a) rs.toArray
   pure (if h:vs.size=1 then vs[0] else .tuple vs)):=by
  unfold results;rw[c];congr 1
 have:(Array.mapM (Ia a) rs.toArray).run P w=.ok vs.toArray w:=by
  rw[List.mapM_toArray];simp[h,Result.andThen]
 rw[d];simp only[Sem.run_bind,this,Result.andThen]
 match vs with
 | []=>rfl
 | [v]=>rfl
 | v :: u :: r=>rfl
def onceN:List (Option Nat)->Bool
 | []=>true
 | none :: r=>onceN r
 | some i :: r=>notInS i r&&onceN r
where notInS (i:Nat):List (Option Nat)->Bool
 | []=>true
 | none :: r=>notInS i r
 | some j :: r=>!(Nat.beq i j)&&notInS i r
def Oa(mv:List (Option Nat)):List Nat->Bool
 | []=>true
 | i :: r=>onceN.notInS i mv&&Oa mv r
theorem Oc{i:Nat}:∀{l:List (Option Nat)},onceN.notInS i l=true->some i ∉ l
 | [],_=>by simp
 | none :: r,h=>by
   have:=Oc (l:=r) h;simpa using this
 | some j :: r,h=>by
   simp only[onceN.notInS,ba,Bool.not_eq_true'] at h;have:=Oc h.2;simp only[List.mem_cons,oi,not_or];exact⟨fun e=>by simp_all,this⟩
theorem r0q{mv:List (Option Nat)}:∀{l:List Nat},Oa mv l=true->∀i∈l,some i ∉ mv
 | j :: r,h,i,hi=>by
   simp only[Oa,ba] at h;rcases List.mem_cons.1 hi with rfl | hi
   ·grind[Oc]
   ·exact r0q h.2 i hi
theorem Sx{X:Cx}{G:Gh}(S:Sat X G):∀{mv:List (Option Nat)},onceN mv=true->Yv G mv->CU (Y5 G mv)
 | [],_,_=>trivial
 | none :: r,h,ha=>⟨(fun b e=>by cases e),Sx S (mv:=r) h (fun i hi=>ha i (List.mem_cons_of_mem _ hi))⟩
 | some i :: r,h,ha=>by
   simp only[onceN,ba] at h;refine⟨fun b e c=>?_,Sx S h.2 (fun i hi=>ha i (List.mem_cons_of_mem _ hi))⟩;have e:G.γ i=some b:=e;obtain⟨o,f,a⟩:=List.mem_map.1 c;cases o with
   | none=>grind
   | some j =>
     have a:G.γ j=some b:=a;obtain⟨_,g⟩:=ha i (by simp);obtain⟨_,d⟩:=ha j (List.mem_cons_of_mem _ f);have:=S.inj i j _ _ b g d e a
     grind[Oc]
def Sy(f:Nat->Bool):Option Nat->Bool
 | none=>true
 | some i=>f i
/- Data that lead nowhere. -/
mutual
def DV:AV->Bool
 | .d _ t _=>D4 t
 | .ow _ _ t _=>D4 t
 | .ob _ xs=>Kb xs
 | .agg xs=>Kb xs
 | .tup xs=>Kb xs
 | _=>true
def Kb:List AV->Bool
 | []=>true
 | a :: r=>DV a&&Kb r
end
mutual
theorem ResR.kf{K K':Bool->Nat->Prop}{w:World}:∀{a:AV} {u:Value} {gs:List (Option Nat)},DV a=true->ResR K w a u gs->ResR K' w a u gs
 | .v _,_,_,_,h=>h
 | .d fr t x,u,gs,hf,⟨h,e⟩=>⟨RT.free (by grind[DV]) h,e⟩
 | .ow T fr t xs,u,gs,hf,⟨g,cs,h1,h2,h3,h4⟩=>⟨g,cs,h1,h2,h3,h4.mapR (fun c x h=>RT.free (by grind[DV]) h)⟩
 | .agg xs,u,gs,hf,⟨us,e,h⟩=>⟨us,e,ResRs.kf (by grind[DV]) h⟩
 | .ob T xs,u,gs,hf,⟨b,us,gs',e1,e2,h1,h⟩=>⟨b,us,gs',e1,e2,h1,ResRs.kf (by grind[DV]) h⟩
 | .tup xs,u,gs,hf,⟨us,e,h⟩=>⟨us,e,ResRs.kf (by grind[DV]) h⟩
theorem ResRs.kf{K K':Bool->Nat->Prop}{w:World}:∀{as':List AV} {us:List Value} {gs:List (Option Nat)},Kb as'=true->ResRs K w as' us gs->ResRs K' w as' us gs
 | [],_,_,_,h=>h
 | a :: r,us,gs,hf,⟨u,us',g1,g2,e1,e2,h1,h2⟩=>by
   simp only[Kb,ba] at hf;exact⟨u,us',g1,g2,e1,e2,ResR.kf hf.1 h1,ResRs.kf hf.2 h2⟩
end
def Gm(Γ:p5)(st:St)(rs:List ResultVar)(r:AV)(ps:List Par)(z:B6 ps):Prop :=
 match HZ Γ st rs with
 | some (q0,as')=>match N7 st.o (Yx as') r with
   | some (q,mv,fz)=>match Ac st.o 0 ps z with
     | some (q',fz',pin)=>bif onceN mv&&Oa mv (fz++fz')&&Sy (fun i=>Gb i (fz++fz')) pin&&(!F4 ps||DV r)&&Sy (fun i=>onceN.notInS i mv) pin then q0/\q/\q' else False
     | none=>False
   | none=>False
 | none=>False
def Kc(c:Ct)(x:s9 c.ps)(w:World)(go:Option Nat)(K:Nat->Prop)(en:Ending)(w':World):Prop :=
 ∃v gs,en=.returned v/\WE go w w'/\CU gs/\(∀b,some b∈gs->w.heap.size<=b∨(F4 c.ps=true/\go=some b))/\ResR (fun fr=>NM fr K w w' gs) w' (c.res x).r v gs /\
  IOR (fun k=>(K k∨w.heap.size<=k)/\UFg w' w.heap.size k/\some k ∉ gs/\go≠some k) w' go c.ps (c.res x).z
theorem Ib{X:Cx}{G:Gh}(S:Sat X G){K' Kf:Nat->Prop}(a:∀k,G.K k->K' k)(c:∀k,K' k->Kf k){go:Option Nat}:∀{ps:List Par} {i:Nat} {z:B6 ps} {q:Prop} {fz:List Nat} {pin:Option Nat},¬F4 ps=true->Ac G.o i ps z=some (q,fz,pin)->q->X.pin=HY (r6 i ps go)->((∃b,go=some b)∨pin=none) ->
  (∀id∈fz,(∃o,b9 G.o id=some o)->∀b,G.γ id=some b->K' b)->IOR Kf G.w go ps z/\∀id,pin=some id->∃T cs,b9 G.o id=some (.box T cs)/\G.γ id=go
 | .os _ _ :: _,_,_,_,_,_,hv,_,_,_,_,_=>(hv rfl).elim
 | [],i,z,q,fz,pin,_,h,hq,_,_,_=>by
   simp only[Ac,oi,pj] at h;obtain⟨_,_,rfl⟩:=h;exact⟨trivial,fun _ e=>by cases e⟩
 | .io T t :: r,i,z,q,fz,pin,_,h,hq,hp,hg,hz=>by
   unfold Ac at h;split at h
   ·rename_i H cs u;rw[ce] at h;split at h
    ·rename_i g;have g:=nb g;subst g;split at h
     ·rename_i y l Q m;simp only[oi,pj] at h;obtain⟨rfl,rfl,rfl⟩:=h;obtain rfl:=hq;rcases hg with ⟨b,rfl⟩ | hg
      ·obtain⟨_,V,n,v⟩:=S.pin i (.pointer (some ⟨b,0,none⟩)) (by rw[hp]; rfl);cases v;obtain⟨P,s,W,j,F,x⟩:=S.obs _ _ u;rw[n] at j;cases j;exact⟨⟨b,s,rfl,F,RT.up (DO S a 24 m (fun id d=>hz id d (FZ 24 m id d)) x) (fun k E=>c k E.1)⟩,fun id e=>by grind⟩
      grind
     grind
    grind
   grind
 | .dat t :: r,i,z,q,fz,pin,hv,h,hq,hp,hg,hz=>Ib (ps:=r) (i:=i+1) S a c hv h hq (by cases go <;> exact hp) hg hz
 | .agg t :: r,i,z,q,fz,pin,hv,h,hq,hp,hg,hz=>Ib (ps:=r) (i:=i+1) S a c hv h hq (by cases go <;> exact hp) hg hz
 | .fn f t :: r,i,z,q,fz,pin,hv,h,hq,hp,hg,hz=>Ib (ps:=r) (i:=i+1) S a c hv h hq (by cases go <;> exact hp) hg hz
 | .nof f :: r,i,z,q,fz,pin,hv,h,hq,hp,hg,hz=>Ib (ps:=r) (i:=i+1) S a c hv h hq (by cases go <;> exact hp) hg hz
 | .nil :: r,i,z,q,fz,pin,hv,h,hq,hp,hg,hz=>Ib (ps:=r) (i:=i+1) S a c hv h hq (by cases go <;> exact hp) hg hz
theorem Ke{K:Nat->Prop}{w:World}{o:List (Nat×Ob)}:∀{ps:List Par} {i:Nat} {x:s9 ps} {vs:List Value} {go:Option Nat} {z:B6 ps} {q:Prop} {fz:List Nat} {pin:Option Nat},¬F4 ps=true->ArgsR K w go ps x vs->Ac o i ps z=some (q,fz,pin)->(go=none/\pin=none)∨∃b j,go=some b/\pin=some j
 | .os _ _ :: _,_,_,_,_,_,_,_,_,hv,_,_=>(hv rfl).elim
 | [],i,x,vs,go,z,q,fz,pin,_,ha,h=>by
   simp only[Ac,oi,pj] at h;exact .inl ⟨ha.2,h.2.2.symm⟩
 | .io T t :: r,i,x,vs,go,z,q,fz,pin,_,⟨b,_,_,_,hg,_⟩,h=>by
   grind[Ac]
 | .dat t :: r,i,x,vs,go,z,q,fz,pin,hv,⟨_,_,_,_,ha⟩,h=>Ke (ps:=r) (i:=i+1) hv ha h
 | .agg t :: r,i,x,vs,go,z,q,fz,pin,hv,⟨_,_,_,_,ha⟩,h=>Ke (ps:=r) (i:=i+1) hv ha h
 | .fn f t :: r,i,x,vs,go,z,q,fz,pin,hv,⟨_,_,_,_,ha⟩,h=>Ke (ps:=r) (i:=i+1) hv ha h
 | .nof f :: r,i,x,vs,go,z,q,fz,pin,hv,⟨_,_,ha⟩,h=>Ke (ps:=r) (i:=i+1) hv ha h
 | .nil :: r,i,x,vs,go,z,q,fz,pin,hv,⟨_,_,ha⟩,h=>Ke (ps:=r) (i:=i+1) hv ha h
theorem YA{P:Program}{n:Nat}{Γ:p5}(aJ:x9 P Γ){c:Ct}{x:s9 c.ps}{w:World}{K:Nat->Prop}{go:Option Nat}{vs:List Value}(aL:Ab c.ps=true)(ha:ArgsR K w go c.ps x vs)
  {fn:Func} {rs:List ResultVar} (hr:fn.results=rs.toArray) {st:St} (h:Gm Γ st rs (c.res x).r c.ps (c.res x).z) :
  ∀G a,Sat (cx P n ⟨w,fun k=>go=some k,K,HY (r6 0 c.ps go),M0 c.ps w⟩) G->G.o=st.o->EnvR n G st.e a->a.defers=[]/\∃v,(results fn a.tmps).run P G.w=.ok v G.w/\Kc c x w go K (.returned v) G.w:=by
 intro G a S ho hE;unfold Gm at h;split at h
 ·rename_i q0 aQ h0;split at h
  ·rename_i q y fz i;split at h
   ·rename_i q' aC aP F;rw[ce] at h;split at h
    ·rename_i u;simp only[ba] at u;obtain⟨⟨⟨⟨aB,aN⟩,aG⟩,aD⟩,aF⟩:=u;obtain⟨aI,hq,aH⟩:=h;obtain⟨us,e1,hu,_⟩:=Yw (X:=cx P n ⟨w,fun k=>go=some k,K,HY (r6 0 c.ps go),M0 c.ps w⟩) aJ S ho hE h0 aI;rw[<- ho] at i F;have aU:=r0q aN;obtain⟨_,m⟩:=Su (K':=fun _=>True) (Kf:=fun _ _=>True) S (fun _ _=>trivial) (fun _ _ _=>trivial) i hq (fun _ _ _ _ _=>trivial) (Yy hu);have E:∀k,some k∈Y5 G y->∃id,some id∈y/\G.γ id=some k:=fun k d=>by
      obtain⟨o,i,F⟩:=List.mem_map.1 d;cases o with
      | none=>cases F
      | some id=>grind
     by_cases l:F4 c.ps=true
     ·obtain⟨hR,_⟩:=Su (K':=fun _=>True) (Kf:=fun _ _=>True) S (fun _ _=>trivial) (fun _ _ _=>trivial) i hq (fun _ _ _ _ _=>trivial) (Yy hu);rw[l,Bool.not_true,Bool.false_or] at aD;refine⟨hE.defers,_,Yz hr e1,_,Y5 G y,rfl,⟨S.os,S.tape,S.output,S.size,fun k d hg=>S.block k d hg⟩,Sx S aB m,fun b u=>?_,ResR.kf aD hR,JZ aL l⟩;obtain⟨j,Q,W⟩:=E b u;obtain⟨_,H⟩:=m j Q;rcases S.own j _ b H W with h | h
      ·grind
      grind
     have aM:=Yu (w:=w) l;have aA:=Ke l ha F;obtain⟨_,s⟩:=Ib (K':=fun _=>True) (Kf:=fun _=>True) (go:=go) S (fun _ _=>trivial) (fun _ _=>trivial) l F aH rfl (by
      grind) (fun _ _ _ _ _=>trivial)
     have aT:∀id∈fz++aC,∀o,b9 G.o id=some o->∀k,G.γ id=some k->w.heap.size<=k/\UFg G.w w.heap.size k/\some k ∉ Y5 G y/\go≠some k:=fun id Y o f k d=>by
      have aK:go≠some k:=fun e=>by
       rcases aA with ⟨h,_⟩ | ⟨b,j,h,hj⟩
       ·grind
       ·obtain⟨T,cs,k1,k2⟩:=s j hj;have:=S.inj id j _ _ k f k1 d (k2.trans e);subst this;rw[hj] at aG;exact HO aG Y
      refine⟨?_,?_,?_,aK⟩
      ·rcases S.own id o k f d with h | h
       ·exact h
       grind
      ·have:=S.obs id o f;cases o with
       | box T cs=>obtain⟨b',us,i,F,h3,h4⟩:=this; rw[d] at i; cases i; exact(Xy h3).g
       | arr T fr t xs aR=>obtain⟨cs,i,F,_⟩:=this; rw[d] at i; exact(FT i).g
       | grd T Te fr t xs aO=>obtain⟨vs,bs,i,_⟩:=this; rw[d] at i; exact(FT i).g
      ·intro hm;obtain⟨j,Q,W⟩:=E k hm;obtain⟨_,H⟩:=m j Q;have:=S.inj id j _ _ k f H d W
       grind
     have aS:∀k,G.K k->(K k∨w.heap.size<=k)/\UFg G.w w.heap.size k/\some k ∉ Y5 G y/\go≠some k:=fun k d=>by
      refine⟨by
       have h:K k∨M0 c.ps w<=k:=S.kfrom k d
       rwa [aM] at h,S.klt k d,fun hm=>?_,fun e=>?_⟩
      ·obtain⟨j,Q,W⟩:=E k hm;obtain⟨_,H⟩:=m j Q;exact S.imm j _ k H W d
      ·rcases aA with ⟨h,_⟩ | ⟨b,j,h,hj⟩
       ·grind
       ·obtain⟨T,cs,k1,k2⟩:=s j hj;exact S.imm j _ k k1 (k2.trans e) d
     let K':Nat->Prop:=fun k=>G.K k∨∃id∈fz++aC,G.γ id=some k/\∃o,b9 G.o id=some o
     have V:∀k,K' k->(K k∨w.heap.size<=k)/\UFg G.w w.heap.size k/\some k ∉ Y5 G y/\go≠some k:=fun k d=>by
      grind
     obtain⟨hR,_⟩:=Su (K':=K') (Kf:=fun fr=>NM fr K w G.w (Y5 G y)) S (fun _ h=>.inl h) (fun fr k d=>by
      obtain⟨a1,a2,a3,_⟩:=V k d.1;refine⟨?_,a2,a3⟩;cases fr with
      | false =>
        grind
      | true=>exact .inr (by
        have h:G.B<=k:=d.2 rfl;have e:G.B=M0 c.ps w:=S.base.1;omega)) i hq (fun id Y ⟨o,f⟩ b u=>.inr ⟨id,by grind,u,o,f⟩) (Yy hu)
     obtain⟨hI,_⟩:=Ib (K':=K') (Kf:=fun k=>(K k∨w.heap.size<=k)/\UFg G.w w.heap.size k/\some k ∉ Y5 G y/\go≠some k) (go:=go) S (fun _ h=>.inl h) V l F aH rfl (by
      grind) (fun id Y ⟨o,f⟩ b u=>.inr ⟨id,by grind,u,o,f⟩)
     refine⟨hE.defers,_,Yz hr e1,_,Y5 G y,rfl,⟨S.os,S.tape,S.output,S.size,fun k d hg=>S.block k d hg⟩,Sx S aB m,fun b u=>?_,hR,hI⟩;obtain⟨j,Q,W⟩:=E b u;obtain⟨_,H⟩:=m j Q;rcases S.own j _ b H W with h | h
     ·grind
     ·have h:go=some b:=h;rcases aA with ⟨h',_⟩ | ⟨b',i',h',hj⟩
      ·grind
      ·obtain⟨T,cs,k1,k2⟩:=s i' hj;have:=S.inj i' j _ _ b k1 H (k2.trans h) W;subst this;rw[hj] at aF;exact(Oc aF Q).elim
    grind
   grind
  grind
 grind
def wfs:(ps:List Par)->s9 ps->Prop
 | [],_=>True
 | .dat t :: r,x=>wf t x.1/\wfs r x.2
 | .agg t :: r,x=>wf t x.1/\wfs r x.2
 | .fn _ c :: r,x=>wf c x.1/\wfs r x.2
 | .nof _ :: r,x=>wfs r x.2
 | .nil :: r,x=>wfs r x.2
 | .io _ t :: r,x=>wf t x.1/\wfs r x.2
 | .os _ t :: r,x=>wf (.sl t) x.1/\wfs r x.2
theorem B0K{K:Nat->Prop}{w:World}{E s:Nat}{t:Ty}{g:Option Nat}{v:Value}{cs:List Value}{xs:List (j6 t)}(h:Own w E s g v xs.length cs)(a:AllR (RT K w t) cs xs):wf (.sl t) xs:=by
 refine⟨?_,fun x d=>?_⟩
 ·rcases h with ⟨_,h,_⟩ | ⟨b,o,cap,cur,_,_,_,h1,h2,_⟩
  ·omega
  grind[maxLen,Nat.le_trans]
 ·obtain⟨c,e⟩:=a.mem x d;exact RT.wf e
theorem ArgsR.wfs{K:Nat->Prop}{w:World}:∀{ps:List Par} {x:s9 ps} {vs:List Value} {go:Option Nat},ArgsR K w go ps x vs->Xv.wfs ps x
 | [],_x,_vs,_go,_=>trivial
 | .dat _t :: _r,_x,_vs,_go,⟨_v,_us,_e,h1,h⟩=>⟨RT.wf h1,ArgsR.wfs h⟩
 | .agg _t :: _r,_x,_vs,_go,⟨_v,_us,_e,h1,h⟩=>⟨RT.wf h1,ArgsR.wfs h⟩
 | .fn _f _t :: _r,_x,_vs,_go,⟨_v,_us,_e,h1,h⟩=>⟨RT.wf h1,ArgsR.wfs h⟩
 | .nof _f :: r,_x,_vs,_go,⟨_us,_e,h⟩=>ArgsR.wfs (ps:=r) h
 | .nil :: r,_x,_vs,_go,⟨_us,_e,h⟩=>ArgsR.wfs (ps:=r) h
 | .io _ _t :: _r,_x,_vs,_go,⟨_,_cs,_us,_e,_,_,_,h1,h⟩=>⟨RT.wf h1,ArgsR.wfs h⟩
 | .os _ _t :: _r,_x,_vs,_go,⟨_v,_cs,_us,_e,_,_,h1,h2,h⟩=>⟨B0K h1 h2,ArgsR.wfs h⟩
theorem K0Q{P:Program}{Γ:p5}(H:x9 P Γ){c:Ct}{v:Func}{e:Code}{n:Nat}(rs:List ResultVar)(hf:P.funcs[c.f]?=some v)(hn:v.ntmps=n)(hb:v.body=some e)(hr:v.results=rs.toArray)(he:Ar P c.f=true)(d:(Nat.ble c.ps.length n&&Ab c.ps)=true)
  (h:∀y x,(c.res x).q->Xv.wfs c.ps x->∀Q,(∀st,Gm Γ st rs (c.res x).r c.ps (c.res x).z->FX (cx P n y) st .normal Q/\FX (cx P n y) st .ret Q)->VX (cx P n y) ⟨L5 0 c.ps x,H7 0 c.ps x⟩ e Q):Ok P c:=by
 refine⟨he,fun x hq w m V K hK l=>?_⟩;rw[ba] at d;obtain⟨d,g⟩:=d;have d:=Nat.le_of_ble_eq_true d;have aA:=l.len;refine calls_of_wp hf hb ?_;have:=h ⟨w,fun k=>V=some k,K,HY (r6 0 c.ps V),M0 c.ps w⟩ x hq l.wfs (bodyPost P v (Kc c x w V K)) (fun st F=>?_) (CZ K w V (Au c.ps m) (M0 c.ps w) (H7 0 c.ps x)) { tmps:=m.toArray++Array.replicate (v.ntmps-m.toArray.size) undef,defers:=[] } (m0x hK l) rfl ⟨rfl,by grind,fun t s ht=>?_⟩
 ·exact this
 ·exact⟨fun G a S Y X=>YA H g l hr F G a S Y X,fun G a S Y X=>YA H g l hr F G a S Y X⟩
 ·obtain⟨_,a2,u,a3,a4⟩:=DU (i:=0) (o:=H7 0 c.ps x) (r0:=Au c.ps m) (B:=M0 c.ps w) (g0:=V) g l (fun _=>rfl) (fun z hz=>by
   rcases Gl (i:=0) l with ⟨W,_⟩ | ⟨j,b,T,t,z',cs,W,_⟩ | ⟨j,E,t,xs,cs,W,_⟩
   ·grind
   ·rw[W] at hz ⊢;cases List.mem_singleton.1 hz;rw[lK,if_pos rfl]
   ·rw[W] at hz ⊢;cases List.mem_singleton.1 hz;rw[lK,if_pos rfl]) t s ht
  rw[a2];refine⟨fun _=>?_,fun hn=>(hn (fun _ h=>by cases h)).elim⟩;have aB:t<m.length:=by
   rcases Nat.lt_or_ge t m.length with h' | h'
   ·exact h'
   ·grind
  rw[Array.getD_eq_getD_getElem?,Array.getElem?_append_left (by omega)]
  grind
def Kg:Option AV->Bool
 | some (.pel ..)=>false
 | some (.gel ..)=>false
 | _=>true
theorem YB{o:List (Nat×Ob)}{v:AV}(h:Kg (some v)=true):Cd o v:=by
 cases v <;> first | trivial | cases h
def Bd(st:St)(p:Pa):Op->Bool
 | .move _ | .assign _ | .pick .. | .unOp .not .. | .fieldAddr .. | .field .. | .extract .. | .makeFunc .. | .build .. | .alloc _ | .box .. | .buildSlice ..=>true
 | .call ⟨.builtin .len,_,_⟩ | .call ⟨.builtin .min,_,_⟩ | .call ⟨.builtin .max,_,_⟩=>true
 | .load _ x | .nilCheck x | .store _ x _=>Kg (rd st p x)
 | .binOp .eql .. | .binOp .neq .. | .binOp .lss .. | .binOp .leq .. | .binOp .gtr .. | .binOp .geq ..=>true
 | _=>false
theorem I0F{k a:IntKind}{b:Bool}{q:Prop}{r:AV}(h:CR k a b=some (q,r)):q:=by
 grind[CR]
theorem I0M{b:Option TI}{a:BinOp}{u v r:AV}{q:Prop}(c:(match a with | .eql | .neq | .lss | .leq | .gtr | .geq=>true | _=>false)=true)(h:NK b a u v=some (q,r)):q:=by
 unfold NK at h
 grind[I0F,oi,pj,absurd]
theorem I0R{Γ:p5}{st:St}{p:Pa}{c:Op}{q:Prop}{r:AV}{l:List Nat}(a:Bd st p c=true)(h:I6 Γ st p c=some (q,r,l)):q:=by
 unfold I6 at h;split at h
 case h_5 op' T x y n =>
  split at h
  ·split at h
   ·rename_i d;simp only[oi,pj] at h;obtain⟨rfl,_⟩:=h;refine I0M ?_ d;cases op' <;> first | rfl | exact a
   grind
  grind
 case h_3 x =>
  split at h
  ·rename_i v b;split at h
   ·simp only[oi,pj] at h;obtain⟨rfl,_⟩:=h;exact YB (by rw[<- b]; exact a)
   grind
  grind
 all_goals try (simp[Bd] at a; done)
 case h_10 T x =>
  split at h
  ·rename_i v f b e;split at h
   ·split at h
    ·simp only[oi,pj] at h;obtain⟨rfl,_⟩:=h;exact YB (by rw[<- b]; exact a)
    grind
   grind
  grind
 all_goals (repeat' (split at h))
 all_goals first
  | cases h; done
  | (simp only[oi,pj] at h; rw[<- h.1]; trivial)
  | (rw[ce] at h
     split at h
     ·grind
     ·cases h)
theorem I0T{Γ:p5}{st:St}{p:Pa}{d:Nat}{a:Op}{q:Prop}{r:AV}{w:Nat×Ob}{l:List Nat}(b:Bd st p a=true)(h:Ba Γ st p d a=some (q,r,w,l)):q:=by
 unfold Ba at h
 grind[Bd]
theorem I0Q{Γ:p5}{st:St}{p:Pa}{a:Op}{q:Prop}{w:Nat×Ob}{l:List Nat}(b:Bd st p a=true)(h:Ce Γ st p a=some (q,w,l)):q:=by
 unfold Ce at h
 grind[Bd,Kg]
theorem I0U{Γ:p5}{st:St}{p:Pa}{d:Nat}{a:Op}{r:Prop×AV×List (Nat×Ob)×List Nat}(b:Bd st p a=true)(h:BC Γ st p d a=some r):False:=by
 unfold BC at h
 grind[Bd,Kg]
theorem E0V{Γ:p5}{st:St}{p:Pa}{a:Op}{r:Prop×List (Nat×Ob)×List Nat}(b:Bd st p a=true)(h:Ch Γ st p a=some r):False:=by
 unfold Ch at h
 grind[Bd,Kg]
theorem I0S{Γ:p5}{T:List Ct}{st:St}{p:Pa}{o:Oper}{q:Prop}{av:Option AV}{obs:List (Nat×Ob)}{l:List Nat}(b:Bd st p o.op=true)(h:Y4 Γ T st p o=some (q,av,obs,l)):q:=by
 have a:∀d q r obs l,CW T st p d o.op≠some (q,r,obs,l):=fun d q r obs l a=>by
  unfold CW at a
  grind[Bd]
 unfold Y4 at h;split at h
 ·rw[ce] at h;split at h
  ·grind[oi,pj,I0R,I0U]
  ·rw[ce] at h
   grind[oi,pj,I0T]
 ·rw[ce] at h
  grind[oi,pj,I0Q,E0V]
def N8(Γ:p5)(T:List Ct)(all:List Oper):List Oper->St->List A7->Option (Prop×St×List A7)
 | [],st,rs=>some (True,st,rs)
 | o :: r,st,rs=>match BD all st.e o with
   | some p=>match Y4 Γ T st p o with
     | some (q,av,obs,fp)=>bif Cg p||Cg obs then(match N8 Γ T all r ⟨Ci o.dst p av st.e,obs++st.o⟩ (⟨o,p,av,obs,fp⟩ :: rs) with
       | some (V,st',rs')=>some (bif Bd st p o.op then V else(Se st.e p q/\V),st',rs')
       | none=>none) else none
     | none=>none
   | none=>none
theorem F0C{e:List (Nat×Sl)}{p:Pa}{q:Prop}(h:q):Se e p q:=by
 unfold Se
 grind
theorem Ad{Γ:p5}{T:List Ct}{all:List Oper}{K:St->List A7->Prop}:∀{ops:List Oper} {st:St} {rs:List A7} {V:Prop} {st':St} {rs':List A7},N8 Γ T all ops st rs=some (V,st',rs')->V->K st' rs'->HR Γ T all ops st rs K
 | [],st,rs,V,st',rs',h,hV,hK=>by
   simp only[N8,oi,pj] at h;obtain⟨_,rfl,rfl⟩:=h;exact hK
 | o :: r,st,rs,V,st',rs',h,hV,hK=>by
   unfold N8 at h;unfold HR;split at h
   ·rename_i p d
    try (rw[d]; simp only)
    split at h
    ·rename_i q m j k c
     try (rw[c]; simp only)
     rw[ce] at h ⊢;split at h
     ·rename_i g;rw[if_pos g];split at h
      ·rename_i l i f b;simp only[oi,pj] at h;obtain⟨a,rfl,rfl⟩:=h;rw[ce] at a;split at a
       ·rename_i e;subst a;exact⟨F0C (I0S e c),Ad b hV hK⟩
       ·subst a;exact⟨hV.1,Ad b hV.2 hK⟩
      grind
     grind
    grind
   grind
def Od(n:Nat)(Γ:p5)(T:List Ct)(l:List Oper)(keep:List Nat)(st:St):Option (Prop×St) :=
 bif I7 n 0 [] l&&K5 st.e then(match N8 Γ T l l st [] with
  | some (V,st',_)=>some (V,cut keep st')
  | none=>none) else none
def Sz(n:Nat)(Γ:p5)(T:List Ct)(l:List Oper)(keep:List Nat)(st:St):Option (Prop×St) :=
 bif I7 n 0 [] l&&O9 0 l&&K5 st.e then(match N8 Γ T l l st [] with
  | some (V,st',rs)=>bif DT (H6 [] l) rs.reverse then some (V,cut keep st') else none
  | none=>none) else none
section
variable {P:Program} {n:Nat} {y:World×(Nat->Prop)×(Nat->Prop)×(Nat->Value->Prop)×Nat} {st:St} {Q:Exit->Act->World->Prop} {Γ:p5} {T:List Ct}
theorem rs(d:x9 P Γ)(j:∀c∈T,Ok P c)(a:List Nat)(st':St)(V:Prop){id:Nat}{l:List Oper}{c:Code}(h:Od n Γ T l a st=some (V,st'))(f:V)(i:VX (cx P n y) st' c Q):VX (cx P n y) st (.seq (.region id l.toArray false) c) Q:=by
 unfold Od at h;rw[ce] at h;split at h
 ·rename_i b;rw[ba] at b;split at h
  ·rename_i m g e k;simp only[oi,pj] at h;obtain⟨rfl,rfl⟩:=h;exact vQ (A0a (X:=cx P n y) d j a b.1 b.2 (Ad k f (fQ i)))
  grind
 grind
theorem re(d:x9 P Γ)(j:∀c∈T,Ok P c)(a:List Nat)(st':St)(V:Prop){id:Nat}{l:List Oper}(h:Od n Γ T l a st=some (V,st'))(f:V)(i:FX (cx P n y) st' .normal Q):VX (cx P n y) st (.region id l.toArray false) Q:=by
 unfold Od at h;rw[ce] at h;split at h
 ·rename_i b;rw[ba] at b;split at h
  ·rename_i m g e k;simp only[oi,pj] at h;obtain⟨rfl,rfl⟩:=h;exact A0a (X:=cx P n y) d j a b.1 b.2 (Ad k f i)
  grind
 grind
theorem de(d:x9 P Γ)(j:∀c∈T,Ok P c)[q:K7 P](a:List Nat)(st':St)(V:Prop){id:Nat}{l:List Oper}(h:Sz n Γ T l a st=some (V,st'))(f:V)(k:FX (cx P n y) st' .normal Q):VX (cx P n y) st (.region id l.toArray true) Q:=by
 unfold Sz at h;rw[ce] at h;split at h
 ·rename_i b;rw[ba] at b;split at h
  ·rename_i o g e m;rw[ce] at h;split at h
   ·rename_i i;simp only[oi,pj] at h;obtain⟨rfl,rfl⟩:=h;exact C0q (X:=cx P n y) d j a b.1 b.2 (Ad m f ⟨i,k⟩)
   grind
  grind
 grind
theorem ds(b:x9 P Γ)(f:∀c∈T,Ok P c)[g:K7 P](a:List Nat)(st':St)(V:Prop){id:Nat}{l:List Oper}{c:Code}(h:Sz n Γ T l a st=some (V,st'))(d:V)(e:VX (cx P n y) st' c Q):VX (cx P n y) st (.seq (.region id l.toArray true) c) Q :=
 vQ (de b f a st' V h d (fQ e))
end
theorem D0n{P:Program}:x9 P []:=fun _ _ h=>by cases h
theorem tK{P:Program}{T:TypeId}{c:TI}{Γ:p5}(h:HI P T c)(e:x9 P Γ):x9 P ((T,c) :: Γ):=fun d b a=>by
 rw[lK] at a;split at a
 ·grind
 ·exact e d b a
abbrev i64:Ty:=.int .i64
abbrev p(t:Nat)(a:AV):Nat×Sl:=(t,⟨[],a⟩)
abbrev I(x:Int):AV:=.d true (.int .i64) x
abbrev J(x:Int):AV:=.d false (.int .i64) x
abbrev B(x:Bool):AV:=.d true .bool x
abbrev C(x:Bool):AV:=.d false .bool x
abbrev S(x:ByteArray):AV:=.d true .str x
abbrev U(x:ByteArray):AV:=.d false .str x
abbrev D(t:Ty)(x:j6 t):AV:=.d false t x
abbrev N(t:Ty)(x:j6 t):AV:=.d true t x
abbrev L(t:Ty)(x:List (j6 t)):AV:=.d false (.sl t) x
abbrev M(t:Ty)(x:List (j6 t)):AV:=.d true (.sl t) x
abbrev nil:AV:=.v (.slice none 0 0)
theorem ev{Γ:p5}{st:St}{rs:List ResultVar}{r:AV}{ps:List Par}{z:B6 ps}(V:Prop)(h:Gm Γ st rs r ps z=V)(a:V):Gm Γ st rs r ps z:=h ▸ a
theorem tn{P:Program}:∀c∈([]:List Ct),Ok P c:=fun _ h=>by cases h
theorem tc{P:Program}{c:Ct}{T:List Ct}(h:Ok P c)(b:∀c∈T,Ok P c):∀c'∈c :: T,Ok P c':=fun c' a=>by
 grind
end Go.Proofs.Xv
end
section
namespace Go.Proofs.Xd
open Go Go.Proofs.Xv
theorem Jy{c:Type}{a b:List c}(d:c)(e:a.length=b.length)(h:∀i,i<a.length->a.getD i d=b.getD i d):a=b:=by
 apply List.ext_getElem?
 grind
def cnt:(t:Ty)->j6 t->Nat
 | .int _,_=>0
 | .bool,_=>0
 | .str,s=>s.size
 | .sl e,xs=>xs.length+(xs.map (cnt e)).sum
 | .pt e,x=>cnt e x
 | .pr a b,x=>cnt a x.1+cnt b x.2
theorem C0h{t:Ty}{a:List (j6 t)}{i:Nat}{d:j6 t}(h:i<a.length):cnt t (a.getD i d)<=(a.map (cnt t)).sum:=by
 rw[gq,List.getElem?_eq_getElem h];have b:∀(l:List (j6 t)) (x:j6 t),x∈l->cnt t x<=(l.map (cnt t)).sum:=by
  intro l
  induction l with
  | nil=>grind
  | cons y r c =>
    grind
 simp_all
theorem J8{a b:Ty}{x:j6 (.pr a b)}:cnt (.pr a b) x=cnt a x.1+cnt b x.2:=by grind[cnt]
theorem FM{k:IntKind}{x:Int}:cnt (.int k) x=0:=by grind[cnt]
theorem WI{x:Bool}:cnt .bool x=0:=by grind[cnt]
theorem FN{x:ByteArray}:cnt .str x=x.size:=by grind[cnt]
theorem AM{e:Ty}{x:List (j6 e)}:cnt (.sl e) x=x.length+(x.map (cnt e)).sum:=by grind[cnt]
theorem FL{k:IntKind}{x:List Int}:cnt (.sl (.int k)) x=x.length:=by
 have:∀l:List Int,(l.map (cnt (.int k))).sum=0:=by
  intro l
  induction l with
  | nil=>rfl
  | cons a r b=>grind[cnt]
 grind[AM]
end Go.Proofs.Xd
end
section
namespace Go.Proofs.Xl
def gd{ρ:Type}(V:Prop)[Decidable V](e:Option ρ):Option ρ:=if V then e else none
def lt{α β:Type}(x:α)(f:α->β):β:=f x
def vl{α:Type}[Inhabited α](o:Option α):α:=o.getD default
def j0(x:Int):Prop := -9223372036854775808<=x/\x<=9223372036854775807
instance (x:Int):Decidable (j0 x):=inferInstanceAs (Decidable (_/\_))
def ix(i:Int)(n:Nat):Prop:=0<=i/\i < (n:Int)
instance (i:Int)(n:Nat):Decidable (ix i n):=inferInstanceAs (Decidable (_/\_))
def V8:Nat:=36893488147419103232
def J6{σ ρ:Type}(F:(σ->Option ρ)->σ->Option ρ):Nat->σ->Option ρ
 | 0,_=>none
 | n+1,s=>F (J6 F n) s
def lp{σ ρ:Type}(F:(σ->Option ρ)->σ->Option ρ)(s:σ):Option ρ:=J6 F V8 s
theorem L7{ρ:Type}{V:Prop}[Decidable V]{e:Option ρ}{r:ρ}(h:gd V e=some r):V/\e=some r:=by
 grind[gd]
theorem gP{ρ:Type}{V:Prop}[Decidable V]{e:Option ρ}(h:V):gd V e=e:=if_pos h
theorem vS{a:Type}[Inhabited a](x:a):vl (some x)=x:=rfl
theorem u0B{a:Type}[Inhabited a]{o:Option a}(h:o.isSome=true):o=some (vl o):=by cases o with
 | none=>cases h
 | some x=>rfl
end Go.Proofs.Xl
namespace Go.Proofs.Xv
open Go Go.RowKit Go.Proofs.Sv Go.Proofs.Xl
def R4{α β:Type}(f:α->β):Option α->Option β
 | some x=>some (f x)
 | none=>none
theorem U4{a b:Type}{f:a->b}{o:Option a}{y:b}(h:R4 f o=some y):∃x,o=some x/\f x=y:=by
 cases o with
 | none=>cases h
 | some x=>exact⟨x,rfl,by cases h; rfl⟩
def YC(o o':List (Nat×Ob))(x:Value)(id ver:Nat):Option AV:=match x with
 | .slice none 0 0=>match b9 o id with
   | none=>match b9 o' id with
     | some (.arr _ _ _ _ v)=>bif Nat.beq v ver then some (.os id ver) else none
     | _=>none
   | _=>none
 | _=>none
def YD(x:Value)(fr:Bool)(e:Ty):Option AV:=match x with
 | .slice none 0 0=>some (.d fr (.sl e) [])
 | _=>none
def YE(o o':List (Nat×Ob))(id ver id' ver':Nat):Option AV:=bif Nat.beq id id' then(match b9 o id with
    | some (.arr _ _ _ _ v)=>match b9 o' id with
      | some (.arr _ _ _ _ v')=>bif Nat.beq v ver&&Nat.beq v' ver' then some (.os id' ver') else none
      | _=>none
    | _=>none) else none
def wkP(o':List (Nat×Ob))(id off:Nat):Option AV:=match b9 o' id with
 | some (.box _ _)=>some (.ptr id off)
 | _=>none
def wkG(o':List (Nat×Ob))(id:Nat):Option AV:=match b9 o' id with
 | some (.grd ..)=>some (.og id)
 | _=>none
mutual
def Ae(o o':List (Nat×Ob)):AV->AV->Option AV
 | .d fr t x,b=>match b with
   | .d fr' t' _=>bif !fr'||fr then R4 (.d fr' t') (Y1 t t' x) else none
   | _=>none
 | .v x,b=>match b with
   | .v _=>some (.v x)
   | .os id ver=>YC o o' x id ver
   | .d fr (.sl e) _=>YD x fr e
   | _=>none
 | .os id ver,b=>match b with
   | .os id' ver'=>YE o o' id ver id' ver'
   | _=>none
 | .ptr id off,b=>match b with
   | .ptr _ _=>wkP o' id off
   | _=>none
 | .agg xs,b=>match b with
   | .agg ys=>R4 .agg (Gn o o' xs ys)
   | _=>none
 | .tup xs,b=>match b with
   | .tup ys=>R4 .tup (Gn o o' xs ys)
   | _=>none
 | .fn f xs,b=>match b with
   | .fn _ ys=>R4 (.fn f) (Gn o o' xs ys)
   | _=>none
 | .og id,b=>match b with
   | .og _=>wkG o' id
   | _=>none
 | _,_=>none
def Gn(o o':List (Nat×Ob)):List AV->List AV->Option (List AV)
 | [],ys=>match ys with
   | []=>some []
   | _=>none
 | a :: r,ys=>match ys with
   | b :: s=>match Ae o o' a b with
     | some x=>R4 (x :: ·) (Gn o o' r s)
     | none=>none
   | _=>none
end
def YF(o o':List (Nat×Ob)):Option Ob->Ob->Option Ob
 | some (.box T cs),.box _ cs'=>R4 (.box T) (Gn o o' cs cs')
 | some (.arr T fr t xs _),.arr _ fr' t' _ v'=>bif !fr'||fr then R4 (fun z=>.arr T fr' t' z v') (Y1 (.sl t) (.sl t') xs) else none
 | none,.arr T fr t _ v=>some (.arr T fr t [] v)
 | some (.grd T Te fr t xs none),.grd _ _ fr' t' _ none=>bif !fr'||fr then R4 (fun z=>.grd T Te fr' t' z none) (Y1 (.sl (.sl t)) (.sl (.sl t')) xs) else none
 | _,_=>none
def SA(o o':List (Nat×Ob))(e:List (Nat×Sl)):List (Nat×Sl)->Option (List (Nat×Sl))
 | []=>some []
 | (t,s) :: r=>match s.p,b9 e t with
   | [],some ⟨[],a⟩=>match Ae o o' a s.a with
     | some x=>R4 ((t,⟨[],x⟩) :: ·) (SA o o' e r)
     | none=>none
   | _,_=>none
def SB(o o':List (Nat×Ob)):List (Nat×Ob)->Option (List (Nat×Ob))
 | []=>some []
 | (i,b) :: r=>match YF o o' (b9 o i) b with
   | some x=>R4 ((i,x) :: ·) (SB o o' r)
   | none=>none
def Kh(o':List (Nat×Ob)):List (Nat×Ob)->Bool
 | []=>true
 | (i,.box _ _) :: r=>(bif Nat.ble 500000 i then(match b9 o' i with | some (.box _ _)=>true | _=>false) else true)&&Kh o' r
 | (_,.arr ..) :: r=>Kh o' r
 | (_,.grd ..) :: r=>Kh o' r
def Gp(a b:St):Option St:=match SA a.o b.o a.e b.e with
 | some e=>match SB a.o b.o b.o with
   | some o=>bif Kh b.o a.o then some ⟨e,o⟩ else none
   | none=>none
 | none=>none
theorem F0z{o o':List (Nat×Ob)}{x:Value}{id ver:Nat}(h:YC o o' x id ver=some (.os id ver)):HU x/\Sm (b9 o id)/\Gk (b9 o' id) ver:=by
 unfold YC at h;split at h
 ·split at h
  ·rename_i a;split at h
   ·rename_i c;rw[ce] at h;split at h
    ·rename_i b;have:=nb b;subst this;rw[a,c];exact⟨trivial,trivial,rfl⟩
    grind
   grind
  grind
 grind
theorem F0x{o o':List (Nat×Ob)}{id ver b a:Nat}(h:YE o o' id ver b a=some (.os b a)):id=b/\Gk (b9 o id) ver/\Gk (b9 o' id) a:=by
 unfold YE at h;rw[ce] at h;split at h
 ·rename_i c;split at h
  ·rename_i i;split at h
   ·rename_i f;rw[ce] at h;split at h
    ·rename_i d;rw[ba] at d;have g:=nb d.1;have e:=nb d.2;subst g; subst e;rw[i,f];exact⟨nb c,rfl,rfl⟩
    grind
   grind
  grind
 grind
theorem F0A{x:Value}{fr:Bool}{e:Ty}{y:j6 (.sl e)}(h:YD x fr e=some (.d fr (.sl e) y)):HU x/\Ym (.sl e) y:=by
 unfold YD at h;split at h
 ·simp only[oi,AV.d.injEq,heq_eq_eq,true_and] at h;exact⟨trivial,h.symm⟩
 grind
theorem YG{a b:Bool}(h:(!a||b)=true):a=true->b=true:=by
 grind
mutual
theorem z0Y{o o':List (Nat×Ob)}:∀{a b:AV},Ae o o' a b=some b->N6 o o' a b
 | .d fr t x,b,h=>by
   unfold Ae at h;unfold N6;split at h
   ·rename_i g i y;rw[ce] at h;split at h
    ·rename_i j;obtain⟨z,c,e⟩:=U4 h
     grind
    grind
   grind
 | .v x,b,h=>by
   unfold Ae at h
   grind[N6,F0z,F0A]
 | .os id ver,b,h=>by
   unfold Ae at h
   grind[N6,F0x]
 | .ptr id off,b,h=>by
   unfold Ae at h;unfold N6;split at h
   ·unfold wkP at h;split at h
    ·rename_i c;simp only[oi,AV.ptr.injEq] at h;obtain⟨rfl,rfl⟩:=h;exact⟨rfl,rfl,by rw[c]; trivial⟩
    grind
   grind
 | .agg xs,b,h=>by
   unfold Ae at h;unfold N6;split at h
   ·obtain⟨z,c,e⟩:=U4 h;simp only[AV.agg.injEq] at e;subst e;exact Oe c
   grind
 | .tup xs,b,h=>by
   unfold Ae at h;unfold N6;split at h
   ·obtain⟨z,c,e⟩:=U4 h;simp only[AV.tup.injEq] at e;subst e;exact Oe c
   grind
 | .fn f xs,b,h=>by
   unfold Ae at h;unfold N6;split at h
   ·obtain⟨z,c,e⟩:=U4 h;simp only[AV.fn.injEq] at e;obtain⟨rfl,rfl⟩:=e;exact⟨rfl,Oe c⟩
   grind
 | .pel ..,b,h=>by grind[Ae]
 | .gel ..,b,h=>by grind[Ae]
 | .og id,b,h=>by
   unfold Ae at h;unfold N6;split at h
   ·unfold wkG at h;split at h
    ·rename_i c;simp only[oi,AV.og.injEq] at h;subst h;exact⟨rfl,by rw[c]; trivial⟩
    grind
   grind
 | .ow ..,b,h=>by grind[Ae]
 | .ob ..,b,h=>by grind[Ae]
theorem Oe{o o':List (Nat×Ob)}:∀{as' bs:List AV},Gn o o' as' bs=some bs->Cj o o' as' bs
 | [],bs,h=>by
   grind[Gn,Cj]
 | a :: r,bs,h=>by
   unfold Gn at h;unfold Cj;split at h
   ·split at h
    ·rename_i x d;obtain⟨z,c,b⟩:=U4 h;simp only[List.cons.injEq] at b;obtain⟨rfl,rfl⟩:=b;exact⟨z0Y d,Oe c⟩
    grind
   grind
end
theorem F0y{o o':List (Nat×Ob)}{a:Option Ob}{b:Ob}(h:YF o o' a b=some b):Yp o o' a b:=by
 unfold YF at h;split at h
 ·obtain⟨z,d,c⟩:=U4 h;simp only[Ob.box.injEq] at c;obtain⟨rfl,rfl⟩:=c;exact⟨rfl,Oe d⟩
 ·rw[ce] at h;split at h
  ·rename_i e;obtain⟨z,d,c⟩:=U4 h;simp only[Ob.arr.injEq,heq_eq_eq,true_and,and_true] at c;obtain⟨rfl,rfl⟩:=c;exact⟨rfl,YG e,d⟩
  grind
 ·simp only[oi,Ob.arr.injEq,heq_eq_eq,true_and,and_true] at h;exact h.symm
 ·rw[ce] at h;split at h
  ·rename_i e;obtain⟨z,d,c⟩:=U4 h;simp only[Ob.grd.injEq,heq_eq_eq,true_and,and_true] at c;obtain⟨rfl,rfl,rfl⟩:=c;exact⟨rfl,rfl,trivial,trivial,YG e,d⟩
  grind
 grind
theorem t0k{o o':List (Nat×Ob)}{e:List (Nat×Sl)}:∀{l:List (Nat×Sl)},SA o o' e l=some l->Sn o o' e l
 | [],_=>trivial
 | (t,s) :: r,h=>by
   unfold SA at h;split at h
   ·rename_i g b;split at h
    ·rename_i x c;obtain⟨z,d,a⟩:=U4 h;simp only[List.cons.injEq,pj,true_and] at a;obtain⟨f,rfl⟩:=a;subst f;exact⟨trivial,by rw[b]; exact z0Y c,t0k d⟩
    grind
   grind
theorem t0j{o o':List (Nat×Ob)}:∀{l:List (Nat×Ob)},SB o o' l=some l->NW o o' l
 | [],_=>trivial
 | (t,s) :: r,h=>by
   unfold SB at h;split at h
   ·rename_i x c;obtain⟨z,b,a⟩:=U4 h;simp only[List.cons.injEq,pj,true_and] at a;obtain⟨rfl,rfl⟩:=a;exact⟨F0y c,t0j b⟩
   grind
theorem SC{o':List (Nat×Ob)}:∀{l:List (Nat×Ob)},Kh o' l=true->pins o' l
 | [],_=>trivial
 | (_,.arr ..) :: r,h=>SC (l:=r) h
 | (_,.grd ..) :: r,h=>SC (l:=r) h
 | (i,.box _ _) :: r,h=>by
   simp only[Kh,ba] at h;refine⟨?_,SC h.2⟩;have a:=h.1;rw[ce] at a ⊢;split
   ·rename_i hi;rw[if_pos hi] at a;split at a
    ·rename_i b; rw[b]; trivial
    grind
   grind
theorem YH{a b:St}(h:Gp a b=some b):NX a b:=by
 unfold Gp at h;split at h
 ·rename_i e d;split at h
  ·rename_i o f;rw[ce] at h;split at h
   ·rename_i c;cases h;exact⟨t0k d,t0j f,SC c⟩
   grind
  grind
 grind
mutual
def Af(o:List (Nat×Ob)):AV->AV->Option (AV×List (Option Nat)×List Nat)
 | a,.ow T fr t _=>match a with
   | .os id ver=>match b9 o id with
     | some (.arr T' fr' t' ys ver')=>bif Nat.beq ver ver'&&Nat.beq T' T&&(!fr||fr') then R4 (fun z=>(.ow T fr t z,[some id],[])) (Y1 (.sl t') (.sl t) ys) else none
     | _=>none
   | .v x=>match x with
     | .slice none 0 0=>some (.ow T fr t [],[none],[])
     | _=>none
   | _=>none
 | a,.d fr t _=>match F8 o 24 t [a] with
   | some (y,l,fl)=>bif !fr||fl then some (.d fr t y,[],l) else none
   | none=>none
 | a,.ob T rs=>match a with
   | .ptr id 0=>match b9 o id with
     | some (.box T' cs)=>bif Nat.beq T' T then(match Ic o cs rs with
       | some (x,l,m)=>some (.ob T x,some id :: l,m)
       | none=>none) else none
     | _=>none
   | _=>none
 | a,.v _=>match a with
   | .v y=>some (.v y,[],[])
   | _=>none
 | a,.agg rs=>match a with
   | .agg as'=>match Ic o as' rs with
     | some (x,l,m)=>some (.agg x,l,m)
     | none=>none
   | _=>none
 | a,.tup rs=>match a with
   | .tup as'=>match Ic o as' rs with
     | some (x,l,m)=>some (.tup x,l,m)
     | none=>none
   | _=>none
 | _,_=>none
def Ic(o:List (Nat×Ob)):List AV->List AV->Option (List AV×List (Option Nat)×List Nat)
 | as',[]=>match as' with
   | []=>some ([],[],[])
   | _=>none
 | as',r :: rs=>match as' with
   | a :: t=>match Af o a r with
     | some (x,m,f)=>match Ic o t rs with
       | some (xs,m',f')=>some (x :: xs,m++m',f++f')
       | none=>none
     | none=>none
   | []=>none
end
def Db(o:List (Nat×Ob)):Nat->(ps:List Par)->B6 ps->Option (B6 ps×List Nat×Option Nat)
 | _,[],z=>some (z,[],none)
 | i,.io T t :: _,_=>match b9 o (500000+i) with
   | some (.box T' cs)=>bif Nat.beq T' T then(match F8 o 24 t cs with
     | some (y,l,_)=>some (y,l,some (500000+i))
     | none=>none) else none
   | _=>none
 | i,.dat _ :: r,z=>Db o (i+1) r z
 | i,.agg _ :: r,z=>Db o (i+1) r z
 | i,.fn _ _ :: r,z=>Db o (i+1) r z
 | i,.nof _ :: r,z=>Db o (i+1) r z
 | i,.nil :: r,z=>Db o (i+1) r z
 | i,.os _ _ :: r,z=>Db o (i+1) r z
def v0m(Γ:p5)(st:St):ResultVar->Option AV
 | .tmp t=>match b9 st.e t with
   | some ⟨[],a⟩=>some a
   | _=>none
 | .cell t ty=>match b9 st.e t with
   | some ⟨[],p⟩=>bif Kg (some p) then(match Y2 st.o p with
     | some (cs,_)=>match b9 Γ ty with
       | some ti=>JP ti cs
       | none=>none
     | none=>none) else none
   | _=>none
def Of(Γ:p5)(st:St):List ResultVar->Option (List AV)
 | []=>some []
 | r :: rs=>match v0m Γ st r with
   | some a=>R4 (a :: ·) (Of Γ st rs)
   | none=>none
def Og(Γ:p5)(st:St)(rs:List ResultVar)(ps:List Par)(r:AV)(z:B6 ps):Option (AV×B6 ps) :=
 match Of Γ st rs with
 | some as'=>match Af st.o (Yx as') r with
   | some (r',mv,fz)=>match Db st.o 0 ps z with
     | some (z',fz',pin)=>bif onceN mv&&Oa mv (fz++fz')&&Sy (fun i=>Gb i (fz++fz')) pin&&(!F4 ps||DV r')&&Sy (fun i=>onceN.notInS i mv) pin then some (r',z') else none
     | none=>none
   | none=>none
 | none=>none
mutual
theorem B0L{o:List (Nat×Ob)}:∀{a r:AV} {mv:List (Option Nat)} {fz:List Nat},Af o a r=some (r,mv,fz)->∃q:Prop,q/\N7 o a r=some (q,mv,fz)
 | a,.ow T fr t xs,mv,fz,h=>by
   unfold Af at h;unfold N7;split at h
   ·split at h
    ·rename_i j c k s i n;rw[ce] at h;split at h
     ·rename_i f;simp only[ba] at f;obtain⟨z,u,g⟩:=U4 h;simp only[pj,AV.ow.injEq,heq_eq_eq,true_and] at g;obtain⟨rfl,rfl,rfl⟩:=g;refine⟨(fr=true->c=true)/\Y1 (.sl k) (.sl t) s=some z,⟨YG f.2,u⟩,?_⟩
      grind
     grind
    grind
   ·split at h
    ·simp only[oi,pj,AV.ow.injEq,heq_eq_eq,true_and] at h;obtain⟨rfl,rfl,rfl⟩:=h;exact⟨_,⟨trivial,rfl⟩,rfl⟩
    grind
   grind
 | a,.d fr t x,mv,fz,h=>by
   unfold Af at h;unfold N7;split at h
   ·rename_i y l F E;rw[ce] at h;split at h
    ·rename_i P;simp only[oi,pj,AV.d.injEq,heq_eq_eq,true_and] at h;obtain⟨rfl,rfl,rfl⟩:=h
     try rw[E]
     grind
    grind
   grind
 | a,.ob T rs,mv,fz,h=>by
   unfold Af at h;unfold N7;split at h
   ·split at h
    ·rename_i j G n;rw[ce] at h;split at h
     ·rename_i H;split at h
      ·rename_i x l m b;simp only[oi,pj,AV.ob.injEq,true_and] at h;obtain⟨rfl,rfl,rfl⟩:=h;obtain⟨q,w,e⟩:=SD b;refine⟨q,w,?_⟩
       grind
      grind
     grind
    grind
   grind
 | a,.v x,mv,fz,h=>by
   unfold Af at h;unfold N7;split at h
   ·simp only[oi,pj,AV.v.injEq] at h;obtain⟨rfl,rfl,rfl⟩:=h
    grind
   grind
 | a,.agg rs,mv,fz,h=>by
   unfold Af at h;unfold N7;split at h
   ·split at h
    ·rename_i x l m b;simp only[oi,pj,AV.agg.injEq] at h;obtain⟨rfl,rfl,rfl⟩:=h;exact SD b
    grind
   grind
 | a,.tup rs,mv,fz,h=>by
   unfold Af at h;unfold N7;split at h
   ·split at h
    ·rename_i x l m b;simp only[oi,pj,AV.tup.injEq] at h;obtain⟨rfl,rfl,rfl⟩:=h;exact SD b
    grind
   grind
 | a,.ptr _ _,mv,fz,h=>by grind[Af]
 | a,.pel ..,mv,fz,h=>by grind[Af]
 | a,.os _ _,mv,fz,h=>by grind[Af]
 | a,.fn _ _,mv,fz,h=>by grind[Af]
 | a,.gel _ _,mv,fz,h=>by grind[Af]
 | a,.og _,mv,fz,h=>by grind[Af]
theorem SD{o:List (Nat×Ob)}:∀{as' rs:List AV} {mv:List (Option Nat)} {fz:List Nat},Ic o as' rs=some (rs,mv,fz)->∃q:Prop,q/\Da o as' rs=some (q,mv,fz)
 | as',[],mv,fz,h=>by
   unfold Ic at h;unfold Da;split at h
   ·simp only[oi,pj,true_and] at h;obtain⟨rfl,rfl⟩:=h
    grind
   grind
 | as',r :: rs,mv,fz,h=>by
   unfold Ic at h;unfold Da;split at h
   ·split at h
    ·rename_i x m f d;split at h
     ·rename_i l i j a;simp only[oi,pj,List.cons.injEq] at h;obtain⟨⟨rfl,rfl⟩,rfl,rfl⟩:=h;obtain⟨q,e,k⟩:=B0L d;obtain⟨c,b,g⟩:=SD a;refine⟨q/\c,⟨e,b⟩,?_⟩
      grind
     grind
    grind
   grind
end
theorem Ie{o:List (Nat×Ob)}:∀{ps:List Par} {i:Nat} {z:B6 ps} {fz:List Nat} {pin:Option Nat},Db o i ps z=some (z,fz,pin)->∃q:Prop,q/\Ac o i ps z=some (q,fz,pin)
 | [],i,z,fz,pin,h=>by
   simp only[Db,oi,pj,true_and] at h;obtain⟨rfl,rfl⟩:=h;exact⟨_,trivial,rfl⟩
 | .io T t :: r,i,z',fz,pin,h=>by
   unfold Db at h;unfold Ac;split at h
   ·rename_i a e d;rw[ce] at h;split at h
    ·rename_i b;split at h
     ·rename_i y l c f;simp only[oi,pj] at h;obtain⟨rfl,rfl,rfl⟩:=h;refine⟨y=y,rfl,?_⟩
      grind
     grind
    grind
   grind
 | .dat _ :: r,i,z,fz,pin,h=>Ie (ps:=r) (i:=i+1) h
 | .agg _ :: r,i,z,fz,pin,h=>Ie (ps:=r) (i:=i+1) h
 | .fn _ _ :: r,i,z,fz,pin,h=>Ie (ps:=r) (i:=i+1) h
 | .nof _ :: r,i,z,fz,pin,h=>Ie (ps:=r) (i:=i+1) h
 | .nil :: r,i,z,fz,pin,h=>Ie (ps:=r) (i:=i+1) h
 | .os _ _ :: r,i,z,fz,pin,h=>Ie (ps:=r) (i:=i+1) h
theorem u0U{Γ:p5}{st:St}:∀{rs:List ResultVar} {as':List AV},Of Γ st rs=some as'->∃q:Prop,q/\HZ Γ st rs=some (q,as')
 | [],as',h=>by
   simp only[Of,oi] at h;subst h;exact⟨_,trivial,rfl⟩
 | r :: rs,as',h=>by
   unfold Of at h;unfold HZ;split at h
   ·rename_i a b;obtain⟨l,j,g⟩:=U4 h;subst g;obtain⟨q,n,k⟩:=u0U j;have:∃c:Prop,c/\NZ Γ st r=some (c,a):=by
     unfold v0m at b;unfold NZ;split at b
     ·split at b
      ·rename_i d;cases b;refine⟨True,trivial,?_⟩
       grind
      grind
     ·split at b
      ·rename_i d;rw[ce] at b;split at b
       ·rename_i e;split at b
        ·rename_i s;split at b
         ·rename_i m;refine⟨Cd st.o _,YB e,?_⟩
          grind
         grind
        grind
       grind
      grind
    obtain⟨c,f,i⟩:=this;rw[i,k]
    grind
   grind
theorem SE{Γ:p5}{st:St}{rs:List ResultVar}{ps:List Par}{r:AV}{z:B6 ps}(h:Og Γ st rs ps r z=some (r,z)):Gm Γ st rs r ps z:=by
 unfold Og at h;split at h
 ·rename_i d e;split at h
  ·rename_i m q fz a;split at h
   ·rename_i k b c f;rw[ce] at h;split at h
    ·rename_i i;simp only[oi,pj] at h;obtain⟨rfl,rfl⟩:=h;obtain⟨u,t,j⟩:=u0U e;obtain⟨o,g,l⟩:=B0L a;obtain⟨s,v,n⟩:=Ie f
     grind[Gm]
    grind
   grind
  grind
 grind
end Go.Proofs.Xv
end
section
namespace Go.Proofs.Xv
open Go Go.RowKit Go.Proofs.Sv Go.Proofs.Xl
def I3(b:Bool)(n:Nat)(Γ:p5)(T:List Ct)(l:List Oper)(keep:List Nat)(st:St):Option (Prop×St):=bif b then Sz n Γ T l keep st else Od n Γ T l keep st
def Ki(st:St)(c:Operand):Option Bool:=match rd st [] c with
 | some (.d _ .bool b)=>some b
 | _=>none
theorem YI{st:St}{c:Operand}{b:Bool}(h:Ki st c=some b):∃f,rd st [] c=some (.d f .bool b):=by
 grind[Ki]
theorem ct{X:Cx}{st:St}{Q:Exit->Act->World->Prop}{c:Operand}{a d:Code}(b:Ki st c=some true)(h:VX X st a Q):VX X st (.cond c a d) Q:=(YI b).elim fun _ b=>t0o b h
theorem cf{X:Cx}{st:St}{Q:Exit->Act->World->Prop}{c:Operand}{a d:Code}(b:Ki st c=some false)(h:VX X st d Q):VX X st (.cond c a d) Q:=(YI b).elim fun _ b=>t0p b h
section
variable {P:Program} {n:Nat} {y:World×(Nat->Prop)×(Nat->Prop)×(Nat->Value->Prop)×Nat} {st:St} {Q:Exit->Act->World->Prop} {Γ:p5} {T:List Ct} {ρ α:Type} {r:ρ}
theorem SG(d:x9 P Γ)(g:∀c∈T,Ok P c)[i:K7 P]{a:List Nat}{st':St}{V:Prop}{id:Nat}{l:List Oper}{b:Bool}(h:I3 b n Γ T l a st=some (V,st'))(e:V)(f:FX (cx P n y) st' .normal Q):VX (cx P n y) st (.region id l.toArray b) Q:=by
 cases b with
 | true=>exact de d g a st' V h e f
 | false=>exact re d g a st' V h e f
theorem za(d:x9 P Γ)(f:∀c∈T,Ok P c)[g:K7 P](a:List Nat)(st':St){id:Nat}{l:List Oper}{b:Bool}(h:I3 b n Γ T l a st=some (True,st'))(e:FX (cx P n y) st' .normal Q):VX (cx P n y) st (.region id l.toArray b) Q :=
 SG d f h trivial e
theorem zb(d:x9 P Γ)(g:∀c∈T,Ok P c)[i:K7 P](a:List Nat)(st':St){V:Prop}[Decidable V]{e:Option ρ}{id:Nat}{l:List Oper}{b:Bool}(H:gd V e=some r)(h:I3 b n Γ T l a st=some (V,st'))(f:e=some r->FX (cx P n y) st' .normal Q):VX (cx P n y) st (.region id l.toArray b) Q :=
 SG d g h (L7 H).1 (f (L7 H).2)
theorem zc(d:x9 P Γ)(g:∀c∈T,Ok P c)[i:K7 P](a:List Nat)(S:α->St){x:α}{f:α->Option ρ}{id:Nat}{l:List Oper}{b:Bool}(H:lt x f=some r)(h:I3 b n Γ T l a st=some (True,S x))(e:∀v,f v=some r->FX (cx P n y) (S v) .normal Q):VX (cx P n y) st (.region id l.toArray b) Q :=
 SG d g h trivial (e x H)
theorem zd(d:x9 P Γ)(g:∀c∈T,Ok P c)[i:K7 P](a:List Nat)(S:α->St){V:Prop}[Decidable V]{x:α}{f:α->Option ρ}{id:Nat}{l:List Oper}{b:Bool}(H:gd V (lt x f)=some r)(h:I3 b n Γ T l a st=some (V,S x))(e:∀v,f v=some r->FX (cx P n y) (S v) .normal Q):VX (cx P n y) st (.region id l.toArray b) Q :=
 SG d g h (L7 H).1 (e x (L7 H).2)
theorem qa(d:x9 P Γ)(f:∀c∈T,Ok P c)[g:K7 P](a:List Nat)(st':St){id:Nat}{l:List Oper}{b:Bool}{c:Code}(h:I3 b n Γ T l a st=some (True,st'))(e:VX (cx P n y) st' c Q):VX (cx P n y) st (.seq (.region id l.toArray b) c) Q :=
 vQ (za d f a st' h (fQ e))
theorem qb(d:x9 P Γ)(g:∀c∈T,Ok P c)[i:K7 P](a:List Nat)(st':St){V:Prop}[Decidable V]{e:Option ρ}{id:Nat}{l:List Oper}{b:Bool}{c:Code}(H:gd V e=some r)(h:I3 b n Γ T l a st=some (V,st'))(f:e=some r->VX (cx P n y) st' c Q):VX (cx P n y) st (.seq (.region id l.toArray b) c) Q :=
 vQ (zb d g a st' H h fun H=>fQ (f H))
theorem qc(d:x9 P Γ)(g:∀c∈T,Ok P c)[i:K7 P](a:List Nat)(S:α->St){x:α}{f:α->Option ρ}{id:Nat}{l:List Oper}{b:Bool}{c:Code}(H:lt x f=some r)(h:I3 b n Γ T l a st=some (True,S x))(e:∀v,f v=some r->VX (cx P n y) (S v) c Q):VX (cx P n y) st (.seq (.region id l.toArray b) c) Q :=
 vQ (zc d g a S H h fun v H=>fQ (e v H))
theorem qd(d:x9 P Γ)(g:∀c∈T,Ok P c)[i:K7 P](a:List Nat)(S:α->St){V:Prop}[Decidable V]{x:α}{f:α->Option ρ}{id:Nat}{l:List Oper}{b:Bool}{c:Code}(H:gd V (lt x f)=some r)(h:I3 b n Γ T l a st=some (V,S x))(e:∀v,f v=some r->VX (cx P n y) (S v) c Q):VX (cx P n y) st (.seq (.region id l.toArray b) c) Q :=
 vQ (zd d g a S H h fun v H=>fQ (e v H))
theorem cd{X:Cx}{c:Operand}{a d:Code}{b:Bool}{g f:Option ρ}(H:(if b=true then g else f)=some r)(e:Ki st c=some b)(i:g=some r->VX X st a Q)(k:f=some r->VX X st d Q):VX X st (.cond c a d) Q :=
 (YI e).elim fun _ j=>Yj j (fun h=>i (by grind)) (fun h=>k (by grind))
theorem jn{X:Cx}{b:Type}(r:ρ)(E:b->St)(J:b->Option ρ){a d:Code}(h:∀s,J s=some r->VX X (E s) d Q)(k:∀Q',(∀{s st'},J s=some r->Gp st' (E s)=some (E s)->FX X st' .normal Q')->(∀{st' id},FX X st' (.exit id) Q->FX X st' (.exit id) Q')->(∀{st'},FX X st' .ret Q->FX X st' .ret Q')->VX X st a Q'):VX X st (.seq a d) Q :=
 vQ (k _ (fun H c=>fQ (C0p _ (YH c) (h _ H))) fE fR)
theorem lx{X:Cx}{c:Type}(E:c->St)(d:c){F:(c->Option ρ)->c->Option ρ}{a:Code}(H:lp F d=some r)(e:Gp st (E d)=some (E d))
  (b:∀Q' (g:c->Option ρ),(∀{s st'},g s=some r->Gp st' (E s)=some (E s)->FX X st' .normal Q')->(∀{st' id},FX X st' (.exit id) Q->FX X st' (.exit id) Q')->(∀{st'},FX X st' .ret Q->FX X st' .ret Q')->∀s,F g s=some r->VX X (E s) a Q'):VX X st (.loop a) Q:=by
 refine C0o (fun z:Nat×c=>E z.2) (fun z=>J6 F z.1 z.2=some r) (fun z=>z.1) (V8,d) H (YH e) ?_;rintro⟨m,s⟩ hz;cases m with
 | zero=>cases hz
 | succ m=>exact b _ (J6 F m) (fun {h st'} f i=>E0p (m,h) f (Nat.lt_succ_self m) (YH i)) n0p o0V s hz
end
def k6(f:FuncId)(ps:List Par){ρ:Type}[Inhabited ρ](F:s9 ps->Option ρ)(R:ρ->AV)(Z:ρ->B6 ps):Ct:=⟨f,ps,fun x=>⟨(F x).isSome=true,R (vl (F x)),Z (vl (F x))⟩⟩
def N0m(X:Cx)(Γ:p5)(rs:List ResultVar)(ps:List Par){ρ:Type}(R:ρ->AV)(Z:ρ->B6 ps)(r:ρ)(x:Exit)(Q:Exit->Act->World->Prop):Prop :=
 ∀{st:St} {e:ρ},some e=some r->Og Γ st rs ps (R e) (Z e)=some (R e,Z e)->FX X st x Q
theorem okl{P:Program}{Γ:p5}(j:x9 P Γ){f:FuncId}{ps:List Par}{ρ:Type}[Inhabited ρ]{F:s9 ps->Option ρ}{R:ρ->AV}{Z:ρ->B6 ps}{g:Func}{a:Code}{n:Nat}(rs:List ResultVar)
  (u:P.funcs[f]?=some g) (t:g.ntmps=n) (o:g.body=some a) (m:g.results=rs.toArray) (b:Ar P f=true) (i:(Nat.ble ps.length n&&Ab ps)=true)
  (h:∀y x r,F x=some r->∀Q,N0m (cx P n y) Γ rs ps R Z r .normal Q->N0m (cx P n y) Γ rs ps R Z r .ret Q->VX (cx P n y) ⟨L5 0 ps x,H7 0 ps x⟩ a Q):Ok P (k6 f ps F R Z):=by
 refine K0Q (c:=k6 f ps F R Z) j rs u t o m b i (fun y x q d Q l=>?_);have s:=u0B q;refine h y x _ s Q ?_ ?_
 ·intro k e b d;cases b;exact(l k (SE d)).1
 ·intro k e b d;cases b;exact(l k (SE d)).2
mutual
def frz:AV->AV
 | .ow _ fr t xs=>.d (fr||D4 t) (.sl t) xs
 | .agg xs=>.agg (frzs xs)
 | .tup xs=>.tup (frzs xs)
 | a=>a
def frzs:List AV->List AV
 | []=>[]
 | a :: r=>frz a :: frzs r
end
mutual
def Kj:AV->Bool
 | .ob ..=>false
 | .agg xs=>Oh xs
 | .tup xs=>Oh xs
 | _=>true
def Oh:List AV->Bool
 | []=>true
 | a :: r=>Kj a&&Oh r
end
theorem SH{w:World}{T:TypeId}{t:Ty}{g:Option Nat}{u:Value}{xs:List (j6 t)}{cs:List Value}{K:Nat->Prop}(c:Own w T (sz t) g u xs.length cs)(e:AllR (RT K w t) cs xs)(i:∀b,g=some b->K b):RT K w (.sl t) [u] xs:=by
 cases g with
 | none =>
   rcases c with ⟨_,k,_,p,l⟩ | ⟨b,_,_,_,hb,_⟩
   ·have:xs=[]:=List.eq_nil_of_length_eq_zero k;subst this;exact⟨p,0,by grind,Nat.le_refl _,by omega,.inl rfl⟩
   grind
 | some b =>
   obtain⟨f,j,d,a⟩:=c.at;rcases c with ⟨h,_⟩ | ⟨b',o1,cap,cur,hb,hv2,k1,k2,k3,k4,k5⟩
   ·cases h
   ·cases hb;rw[hv2] at d; cases d;exact⟨_,j,by rw[hv2],k2,(by grind[maxLen]),.inr ⟨b,f,cs,rfl,i b rfl,a,e⟩⟩
mutual
theorem ResR.frz{K K':Bool->Nat->Prop}{w:World}(f:∀fr k,K fr k->K' fr k):∀{a:AV} {u:Value} {gs:List (Option Nat)},Kj a=true->(∀b,some b∈gs->∀fr,K' fr b)->ResR K w a u gs->ResR K' w (Xv.frz a) u []
 | .v _,_,_,_,_,h=>⟨h.1,rfl⟩
 | .d fr t x,u,gs,_,_,⟨h,_⟩=>⟨RT.up h (f fr),rfl⟩
 | .agg xs,u,gs,hn,hg,⟨us,e,h⟩=>⟨us,e,ResRs.frz f (by grind[Kj]) hg h⟩
 | .ob _ _,_,_,hn,_,_=>by grind[Kj]
 | .tup xs,u,gs,hn,hg,⟨us,e,h⟩=>⟨us,e,ResRs.frz f (by grind[Kj]) hg h⟩
 | .ow T fr t xs,u,gs,_,hg,⟨g,cs,e,_,hO,hA⟩=>by
   refine⟨SH hO (hA.mapR (fun c x i=>?_)) (fun b j=>hg b (by grind) _),rfl⟩
   grind[D4,RT.free,RT.up]
theorem ResRs.frz{K K':Bool->Nat->Prop}{w:World}(c:∀fr k,K fr k->K' fr k):∀{as':List AV} {us:List Value} {gs:List (Option Nat)},Oh as'=true->(∀b,some b∈gs->∀fr,K' fr b)->ResRs K w as' us gs->ResRs K' w (Xv.frzs as') us []
 | [],us,gs,_,_,h=>⟨h.1,rfl⟩
 | a :: r,us,gs,hn,hg,⟨u,us',g1,g2,e1,e2,h1,h2⟩=>by
   simp only[Oh,ba] at hn;exact⟨u,us',[],[],e1,rfl,ResR.frz c hn.1 (fun b d=>hg b (by grind)) h1,ResRs.frz c hn.2 (fun b d=>hg b (by grind)) h2⟩
end
theorem IOR.up{K K':Nat->Prop}{w:World}{go:Option Nat}(a:∀k,K k->K' k):∀{ps:List Par} {z:B6 ps},IOR K w go ps z->IOR K' w go ps z
 | [],_,_=>trivial
 | .io _ _ :: _,_,⟨b,cs,h1,h2,h3⟩=>⟨b,cs,h1,h2,RT.up h3 a⟩
 | .dat _ :: r,_z,h=>IOR.up (ps:=r) a h
 | .agg _ :: r,_z,h=>IOR.up (ps:=r) a h
 | .fn _ _ :: r,_z,h=>IOR.up (ps:=r) a h
 | .nof _ :: r,_z,h=>IOR.up (ps:=r) a h
 | .nil :: r,_z,h=>IOR.up (ps:=r) a h
 | .os _ _ :: r,_z,h=>IOR.up (ps:=r) a h
theorem ResR.lt{K:Bool->Nat->Prop}{w:World}:∀{a:AV} {u:Value} {gs:List (Option Nat)},ResR K w a u gs->∀b,some b∈gs->UF w b:=by
 suffices H:(∀(a:AV) {u:Value} {gs:List (Option Nat)},ResR K w a u gs->∀b,some b∈gs->UF w b) from fun {a}=>H a
 intro a;refine AV.rec (motive_1:=fun a=>∀{u:Value} {gs:List (Option Nat)},ResR K w a u gs->∀b,some b∈gs->UF w b) (motive_2:=fun l=>∀{d:List Value} {gs:List (Option Nat)},ResRs K w l d gs->∀b,some b∈gs->UF w b) ?_ ?_ ?_ ?_ ?_ ?_ ?_ ?_ ?_ ?_ ?_ ?_ ?_ ?_ a
 ·intro x u gs h b c; rw[h.2] at c; cases c
 ·intro n t x u gs h b c; rw[h.2] at c; cases c
 ·intro f i u gs h b c; obtain⟨d,_,h⟩:=h; grind
 ·intro f i u gs h b c; obtain⟨d,_,h⟩:=h; grind
 ·intro _ _ u gs h; exact h.elim
 ·intro _ _ _ _ _ u gs h; exact h.elim
 ·intro _ _ u gs h; exact h.elim
 ·intro _ _ _ u gs h; exact h.elim
 ·intro T n t f u gs h b c;obtain⟨g,E,e,_,v,_⟩:=h
  grind[List.mem_singleton,FT]
 ·intro _ _ u gs h; exact h.elim
 ·intro _ u gs h; exact h.elim
 ·intro T f i u gs h b c;obtain⟨y,d,o,e,_,P,h⟩:=h
  grind[Xy]
 ·intro d gs h b c; rw[h.2] at c; cases c
 ·intro a r k m d gs h b c;obtain⟨u,j,z,G,_,s,F,q⟩:=h
  grind
theorem TM{P:Program}{f:FuncId}{ps:List Par}{ρ:Type}[Inhabited ρ]{F:s9 ps->Option ρ}{R:ρ->AV}{Z:ρ->B6 ps}(h:Ok P (k6 f ps F R Z))(t:F4 ps=false:=by rfl)(d:∀r,Kj (R r)=true:=by intro _; rfl):Ok P (k6 f ps F (fun r=>frz (R r)) Z):=by
 refine⟨h.1,fun x G w s z K n y=>?_⟩;refine Calls.mono (h.2 x G w s z K n y) ?_;rintro Q T ⟨v,u,e,o,H,j,l,q⟩;have i:=ResR.lt l;have j:∀b,some b∈u->w.heap.size<=b:=fun b a=>(j b a).resolve_right (fun h=>by have m:F4 ps=true:=h.1; rw[t] at m; cases m);refine⟨v,[],e,o,trivial,(fun b a=>nomatch a),ResR.frz (fun E k c=>⟨c.1,c.2.1,by simp⟩) (d _) (fun b a E=>⟨.inr (j b a),(i b a).g,by simp⟩) l,IOR.up (fun k c=>⟨c.1,c.2.1,by simp,c.2.2.2⟩) q⟩
mutual
def Av(id ver:Nat)(fr:Bool)(t:Ty)(xs:List (j6 t)):AV->Option AV
 | .os i v=>bif Nat.beq i id then(bif Nat.beq v ver then some (.d fr (.sl t) xs) else none) else some (.os i v)
 | .pel i v k s off=>bif Nat.beq i id then none else some (.pel i v k s off)
 | .agg l=>R4 .agg (DW id ver fr t xs l)
 | .tup l=>R4 .tup (DW id ver fr t xs l)
 | .fn f l=>R4 (.fn f) (DW id ver fr t xs l)
 | .ptr i off=>bif Nat.beq i id then none else some (.ptr i off)
 | .v x=>some (.v x)
 | .d fr t x=>some (.d fr t x)
 | .ow T fr t x=>some (.ow T fr t x)
 | .ob T l=>some (.ob T l)
 | .og i=>bif Nat.beq i id then some (.d fr (.sl t) xs) else some (.og i)
 | .gel i k=>bif Nat.beq i id then none else some (.gel i k)
def DW(id ver:Nat)(fr:Bool)(t:Ty)(xs:List (j6 t)):List AV->Option (List AV)
 | []=>some []
 | a :: r=>match Av id ver fr t xs a with
   | some b=>R4 (b :: ·) (DW id ver fr t xs r)
   | none=>none
end
def Kk(id ver:Nat)(fr:Bool)(t:Ty)(xs:List (j6 t)):List (Nat×Sl)->List (Nat×Sl)
 | []=>[]
 | (k,s) :: r=>match Av id ver fr t xs s.a with
   | some b=>(k,⟨s.p,b⟩) :: Kk id ver fr t xs r
   | none=>Kk id ver fr t xs r
def Cm(id ver:Nat)(fr:Bool)(t:Ty)(xs:List (j6 t)):List (Nat×Ob)->Option (List (Nat×Ob))
 | []=>some []
 | (k,o) :: r=>bif Nat.beq k id then Cm id ver fr t xs r else(match o with
   | .box T cs=>match DW id ver fr t xs cs with
     | some cs'=>R4 ((k,.box T cs') :: ·) (Cm id ver fr t xs r)
     | none=>none
   | o=>R4 ((k,o) :: ·) (Cm id ver fr t xs r))
def Oi:List (Nat×Sl)->Bool
 | []=>true
 | (k,_) :: r=>(r.all fun x=>!Nat.beq x.1 k)&&Oi r
def Gq(id:Nat)(st:St):Option St:=match b9 st.o id with
 | some (.arr _ fr t xs ver)=>bif Oi st.e then(match Cm id ver (fr||D4 t) t xs st.o with
   | some o=>some ⟨Kk id ver (fr||D4 t) t xs st.e,o⟩
   | none=>none) else none
 | some (.grd _ _ fr t xs none)=>bif Oi st.e then(match Cm id 0 (fr||D4 t) (.sl t) xs st.o with
   | some o=>some ⟨Kk id 0 (fr||D4 t) (.sl t) xs st.e,o⟩
   | none=>none) else none
 | _=>none
section
variable {X:Cx} {G:Gh} {id ver:Nat} {fr:Bool} {t:Ty} {xs:List (j6 t)}
def Kl(G:Gh)(id:Nat)(o:List (Nat×Ob)):Gh:=⟨G.ρ,G.γ,fun k=>G.K k∨G.γ id=some k∨(I2 (b9 G.o id)=true/\G.δ id k),G.w,o,G.B,G.δ⟩
theorem DX{o:List (Nat×Ob)}:∀{l r:List (Nat×Ob)},Cm id ver fr t xs l=some r->∀i,(i=id->b9 r i=none)/\(i≠id->match b9 l i with
  | some (.box T cs)=>∃cs',DW id ver fr t xs cs=some cs'/\b9 r i=some (.box T cs')
  | some o=>b9 r i=some o
  | none=>b9 r i=none)
 | [],r,h,i=>by
   simp only[Cm,oi] at h;subst h;exact⟨fun _=>rfl,fun _=>rfl⟩
 | (k,ob) :: l,r,h,i=>by
   unfold Cm at h;rw[ce] at h;split at h
   ·rename_i a;have a:=nb a;obtain⟨b,c⟩:=DX (o:=o) h i;refine⟨b,fun hi=>?_⟩;rw[lK,if_neg (by omega)]
    grind
   ·rename_i a;have a:k≠id:=fun e=>a (by simp_all);split at h
    ·rename_i T cs;split at h
     ·rename_i cs' d;obtain⟨z,hz,rfl⟩:=U4 h;obtain⟨b,c⟩:=DX (o:=o) hz i;refine⟨fun hi=>?_,fun hi=>?_⟩
      ·rw[lK,if_neg (by rw[hi]; exact a)]; exact b hi
      ·rw[lK,lK];by_cases e:k=i
       ·rw[if_pos e,if_pos e]; exact⟨cs',d,rfl⟩
       ·rw[if_neg e,if_neg e]; exact c hi
     ·cases h
    ·rename_i g;obtain⟨z,hz,rfl⟩:=U4 h;obtain⟨b,c⟩:=DX (o:=o) hz i;refine⟨fun hi=>?_,fun hi=>?_⟩
     ·rw[lK,if_neg (by rw[hi]; exact a)]; exact b hi
     ·rw[lK,lK];by_cases e:k=i
      ·rw[if_pos e,if_pos e];cases ob with
       | box T cs=>exact(g T cs rfl).elim
       | arr T f j x v=>rfl
       | grd T m f j x h=>rfl
      ·rw[if_neg e,if_neg e]; exact c hi
def Oj(G:Gh)(id ver:Nat)(fr:Bool)(t:Ty)(xs:List (j6 t))(o':List (Nat×Ob)):Prop:=∀u,AVR G (.os id ver) u∨AVR G (.og id) u->AVR (Kl G id o') (.d fr (.sl t) xs) u
mutual
theorem YJ{o':List (Nat×Ob)}(g:Oj G id ver fr t xs o')(hz:Cm id ver fr t xs G.o=some o'):∀{a b:AV} {u:Value},Av id ver fr t xs a=some b->AVR G a u->AVR (Kl G id o') b u
 | .os i v,b,u,h,c=>by
   unfold Av at h;rw[ce] at h;have F:=c;obtain⟨H,w,j,E,m,q,n,r,Q⟩:=c;split at h
   ·rename_i hi;have hi:=nb hi;subst hi;rw[ce] at h;split at h
    ·rename_i V;have V:=nb V;subst V;cases h;exact g u (.inl F)
    grind
   ·rename_i hi;cases h;have hi:i≠id:=fun e=>hi (by simp_all);have:=(DX (o:=G.o) hz i).2 hi;rw[n] at this;exact⟨H,w,j,E,m,q,this,r,Q⟩
 | .og i,b,u,h,c=>by
   unfold Av at h;rw[ce] at h;have F:=c;obtain⟨H,⟨w,Te1,j,E,m,y,n⟩,r⟩:=c;split at h
   ·rename_i hi;have hi:=nb hi;subst hi;cases h;exact g u (.inr F)
   ·rename_i hi;cases h;have hi:i≠id:=fun e=>hi (by simp_all);have:=(DX (o:=G.o) hz i).2 hi;rw[n] at this;exact⟨H,⟨w,Te1,j,E,m,y,this⟩,r⟩
 | .gel i k,b,u,h,c=>by
   unfold Av at h;rw[ce] at h;obtain⟨⟨w,Te1,j,E,m,y,n⟩,r⟩:=c;split at h
   ·cases h
   ·rename_i hi;cases h;have hi:i≠id:=fun e=>hi (by simp_all);have:=(DX (o:=G.o) hz i).2 hi;rw[n] at this;exact⟨⟨w,Te1,j,E,m,y,this⟩,r⟩
 | .pel i v k s off,b,u,h,c=>by
   unfold Av at h;rw[ce] at h;obtain⟨H,w,j,E,m,q,n,r,Q⟩:=c;split at h
   ·cases h
   ·rename_i hi;cases h;have hi:i≠id:=fun e=>hi (by simp_all);have:=(DX (o:=G.o) hz i).2 hi;rw[n] at this;exact⟨H,w,j,E,m,q,this,r,Q⟩
 | .ptr i off,b,u,h,c=>by
   unfold Av at h;rw[ce] at h;obtain⟨⟨w,X,n⟩,r⟩:=c;split at h
   ·cases h
   ·rename_i hi;cases h;have hi:i≠id:=fun e=>hi (by simp_all);have:=(DX (o:=G.o) hz i).2 hi;rw[n] at this;obtain⟨T,_,Q⟩:=this;exact⟨⟨w,T,Q⟩,r⟩
 | .agg l,b,u,h,c=>by
   unfold Av at h;obtain⟨z,n,rfl⟩:=U4 h;obtain⟨P,e,c⟩:=c;exact⟨P,e,Ol g hz n c⟩
 | .tup l,b,u,h,c=>by
   unfold Av at h;obtain⟨z,n,rfl⟩:=U4 h;obtain⟨P,e,c⟩:=c;exact⟨P,e,Ol g hz n c⟩
 | .fn f l,b,u,h,c=>by
   unfold Av at h;obtain⟨z,n,rfl⟩:=U4 h;obtain⟨P,e,c⟩:=c;exact⟨P,e,Ol g hz n c⟩
 | .v x,b,u,h,c=>by unfold Av at h; cases h; exact c
 | .d f t' x,b,u,h,c=>by
   unfold Av at h; cases h;exact RT.up c (fun k W=>⟨.inl W.1,W.2⟩)
 | .ow ..,b,u,h,c=>c.elim
 | .ob ..,b,u,h,c=>c.elim
theorem Ol{o':List (Nat×Ob)}(c:Oj G id ver fr t xs o')(hz:Cm id ver fr t xs G.o=some o'):∀{as' bs:List AV} {us:List Value},DW id ver fr t xs as'=some bs->AVRs G as' us->AVRs (Kl G id o') bs us
 | [],bs,us,h,hu=>by
   simp only[DW,oi] at h;subst h; exact hu
 | a :: r,bs,us,h,⟨u,us',e,h1,h2⟩=>by
   unfold DW at h;split at h
   ·rename_i b f;obtain⟨z,d,rfl⟩:=U4 h;exact⟨u,us',e,YJ c hz f h1,Ol c hz d h2⟩
   grind
end
theorem y0t{T:TypeId}{g:Bool}(S:Sat X G)(h:b9 G.o id=some (.arr T g t xs ver))(l:fr=(g||D4 t))(o':List (Nat×Ob)):Oj G id ver fr t xs o':=fun u n=>by
 rcases n with ⟨E,z,v,P,q,i,d,y,r⟩ | ⟨_,⟨_,_,_,_,_,_,d⟩,_⟩
 ·rw[h] at d;cases d;rw[r rfl];obtain⟨F,w,s,m⟩:=S.obs id _ h;refine SH w (s.mapR (fun c x j=>?_)) (fun b f=>⟨.inr (.inl f),fun _=>m b f⟩);subst l;by_cases H:D4 t=true
  ·grind[RT.free]
  ·exact RT.up j (fun k a=>⟨.inl a.1,fun e=>a.2 (by grind)⟩)
 grind
theorem w0K{a:Type}{R:List Value->a->Prop}:∀{vs:List Value} {xs:List a},vs.length=xs.length->(∀(k:Nat) v x,vs[k]?=some v->xs[k]?=some x->R [v] x)->AllR R vs xs
 | [],[],_,_=>rfl
 | v :: vs,x :: xs,hl,h=>⟨[v],vs,rfl,h 0 v x rfl rfl,w0K (by grind) (fun k d b e c=>h (k+1) d b e c)⟩
 | [],_ :: _,hl,_=>by grind
 | _ :: _,[],hl,_=>by grind
theorem y0s{T Te:TypeId}{j:Bool}{xs:List (List (j6 t))}(S:Sat X G)(n:b9 G.o id=some (.grd T Te j t xs none))(y:fr=(j||D4 t))(o':List (Nat×Ob)):Oj G id ver fr (.sl t) xs o':=fun u F=>by
 rcases F with ⟨h0,T1,V,t1,Q,s,h1,Y,r⟩ | ⟨_,_,r⟩
 ·grind
 ·rw[r];obtain⟨E,bs,W,f,z⟩:=S.obs id _ n;refine SH (t:=.sl t) W (w0K f.len (fun k v x H i=>?_)) (fun b a=>⟨.inr (.inl a),fun _=>z b a⟩);have g:k<xs.length:=by
   rcases Nat.lt_or_ge k xs.length with h | h
   ·exact h
   ·rw[List.getElem?_eq_none h] at i; cases i
  obtain⟨cs,m,l,P⟩:=f.row k g (fun h=>by cases h);have ev:E.getD k (.bool false)=v:=by rw[gq,H]; rfl
  have q:xs.getD k []=x:=by rw[gq,i]; rfl
  rw[ev,q] at m;rw[q] at l;refine SH m (l.mapR (fun c x w=>?_)) (fun b a=>⟨.inr (.inr ⟨by rw[n]; rfl,(f.blk b).2 ⟨k,g,(fun h=>by cases h),a⟩⟩),fun _=>P b a⟩);subst y;by_cases g:D4 t=true
  ·grind[RT.free]
  ·exact RT.up w (fun k d=>⟨.inl d.1,fun e=>d.2 (by grind)⟩)
theorem C0b{aI:Ob}{o':List (Nat×Ob)}(S:Sat X G)(ho:b9 G.o id=some aI)(H:∀k,G.γ id=some k->UF G.w k/\G.B<=k)(z:Oj G id ver fr t xs o')(hz:Cm id ver fr t xs G.o=some o')(aA:Nat.blt id 500000=true):Sat X (Kl G id o'):=by
 have Q:=DX (o:=G.o) hz;have d:∀i m,b9 o' i=some m->i≠id/\∃n,b9 G.o i=some n:=fun i m h=>by
  grind
 have F:∀i,I2 (b9 o' i)=true->i≠id/\I2 (b9 G.o i)=true:=fun i r=>by
  grind[NG,hi]
 refine⟨S.base,S.os,S.tape,S.output,S.size,S.block,?_,?_,?_,?_,?_,?_,?_,?_⟩
 ·intro i m h;obtain⟨hi,n,l⟩:=d i m h;have:=(Q i).2 hi;rw[l] at this;have y:=S.obs i n l;cases n with
  | box Y aD =>
    obtain⟨P,e1,e2⟩:=this;have h:b9 o' i=some m:=h;rw[e2] at h;cases h;obtain⟨b,us,V,u,E,g4⟩:=y;exact⟨b,us,V,u,E,Ol z hz e1 g4⟩
  | arr Y aJ t1 aH aL =>
    simp only at this;have h:b9 o' i=some m:=h;rw[this] at h;cases h;obtain⟨cs,V,u,E⟩:=y;exact⟨cs,V,u.mapR (fun c x hr=>RT.up hr (fun k a=>⟨.inl a.1,a.2⟩)),E⟩
  | grd Y Te1 aJ t1 aH aB =>
    simp only at this;have h:b9 o' i=some m:=h;rw[this] at h;cases h;obtain⟨vs,bs,V,u,E⟩:=y;refine⟨vs,bs,V,⟨u.len,u.blk,u.inj,fun k a hh=>?_,u.one⟩,E⟩;obtain⟨cs,r1,r2,r3⟩:=u.row k a hh;exact⟨cs,r1,r2.mapR (fun c x hr=>RT.up hr (fun k a=>⟨.inl a.1,a.2⟩)),r3⟩
 ·intro i i' m n b h h' q aF;obtain⟨_,s,l⟩:=d i m h;obtain⟨_,o2,h2⟩:=d i' n h';exact S.inj i i' s o2 b l h2 q aF
 ·intro i m b h q a;obtain⟨hi,s,l⟩:=d i m h;rcases a with a | a | ⟨r,a⟩
  ·exact S.imm i s b l q a
  ·exact hi (S.inj i id s _ b l ho q a)
  ·exact(S.sep id b a r).2.2.1 i s l q
 ·intro i m b h q;obtain⟨_,s,l⟩:=d i m h;exact S.own i s b l q
 ·intro k a;rcases a with a | a | ⟨r,a⟩
  ·exact S.klt k a
  ·exact(H k a).1.g
  ·exact(S.duf a r).g
 ·intro k a;rcases a with a | a | ⟨r,a⟩
  ·exact S.kfrom k a
  ·exact .inr (by rw[<- S.base.1]; exact(H k a).2)
  ·obtain⟨T,Te,f,t,xs,aK,e⟩:=NG r;obtain⟨vs,bs,_,hR,_⟩:=S.obs id _ e;obtain⟨j,W,hh,q⟩:=(hR.blk k).1 a;obtain⟨_,_,_,h3⟩:=hR.row j W hh;exact .inr (by rw[<- S.base.1]; exact h3 k q)
 ·intro i b q r;obtain⟨hi,r⟩:=F i r;obtain⟨s1,s2,s3,s4⟩:=S.sep i b q r;refine⟨s1,?_,fun j o W aC=>?_,fun j W aG=>s4 j W (F j aG).2⟩
  ·rintro(a | a | ⟨aM,a⟩)
   ·grind
   ·grind
   grind
  ·obtain⟨_,s,l⟩:=d j o W;exact s3 j s l aC
 ·intro i v hv;obtain⟨⟨Y,aD,l⟩,h2⟩:=S.pin i v hv;have hi:500000+i≠id:=fun e=>by
   have:id<500000:=by simpa using aA
   omega
  have:=(Q (500000+i)).2 hi;rw[l] at this;obtain⟨P,_,e⟩:=this;exact⟨⟨Y,P,e⟩,h2⟩
theorem SI:∀{e:List (Nat×Sl)},Oi e=true->∀{k:Nat} {s:Sl},b9 (Kk id ver fr t xs e) k=some s->∃a,b9 e k=some ⟨s.p,a⟩/\Av id ver fr t xs a=some s.a
 | [],_,k,s,h=>by cases h
 | (j,s0) :: r,hn,k,s,h=>by
   simp only[Oi,ba,List.all_eq_true,Bool.not_eq_true'] at hn;unfold Kk at h;split at h
   ·rename_i b c;rw[lK] at h ⊢;split at h
    ·rename_i e;cases h;exact⟨s0.a,by simp_all,c⟩
    ·rename_i e;rw[if_neg e];exact SI hn.2 h
   ·obtain⟨a,m,f⟩:=SI hn.2 h;refine⟨a,?_,f⟩;rw[lK];split
    ·rename_i e;exfalso;have:∀{e:List (Nat×Sl)},(∀x∈e,Nat.beq x.1 j=false)->b9 e j=none:=by
      intro e
      induction e with
      | nil=>intro _; rfl
      | cons y r l =>
        intro i;obtain⟨d,v⟩:=y;rw[lK,if_neg]
        ·grind
        ·intro g
         simp_all
     grind
    omega
end
theorem YK{X:Cx}{st st':St}{id:Nat}(h:Gq id st=some st')(j:Nat.blt id 500000=true){G:Gh}{a:Act}(S:Sat X G)(u:G.o=st.o)(i:EnvR X.n G st.e a):∃G',Sat X G'/\G'.o=st'.o/\G'.w=G.w/\EnvR X.n G' st'.e a:=by
 unfold Gq at h;split at h
 ·rename_i T E t z ver d;rw[ce] at h;split at h
  ·rename_i m;split at h
   ·rename_i l hz;cases h;rw[<- u] at d hz;have c:=y0t S d rfl l;obtain⟨x,q,H,g⟩:=S.obs id _ d;refine⟨Kl G id l,C0b S d (fun k f=>⟨by grind[FT],g k f⟩) c hz j,rfl,rfl,i.defers,i.size,fun k s f=>?_⟩;obtain⟨b,r,v⟩:=SI m f;obtain⟨P,y⟩:=i.val k _ r
    grind[YJ]
   grind
  grind
 ·rename_i T W E t z d;rw[ce] at h;split at h
  ·rename_i m;split at h
   ·rename_i l hz;cases h;rw[<- u] at d hz;have c:=y0s (ver:=0) S d rfl l;obtain⟨F,Q,q,V,g⟩:=S.obs id _ d;refine⟨Kl G id l,C0b S d (fun k f=>⟨by grind[FT],g k f⟩) c hz j,rfl,rfl,i.defers,i.size,fun k s f=>?_⟩;obtain⟨b,r,v⟩:=SI m f;obtain⟨P,y⟩:=i.val k _ r
    grind[YJ]
   grind
  grind
 grind
theorem fz{X:Cx}{st:St}{c:Code}{Q:Exit->Act->World->Prop}(id:Nat)(st':St)(h:Gq id st=some st')(d:Nat.blt id 500000=true)(k:VX X st' c Q):VX X st c Q:=fun G a S i f=>by
 obtain⟨l,j,b,g,e⟩:=YK h d S i f;have:=k l a j b e
 grind
theorem N0i{X:Cx}{st:St}{c:Code}{Q:Exit->Act->World->Prop}{ρ:Type}{r:ρ}(H:none=some r):VX X st c Q:=by cases H
def Km:List Par->Bool
 | []=>true
 | .dat (.int _) :: r=>Km r
 | .dat .bool :: r=>Km r
 | .dat .str :: r=>Km r
 | _=>false
def sc:(ps:List Par)->s9 ps->List Value
 | [],_=>[]
 | .dat (.int k) :: r,x=>.int k x.1 :: sc r x.2
 | .dat .bool :: r,x=>.bool x.1 :: sc r x.2
 | .dat .str :: r,x=>.string x.1 :: sc r x.2
 | _ :: r,x=>sc r x.2
theorem SJ{K:Nat->Prop}{w:World}:∀{ps:List Par} {x:s9 ps} {vs:List Value} {go:Option Nat},Km ps=true->ArgsR K w go ps x vs->vs=sc ps x/\go=none
 | [],x,vs,go,_,h=>h
 | .dat (.int k) :: r,x,vs,go,hs,⟨v,us,e,a,h⟩=>by
   obtain⟨c,b⟩:=SJ (ps:=r) hs h;refine⟨?_,b⟩;rw[e,c];have a:=a.1;simp only[List.cons.injEq,and_true] at a;rw[a]; rfl
 | .dat .bool :: r,x,vs,go,hs,⟨v,us,e,a,h⟩=>by
   obtain⟨c,b⟩:=SJ (ps:=r) hs h;refine⟨?_,b⟩;rw[e,c];have a:[v]=_:=a;simp only[List.cons.injEq,and_true] at a;rw[a]; rfl
 | .dat .str :: r,x,vs,go,hs,⟨v,us,e,a,h⟩=>by
   obtain⟨c,b⟩:=SJ (ps:=r) hs h;refine⟨?_,b⟩;rw[e,c];have a:=a.1;simp only[List.cons.injEq,and_true] at a;rw[a]; rfl
theorem SK{K:Nat->Prop}{w:World}{go:Option Nat}:∀{ps:List Par} (z:B6 ps),Km ps=true->IOR K w go ps z
 | [],_,_=>trivial
 | .dat (.int _) :: r,z,h=>SK (ps:=r) z h
 | .dat .bool :: r,z,h=>SK (ps:=r) z h
 | .dat .str :: r,z,h=>SK (ps:=r) z h
theorem B0O{P:Program}{f:FuncId}{ps:List Par}{ρ:Type}[Inhabited ρ]{F:s9 ps->Option ρ}{t:Ty}{D:ρ->j6 t}{Z:ρ->B6 ps}(a:Km ps=true)(g:Ar P f=true)
  (h:∀x r w,F x=some r->wfs ps x->Calls P f (sc ps x).toArray w fun en w'=>∃v,en=.returned v/\Ext w w'/\RT (fun _=>False) w' t [v] (D r)):Ok P (k6 f ps F (fun r=>.d true t (D r)) Z):=by
 refine⟨g,fun x n w s q K o c=>?_⟩;obtain⟨rfl,rfl⟩:=SJ a c;refine Calls.mono (h x _ w (u0B n) c.wfs) ?_;rintro en w' ⟨v,e,i,l⟩;exact⟨v,[],e,WE.of_ext i,trivial,(fun b j=>nomatch j),⟨RT.up l (fun k m=>m.elim),rfl⟩,SK _ a⟩
theorem H0P{K:Nat->Prop}{w:World}{k:IntKind}{x:Int}(h:lo k<=x/\x<=hi k):RT K w (.int k) [.int k x] x:=⟨rfl,h⟩
theorem H0O{K:Nat->Prop}{w:World}{s:ByteArray}(h:s.size<=9223372036854775807):RT K w .str [.string s] s:=⟨rfl,h⟩
end Go.Proofs.Xv
end
section
namespace Go.Proofs.Xl
instance M0Z{α β:Type}[Inhabited α]:Inhabited (α ⊕ β):=⟨.inl default⟩
def Ms{α β:Type}:Option (α ⊕ β)->Bool
 | some (.inl _)=>true
 | _=>false
def UZ{α β:Type}:Option (α ⊕ β)->Bool
 | some (.inr _)=>true
 | _=>false
def vL{α β:Type}[Inhabited α]:Option (α ⊕ β)->α
 | some (.inl a)=>a
 | _=>default
def vR{α β:Type}[Inhabited β]:Option (α ⊕ β)->β
 | some (.inr b)=>b
 | _=>default
def two{α β γ:Type}(f:α->γ)(g:β->γ):α ⊕ β->γ
 | .inl a=>f a
 | .inr b=>g b
end Go.Proofs.Xl
namespace Go.Proofs.Xv
open Go Go.RowKit Go.Proofs.Sv Go.Proofs.Xl
def UW(f:FuncId)(ps:List Par){α β:Type}[Inhabited α](F:s9 ps->Option (α ⊕ β))(R:α->AV)(z:B6 ps):Ct:=⟨f,ps,fun x=>⟨Ms (F x)=true,R (vL (F x)),z⟩⟩
def UX(f:FuncId)(ps:List Par){α β:Type}[Inhabited β](F:s9 ps->Option (α ⊕ β))(R:β->AV)(z:B6 ps):Ct:=⟨f,ps,fun x=>⟨UZ (F x)=true,R (vR (F x)),z⟩⟩
theorem O0j{P:Program}{f:FuncId}{ps:List Par}{d e:Type}[Inhabited (d ⊕ e)][Inhabited d]{F:s9 ps->Option (d ⊕ e)}{g:d->AV}{RB:e->AV}{z:B6 ps}(h:Ok P (k6 f ps F (two g RB) (fun _=>z))):Ok P (UW f ps F g z):=by
 refine⟨h.1,fun x c w k j K i l=>?_⟩;have c:Ms (F x)=true:=c;cases hF:F x with
 | none=>rw[hF] at c; cases c
 | some s =>
   cases s with
   | inr b=>rw[hF] at c; cases c
   | inl a =>
     have:=h.2 x (show(F x).isSome=true by grind) w k j K i l;simp only[k6,UW] at this ⊢;rw[hF] at this ⊢;exact this
theorem O0i{P:Program}{f:FuncId}{ps:List Par}{e d:Type}[Inhabited (e ⊕ d)][Inhabited d]{F:s9 ps->Option (e ⊕ d)}{k:e->AV}{RB:d->AV}{z:B6 ps}(h:Ok P (k6 f ps F (two k RB) (fun _=>z))):Ok P (UX f ps F RB z):=by
 refine⟨h.1,fun x c w j i K g l=>?_⟩;have c:UZ (F x)=true:=c;cases hF:F x with
 | none=>rw[hF] at c; cases c
 | some s =>
   cases s with
   | inl b=>rw[hF] at c; cases c
   | inr a =>
     have:=h.2 x (show(F x).isSome=true by grind) w j i K g l;simp only[k6,UX] at this ⊢;rw[hF] at this ⊢;exact this
theorem sp{X:Cx}{st:St}{c:Code}{Q:Exit->Act->World->Prop}{ρ:Type}{r:ρ}{b:Bool}{a d:Option ρ}(H:(if b=true then a else d)=some r)(e:a=some r->VX X st c Q)(f:d=some r->VX X st c Q):VX X st c Q:=by
 grind
end Go.Proofs.Xv
end
section
namespace Go.Proofs.Xv
open Go Go.RowKit Go.Proofs.Sv Go.Proofs.Xl
abbrev Z(e:List (Nat×Sl))(o:List (Nat×Ob)):St:=⟨e,o⟩
abbrev R(i:Nat):AV:=.ptr i 0
abbrev O(i:Nat):AV:=.os i 0
abbrev A(T:TypeId)(t:Ty)(xs:List (j6 t))(v:Nat):Ob:=.arr T true t xs v
abbrev K(T:TypeId)(t:Ty)(x:j6 t):Ob:=.box T (r5 false t x)
class HG(P:Program)(Γ:outParam p5):Prop where
 h:x9 P Γ
class HT(P:Program)(T:outParam (List Ct)):Prop where
 h:∀c∈T,Ok P c
def SL(st:St):List Nat:=st.e.map Prod.fst
section
variable {P:Program} {n:Nat} {y:World×(Nat->Prop)×(Nat->Prop)×(Nat->Value->Prop)×Nat} {st:St} {Q:Exit->Act->World->Prop} {Γ:p5} {T:List Ct} {ρ α:Type} {r:ρ}
theorem zD[a:HG P Γ][d:HT P T][e:K7 P](S:α->St){V:Prop}[Decidable V]{x:α}{f:α->Option ρ}{id:Nat}{l:List Oper}{b:Bool}(H:gd V (lt x f)=some r)(c:∀v,f v=some r->FX (cx P n y) (S v) .normal Q)(h:I3 b n Γ T l (SL (S x)) st=some (V,S x):=by kernel_rfl):VX (cx P n y) st (.region id l.toArray b) Q:=zd a.h d.h _ S H h c
theorem qB[a:HG P Γ][f:HT P T][g:K7 P](st':St){V:Prop}[Decidable V]{e:Option ρ}{id:Nat}{l:List Oper}{b:Bool}{c:Code}(H:gd V e=some r)(d:e=some r->VX (cx P n y) st' c Q)(h:I3 b n Γ T l (SL st') st=some (V,st'):=by kernel_rfl):VX (cx P n y) st (.seq (.region id l.toArray b) c) Q:=qb a.h f.h _ st' H h d
theorem qC[a:HG P Γ][e:HT P T][g:K7 P](S:α->St){x:α}{f:α->Option ρ}{id:Nat}{l:List Oper}{b:Bool}{c:Code}(H:lt x f=some r)(d:∀v,f v=some r->VX (cx P n y) (S v) c Q)(h:I3 b n Γ T l (SL (S x)) st=some (True,S x):=by kernel_rfl):VX (cx P n y) st (.seq (.region id l.toArray b) c) Q:=qc a.h e.h _ S H h d
theorem qD[a:HG P Γ][e:HT P T][g:K7 P](S:α->St){V:Prop}[Decidable V]{x:α}{f:α->Option ρ}{id:Nat}{l:List Oper}{b:Bool}{c:Code}(H:gd V (lt x f)=some r)(d:∀v,f v=some r->VX (cx P n y) (S v) c Q)(h:I3 b n Γ T l (SL (S x)) st=some (V,S x):=by kernel_rfl):VX (cx P n y) st (.seq (.region id l.toArray b) c) Q:=qd a.h e.h _ S H h d
theorem cD{X:Cx}{c:Operand}{a d:Code}{b:Bool}{e f:Option ρ}(H:(if b=true then e else f)=some r)(g:e=some r->VX X st a Q)(i:f=some r->VX X st d Q)(h:Ki st c=some b:=by kernel_rfl):VX X st (.cond c a d) Q:=cd H h g i
theorem jN{X:Cx}{b:Type}(r:ρ)(E:b->St)(J:b->Option ρ){a d:Code}(h:∀s,J s=some r->VX X (E s) d Q)(k:∀Q',(∀{s st'},J s=some r->(h:Gp st' (E s)=some (E s):=by kernel_rfl)->FX X st' .normal Q')->(∀{st' id},FX X st' (.exit id) Q->FX X st' (.exit id) Q')->(∀{st'},FX X st' .ret Q->FX X st' .ret Q')->VX X st a Q'):VX X st (.seq a d) Q:=jn r E J h (fun Q' n e t=>k Q' (fun H h=>n H h) e t)
theorem lX{X:Cx}{c:Type}(E:c->St)(d:c){F:(c->Option ρ)->c->Option ρ}{a:Code}(H:lp F d=some r)
 (b:∀Q' (g:c->Option ρ),(∀{s st'},g s=some r->(h:Gp st' (E s)=some (E s):=by kernel_rfl)->FX X st' .normal Q')->(∀{st' id},FX X st' (.exit id) Q->FX X st' (.exit id) Q')->(∀{st'},FX X st' .ret Q->FX X st' .ret Q')->∀s,F g s=some r->VX X (E s) a Q') (f:Gp st (E d)=some (E d):=by kernel_rfl):VX X st (.loop a) Q:=lx E d H f (fun Q' g n e t s H=>b Q' g (fun H h=>n H h) e t s H)
def SM:List Nat->St->Option St
 | [],st=>some st
 | i :: r,st=>bif Nat.blt i 500000 then(Gq i st).bind (SM r) else none
theorem N0a{X:Cx}{c:Code}{Q:Exit->Act->World->Prop}:∀(ids:List Nat) {st st':St},SM ids st=some st'->VX X st' c Q->VX X st c Q
 | [],st,st',h,k=>by cases h; exact k
 | i :: r,st,st',h,k=>by
   unfold SM at h;cases hid:Nat.blt i 500000 with
   | false=>grind
   | true =>
     rw[hid] at h;cases hz:Gq i st with
     | none=>grind
     | some s =>
       rw[hz] at h;exact fz i s hz hid (N0a r h k)
theorem fZs{X:Cx}{c:Code}(a:List Nat)(st':St)(k:VX X st' c Q)(h:SM a st=some st':=by kernel_rfl):VX X st c Q:=N0a a h k
theorem fZ{X:Cx}{c:Code}(id:Nat)(st':St)(k:VX X st' c Q)(h:Gq id st=some st':=by kernel_rfl)(a:Nat.blt id 500000=true:=by kernel_rfl):VX X st c Q:=fz id st' h a k
end
def SN(X:Cx)(Γ:p5)(rs:List ResultVar)(ps:List Par){ρ:Type}(R:ρ->AV)(Z:ρ->B6 ps)(r:ρ)(x:Exit)(Q:Exit->Act->World->Prop):Prop :=
 ∀{st:St} {e:ρ},some e=some r->(h:Og Γ st rs ps (R e) (Z e)=some (R e,Z e):=by kernel_rfl)->FX X st x Q
theorem okL{P:Program}{Γ:p5}[g:HG P Γ]{f:FuncId}{ps:List Par}{ρ:Type}[Inhabited ρ]{F:s9 ps->Option ρ}{R:ρ->AV}{Z:ρ->B6 ps}{d:Func}{c:Code}{n:Nat}(rs:List ResultVar)
  (m:P.funcs[f]?=some d) (l:d.ntmps=n) (j:d.results=rs.toArray)
  (h:∀y x r,F x=some r->∀Q,SN (cx P n y) Γ rs ps R Z r .normal Q->SN (cx P n y) Γ rs ps R Z r .ret Q->VX (cx P n y) ⟨L5 0 ps x,H7 0 ps x⟩ c Q)
  (k:d.body=some c:=by rfl) (i:Ar P f=true:=by kernel_rfl) (e:(Nat.ble ps.length n&&Ab ps)=true:=by rfl):Ok P (k6 f ps F R Z) :=
 okl g.h rs m l k j i e (fun y x r H Q a b=>h y x r H Q (fun H h=>a H h) (fun H h=>b H h))
end Go.Proofs.Xv
end
section
namespace Go.Proofs.Xv
open Go Go.Proofs Go.Proofs.Sv
def YL(P:Program)(T:TypeId):Nat->List (Nat×Nat)->List (Option (Nat×Bool))
 | _,[]=>[]
 | k,_ :: r=>ND P T k :: YL P T (k+1) r
theorem C0c{P:Program}{T:TypeId}:∀{l:List (Nat×Nat)} {k:Nat},YL P T k l=l.map (fun x=>some (x.1,true))->RC P T k l
 | [],_,_=>trivial
 | _ :: _,_,h=>⟨(List.cons.inj h).1,C0c (List.cons.inj h).2⟩
abbrev I0X:=(Option (Nat×Nat×Option Value)×Bool×Bool×Bool)×Bool×Option (List (Nat×Nat))×Bool×List (Option (Nat×Bool))×Bool×Option (List (Bool×Bool))×Option TypeDesc
def YM(P:Program)(x:Nat×TI):I0X :=
 ((Rq P x.1,CP x.2.zero.cells.toList x.2.size,Nat.blt 0 x.2.size,ones x.2.zero.cells.toList),match x.2.kd with
 | .agg pl e _=>(Bz P x.1,JK P x.1,NF P x.1,YL P x.1 0 pl,(!e||XA P x.1),XB P x.1,none)
 | .arr _ _=>(Bz P x.1,none,true,[],true,none,P.underlying x.1)
 | .oth=>(X9 P x.1,none,true,[],true,none,none)
 | _=>(X9 P x.1,none,true,[],true,none,P.underlying x.1))
def YN(P:Program)(x:Nat×TI):I0X :=
 ((some (x.2.size,x.2.bytes,some x.2.zero),true,true,true),match x.2.kd with
 | .agg pl _ ag=>(true,some pl,true,pl.map (fun x=>some (x.1,true)),true,some (ag.map fun b=>(b,!b)),none)
 | .arr m E=>(true,none,true,[],true,none,some (.array m E))
 | .sl E=>(true,none,true,[],true,none,some (.slice E))
 | .str=>(true,none,true,[],true,none,some .string)
 | .bool=>(true,none,true,[],true,none,some .bool)
 | .int k=>(true,none,true,[],true,none,some (.int k))
 | .ptr=>(true,none,true,[],true,none,some (.pointer (P.pointee x.1)))
 | .oth=>(true,none,true,[],true,none,none))
theorem K0x{P:Program}{x:Nat×TI}(h:YM P x=YN P x):HI P x.1 x.2:=by
 obtain⟨T,c,b,zero,g,k⟩:=x;unfold YM YN at h;simp only[pj] at h;obtain⟨⟨i,e,j,f⟩,a⟩:=h;refine⟨i,e,j,f,?_⟩;cases g <;> simp only[pj] at a <;> unfold RE
 ·exact⟨a.1,a.2.1,a.2.2.1,C0c a.2.2.2.1,fun d=>by simpa [d] using a.2.2.2.2.1,a.2.2.2.2.2.1⟩
 ·exact⟨a.1,a.2.2.2.2.2.2⟩
 ·exact⟨a.1,a.2.2.2.2.2.2⟩
 ·exact⟨a.1,a.2.2.2.2.2.2⟩
 ·exact⟨a.1,a.2.2.2.2.2.2⟩
 ·exact⟨a.1,a.2.2.2.2.2.2⟩
 ·exact a.1
 ·exact⟨a.1,a.2.2.2.2.2.2⟩
theorem Qw{P:Program}{Γ:p5}(h:Γ.map (YM P)=Γ.map (YN P)):x9 P Γ:=by
 induction Γ with
 | nil=>exact D0n
 | cons x r a =>
   simp only[List.map_cons,List.cons.injEq] at h;exact tK (K0x h.1) (a h.2)
end Go.Proofs.Xv
end
