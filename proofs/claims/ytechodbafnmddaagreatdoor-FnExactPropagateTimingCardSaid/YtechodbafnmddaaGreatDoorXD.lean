/- Calls by contracts. Over any program. -/
import Derived.Test.YtechodbafnmddaaGreatDoorXA
import Derived.KernelRfl
set_option maxHeartbeats 0
section
namespace Go.Proofs.Xv
open Go Go.RowKit Go.Proofs.Sv
theorem Sat.after{X:Cx}{G:Gh}(S:Sat X G){w':World}{go:Option Nat}(m:WE go G.w w'){K':Nat->Prop}(hK:∀k,G.K k->K' k)(aA:∀k,K' k->UFg w' X.w0.heap.size k)(E:∀k,K' k->X.K0 k∨X.base<=k)
  (aC:∀id o b,a8 G.o id=some o->G.γ id=some b->¬K' b) (aD:∀id b,G.δ id b->J3 (a8 G.o id)=true->¬K' b) {a:List (Nat×Ob)}
  (hu:(go=none/\a=[])∨∃id b T cs0 t,∃z:c7 t,go=some b/\a=[(id,Ob.box T (A7 false t z))]/\a8 G.o id=some (.box T cs0)/\G.γ id=some b/\∃us,Blk w' b us T/\RT K' w' t us z) :
  Sat X ⟨G.ρ,G.γ,K',w',a++G.o,G.B,G.δ⟩/\GLe G ⟨G.ρ,G.γ,K',w',a++G.o,G.B,G.δ⟩:=by
 have Y:∀k,G.K k->go≠some k:=fun k q e=>by
  grind
 have W:∀k,G.K k->k<G.w.heap.size->w'.heap[k]?=G.w.heap[k]?:=fun k q hl=>m.block k hl (Y k q)
 -- where the objects stand
 have V:∀i,(∃T cs0 t,∃z:c7 t,a8 (a++G.o) i=some (.box T (A7 false t z))/\a8 G.o i=some (.box T cs0)/\go=G.γ i/\(∃b us,G.γ i=some b/\Blk w' b us T/\RT K' w' t us z))∨(a8 (a++G.o) i=a8 G.o i/\∀o b,a8 G.o i=some o->G.γ i=some b->go≠some b):=fun i=>by
  rcases hu with ⟨rfl,rfl⟩ | ⟨id,b,T,cs0,t,z,rfl,rfl,g,hγ,us,hB,hR⟩
  ·grind
  ·by_cases e:id=i
   ·subst e;exact .inl ⟨T,cs0,t,z,by rw[List.cons_append,lK,if_pos rfl],g,hγ.symm,b,us,hγ,hB,hR⟩
   ·refine .inr ⟨by rw[List.cons_append,lK,if_neg e]; rfl,fun o b' d y e'=>?_⟩;cases e';exact e (S.inj id i _ _ b g d hγ y)
 have l:GLe G ⟨G.ρ,G.γ,K',w',a++G.o,G.B,G.δ⟩:=by
  refine⟨rfl,fun k q hl=>⟨hK k q,W k q hl⟩,fun i T cs hi=>⟨rfl,?_⟩,fun i T Te fr t xs P hi=>⟨rfl,?_⟩,fun i T fr t xs aB hi=>?_⟩
  ·grind
  ·grind
  ·grind
 have f:∀i o,a8 (a++G.o) i=some o->∃o',a8 G.o i=some o':=fun i o h=>by
  grind
 have u:∀i,J3 (a8 (a++G.o) i)=true->J3 (a8 G.o i)=true:=fun i h=>by
  rcases V i with ⟨T',_,t,z,n,_⟩ | ⟨n,_⟩
  ·rw[n] at h; cases h
  grind
 refine⟨⟨S.base,m.os.trans S.os,m.tape.trans S.tape,m.output.trans S.output,Nat.le_trans S.size m.size,fun k q hi=>?_,?_,?_,?_,?_,aA,E,fun i b s hg=>?_,fun i v h=>(S.pin i v h).mono l⟩,l⟩
 rotate_right
 ·have hg:=u i hg;obtain⟨s1,s2,s3,s4⟩:=S.sep i b s hg
  grind
 ·refine(m.block k (Nat.lt_of_lt_of_le q S.size) (fun e=>?_)).trans (S.block k q hi);rcases hu with ⟨rfl,_⟩ | ⟨id,b,T,cs0,t,z,rfl,_,g,hγ,_⟩
  ·cases e
  ·cases e;rcases S.own id _ k g hγ with h | h
   ·omega
   grind
 ·intro i o g;rcases V i with ⟨T,cs0,t,z,n,H,_,b,us,h3,h4,h5⟩ | ⟨n,H⟩
  ·rw[n] at g;cases g;obtain⟨b',aF,r,F,_⟩:=S.obs i _ H;rw[h3] at r;cases r;exact⟨b,us,h3,F,h4,Bm (RT.up h5 (fun k q=>⟨q,(fun e=>by cases e)⟩))⟩
  ·have d:a8 G.o i=some o:=by rw[<- n]; exact g
   have:=S.obs i o d;cases o with
   | box T cs =>
     obtain⟨b,us,r,F,Q,g4⟩:=this;exact⟨b,us,r,F,Q.we m (fun j hj e=>by grind),g4.mono l⟩
   | arr T fr t xs aB =>
     obtain⟨cs,r,F,Q⟩:=this;exact⟨cs,r.we m (fun j hj e=>H _ j d e hj),F.mapR (fun c x hr=>RT.same (w:=G.w) l.hR hr),Q⟩
   | grd T Te fr t xs P =>
     obtain⟨vs,bs,r,F,Q⟩:=this;refine⟨vs,bs,r.we m (fun j hj e=>H _ j d e hj),F.up l (fun _=>Iff.rfl) m (fun b s u=>?_),Q⟩;rcases hu with ⟨rfl,_⟩ | ⟨id,b',T,cs0,t,z,rfl,_,ho2,hγ,_⟩
     ·grind
     ·cases u;exact(S.sep i b s (by rw[d]; rfl)).2.2.1 id _ ho2 hγ
 ·intro i i' o o' b g d s y;obtain⟨o1,n⟩:=f i o g;obtain⟨o2,H⟩:=f i' o' d;exact S.inj i i' o1 o2 b n H s y
 ·grind
 ·intro i o b g s;obtain⟨o1,n⟩:=f i o g;exact S.own i o1 b n s
theorem Sat.add{X:Cx}{G:Gh}(S:Sat X G){id:Nat}{ob:Ob}{r:Value}{g:Option Nat}(hd:a8 G.o id=none)(hg:∀b,g=some b->(X.w0.heap.size<=b∨X.io b)/\¬G.K b/\(∀i o,a8 G.o i=some o->G.γ i≠some b)/\∀i,G.δ i b->J3 (a8 G.o i)=true->False)
  (aA:GLe G (G.put id ob r g G.w)->ObR (G.put id ob r g G.w) id ob):Sat X (G.put id ob r g G.w)/\GLe G (G.put id ob r g G.w):=by
 have d:∀i,a8 (G.put id ob r g G.w).o i=if id=i then some ob else a8 G.o i:=fun i=>lK _ _ _ _
 have E:∀i o,a8 G.o i=some o->¬id=i:=fun i o h e=>by grind
 have f:GLe G (G.put id ob r g G.w):=by
  refine⟨rfl,fun k u _=>⟨u,rfl⟩,fun i T H hi=>?_,fun i T Te y t F n hi=>?_,fun i T y t F z hi=>?_⟩
  ·grind[Gh.put]
  ·grind[Gh.put]
  ·have e:=E i _ hi;rw[d,if_neg e];simp only[Gh.put,if_neg (Ne.symm e)]
   grind
 refine⟨⟨S.base,S.os,S.tape,S.output,S.size,S.block,?_,?_,?_,?_,S.klt,S.kfrom,fun i b c q=>?_,fun i v h=>(S.pin i v h).mono f⟩,f⟩
 rotate_right
 ·obtain⟨hn,c⟩:=c;rw[d,if_neg (Ne.symm hn)] at q;obtain⟨s1,s2,s3,s4⟩:=S.sep i b c q;refine⟨s1,s2,fun j o a x=>?_,fun j x aB=>?_⟩
  ·grind[Gh.put]
  ·obtain⟨aC,x⟩:=x
   grind
 ·intro i o a;rw[d] at a;by_cases e:id=i
  ·grind
  ·rw[if_neg e] at a;have:=S.obs i o a;cases o with
   | box T H =>
     obtain⟨b,us,W,s,P,h4⟩:=this;exact⟨b,us,by grind[Gh.put],by grind[Gh.put],P,h4.mono f⟩
   | arr T y t F z =>
     obtain⟨H,W,s,P⟩:=this;exact⟨H,by grind[Gh.put],s,by grind[Gh.put]⟩
   | grd T Te y t F n =>
     obtain⟨vs,bs,W,s,P⟩:=this;exact⟨vs,bs,by grind[Gh.put],s.up f (fun b=>⟨fun h=>h.2,fun h=>⟨Ne.symm e,h⟩⟩) (WE.refl (g:=none) _) (fun _ _ h=>by cases h),by grind[Gh.put]⟩
 ·intro i Q o Y b a m c l;rw[d] at a m;simp only[Gh.put] at c l;by_cases e:i=id
  ·grind
  ·rw[if_neg e] at c;rw[if_neg (Ne.symm e)] at a;by_cases V:Q=id
   ·grind
   ·rw[if_neg V] at l;rw[if_neg (Ne.symm V)] at m;exact S.inj i Q o Y b a m c l
 ·intro i o b a c u;rw[d] at a;simp only[Gh.put] at c u;by_cases e:i=id
  ·grind
  ·rw[if_neg e] at c;rw[if_neg (Ne.symm e)] at a;exact S.imm i o b a c u
 ·intro i o b a c;rw[d] at a;simp only[Gh.put] at c;by_cases e:i=id
  ·grind
  ·rw[if_neg e] at c;rw[if_neg (Ne.symm e)] at a;exact S.own i o b a c
mutual
def J5(d:Nat):Nat->AV->AV×List (Nat×Ob)×Nat
 | j,.ow T fr t xs=>(.os (1000*j+d) 0,[(1000*j+d,.arr T fr t xs 0)],j+1)
 | j,.ob T xs=>match O7 d j xs with | (ys,o,k)=>(.ptr (1000*k+d) 0,(1000*k+d,.box T ys) :: o,k+1)
 | j,.agg xs=>match O7 d j xs with | (ys,o,k)=>(.agg ys,o,k)
 | j,.tup xs=>match O7 d j xs with | (ys,o,k)=>(.tup ys,o,k)
 | j,.v x=>(.v x,[],j)
 | j,.d fr t x=>(.d fr t x,[],j)
 | j,a=>(a,[],j)
def O7(d:Nat):Nat->List AV->List AV×List (Nat×Ob)×Nat
 | j,[]=>([],[],j)
 | j,a :: r=>match J5 d j a with
   | (b,o,k)=>match O7 d k r with | (s,o',k')=>(b :: s,o'++o,k')
end
theorem XA{a:Type}{l m:List (Nat×a)}{i:Nat}(h:∀x∈l,x.1≠i):a8 (l++m) i=a8 m i:=by
 induction l with
 | nil=>rfl
 | cons x r b =>
   obtain⟨d,v⟩:=x;rw[List.cons_append,lK,if_neg (h (d,v) (by simp))]
   grind
structure XB(X:Cx)(d j k:Nat)(G:Gh)(obs:List (Nat×Ob))(gs:List (Option Nat))(G':Gh):Prop where
 sat:Sat X G'
 le:GLe G G'
 w:G'.w=G.w
 K:G'.K=G.K
 o:G'.o=obs++G.o
 jk:j<=k
 num:∀x∈obs,∃i,j<=i/\i<k/\x.1=1000*i+d
 far:∀b,some b ∉ gs->(∀i o,a8 G.o i=some o->G.γ i≠some b)->∀i o,a8 G'.o i=some o->G'.γ i≠some b
 dl:∀i b,G'.δ i b->J3 (a8 G'.o i)=true->G.δ i b/\J3 (a8 G.o i)=true
def SC(X:Cx)(G:Gh)(gs:List (Option Nat)):Prop:=∀b,some b∈gs->X.w0.heap.size<=b/\¬G.K b/\(∀i o,a8 G.o i=some o->G.γ i≠some b)/\∀i,G.δ i b->J3 (a8 G.o i)=true->False
theorem n0t:∀{g h:List (Option Nat)},Cb (g++h)->Cb g/\Cb h/\∀b,some b∈g->some b ∉ h
 | [],h,k=>⟨trivial,k,fun _ a=>by cases a⟩
 | x :: r,h,⟨k1,k2⟩=>by
   obtain⟨f,d,i⟩:=n0t k2;refine⟨⟨fun b a c=>k1 b a (by simp[c]),f⟩,d,fun b a c=>?_⟩;rcases List.mem_cons.1 a with e | a
   ·exact k1 b e.symm (by simp[c])
   grind
theorem XC{X:Cx}{d j:Nat}{G:Gh}(S:Sat X G){b:List (Option Nat)}:XB X d j j G [] b G :=
 ⟨S,GLe.refl G,rfl,rfl,rfl,Nat.le_refl _,(fun _ h=>by cases h),(fun _ _ h=>h),fun _ _ h a=>⟨h,a⟩⟩
mutual
theorem j0e{X:Cx}{d:Nat}{K:Bool->Nat->Prop}:∀(a:AV) {j k:Nat} {b:AV} {obs:List (Nat×Ob)} {G:Gh} {u:Value} {gs:List (Option Nat)},J5 d j a=(b,obs,k)->Sat X G->(∀fr i,K fr i->rg G fr i)->ResR K G.w a u gs->Cb gs->SC X G gs->(∀x∈obs,a8 G.o x.1=none) ->
  ∃G',XB X d j k G obs gs G'/\AVR G' b u
 | .ow T fr t xs,j,k,b,obs,G,u,gs,h,S,hK,hR,hN,hF,hfr=>by
   simp only[J5,pj] at h;obtain⟨rfl,rfl,rfl⟩:=h;obtain⟨g,cs,rfl,E,hO,hA⟩:=hR;have hd:=hfr _ (List.mem_singleton.2 rfl);have f:=S.add (id:=1000*j+d) (ob:=.arr T fr t xs 0) (r:=u) (g:=g) hd (fun b m=>let h:=hF b (by grind); ⟨.inl h.1,h.2⟩) (fun z=>⟨cs,by grind[Gh.put],hA.mapR (fun c x hr=>RT.same (w:=G.w) (fun k hk _=>⟨hK fr k hk,rfl⟩) hr),fun b e=>by simp only[Gh.put,if_true] at e ⊢; subst e; exact Nat.le_trans S.le (hF b (by simp)).1⟩);refine⟨_,⟨f.1,f.2,rfl,rfl,rfl,Nat.le_succ _,fun x F=>?_,fun b m s i o hi=>?_,fun i b m n=>?_⟩,E,T,fr,t,xs,0,?_,Nat.le_refl _,fun _=>by simp[Gh.put]⟩
   ·cases List.mem_singleton.1 F;exact⟨j,Nat.le_refl _,Nat.lt_succ_self _,rfl⟩
   ·rw[show(Gh.put G (1000*j+d) (.arr T fr t xs 0) u g G.w).o=(1000*j+d,.arr T fr t xs 0) :: G.o from rfl,lK] at hi
    grind[Gh.put]
   ·obtain⟨hn,m⟩:=m;rw[show(Gh.put G (1000*j+d) (.arr T fr t xs 0) u g G.w).o=(1000*j+d,.arr T fr t xs 0) :: G.o from rfl,lK,if_neg (Ne.symm hn)] at n;exact⟨m,n⟩
   ·rw[show(Gh.put G (1000*j+d) (.arr T fr t xs 0) u g G.w).o=(1000*j+d,.arr T fr t xs 0) :: G.o from rfl,lK]; simp
 | .agg xs,j,k,b,obs,G,u,gs,h,S,hK,⟨us,e,hR⟩,hN,hF,hfr=>by
   simp only[J5] at h;cases f:O7 d j xs with
   | mk H r =>
     obtain⟨o,q⟩:=r;rw[f] at h;simp only[pj] at h;obtain⟨rfl,rfl,rfl⟩:=h;obtain⟨G',E,W⟩:=SD xs f S hK hR hN hF hfr;exact⟨G',E,us,e,W⟩
 | .tup xs,j,k,b,obs,G,u,gs,h,S,hK,⟨us,e,hR⟩,hN,hF,hfr=>by
   simp only[J5] at h;cases f:O7 d j xs with
   | mk H r =>
     obtain⟨o,q⟩:=r;rw[f] at h;simp only[pj] at h;obtain⟨rfl,rfl,rfl⟩:=h;obtain⟨G',E,W⟩:=SD xs f S hK hR hN hF hfr;exact⟨G',E,us,e,W⟩
 | .v x,j,k,b,obs,G,u,gs,h,S,hK,⟨hR,e⟩,hN,hF,hfr=>by
   simp only[J5,pj] at h;obtain⟨rfl,rfl,rfl⟩:=h;exact⟨G,XC S,hR⟩
 | .d fr t x,j,k,b,obs,G,u,gs,h,S,hK,⟨hR,e⟩,hN,hF,hfr=>by
   simp only[J5,pj] at h;obtain⟨rfl,rfl,rfl⟩:=h;exact⟨G,XC S,RT.same (w:=G.w) (fun k hk _=>⟨hK fr k hk,rfl⟩) hR⟩
 | .ptr _ _,_,_,_,_,_,_,_,_,_,_,hR,_,_,_=>hR.elim
 | .pel _ _ _ _ _,_,_,_,_,_,_,_,_,_,_,hR,_,_,_=>hR.elim
 | .os _ _,_,_,_,_,_,_,_,_,_,_,hR,_,_,_=>hR.elim
 | .fn _ _,_,_,_,_,_,_,_,_,_,_,hR,_,_,_=>hR.elim
 | .gel _ _,_,_,_,_,_,_,_,_,_,_,hR,_,_,_=>hR.elim
 | .og _,_,_,_,_,_,_,_,_,_,_,hR,_,_,_=>hR.elim
 | .ob T xs,j,k,b,obs,G,u,gs,h,S,hK,⟨b0,us,gs',eg,hu,hB,hR⟩,hN,hF,hfr=>by
   subst eg;simp only[J5] at h;cases f:O7 d j xs with
   | mk H r =>
     obtain⟨o,q⟩:=r;rw[f] at h;simp only[pj] at h;obtain⟨rfl,rfl,rfl⟩:=h;obtain⟨n1,n2⟩:=hN;have Q:=KQ xs f;have z:=KS xs f;obtain⟨P,l,A1⟩:=SD xs f S hK hR n2 (fun b m=>hF b (by grind)) (fun x F=>hfr x (by grind));obtain⟨f1,f2,f3,f4⟩:=hF b0 (by simp);have hd:a8 P.o (1000*q+d)=none:=by
      rw[l.o,XA]
      ·simp_all
      ·intro y hy e;obtain⟨i',aC,aB,aA⟩:=Q y hy;rw[aA] at e;omega
     have f:=l.sat.add (id:=1000*q+d) (ob:=.box T H) (r:=u) (g:=some b0) hd (fun b m=>by
      cases m;exact⟨.inl f1,by rw[l.K]; exact f2,l.far b0 (n1 b0 rfl) f3,fun i hi V=>f4 i (l.dl i b0 hi V).1 (l.dl i b0 hi V).2⟩) (fun z=>⟨b0,us,by simp[Gh.put],by simp[Gh.put,hu],by show Blk P.w b0 us T; rw[l.w]; exact hB,A1.mono z⟩)
     have Y:(Gh.put P (1000*q+d) (.box T H) u (some b0) P.w).o=(1000*q+d,.box T H) :: P.o:=rfl;refine⟨_,⟨f.1,GLe.trans l.le f.2 (by rw[l.w]; exact Nat.le_refl _),l.w,l.K,by rw[Y,l.o]; rfl,by omega,fun x F=>?_,fun b m s i o hi=>?_,fun i b m n=>?_⟩,⟨T,H,by rw[Y,lK,if_pos rfl]⟩,b0,by simp[Gh.put,hu],by rw[hu]⟩
     ·rcases List.mem_cons.1 F with rfl | F
      ·exact⟨q,by omega,by omega,rfl⟩
      ·obtain⟨i,E,W,h3⟩:=l.num x F;exact⟨i,E,by omega,h3⟩
     ·rw[Y,lK] at hi;simp only[Gh.put];by_cases e:i=1000*q+d
      ·grind
      ·rw[if_neg e];rw[if_neg (Ne.symm e)] at hi;exact l.far b (fun h=>m (by simp[h])) s i o hi
     ·obtain⟨hn,m⟩:=m;rw[Y,lK,if_neg (Ne.symm hn)] at n;exact l.dl i b m n
theorem SD{X:Cx}{d:Nat}{K:Bool->Nat->Prop}:∀(as':List AV) {j k:Nat} {bs:List AV} {obs:List (Nat×Ob)} {G:Gh} {us:List Value} {gs:List (Option Nat)},O7 d j as'=(bs,obs,k)->Sat X G->(∀fr i,K fr i->rg G fr i)->ResRs K G.w as' us gs->Cb gs->SC X G gs->(∀x∈obs,a8 G.o x.1=none) ->
  ∃G',XB X d j k G obs gs G'/\AVRs G' bs us
 | [],j,k,bs,obs,G,us,gs,h,S,hK,⟨hR,e⟩,hN,hF,hfr=>by
   simp only[O7,pj] at h;obtain⟨rfl,rfl,rfl⟩:=h;exact⟨G,XC S,hR⟩
 | a :: r,j,k,bs,obs,G,us,gs,h,S,hK,⟨u,us',g1,g2,e1,e2,hR1,hR2⟩,hN,hF,hfr=>by
   subst e1; subst e2;simp only[O7] at h;cases hp:J5 d j a with
   | mk b q =>
     obtain⟨o,Y⟩:=q;rw[hp] at h;simp only at h;cases hp2:O7 d Y r with
     | mk s q =>
       obtain⟨o',k2⟩:=q;rw[hp2] at h;simp only[pj] at h;obtain⟨rfl,rfl,rfl⟩:=h;obtain⟨n1,n2,n3⟩:=n0t hN;obtain⟨T,c,A1⟩:=j0e a hp S hK hR1 n1 (fun b g=>hF b (by simp[g])) (fun x l=>hfr x (by simp[l]));have Q:SC X T g2:=fun b g=>by
        obtain⟨f1,f2,f3,f4⟩:=hF b (by simp[g]);exact⟨f1,by rw[c.K]; exact f2,c.far b (fun h=>n3 b h g) f3,fun i hi E=>f4 i (c.dl i b hi E).1 (c.dl i b hi E).2⟩
       have n:∀x∈o',a8 T.o x.1=none:=fun x l=>by
        obtain⟨i,aA,aB,H⟩:∃i,Y<=i/\i<k2/\x.1=1000*i+d:=by
         exact KQ r hp2 x l
        rw[c.o,XA]
        ·grind
        ·intro y hy e;obtain⟨i',W,V,F⟩:=c.num y hy;rw[F,H] at e;omega
       obtain⟨G2,f,A2⟩:=SD r hp2 c.sat (fun fr i hi=>by obtain⟨v,m⟩:=hK fr i hi; exact⟨by rw[c.K]; exact v,fun e=>by rw[c.le.hB]; exact m e⟩) (by rw[c.w]; exact hR2) n2 Q n;refine⟨G2,⟨f.sat,?_,f.w.trans c.w,f.K.trans c.K,?_,Nat.le_trans c.jk f.jk,?_,?_,fun i b g t=>c.dl i b (f.dl i b g t).1 (f.dl i b g t).2⟩,u,us',rfl,A1.mono f.le,A2⟩
       ·exact GLe.trans c.le f.le (by rw[c.w]; exact Nat.le_refl _)
       ·rw[f.o,c.o,List.append_assoc]
       ·intro x l;rcases List.mem_append.1 l with l | l
        ·obtain⟨i,v,m,P⟩:=f.num x l;exact⟨i,Nat.le_trans c.jk v,m,P⟩
        ·obtain⟨i,v,m,P⟩:=c.num x l;exact⟨i,v,Nat.lt_of_lt_of_le m f.jk,P⟩
       ·intro b g z;exact f.far b (fun h=>g (by simp[h])) (c.far b (fun h=>g (by simp[h])) z)
theorem XD{d:Nat}:∀(a:AV) {j k:Nat} {b:AV} {obs:List (Nat×Ob)},J5 d j a=(b,obs,k)->(∀x∈obs,∃i,j<=i/\i<k/\x.1=1000*i+d)/\j<=k
 | .ow T fr t xs,j,k,b,obs,h=>by
   simp only[J5,pj] at h;obtain⟨rfl,rfl,rfl⟩:=h;refine⟨fun x c=>?_,Nat.le_succ _⟩;cases List.mem_singleton.1 c;exact⟨j,Nat.le_refl _,Nat.lt_succ_self _,rfl⟩
 | .agg xs,j,k,b,obs,h=>by
   simp only[J5] at h;cases hp:O7 d j xs with
   | mk l r =>
     obtain⟨o,f⟩:=r;rw[hp] at h;simp only[pj] at h;obtain⟨rfl,rfl,rfl⟩:=h;exact⟨KQ xs hp,KS xs hp⟩
 | .tup xs,j,k,b,obs,h=>by
   simp only[J5] at h;cases hp:O7 d j xs with
   | mk l r =>
     obtain⟨o,f⟩:=r;rw[hp] at h;simp only[pj] at h;obtain⟨rfl,rfl,rfl⟩:=h;exact⟨KQ xs hp,KS xs hp⟩
 | .v x,j,k,b,obs,h=>by simp only[J5,pj] at h; grind
 | .d fr t x,j,k,b,obs,h=>by simp only[J5,pj] at h; grind
 | .ptr _ _,j,k,b,obs,h=>by simp only[J5,pj] at h; grind
 | .pel _ _ _ _ _,j,k,b,obs,h=>by simp only[J5,pj] at h; grind
 | .os _ _,j,k,b,obs,h=>by simp only[J5,pj] at h; grind
 | .fn _ _,j,k,b,obs,h=>by simp only[J5,pj] at h; grind
 | .gel _ _,j,k,b,obs,h=>by simp only[J5,pj] at h; grind
 | .og _,j,k,b,obs,h=>by simp only[J5,pj] at h; grind
 | .ob T xs,j,k,b,obs,h=>by
   simp only[J5] at h;cases hp:O7 d j xs with
   | mk l r =>
     obtain⟨o,f⟩:=r;rw[hp] at h;simp only[pj] at h;obtain⟨rfl,rfl,rfl⟩:=h;have e:=KQ xs hp;have g:=KS xs hp;refine⟨fun x c=>?_,by omega⟩;rcases List.mem_cons.1 c with rfl | c
     ·exact⟨f,g,by omega,rfl⟩
     ·obtain⟨i,m,q,n⟩:=e x c;exact⟨i,m,by omega,n⟩
theorem KS{d:Nat}:∀(as':List AV) {j k:Nat} {bs:List AV} {obs:List (Nat×Ob)},O7 d j as'=(bs,obs,k)->j<=k
 | [],j,k,bs,obs,h=>by simp only[O7,pj] at h; omega
 | a :: r,j,k,bs,obs,h=>by
   simp only[O7] at h;cases hp:J5 d j a with
   | mk b q =>
     obtain⟨o,c⟩:=q;rw[hp] at h;simp only at h;cases hp2:O7 d c r with
     | mk s q =>
       obtain⟨e,f⟩:=q;rw[hp2] at h;simp only[pj] at h;obtain⟨rfl,rfl,rfl⟩:=h;exact Nat.le_trans (XD a hp).2 (KS r hp2)
theorem KQ{d:Nat}:∀(as':List AV) {j k:Nat} {bs:List AV} {obs:List (Nat×Ob)},O7 d j as'=(bs,obs,k)->∀x∈obs,∃i,j<=i/\i<k/\x.1=1000*i+d
 | [],j,k,bs,obs,h=>by simp only[O7,pj] at h; grind
 | a :: r,j,k,bs,obs,h=>by
   simp only[O7] at h;cases hp:J5 d j a with
   | mk b q =>
     obtain⟨o,l⟩:=q;rw[hp] at h;simp only at h;cases hp2:O7 d l r with
     | mk s q =>
       obtain⟨m,n⟩:=q;rw[hp2] at h;simp only[pj] at h;obtain⟨rfl,rfl,rfl⟩:=h;intro x c;rcases List.mem_append.1 c with c | c
       ·obtain⟨i,e,f,g⟩:=KQ r hp2 x c;exact⟨i,Nat.le_trans (XD a hp).2 e,f,g⟩
       ·obtain⟨i,e,f,g⟩:=(XD a hp).1 x c;exact⟨i,e,Nat.lt_of_lt_of_le f (KS r hp2),g⟩
end
def GW:(ps:List o6)->F0 ps->List AV
 | [],_=>[]
 | .io _ t :: _,z=>A7 false t z
 | .dat _ :: r,z=>GW r z
 | .agg _ :: r,z=>GW r z
 | .fn _ _ :: r,z=>GW r z
 | .nof _ :: r,z=>GW r z
 | .nil :: r,z=>GW r z
 | .os _ _ :: r,z=>GW r z
def Bq(o:List (Nat×Ob))(ps:List o6)(z:F0 ps):Option Nat->List (Nat×Ob)
 | none=>[]
 | some id=>match a8 o id with
   | some (.box T _)=>[(id,.box T (GW ps z))]
   | _=>[]
def DL{α:Type}:List α->Bool
 | []=>true
 | _ :: _=>false
theorem OV{c:Type}{l:List c}(h:DL l=true):l=[]:=by cases l with
 | nil=>rfl
 | cons a b=>cases h
def isNone{α:Type}:Option α->Bool
 | none=>true
 | some _=>false
def FG(o:List (Nat×Ob)):List (Nat×Ob)->Bool
 | []=>true
 | (i,_) :: r=>AO o i&&FG o r
def IU(i:Nat):List Nat->Bool
 | []=>true
 | x :: r=>!Nat.beq x i&&IU i r
def XE(l:List Nat):Option Nat->Bool
 | none=>true
 | some i=>IU i l
def SE:List o6->List AV->Bool
 | .fn f _ :: r,.fn f' _ :: s=>Nat.beq f f'&&SE r s
 | .nof f :: r,.fn f' _ :: s=>Nat.beq f f'&&SE r s
 | _ :: r,_ :: s=>SE r s
 | _,_=>true
/- Data that lead Au new memory alone, or nowhere. -/
mutual
def CZ:AV->Bool
 | .d fr t _=>fr||D8 t
 | .ow _ fr t _=>fr||D8 t
 | .ob _ xs=>KT xs
 | .agg xs=>KT xs
 | .tup xs=>KT xs
 | _=>true
def KT:List AV->Bool
 | []=>true
 | a :: r=>CZ a&&KT r
end
mutual
theorem ResR.fresh{K K':Bool->Nat->Prop}{w:World}(f:∀fr k,K true k->K' fr k):∀{a:AV} {u:Value} {gs:List (Option Nat)},CZ a=true->ResR K w a u gs->ResR K' w a u gs
 | .v _,_,_,_,h=>h
 | .d fr t x,u,gs,hf,⟨h,e⟩=>by
   refine⟨?_,e⟩;simp only[CZ,Bool.or_eq_true] at hf
   grind[RT.up,RT.free]
 | .ow T fr t xs,u,gs,hf,⟨g,cs,h1,h2,h3,h4⟩=>by
   refine⟨g,cs,h1,h2,h3,h4.mapR (fun c x h=>?_)⟩;simp only[CZ,Bool.or_eq_true] at hf
   grind[RT.up,RT.free]
 | .agg xs,u,gs,hf,⟨us,e,h⟩=>⟨us,e,ResRs.fresh f (by grind[CZ]) h⟩
 | .ob T xs,u,gs,hf,⟨b,us,gs',e1,e2,h1,h⟩=>⟨b,us,gs',e1,e2,h1,ResRs.fresh f (by grind[CZ]) h⟩
 | .tup xs,u,gs,hf,⟨us,e,h⟩=>⟨us,e,ResRs.fresh f (by grind[CZ]) h⟩
theorem ResRs.fresh{K K':Bool->Nat->Prop}{w:World}(b:∀fr k,K true k->K' fr k):∀{as':List AV} {us:List Value} {gs:List (Option Nat)},KT as'=true->ResRs K w as' us gs->ResRs K' w as' us gs
 | [],_,_,_,h=>h
 | a :: r,us,gs,hf,⟨u,us',g1,g2,e1,e2,h1,h2⟩=>by
   simp only[KT,ba] at hf;exact⟨u,us',g1,g2,e1,e2,ResR.fresh b hf.1 h1,ResRs.fresh b hf.2 h2⟩
end
def SF(o:List (Nat×Ob))(q:Prop)(rv:AV)(l:List Nat):Option Nat->Option (Prop×AV×List (Nat×Ob)×List Nat)
 | some id=>match rv,a8 o id with
   | .ow T fr t xs,some (.arr _ _ _ _ ver)=>bif D8 t&&DL l then some (q,.os id (ver+1),[(id,.arr T fr t xs (ver+1))],[id]) else none
   | _,_=>none
 | none=>none
def IV(o:List (Nat×Ob))(d f:Nat)(as':List AV):List Ct->Option (Prop×AV×List (Nat×Ob)×List Nat)
 | []=>none
 | c :: r=>bif Nat.beq c.f f&&SE c.ps as' then(match M9 o c.ps as' with
   | some (x,l,io)=>match c.res x with
     | ⟨q,rv,z⟩=>bif H8 c.ps then SF o q rv l io else(match J5 d 0 rv with
       | (av,obs,_)=>bif XE l io&&FG o obs&&(DL l||(CZ rv&&isNone io)) then some (q,av,obs++Bq o c.ps z io,(obs.map Prod.fst)++(l++io.toList)) else none)
   | none=>none) else IV o d f as' r
def DM(T:List Ct)(st:St)(p:Pa)(d:Nat):Op->Option (Prop×AV×List (Nat×Ob)×List Nat)
 | .call ⟨.value x,xs,_⟩=>match rd st p x,N6 st p xs.toList with
   | some (.fn f caps),some as'=>IV st.o d f (as'++caps) T
   | _,_=>none
 | _=>none
def Cl(X:Cx)(G:Gh)(a:Act)(op:Op)(ty:TypeId)(av:AV)(obs:List (Nat×Ob)):Prop :=
 ∃f vs,(∀dst pos after g,(execOp a.eval ⟨dst,op,ty,pos,after,g⟩).run X.P G.w=.ok (.enter f vs) G.w) /\
  Calls X.P f vs G.w fun en w'=>∃v G',en=.returned v/\G'.w=w'/\Sat X G'/\GLe G G'/\G'.o=obs++G.o/\AVR G' av v
theorem j0N{o:List (Nat×Ob)}:∀{l:List (Nat×Ob)},FG o l=true->∀x∈l,a8 o x.1=none
 | [],_,_,h=>by cases h
 | (i,b) :: r,h,x,hx=>by
   simp only[FG,ba] at h;rcases List.mem_cons.1 hx with rfl | hx
   ·grind[FF]
   ·exact j0N h.2 x hx
theorem OW{i:Nat}:∀{l:List Nat},IU i l=true->i ∉ l
 | [],_,h=>by cases h
 | x :: r,h,hx=>by
   simp only[IU,ba,Bool.not_eq_true'] at h;rcases List.mem_cons.1 hx with rfl | hx
   ·simp at h
   ·exact OW h.2 hx
theorem IOR.get{K:Nat->Prop}{w:World}{b:Nat}:∀{ps:List o6} {z:F0 ps} {Ka:Nat->Prop} {wa:World} {x:A4 ps} {vs:List Value},¬H8 ps=true->IOR K w (some b) ps z->ArgsR Ka wa (some b) ps x vs->∃t,∃z':c7 t,∃T us cs0,GW ps z=A7 false t z'/\Blk w b us T/\RT K w t us z'/\Blk wa b cs0 T
 | [],_,_,_,_,_,_,_,h=>by cases h.2
 | .os _ _ :: r,_,_,_,_,_,hv,_,_=>(hv rfl).elim
 | .io T t :: r,z,_,_,x,vs,_,⟨b',cs,e,hB,hR⟩,⟨b2,cs2,us,_,e2,_,hB2,_⟩=>by cases e; cases e2; exact⟨t,z,T,cs,_,rfl,hB,hR,hB2⟩
 | .dat _ :: r,z,_,_,x,vs,hv,h,⟨_,_,_,_,k⟩=>IOR.get (ps:=r) hv h k
 | .agg _ :: r,z,_,_,x,vs,hv,h,⟨_,_,_,_,k⟩=>IOR.get (ps:=r) hv h k
 | .fn _ _ :: r,z,_,_,x,vs,hv,h,⟨_,_,_,_,k⟩=>IOR.get (ps:=r) hv h k
 | .nof _ :: r,z,_,_,x,vs,hv,h,⟨_,_,k⟩=>IOR.get (ps:=r) hv h k
 | .nil :: r,z,_,_,x,vs,hv,h,⟨_,_,k⟩=>IOR.get (ps:=r) hv h k
theorem XF{o:List (Nat×Ob)}:∀{ps:List o6} {as':List AV} {x:A4 ps} {l:List Nat} {io:Option Nat},M9 o ps as'=some (x,l,io)->∀id∈l,∃ob,a8 o id=some ob
 | [],[],x,l,io,h=>by
   simp only[M9,oi,pj] at h
   grind
 | [],_ :: _,x,l,io,h=>by grind[M9]
 | _ :: _,[],x,l,io,h=>by grind[M9]
 | p :: r,a :: as',x,l,io,h=>by
   simp only[M9] at h;split at h
   ·rename_i f d g b;split at h
    ·rename_i y m j e;have i:=XF e;have c:∀id∈d,∃ob,a8 o id=some ob:=by
      unfold CY at b;split at b
      ·split at b
       ·grind[oi,pj,GV]
       grind
      ·split at b
       ·grind[oi,pj,GV]
       grind
      ·rw[ce] at b;split at b
       ·split at b
        ·grind[oi,pj,GV]
        grind
       grind
      ·grind
      ·grind
      ·grind
      ·grind
      ·cases b
     grind
    grind
   grind
theorem z0t{X:Cx}{G:Gh}(S:Sat X G){d:Nat}{aG:List AV}{us:List Value}(hA:AVRs G aG us){ps:List o6}(aL:¬H8 ps=true){x:A4 ps}{l:List Nat}{m:Option Nat}(u:M9 G.o ps aG=some (x,l,m))(aH:XE l m=true) :
  ∃go,KW X.P G.w go (Av G l)/\ArgsR (Av G l) G.w go ps x us/\∀(res:A4 ps->Res ps),FG G.o (J5 d 0 (res x).r).2.1=true/\(DL l||(CZ (res x).r&&isNone m))=true->∀(en:Ending) (w':World),
  (∃v gs,en=.returned v/\WE go G.w w'/\Cb gs/\(∀b,some b∈gs->G.w.heap.size<=b∨(H8 ps=true/\go=some b))/\ResR (fun fr=>IT fr (Av G l) G.w w' gs) w' (res x).r v gs /\
    IOR (fun k=>(Av G l k∨G.w.heap.size<=k)/\UFg w' G.w.heap.size k/\some k ∉ gs/\go≠some k) w' go ps (res x).z) ->
  ∃v G',en=.returned v/\G'.w=w'/\Sat X G'/\GLe G G'/\G'.o=((J5 d 0 (res x).r).2.1++Bq G.o ps (res x).z m)++G.o/\AVR G' (J5 d 0 (res x).r).1 v:=by
 have Y:=XF u;obtain⟨_,go,aK,aC⟩:=KP S Y u (fun _ h=>h) (fun i hi=>by subst hi; exact OW aH) hA;have aP:∀k,Av G l k->k<G.w.heap.size:=by
  rintro k (h | ⟨id,aI,c⟩)
  ·exact(S.klt k h).lt
  ·obtain⟨ob,E⟩:=Y id aI;have:=S.obs id ob E;cases ob with
   | box T cs=>obtain⟨b,us,a,q,s,h4⟩:=this; rw[c] at a; cases a; exact(Xe s).lt
   | arr T fr t xs aQ=>obtain⟨cs,a,q,_⟩:=this; rw[c] at a; exact(GR a).lt
   | grd T Te fr t xs aJ=>obtain⟨vs,bs,a,_⟩:=this; rw[c] at a; exact(GR a).lt
 have aW:∀k,G.K k->go≠some k:=fun k c e=>by
  rcases aC with ⟨_,n⟩ | ⟨id,b,T',cs',_,n,ho',hγ'⟩ | ⟨_,_,_,_,_,_,_,_,_,n⟩
  ·grind
  ·rw[n] at e; cases e; exact S.imm id _ _ ho' hγ' c
  grind
 have aV:WK X.P G.w fun k=>go=some k:=S.wk.sub fun k c=>by
  rcases aC with ⟨_,n⟩ | ⟨id,b,T',cs',_,n,ho',hγ'⟩ | ⟨id,_,_,_,_,_,_,n,ho',_⟩
  ·rw[n] at c; cases c
  ·rw[n] at c; cases c; exact S.own id _ _ ho' hγ'
  ·exact S.own id _ _ ho' (n ▸ c)
 refine⟨go,⟨aP,aV⟩,aK,fun res aM en w' aF=>?_⟩;obtain⟨v,gs,rfl,hw,hN,H,hR,aR⟩:=aF;have hc:(XE l m=true/\FG G.o (J5 d 0 (res x).r).2.1=true)/\(DL l||(CZ (res x).r&&isNone m))=true:=⟨⟨aH,aM.1⟩,aM.2⟩;have H:∀b,some b∈gs->G.w.heap.size<=b:=fun b f=>(H b f).resolve_right (fun h=>aL h.1);have aZ:∀id o b,a8 G.o id=some o->G.γ id=some b->b<G.w.heap.size:=fun id o b E f=>by
  have:=S.obs id o E;cases o with
  | box T cs=>obtain⟨b',us,a,q,s,h4⟩:=this; rw[f] at a; cases a; exact s.lt
  | arr T fr t xs aQ=>obtain⟨cs,a,q,_⟩:=this; exact a.lt b f
  | grd T Te fr t xs aJ=>obtain⟨vs,bs,a,_⟩:=this; exact a.lt b f
 -- the region that data may lead to now
 let K':Nat->Prop:=fun k=>G.K k∨(G.w.heap.size<=k/\UF w' k/\some k ∉ gs)
 have aY:l=[]->∀k,Av G l k->G.K k:=fun aA k c=>by
  subst aA;rcases c with h | ⟨id,aI,_⟩
  ·exact h
  grind
 have aD:l=[]∨(CZ (res x).r=true/\m=none):=by
  have:=hc.2;simp only[Bool.or_eq_true,ba] at this;rcases this with h | ⟨a,q⟩
  ·grind[OV]
  ·refine .inr ⟨a,?_⟩;cases m with
   | none=>rfl
   | some i=>cases q
 obtain⟨KR,aU,hR⟩:∃KR:Bool->Nat->Prop,(∀fr k,KR fr k->K' k/\(fr=true->G.B<=k))/\ResR KR w' (res x).r v gs:=by
  rcases aD with aA | ⟨aB,_⟩
  ·refine⟨_,fun fr k c=>?_,hR⟩;obtain⟨a | a,q,s⟩:=c
   ·grind
   ·exact⟨.inr ⟨a,q.2 a,s⟩,fun _=>Nat.le_trans S.le (Nat.le_trans S.size a)⟩
  ·refine⟨fun _=>IT true (Av G l) G.w w' gs,fun fr k c=>?_,ResR.fresh (fun _ _ h=>h) aB hR⟩;obtain⟨a | a,q,s⟩:=c
   ·grind
   ·exact⟨.inr ⟨a,q.2 a,s⟩,fun _=>Nat.le_trans S.le (Nat.le_trans S.size a)⟩
 have F:(go=none/\Bq G.o ps (res x).z m=[])∨∃id b T Q t,∃z:c7 t,go=some b/\Bq G.o ps (res x).z m=[(id,Ob.box T (A7 false t z))]/\a8 G.o id=some (.box T Q)/\G.γ id=some b/\∃us,Blk w' b us T/\RT K' w' t us z:=by
  rcases aC with ⟨rfl,rfl⟩ | ⟨id,b,T,cs,rfl,rfl,E,hγ⟩ | ⟨_,_,_,_,_,_,_,_,_,e⟩
  rotate_right
  ·grind
  ·exact .inl ⟨rfl,rfl⟩
  ·obtain⟨t,z',T',aO,Q,e,hB,aT,W⟩:=IOR.get aL aR aK;obtain⟨b',bA,a,q,s,h4⟩:=S.obs id _ E;rw[hγ] at a;cases a;have aX:T=T':=by
    unfold Blk at s W;rw[s] at W;simp only[oi,Obj.cells.injEq] at W;exact W.2.1
   subst aX;refine .inr ⟨id,b,T,cs,t,z',rfl,?_,E,hγ,aO,hB,RT.same (w:=w') (fun k c _=>⟨?_,rfl⟩) aT⟩
   ·grind[Bq]
   ·obtain⟨a | a,q,s,h4⟩:=c
    ·grind
    ·exact .inr ⟨a,q.2 a,s⟩
 obtain⟨S1,L1⟩:=Sat.after S hw (K':=K') (fun k c=>.inl c) (by
  rintro k (h | h)
  ·exact(S.klt k h).same hw.size (hw.block k (S.klt k h).lt (aW k h))
  ·exact h.2.1.g) (by
  rintro k (h | h)
  ·exact S.kfrom k h
  ·exact .inr (Nat.le_trans S.base.2.1 (Nat.le_trans S.size h.1))) (by
  rintro id o b E f (h | h)
  ·exact S.imm id o b E f h
  grind) (by
  rintro id b f V (h | h)
  ·exact(S.sep id b f V).2.1 h
  ·have:=S.dlt f V; omega) F
 have aS:∀i o,a8 (Bq G.o ps (res x).z m++G.o) i=some o->∃o',a8 G.o i=some o':=fun i o h=>by
  rcases F with ⟨_,e⟩ | ⟨id,b,T,Q,t,z,_,e,E,_⟩
  ·rw[e] at h; exact⟨o,h⟩
  ·rw[e,List.cons_append,lK] at h;by_cases n:id=i
   ·subst n; exact⟨_,E⟩
   ·rw[if_neg n] at h; exact⟨o,h⟩
 have aN:∀i,J3 (a8 (Bq G.o ps (res x).z m++G.o) i)=true->J3 (a8 G.o i)=true:=fun i h=>by
  rcases F with ⟨_,e⟩ | ⟨id,b,T,Q,t,z,_,e,E,_⟩
  ·grind
  ·rw[e,List.cons_append,lK] at h;by_cases n:id=i
   ·rw[if_pos n] at h; cases h
   grind
 have hF:SC X ⟨G.ρ,G.γ,K',w',Bq G.o ps (res x).z m++G.o,G.B,G.δ⟩ gs:=fun b f=>by
  refine⟨Nat.le_trans S.size (H b f),?_,fun i o hi e=>?_,fun i hi V=>?_⟩
  ·rintro(h | h)
   ·have:=(S.klt b h).lt; have:=H b f; omega
   grind
  ·grind
  ·have:=S.dlt hi (aN i V);have:=H b f;omega
 have aB:∀y∈(J5 d 0 (res x).r).2.1,a8 (Bq G.o ps (res x).z m++G.o) y.1=none:=fun y hy=>by
  grind[j0N,a8,Bq]
 obtain⟨G',P,hv⟩:=j0e (K:=KR) (res x).r (d:=d) (j:=0) rfl S1 aU hR hN hF aB;refine⟨v,G',rfl,P.w,P.sat,GLe.trans L1 P.le hw.size,?_,hv⟩;rw[P.o,List.append_assoc]
theorem j0G{X:Cx}{G:Gh}(S:Sat X G){d f:Nat}{Q:List AV}{us:List Value}(hA:AVRs G Q us):∀{T:List Ct},(∀c∈T,Ok X.P c)->∀{q:Prop} {av:AV} {obs:List (Nat×Ob)} {fp:List Nat},IV G.o d f Q T=some (q,av,obs,fp)->q ->
  BX X.P f=true/\Calls X.P f us.toArray G.w fun en w'=>∃v G',en=.returned v/\G'.w=w'/\Sat X G'/\GLe G G'/\G'.o=obs++G.o/\AVR G' av v
 | [],_,q,av,obs,fp,h,_=>by cases h
 | c :: r,hT,q,av,obs,fp,h,hq=>by
   have hr:=j0G S (d:=d) hA (T:=r) (fun c hc=>hT c (by grind)) (f:=f) (q:=q) (av:=av) (obs:=obs) (fp:=fp);simp only[IV,ce] at h;split at h
   ·rename_i hf;rw[ba] at hf;have hf:=nb hf.1;split at h
    ·rename_i x l io a;by_cases F:H8 c.ps=true
     ·rw[if_pos F] at h;unfold SF at h;split at h
      ·rename_i id;split at h
       ·rename_i T fr t xs E' aC t' aD j aF ho;rw[ce] at h;split at h
        ·rename_i n;rw[ba] at n;have aA:=OV n.2;subst aA;simp only[oi,pj] at h;obtain⟨rfl,rfl,rfl,_⟩:=h;obtain⟨W,s⟩:=hT c (by simp);refine⟨by grind,?_⟩;have Y:=XF a;obtain⟨_,go,z,u⟩:=KP S Y a (fun _ h=>h) (fun i hi h=>by cases h) hA;have u:go=G.γ id:=by
          rcases u with ⟨e,_⟩ | ⟨id',b,T',cs',e,_,ho',_⟩ | ⟨id',_,_,_,_,_,e,hg,_⟩
          ·cases e
          ·grind
          ·grind
         subst u;obtain⟨_,_,_,aG⟩:=S.obs id _ ho;have y:∀k,Av G [] k->k<G.w.heap.size:=by
          rintro k (h | ⟨id,aI,hk⟩)
          ·exact(S.klt k h).lt
          ·grind
         rw[<- hf];refine Calls.mono (s x hq G.w us (G.γ id) (Av G []) ⟨y,S.wk.sub fun k hk=>S.own id _ k ho hk⟩ z) ?_;rintro en w' ⟨v,gs,rfl,hw,hN,aL,hR,aK⟩;rw[aF] at hR;obtain⟨g,cs,rfl,V,hO,aH⟩:=hR;have H:∀b,g=some b->G.γ id=some b∨G.w.heap.size<=b:=fun b hb=>by
          grind
         have m:=S.put (id:=id) (ob:=.arr T fr t xs (j+1)) (r:=v) (g:=g) (w':=w') (go:=G.γ id) ⟨(fun T cs h=>by grind),(fun T aC t' aD aM h=>by grind),by rw[ho]; rfl⟩
          (fun b hb=>⟨⟨_,ho⟩,hb⟩) hw H
          (fun aJ=>⟨cs,by grind[Gh.put],aH.mapR (fun c x h=>RT.free n.1 h),fun b e=>by
            simp only[Gh.put,if_true] at e ⊢;rcases H b e with h | h
            ·exact aG b h
            ·exact Nat.le_trans S.le (Nat.le_trans S.size h)⟩)
         exact⟨v,_,rfl,rfl,m.1,m.2,rfl,V,T,fr,t,xs,j+1,by rw[show(Gh.put G id (.arr T fr t xs (j+1)) v g w').o=(id,.arr T fr t xs (j+1)) :: G.o from rfl,lK]; simp,Nat.le_refl _,fun _=>by simp[Gh.put]⟩
        ·cases h
       ·cases h
      ·cases h
     rw[if_neg F] at h;split at h
     ·rename_i hc;simp only[ba] at hc;simp only[oi,pj] at h;obtain⟨rfl,rfl,rfl,_⟩:=h;obtain⟨W,s⟩:=hT c (by simp);refine⟨by grind,?_⟩;obtain⟨go,y,z,aB⟩:=z0t S (d:=d) hA F a hc.1.1;rw[<- hf];exact Calls.mono (s x hq G.w us go (Av G l) y z) (fun en w' E=>aB c.res ⟨hc.1.2,hc.2⟩ en w' E)
     grind
    grind
   grind
theorem l0p{X:Cx}{G:Gh}{a:Act}{st:St}{p:Pa}{T:List Ct}(H:∀c∈T,Ok X.P c)(S:Sat X G)(E:G.o=st.o)(l:EnvR X.n G st.e a)(s:PathP p a){t:Op}{ty:TypeId}{d:Nat}{q:Prop}{r:AV}{obs:List (Nat×Ob)}{fp:List Nat}
  (h:DM T st p d t=some (q,r,obs,fp)) (F:q):Cl X G a t ty r obs:=by
 unfold DM at h;split at h
 ·rename_i x m Ts;split at h
  ·rename_i f k u y w;obtain⟨cs,W,v⟩:=D9 l s y;have V:=Ca l s w;rw[<- E] at h;obtain⟨i,b⟩:=j0G S (AVRs.app v V) H h F;refine⟨f,_,fun z Y j g=>?_,b⟩
   haveI:C7 X.P f:=⟨i⟩
   have Q:m.map a.eval=(m.toList.map a.eval).toArray:=by grind
   simp only[execOp,resolve,Q,W];simp[Deferred.ofValue,invoke,Sb]
  grind
 grind
def Cc(Γ:p9)(st:St)(p:Pa)(d:Nat):Op->Option (Prop×AV×List (Nat×Ob)×List Nat)
 | .load T x=>match rd st p x,a8 Γ T with
   | some (.gel id k),some ⟨_,_,_,.sl _,_⟩=>match a8 st.o id with
     | some (.grd T0 Te fr t xs none)=>bif AO st.o d then some (k<xs.length,.os d 0,[(d,.arr Te fr t (xs.getD k []) 0),(id,.grd T0 Te fr t xs (some k))],[d,id]) else none
     | _=>none
   | _,_=>none
 | .slice T x l h none=>match rd st p x,V0 st p l,V0 st p h,a8 Γ T with
   | some (.os id ver),some lo,some none,some ⟨_,_,_,.sl E,_⟩=>match a8 Γ E,a8 st.o id with
     | some te,some (.arr E' fr t xs ver')=>bif Nat.beq ver ver'&&Nat.beq te.size (sz t) then some (OU (lo.getD 0) xs.length xs.length,.os id (ver+1),[(id,.arr E' fr t (IS xs lo none) (ver+1))],[id]) else none
     | _,_=>none
   | _,_,_,_=>none
 | _=>none
def Da(Γ:p9)(st:St)(p:Pa):Op->Option (Prop×List (Nat×Ob)×List Nat)
 | .store T x y=>match rd st p x,rd st p y,a8 Γ T with
   | some (.gel id k),some (.os d ver),some ti=>match a8 st.o id,a8 st.o d with
     | some (.grd T0 Te fr t xs (some k')),some (.arr Te' fr' t' l ver')=>match Z4 (.sl t') (.sl t) l with
       | some l'=>bif Nat.beq ver ver'&&Nat.beq Te Te'&&Nat.beq ti.size 1 then some (k<xs.length/\k=k',[(id,.grd T0 Te (fr&&fr') t (xs.set k l') none),(d,.arr Te' fr' t' [] (ver+1))],[id,d]) else none
       | none=>none
     | _,_=>none
   | _,_,_=>none
 | _=>none
def Ml(X:Cx)(G:Gh)(a:Act)(op:Op)(ty:TypeId)(av:AV)(obs:List (Nat×Ob)):Prop :=
 ∃v G',(∀dst pos after g,(execOp a.eval ⟨dst,op,ty,pos,after,g⟩).run X.P G.w=.ok (.value v) G'.w)/\Sat X G'/\GLe G G'/\G'.o=obs++G.o/\AVR G' av v
def Ul(X:Cx)(G:Gh)(a:Act)(op:Op)(ty:TypeId)(obs:List (Nat×Ob)):Prop :=
 ∃G',(∀dst pos after g,(execOp a.eval ⟨dst,op,ty,pos,after,g⟩).run X.P G.w=.ok .skip G'.w)/\Sat X G'/\GLe G G'/\G'.o=obs++G.o
theorem w0a{a:Type}{l:List a}{k:Nat}(b:k<l.length)(z:a):l[k]?=some (l.getD k z):=by grind
section
variable {X:Cx} {G:Gh} {a:Act} {st:St} {Γ:p9} {p:Pa}
theorem D0z(S:Sat X G){id d k:Nat}{n Te:TypeId}{fr:Bool}{t:Ty}{xs:List (List (c7 t))}(F:a8 G.o id=some (.grd n Te fr t xs none))(hd:a8 G.o d=none)(u:k<xs.length){vs:List Value}{l:Nat->Option Nat}
  (Y:Own G.w n 1 (G.γ id) (G.ρ id) xs.length vs) (f:Rows G id Te fr t xs none vs l) (hB:∀b,G.γ id=some b->G.B<=b) :
  ∃G',Sat X G'/\GLe G G'/\G'.w=G.w/\G'.o=[(d,.arr Te fr t (xs.getD k []) 0),(id,.grd n Te fr t xs (some k))]++G.o/\AVR G' (.os d 0) (vs.getD k (.bool false)):=by
 have aA:¬id=d:=fun e=>by grind
 obtain⟨cs,V,W,Q⟩:=f.row k u (fun h=>by cases h);have s:∀b j,j<xs.length->l j=some b->(X.w0.heap.size<=b∨X.io b)/\¬G.K b/\(∀i o,a8 G.o i=some o->G.γ i≠some b)/\∀i,G.δ i b->J3 (a8 G.o i)=true->id=i:=fun b j a c=>S.sep id b ((f.blk b).2 ⟨j,a,(fun h=>by cases h),c⟩) (by rw[F]; rfl)
 have h1:=S.grd (id:=id) (T':=n) (Te':=Te) (fr':=fr) (t':=t) (xs':=xs) (hole':=some k) (D:=fun b=>∃j,j<xs.length/\j≠k/\l j=some b) (w':=G.w) (go:=none) F (fun _ e=>by cases e) (WE.refl _)
  (fun b ⟨j,a,_,c⟩=>by
    grind)
  (fun E=>⟨vs,l,Y,⟨f.len,fun b=>⟨fun h=>?_,fun⟨j,a,hh,c⟩=>.inl ⟨rfl,j,a,(fun e=>hh (by rw[e])),c⟩⟩,fun j j' b a v _ _ c y=>f.inj j j' b a v (fun h=>by cases h) (fun h=>by cases h) c y,fun j a _=>f.row j a (fun h=>by cases h),f.one⟩,hB⟩)
 ·obtain⟨S1,L1⟩:=h1;have q:∀i,a8 (G.grd id (.grd n Te fr t xs (some k)) (fun b=>∃j,j<xs.length/\j≠k/\l j=some b) G.w).o i=if id=i then some (.grd n Te fr t xs (some k)) else a8 G.o i:=fun i=>lK _ _ _ _
  have h2:=S1.add (id:=d) (ob:=.arr Te fr t (xs.getD k []) 0) (r:=vs.getD k (.bool false)) (g:=l k) (by grind)
   (fun b c=>by
     obtain⟨s1,s2,H,s4⟩:=s b k u c;refine⟨s1,s2,fun i o hi=>?_,fun i hi z=>?_⟩
     ·rw[q] at hi;by_cases e:id=i
      ·subst e; exact H _ _ F
      ·rw[if_neg e] at hi; exact H i o hi
     ·rw[q] at z;rcases hi with ⟨_,j,a,m,x⟩ | ⟨hi,hib⟩
      ·exact m (f.inj j k b a u (fun h=>by cases h) (fun h=>by cases h) x c)
      ·rw[if_neg (Ne.symm hi)] at z;exact hi (s4 i hib z).symm)
   (fun E=>⟨cs,by simp only[Gh.put,if_true]; exact V,W,fun b e=>by simp only[Gh.put,if_true] at e ⊢; exact Q b e⟩)
  obtain⟨T,P⟩:=h2;refine⟨_,T,L1.trans P (Nat.le_refl _),rfl,rfl,f.one _ ?_,Te,fr,t,xs.getD k [],0,by rw[show ∀G0:Gh,(Gh.put G0 d (.arr Te fr t (xs.getD k []) 0) (vs.getD k (.bool false)) (l k) G0.w).o=(d,.arr Te fr t (xs.getD k []) 0) :: G0.o from fun _=>rfl,lK]; simp,Nat.le_refl _,fun _=>by simp[Gh.put]⟩;exact List.mem_of_getElem? (w0a (by rw[f.len]; exact u) _)
 ·rcases h with ⟨_,j,a,m,c⟩ | ⟨h,_⟩
  ·exact⟨j,a,(fun e=>m (Option.some.inj e).symm),c⟩
  ·exact(h rfl).elim
theorem y0s{w:World}{E s:Nat}{g:Option Nat}{d:Option Addr}{n a:Nat}{cs:List Value}(h:Own w E s g (.slice d n a) n cs){k:Nat}(i:k<=n):∃g',(g'=none∨g'=g)/\n<=a/\Own w E s g' (.slice (if a=k then d else d.map (·.add (k*s))) (n-k) (a-k)) (n-k) (cs.drop (k*s)):=by
 have f:=h.clen;rcases h with ⟨rfl,rfl,rfl,p,e⟩ | ⟨b,o,c,cur,rfl,e,h1,h2,h3,h4,rfl⟩
 ·cases e;have:k=0:=by omega
  subst this;exact⟨none,.inl rfl,Nat.le_refl _,.inl ⟨rfl,rfl,by simp,d,by simp⟩⟩
 ·cases e;by_cases j:a=k
  ·refine⟨none,.inl rfl,h2,.inl ⟨rfl,by omega,?_,some ⟨b,o,none⟩,?_⟩⟩
   ·grind
   grind
  ·refine⟨some b,.inr rfl,h2,.inr ⟨b,o+k*s,a-k,cur,rfl,?_,h1,by omega,by omega,?_,?_⟩⟩
   ·grind[Addr.add]
   ·have:=Nat.mul_le_mul_right s (show k<=a by omega)
    grind[Nat.sub_mul]
   grind[List.drop_take,List.drop_drop,Nat.sub_mul]
theorem l0E(u:B6 X.P Γ)(S:Sat X G)(hE:EnvR X.n G st.e a)(hp:PathP p a){T E j ty id ver:Nat}{s0 y0:Nat}{z0:Value}{aF:Ty}{x:Operand}{l h:Option Operand}{lo:Option Int}{fr:Bool}{t:Ty}{xs:List (c7 t)}{F:TI}
  (hT:a8 Γ T=some ⟨s0,y0,z0,.sl E,aF⟩) (aA:a8 Γ E=some F) (W:a8 G.o id=some (.arr j fr t xs ver)) (hs:F.size=sz t) (hx:AVR G (.os id ver) (a.eval x)) (hl:V0 st p l=some lo) (hh:V0 st p h=some none) (hq:OU (lo.getD 0) xs.length xs.length) :
  Ml X G a (.slice T x l h none) ty (.os id (ver+1)) [(id,.arr j fr t (IS xs lo none) (ver+1))]:=by
 obtain⟨_,T1,aN,t1,aK,aJ,g1,g2,g3⟩:=hx;rw[W] at g1;cases g1;have hu:=g3 rfl;obtain⟨cs,hO,hA,aH⟩:=S.obs id _ W;obtain⟨q,d,hv⟩:=hO.len;rw[hv] at hO hu;have hU:=(u T _ hT).2.2.2.2.2;have hI:Info X.P E F.size F.bytes F.zero:=⟨(u E _ aA).1⟩;obtain⟨aP,i,h2,h3,h5⟩:=hI.get;have v:IS xs lo none=xs.drop (lo.getD 0).toNat:=by
  rw[w0u xs lo none hq];simp
 rw[v];have aC:h=none:=by
  rcases Sx hE hp hh with ⟨m,_⟩ | ⟨y,n,k,_,Y,_⟩
  ·exact m
  ·cases Y
 subst aC;have aD:(∃n k,l=some n/\a.eval n=.int k (lo.getD 0))∨(l=none/\lo.getD 0=0):=by
  rcases Sx hE hp hl with ⟨m,Y⟩ | ⟨y,n,k,m,Y,e3⟩
  ·grind
  ·grind
 generalize lo.getD 0=l0 at *
 obtain⟨q1,q2,q3⟩:=hq;have hk:l0.toNat<=xs.length:=by omega
 obtain⟨g',H,aI,aG⟩:=y0s hO hk;have V:∀z Q f g,(execOp a.eval ⟨z,.slice T x l none none,ty,Q,f,g⟩).run X.P G.w=.ok (.value (.slice (if d=l0.toNat then q else q.map (·.add (l0.toNat*sz t))) (xs.length-l0.toNat) (d-l0.toNat))) G.w:=by
  intro z Q f g;rcases aD with ⟨n1,k1,rfl,m⟩ | ⟨rfl,m⟩
  ·have r2:=run_sliceBound (P:=X.P) (w:=G.w) k1 l0 xs.length .sliceB q1 q2;simp[execOp,hu,Instr.sliceAt,Instr.slice,Instr.sliceBounds,run_underlying hU,Result.andThen,X3 G.w i,h2,hs,m,r2]
  ·simp[execOp,hu,Instr.sliceAt,Instr.slice,Instr.sliceBounds,run_underlying hU,Result.andThen,X3 G.w i,h2,hs,m]
 have h:=S.put (id:=id) (ob:=.arr j fr t (xs.drop l0.toNat) (ver+1)) (r:=.slice (if d=l0.toNat then q else q.map (·.add (l0.toNat*sz t))) (xs.length-l0.toNat) (d-l0.toNat)) (g:=g') (w':=G.w) (go:=G.γ id) ⟨(fun T cs h=>by grind),(fun T aL t' aM aO h=>by grind),by rw[W]; rfl⟩
  (fun b s=>⟨⟨_,W⟩,s⟩) (WE.refl _) (fun b s=>by
    rcases H with h | h
    ·rw[h] at s; cases s
    ·exact .inl (h ▸ s))
  (fun aB=>⟨cs.drop (l0.toNat*sz t),by simp only[Gh.put,if_true,List.length_drop]; exact aG,(AllR.takeD (fun c y hy=>RT.len hy) l0.toNat hA).2.mapR (fun c x hr=>RT.same (w:=G.w) aB.hR hr),fun b e=>by
    simp only[Gh.put,if_true] at e ⊢;rcases H with h | h
    ·rw[h] at e; cases e
    ·exact aH b (h ▸ e)⟩)
 exact⟨_,G.put id (.arr j fr t (xs.drop l0.toNat) (ver+1)) (.slice (if d=l0.toNat then q else q.map (·.add (l0.toNat*sz t))) (xs.length-l0.toNat) (d-l0.toNat)) g' G.w,V,h.1,h.2,rfl,rfl,j,fr,t,xs.drop l0.toNat,ver+1,by rw[show(Gh.put G id (.arr j fr t (xs.drop l0.toNat) (ver+1)) _ _ _).o=(id,.arr j fr t (xs.drop l0.toNat) (ver+1)) :: G.o from rfl,lK]; simp,Nat.le_refl _,fun _=>by simp[Gh.put]⟩
theorem t0a(W:B6 X.P Γ)(S:Sat X G)(ho:G.o=st.o)(hE:EnvR X.n G st.e a)(hp:PathP p a){op:Op}{ty:TypeId}{d:Nat}{q:Prop}{r:AV}{obs:List (Nat×Ob)}{l:List Nat}
  (h:Cc Γ st p d op=some (q,r,obs,l)) (hq:q):Ml X G a op ty r obs:=by
 unfold Cc at h;split at h
 ·rename_i T x;split at h
  ·rename_i id k s0 y0 z0 E aA h1 h2;split at h
   ·rename_i T0 Te fr t xs H;rw[ce] at h;split at h
    ·rename_i F;simp only[oi,pj] at h;obtain⟨rfl,rfl,rfl,_⟩:=h;rw[<- ho] at H F;have V:=D9 hE hp h1;obtain⟨_,b,o,n,c,s,V⟩:=V;obtain⟨y,bs,z,hR,hB⟩:=S.obs id _ H;have Q:G.γ id=some b:=by
      rcases z with ⟨_,hn,_⟩ | ⟨b',o',cap,cur,Q,f,_⟩
      ·omega
      ·rw[s] at f;simp only[Value.slice.injEq,oi,Addr.mk.injEq] at f;rw[Q,f.1.1]
     have j:At G.w b o y:=by rw[Q] at z; obtain⟨o0,c0,e0,j⟩:=z.at; rw[s] at e0; cases e0; exact j
     have u:=w0a (by rw[hR.len]; exact hq:k<y.length) (.bool false);have m:At G.w b (o+k) [y.getD k (.bool false)]:=by
      intro i v f;cases i with
      | zero =>
        simp only[List.getElem?_cons_zero,oi] at f;subst f;have:=j k _ u;omega
      | succ i=>grind
     obtain⟨v,aD,f⟩:=r0g (ty:=ty) (cs:=[.v (y.getD k (.bool false))]) (av:=.v (y.getD k (.bool false))) hE (W _ _ h2) V m ⟨_,[],rfl,rfl,rfl⟩ rfl;have f:v=_:=f;subst f;obtain⟨G',S',L',hw,aB,hr⟩:=D0z S H (FF F) hq z hR hB;exact⟨_,G',fun aG aH Y g=>by grind,S',L',aB,hr⟩
    grind
   grind
  grind
 ·rename_i T x l0 h0;split at h
  ·rename_i id aF lo s0 y0 z0 E aA h1 h2 H h4;split at h
   ·rename_i te E' fr t xs aC h5 h6;rw[ce] at h;split at h
    ·rename_i F;rw[ba] at F
     grind[oi,pj,nb,l0E,D9]
    grind
   grind
  grind
 grind
theorem x0W{vs:List Value}{k j:Nat}{u z:Value}(a:k<vs.length):(r8 vs k [u]).getD j z=if j=k then u else vs.getD j z:=by
 grind[r8]
theorem E0U(aT:B6 X.P Γ)(S:Sat X G){id d k ver:Nat}{T0 Te T ty:TypeId}{fr fr':Bool}{t:Ty}{xs:List (List (c7 t))}{l:List (c7 t)}{x y:Operand}{ti:TI}(hT:a8 Γ T=some ti)(hs:ti.size=1)
  (ho:a8 G.o id=some (.grd T0 Te fr t xs (some k))) (hd:a8 G.o d=some (.arr Te fr' t l ver)) (hk:k<xs.length) (hx:AVR G (.gel id k) (a.eval x)) (hy:AVR G (.os d ver) (a.eval y)) :
  Ul X G a (.store T x y) ty [(id,.grd T0 Te (fr&&fr') t (xs.set k l) none),(d,.arr Te fr' t [] (ver+1))]:=by
 haveI:Info X.P T ti.size ti.bytes ti.zero:=⟨(aT T _ hT).1⟩
 have F:¬d=id:=fun e=>by grind
 obtain⟨_,b,o,n,c,aC,aZ⟩:=hx;obtain⟨y0,T1,bJ,t1,bI,bC,g1,g2,g3⟩:=hy;rw[hd] at g1;cases g1;have aW:=g3 rfl;obtain⟨cs,bA,hA,bL⟩:=S.obs d _ hd;have aM:Own G.w Te (sz t) (G.γ d) (a.eval y) l.length cs:=by rw[aW]; exact bA
 -- the row lets go of its block
 have h1:=S.put (id:=d) (ob:=.arr Te fr' t [] (ver+1)) (r:=.slice none 0 0) (g:=none) (w':=G.w) (go:=none) ⟨(fun T cs h=>by grind),(fun T fr' t' xs' bK h=>by grind),by rw[hd]; rfl⟩
  (fun _ e=>by cases e) (WE.refl _) (fun _ e=>by cases e) (fun aD=>⟨[],by simp only[Gh.put,if_true]; exact Own.nil,rfl,fun b e=>by grind[Gh.put]⟩)
 generalize hG1:G.put d (.arr Te fr' t [] (ver+1)) (.slice none 0 0) none G.w=G1 at h1;obtain⟨S1,L1⟩:=h1;have aG:G1.w=G.w:=by rw[<- hG1]; rfl
 have aV:G1.K=G.K:=by rw[<- hG1]; rfl
 have aY:G1.B=G.B:=by rw[<- hG1]; rfl
 have z:∀i,a8 G1.o i=if d=i then some (.arr Te fr' t [] (ver+1)) else a8 G.o i:=fun i=>by rw[<- hG1]; exact lK _ _ _ _
 have W:∀i,i≠d->G1.ρ i=G.ρ i:=fun i hi=>by grind[Gh.put]
 have V:∀i,i≠d->G1.γ i=G.γ i:=fun i hi=>by rw[<- hG1]; simp only[Gh.put,if_neg hi]
 have bF:G1.γ d=none:=by rw[<- hG1]; simp only[Gh.put,if_true]
 have aI:∀i b,G1.δ i b↔i≠d/\G.δ i b:=fun i b=>by rw[<- hG1]; exact Iff.rfl
 have s:a8 G1.o id=some (.grd T0 Te fr t xs (some k)):=by rw[z,if_neg F]; exact ho
 obtain⟨vs,bs,hO,hR,hB⟩:=S1.obs id _ s;have hb:G1.γ id=some b:=by
  rcases hO with ⟨_,hn,_⟩ | ⟨f,o',cap,cur,hb,q,_⟩
  ·omega
  ·rw[W id (Ne.symm F),aC] at q;simp only[Value.slice.injEq,oi,Addr.mk.injEq] at q;rw[hb,q.1.1]
 have aP:G.γ id=some b:=by rw[<- V id (Ne.symm F)]; exact hb
 -- the store
 have aF:=hO;rw[hb] at aF;rcases aF with ⟨h,_⟩ | ⟨f,o',cap,cur,m,hv2,k1,k2,k3,k4,k5⟩
 ·cases h
 cases m;have Q:G1.ρ id=.slice (some ⟨b,o,none⟩) n c:=(W id (Ne.symm F)).trans aC;have aO:o'=o:=by rw[Q] at hv2; cases hv2; rfl
 subst aO;have bD:cur.toList.length=o'+cap:=by rw[Array.length_toList,k4,Nat.mul_one]
 have H:(a.eval y).cells.toList=[a.eval y]:=by
  have:=y0;cases q:a.eval y <;> rw[q] at this <;> first | rfl | (simp[Value.oneCell'] at this)
 have aX:Blk G.w b cur.toList T0:=by unfold Blk; rw[Array.toArray_toList]; rw[aG] at k1; exact k1
 have aQ:=GQ (P:=X.P) (T:=T) (o:=o'+k) (v:=a.eval y) H (by rw[hs]; rfl) (Q7 (fun u hu=>by cases List.mem_singleton.1 hu; exact y0)) aX (by simp only[List.length_singleton]; omega);have hW:=KG G.w b (r8 cur.toList (o'+k) [a.eval y]).toArray;have aB:k<vs.length:=by rw[hR.len]; exact hk
 have Y:Own (G.w.setRow b (r8 cur.toList (o'+k) [a.eval y]).toArray) T0 1 (G1.γ id) (G1.ρ id) xs.length (r8 vs k [a.eval y]):=by
  rw[hb] at hO ⊢;have:=Own.set (w':=G.w.setRow b (r8 cur.toList (o'+k) [a.eval y]).toArray) (k:=k) (vs:=[a.eval y]) hO Q hk rfl (fun bE aL=>by
   rw[k1] at aL;cases aL;rw[Nat.mul_one]
   grind[setRow_heap])
  rwa [Nat.mul_one] at this
 have bB:∀f,G.γ d=some f->(X.w0.heap.size<=f∨X.io f)/\¬G.K f/\(∀i o,a8 G1.o i=some o->G1.γ i≠some f)/\∀i,G1.δ i f->J3 (a8 G1.o i)=true->False:=fun f m=>by
  refine⟨S.own d _ f hd m,S.imm d _ f hd m,fun i o hi hg=>?_,fun i hi hg=>?_⟩
  ·by_cases e:i=d
   ·grind
   ·rw[z,if_neg (Ne.symm e)] at hi;rw[V i e] at hg;exact e (S.inj i d _ _ f hi hd hg m)
  ·obtain⟨e,hi⟩:=(aI i f).1 hi;rw[z,if_neg (Ne.symm e)] at hg;exact(S.sep i f hi hg).2.2.1 d _ hd m
 have h2:=S1.grd (id:=id) (T':=T0) (Te':=Te) (fr':=fr&&fr') (t':=t) (xs':=xs.set k l) (hole':=none) (D:=fun f=>G1.δ id f∨G.γ d=some f) (w':=G.w.setRow b (r8 cur.toList (o'+k) [a.eval y]).toArray) (go:=some b) s (fun f e=>by grind) (by grind[WE.of_wr])
  (fun f m=>by
    rcases m with m | m
    ·obtain⟨s1,s2,s3,s4⟩:=S1.sep id f m (by rw[s]; rfl)
     grind
    grind)
  (fun aD=>by
    refine⟨r8 vs k [a.eval y],fun j=>if j=k then G.γ d else bs j,by rw[List.length_set]; exact Y,⟨?_,fun f=>⟨fun h=>?_,fun h=>?_⟩,fun j j' f E aH _ _ aJ aK=>?_,fun j E _=>?_,fun v q=>?_⟩,hB⟩
    ·grind[List.length_set,r8,List.length_append,List.length_take,List.length_drop,List.length_singleton]
    ·have h':G1.δ id f∨G.γ d=some f:=by
      rcases h with ⟨_,h⟩ | ⟨h,_⟩
      ·exact h
      ·omega
     rcases h' with h' | h'
     ·obtain⟨j,E,bH,aA⟩:=(hR.blk f).1 h'
      grind
     ·exact⟨k,by grind,(fun h=>by cases h),by grind⟩
    ·obtain⟨j,E,_,aA⟩:=h;rw[List.length_set] at E;refine .inl ⟨rfl,?_⟩;by_cases e:j=k
     ·grind
     ·rw[if_neg e] at aA; exact .inl ((hR.blk f).2 ⟨j,E,(fun h=>e (Option.some.inj h).symm),aA⟩)
    ·rw[List.length_set] at E aH;have bG:∀i,i<xs.length->i≠k->bs i=some f->G.γ d=some f->False:=fun i hi aU aN aS=>(bB f aS).2.2.2 id ((hR.blk f).2 ⟨i,hi,(fun h=>aU (Option.some.inj h).symm),aN⟩) (by rw[s]; rfl);by_cases e:j=k
     ·grind
     ·by_cases e':j'=k
      ·grind
      ·rw[if_neg e] at aJ; rw[if_neg e'] at aK;exact hR.inj j j' f E aH (fun h=>e (Option.some.inj h).symm) (fun h=>e' (Option.some.inj h).symm) aJ aK
    ·rw[List.length_set] at E;simp only[x0W aB];by_cases e:j=k
     ·subst e;simp only[if_true];have eg:(xs.set j l).getD j []=l:=by simp[E]
      rw[eg];refine⟨cs,aM.we (w':=G.w.setRow b (r8 cur.toList (o'+j) [a.eval y]).toArray) (WE.of_wr hW) (fun i hi e=>?_),hA.mapR (fun c x hr=>?_),fun f m=>show G1.B<=f from by grind⟩
      ·grind
      ·refine RT.up (RT.same (K':=rg G fr') (w:=G.w) (fun i hi hl=>⟨hi,?_⟩) hr) (fun i hi=>⟨show G1.K i from by rw[aV]; exact hi.1,fun e=>show G1.B<=i from ?_⟩)
       ·exact hW.block i (fun e=>S.imm id _ b ho aP (by rw[<- e]; exact hi.1))
       ·rw[ba] at e; rw[aY]; exact hi.2 e.2
     ·simp only[if_neg e];obtain⟨aR,r1,r2,r3⟩:=hR.row j E (fun h=>e (Option.some.inj h).symm);have eg:(xs.set k l).getD j []=xs.getD j []:=by simp[List.getElem?_set_ne (Ne.symm e)]
      rw[eg];refine⟨aR,r1.we (WE.of_wr (by rw[aG]; exact hW)) (fun i hi e'=>?_),r2.mapR (fun c x hr=>RT.up (RT.same (w:=G1.w) aD.hR hr) (fun i hi=>⟨hi.1,fun e=>hi.2 (by grind)⟩)),r3⟩;cases hi;exact(S1.sep id b ((hR.blk b).2 ⟨j,E,(fun h=>e (Option.some.inj h).symm),e'⟩) (by rw[s]; rfl)).2.2.1 id _ s hb
    ·unfold r8 at q;rcases List.mem_append.1 q with q | q
     ·rcases List.mem_append.1 q with q | q
      ·exact hR.one v (List.mem_of_mem_take q)
      grind
     ·exact hR.one v (List.mem_of_mem_drop q))
 obtain⟨S2,L2⟩:=h2;refine⟨_,Xz aZ aQ,S2,L1.trans L2 (by grind),?_⟩;rw[<- hG1];rfl
theorem p0L(f:B6 X.P Γ)(S:Sat X G)(W:G.o=st.o)(r:EnvR X.n G st.e a)(V:PathP p a){c:Op}{ty:TypeId}{q:Prop}{obs:List (Nat×Ob)}{l:List Nat}
  (h:Da Γ st p c=some (q,obs,l)) (hq:q):Ul X G a c ty obs:=by
 unfold Da at h;split at h
 ·rename_i T x y;split at h
  ·rename_i id k d i m F z h3;split at h
   ·rename_i H u w t E Q Te' g v l0 b s h5;split at h
    ·rename_i Y h6;rw[ce] at h;split at h
     ·rename_i j;simp only[ba] at j
      grind[oi,pj,nb,FB,E0U,D9]
     grind
    grind
   grind
  grind
 grind
end
def L0Y:Op->Bool
 | .move _ | .assign _ | .nilCheck _ | .pick .. | .binOp .. | .unOp .. | .convert .. | .fieldAddr .. | .field .. | .load .. | .indexAddr .. | .index .. | .extract .. | .makeFunc .. | .build .. | .slice ..=>true
 | .call ⟨.builtin .len,_,_⟩ | .call ⟨.builtin .min,_,_⟩ | .call ⟨.builtin .max,_,_⟩=>true
 | _=>false
def M0a:Op->Bool
 | .alloc _ | .box .. | .makeSlice .. | .buildSlice .. | .call ⟨.builtin .append,_,_⟩=>true
 | _=>false
def L0X:Op->Bool
 | .store ..=>true
 | _=>false
def Aw(Γ:p9)(T:List Ct)(st:St)(p:Pa)(o:Oper):Option (Prop×Option AV×List (Nat×Ob)×List Nat):=match o.dst with
 | some d=>bif L0Y o.op then(match J4 Γ st p o.op with
   | some (q,r,l)=>some (q,some r,[],l)
   | none=>match Cc Γ st p d o.op with
     | some (q,r,obs,l)=>some (q,some r,obs,l)
     | none=>none) else bif M0a o.op then(match Bp Γ st p d o.op with
     | some (q,r,w,l)=>some (q,some r,[w],l)
     | none=>none) else match DM T st p d o.op with
       | some (q,r,obs,l)=>some (q,some r,obs,l)
       | none=>none
 | none=>bif L0X o.op then(match CX Γ st p o.op with
   | some (q,w,l)=>some (q,none,[w],l)
   | none=>match Da Γ st p o.op with
     | some (q,obs,l)=>some (q,none,obs,l)
     | none=>none) else match DM T st p 0 o.op with
     | some (q,_,obs,l)=>some (q,none,obs,l)
     | none=>none
def Db(all:List Oper)(e:List (Nat×Sl))(o:Oper):Option Pa:=match o.guard with
 | none=>some []
 | some (j,b)=>match I4 all j with
   | some oj=>match oj.dst with
     | some dj=>match a8 e dj with
       | some ⟨q,.d _ .bool _⟩=>some ((dj,b) :: q)
       | _=>none
     | none=>none
   | none=>none
def GX(e:List (Nat×Sl)):Pa->Prop
 | []=>True
 | (s,b) :: r=>(match a8 e s with
   | some ⟨q,.d _ .bool x⟩=>if Sf q r=true then x=b else True
   | _=>True)/\GX e r
def FH(dst:Option Nat)(p:Pa)(av:Option AV)(e:List (Nat×Sl)):List (Nat×Sl):=match dst,av with
 | some d,some a=>(d,⟨p,a⟩) :: e
 | _,_=>e
def AP(P:Program)(ops:Array Oper)(Q:Exit->Act->World->Prop)(o:Oper)(K:Act->World->Prop)(a:Act)(w:World):Prop :=
 if Region.wanted o (yielded ops a.tmps) then o.wp P a w K Q else K (a.put o.dst undef) w
section
variable {X:Cx} {G:Gh} {a:Act} {st:St} {Γ:p9} {T:List Ct}
theorem r0A(g:EnvR X.n G st.e a):∀{p:Pa},PathP p a->GX st.e p
 | [],_=>trivial
 | (s,b) :: r,h=>by
   have j:=h (s,b) (by simp);have d:PathP r a:=fun x k=>h x (by grind);refine⟨?_,r0A g d⟩;split
   ·rename_i q f x i;split
    ·rename_i c;have:=FD ((g.val s _ i).1 (d.sub c))
     grind
    grind
   grind
theorem SG{d:Nat}{v:Value}(b:d<a.tmps.size)(t:Nat):(a.put (some d) v).tmps.getD t undef=if d=t then v else a.tmps.getD t undef:=by
 unfold Act.put;by_cases h:d=t
 ·simp_all
 ·simp[h]
theorem q0E{d:Option Nat}{v:Value}:(a.put d v).tmps.size=a.tmps.size/\(a.put d v).defers=a.defers:=by
 cases d <;> simp[Act.put]
theorem n0j{d:Nat}{v:Value}(c:d<a.tmps.size){p:Pa}(h:∀x∈p,x.1≠d):PathP p (a.put (some d) v)↔PathP p a:=by
 constructor <;> intro k x b
 ·have:=k x b;rw[SG c,if_neg (Ne.symm (h x b))] at this; omega
 ·rw[SG c,if_neg (Ne.symm (h x b))]; exact k x b
theorem EnvR.put{g:Gh}{d:Nat}{v:Value}{p:Pa}{r:AV}(f:EnvR X.n g st.e a)(i:d<X.n)(k:∀x∈p,x.1≠d)(h:∀t s,a8 st.e t=some s->∀x∈s.p,x.1≠d)
  (j:(PathP p a->AVR g r v)/\(¬PathP p a->v=undef)):EnvR X.n g ((d,⟨p,r⟩) :: st.e) (a.put (some d) v):=by
 have c:d<a.tmps.size:=by rw[f.size]; exact i
 refine⟨by rw[q0E.2]; exact f.defers,by rw[q0E.1]; exact f.size,fun t s b=>?_⟩;rw[lK] at b;rw[SG c];by_cases e:d=t
 ·rw[if_pos e] at b ⊢
  grind[n0j]
 ·rw[if_neg e] at b ⊢;rw[n0j c (h t s b)];exact f.val t s b
theorem m0n{ops:Array Oper}{all:List Oper}(e:ops=all.toArray){j b:Nat}{d:Oper}(c:I4 all j=some d)(f:d.dst=some b):yielded ops a.tmps j=match a.tmps.getD b undef with
  | .bool v=>some v
  | _=>none:=by
 subst e;rw[AN] at c;unfold yielded;have g:(all.toArray[j]?).bind (·.dst)=some b:=by simp[c,f]
 rw[g];simp only[Option.bind_some];rw[Array.getD_eq_getD_getElem?]
 grind[undef]
theorem s0u{ops:Array Oper}{all:List Oper}(s:ops=all.toArray)(w:EnvR X.n G st.e a){o:Oper}{p:Pa}(c:Db all st.e o=some p) :
  (Region.wanted o (yielded ops a.tmps)=true/\PathP p a)∨(Region.wanted o (yielded ops a.tmps)=false/\¬PathP p a):=by
 unfold Db at c;split at c
 ·rename_i v;simp only[oi] at c; subst c;exact .inl ⟨by grind[Region.wanted],fun x u=>by cases u⟩
 ·rename_i j b v;split at c
  ·rename_i E t;split at c
   ·rename_i l z;split at c
    ·rename_i q f x m;simp only[oi] at c; subst c;have g:=m0n (a:=a) s t z;have k:=w.val l _ m;by_cases i:PathP q a
     ·have e:=FD (k.1 i);rw[e] at g;simp only at g;by_cases r:x=b
      ·subst r;refine .inl ⟨by grind[Region.wanted],fun y d=>?_⟩;rcases List.mem_cons.1 d with rfl | h
       ·exact e
       ·exact i y h
      ·refine .inr ⟨by grind[Region.wanted],fun h=>?_⟩;have:=h (l,b) (by simp)
       grind
     ·have e:=k.2 i;rw[e] at g;simp only[undef] at g;exact .inr ⟨by grind[Region.wanted],fun h=>i (fun y d=>h y (by grind))⟩
    grind
   grind
  grind
theorem I0H(E:B6 X.P Γ)(hT:∀c∈T,Ok X.P c){ops:Array Oper}{all:List Oper}(ha:ops=all.toArray){Q:Exit->Act->World->Prop}(S:Sat X G)(ho:G.o=st.o)(i:EnvR X.n G st.e a){o:Oper}{p:Pa}{q:Prop}{av:Option AV}{obs:List (Nat×Ob)}{fp:List Nat}
  (hp:Db all st.e o=some p) (h:Aw Γ T st p o=some (q,av,obs,fp)) (V:GX st.e p->q) (hg:p=[]∨obs=[]) (hd:∀d,o.dst=some d->d<X.n/\(∀x∈p,x.1≠d)/\∀t s,a8 st.e t=some s->∀x∈s.p,x.1≠d)
  {K:Act->World->Prop} (W:∀a' G',Sat X G'->GLe G G'->G'.o=obs++st.o->EnvR X.n G' (FH o.dst p av st.e) a'->K a' G'.w):AP X.P ops Q o K a G.w:=by
 unfold AP;rcases s0u ha i hp with ⟨hw,k⟩ | ⟨hw,k⟩
 ·rw[if_pos hw];have V:=V (r0A i k);unfold Aw at h;split at h
  ·rename_i d b;obtain⟨m,z,y⟩:=hd d b;rw[ce] at h;split at h
   ·split at h
    ·rename_i q' r l u;simp only[oi,pj] at h;obtain⟨rfl,rfl,rfl,_⟩:=h;obtain⟨v,g,Y⟩:=s0U E S ho i k (ty:=o.type) u V;unfold Oper.wp;have:=g o.dst o.pos o.after o.guard;rw[show(execOp a.eval o).run X.P G.w=.ok (.value v) G.w from this];show K (a.put o.dst v) G.w;rw[b];refine W _ G S (GLe.refl G) (by grind) ?_;rw[b];exact EnvR.put i m z y ⟨fun _=>Y,fun h=>(h k).elim⟩
    ·split at h
     ·rename_i q' r F l u;simp only[oi,pj] at h;obtain⟨rfl,rfl,rfl,_⟩:=h;obtain⟨v,G',g,H,j,hO,Y⟩:=t0a E S ho i k (ty:=o.type) u V;unfold Oper.wp;have:=g o.dst o.pos o.after o.guard;rw[show(execOp a.eval o).run X.P G.w=.ok (.value v) G'.w from this];show K (a.put o.dst v) G'.w;rw[b];refine W _ G' H j (by grind) ?_;rw[b];exact EnvR.put (i.mono j) m z y ⟨fun _=>Y,fun h=>(h k).elim⟩
     grind
   ·rw[ce] at h;split at h
    ·split at h
     ·rename_i q' r w l u;simp only[oi,pj] at h;obtain⟨rfl,rfl,rfl,_⟩:=h;obtain⟨v,G',g,H,j,hO,Y⟩:=s0X E S ho i k (ty:=o.type) u V;unfold Oper.wp;have:=g o.dst o.pos o.after o.guard;rw[show(execOp a.eval o).run X.P G.w=.ok (.value v) G'.w from this];show K (a.put o.dst v) G'.w;rw[b];refine W _ G' H j (by grind) ?_;rw[b];exact EnvR.put (i.mono j) m z y ⟨fun _=>Y,fun h=>(h k).elim⟩
     grind
    ·split at h
     ·rename_i q' r F l u;simp only[oi,pj] at h;obtain⟨rfl,rfl,rfl,_⟩:=h;obtain⟨f,vs,g,hc⟩:=l0p hT S ho i k (ty:=o.type) u V;unfold Oper.wp;have:=g o.dst o.pos o.after o.guard;rw[show(execOp a.eval o).run X.P G.w=.ok (.enter f vs) G.w from this];refine Calls.mono hc ?_;rintro en w' ⟨v,G',rfl,rfl,H,j,hO,Y⟩;show K (a.put o.dst v) G'.w;rw[b];refine W _ G' H j (by grind) ?_;rw[b];exact EnvR.put (i.mono j) m z y ⟨fun _=>Y,fun h=>(h k).elim⟩
     grind
  ·rename_i b;rw[ce] at h;split at h
   ·split at h
    ·rename_i q' w l u;simp only[oi,pj] at h;obtain⟨rfl,rfl,rfl,_⟩:=h;obtain⟨G',g,H,j,hO⟩:=s0S E S ho i k (ty:=o.type) u V;unfold Oper.wp;have:=g o.dst o.pos o.after o.guard;rw[show(execOp a.eval o).run X.P G.w=.ok .skip G'.w from this];show K (a.put o.dst undef) G'.w;rw[b];refine W _ G' H j (by grind) ?_;rw[b];exact i.mono j
    ·split at h
     ·rename_i q' F l u;simp only[oi,pj] at h;obtain⟨rfl,rfl,rfl,_⟩:=h;obtain⟨G',g,H,j,hO⟩:=p0L E S ho i k (ty:=o.type) u V;unfold Oper.wp;have:=g o.dst o.pos o.after o.guard;rw[show(execOp a.eval o).run X.P G.w=.ok .skip G'.w from this];show K (a.put o.dst undef) G'.w;rw[b];refine W _ G' H j (by grind) ?_;rw[b];exact i.mono j
     grind
   ·split at h
    ·rename_i q' r F l u;simp only[oi,pj] at h;obtain⟨rfl,rfl,rfl,_⟩:=h;obtain⟨f,vs,g,hc⟩:=l0p hT S ho i k (ty:=o.type) u V;unfold Oper.wp;have:=g o.dst o.pos o.after o.guard;rw[show(execOp a.eval o).run X.P G.w=.ok (.enter f vs) G.w from this];refine Calls.mono hc ?_;rintro en w' ⟨v,G',rfl,rfl,H,j,hO,Y⟩;show K (a.put o.dst v) G'.w;rw[b];refine W _ G' H j (by grind) ?_;rw[b];exact i.mono j
    grind
 ·rw[if_neg (by grind)];have aA:obs=[]:=by
   rcases hg with rfl | h
   ·exact(k (fun x hx=>by cases hx)).elim
   ·exact h
  subst aA;refine W _ G S (GLe.refl G) (by grind) ?_;cases b:o.dst with
  | none=>cases av <;> exact i
  | some d =>
    obtain⟨m,z,y⟩:=hd d b;have:∃r,av=some r:=by
     unfold Aw at h;rw[b] at h;simp only[ce] at h;split at h
     ·grind
     ·grind
    obtain⟨r,rfl⟩:=this;exact EnvR.put i m z y ⟨fun h=>(k h).elim,fun _=>rfl⟩
end
section
variable {e e':List (Nat×Sl)} {o o':List (Nat×Ob)}
theorem DN{x:Operand}{p:Pa}(h:∀t,x=.tmp t->a8 e t=a8 e' t):rd ⟨e,o⟩ p x=rd ⟨e',o'⟩ p x:=by
 cases x with
 | tmp t=>simp only[rd,h t rfl]
 | _=>rfl
theorem IW{p:Pa}:∀{xs:List Operand},(∀t,.tmp t∈xs->a8 e t=a8 e' t)->N6 ⟨e,o⟩ p xs=N6 ⟨e',o'⟩ p xs
 | [],_=>rfl
 | x :: r,h=>by
   unfold N6;rw[DN (o:=o) (o':=o') (p:=p) (x:=x) (fun t a=>h t (by grind)),IW (xs:=r) (fun t a=>h t (by grind))]
theorem XG{v:AV}{cs:List AV}{l:List Nat}(h:Z5 o v=some (cs,l))(g:∀id∈l,a8 o id=a8 o' id):Z5 o' v=some (cs,l)/\CW o' v=CW o v:=by
 unfold Z5 at h;split at h
 ·rename_i id a;split at h
  ·rename_i T e c;simp only[oi,pj] at h;obtain⟨rfl,rfl⟩:=h
   grind[Z5,CW]
  grind
 ·rename_i id d k s a;split at h
  ·rename_i T i t j b c;rw[ce] at h;split at h
   ·rename_i f;simp only[oi,pj] at h;obtain⟨rfl,rfl⟩:=h
    grind[Z5,CW]
   grind
  grind
 ·simp only[oi,pj] at h;obtain⟨rfl,rfl⟩:=h;exact⟨rfl,rfl⟩
 grind
theorem v0W{Γ:p9}{T:TypeId}{v r:AV}{n:Int}{q:Prop}{l:List Nat}(h:KO Γ o T v n=some (q,r,l))(a:∀id∈l,a8 o id=a8 o' id):KO Γ o' T v n=some (q,r,l):=by
 unfold KO at h ⊢;split at h
 ·exact h
 ·grind
 ·exact h
 ·grind
 omega
theorem s0J{b a:(t:Ty)->List AV->Option (c7 t×List Nat×Bool)}(g:∀{t:Ty} {cs:List AV} {x:c7 t} {l:List Nat} {d:Bool},b t cs=some (x,l,d)->(∀id∈l,a8 o id=a8 o' id)->a t cs=some (x,l,d))
  {t:Ty} {c:AV} {x:c7 t} {l:List Nat} {d:Bool} (h:Bl o b t c=some (x,l,d)) (u:∀id∈l,a8 o id=a8 o' id):Bl o' a t c=some (x,l,d):=by
 unfold Bl at h;split at h
 ·grind[Bl]
 ·exact h
 ·rename_i e id j;split at h
  ·rename_i T v r E f i;rw[ce] at h;split at h
   ·rename_i q;split at h
    ·rename_i y w;simp only[oi,pj] at h;obtain⟨rfl,rfl,rfl⟩:=h
     grind[Bl]
    grind
   grind
  grind
 ·rename_i e id k;split at h
  ·rename_i T cs i;split at h
   ·rename_i m s z n;simp only[oi,pj] at h;obtain⟨rfl,rfl,rfl⟩:=h
    grind[hi,Bl]
   grind
  grind
 grind
theorem IX:∀(n:Nat) {t:Ty} {cs:List AV} {x:c7 t} {l:List Nat} {fl:Bool},H7 o n t cs=some (x,l,fl)->(∀id∈l,a8 o id=a8 o' id)->H7 o' n t cs=some (x,l,fl):=by
 intro n
 induction n with
 | zero=>grind[H7]
 | succ n c =>
   intro t cs x l fl h d;cases t with
   | pr a b =>
     unfold H7 at h ⊢
     grind
   | _ =>
     unfold H7 at h ⊢
     grind[s0J]
theorem l0j{v:AV}{t:Ty}{c:List (c7 t)}{a:List Nat}{b:Bool}(h:DK o v=some ⟨t,c,a,b⟩)(d:∀id∈a,a8 o id=a8 o' id):DK o' v=some ⟨t,c,a,b⟩:=by
 unfold DK at h
 grind[id,DK]
theorem GY{d:Nat}(h:a8 o d=a8 o' d):AO o' d=AO o d:=by grind[AO]
theorem XH:∀{ps:List o6} {as':List AV} {x:A4 ps} {l:List Nat} {io:Option Nat},M9 o ps as'=some (x,l,io)->(∀id∈l,a8 o id=a8 o' id)->(∀i,io=some i->a8 o i=a8 o' i)->M9 o' ps as'=some (x,l,io)
 | [],[],x,l,io,h,_,_=>h
 | [],_ :: _,x,l,io,h,_,_=>by grind[M9]
 | _ :: _,[],x,l,io,h,_,_=>by grind[M9]
 | p :: r,a :: as',x,l,io,h,hl,hio=>by
   simp only[M9] at h ⊢;split at h
   ·rename_i z n q b;split at h
    ·rename_i y m j F;have v:l=n++m/\((q=none/\io=j)∨(∃i,q=some i/\j=none/\io=some i)):=by
      split at h
      ·grind
      ·grind
      ·cases h
     obtain⟨rfl,d⟩:=v;have c:∀id∈n,a8 o id=a8 o' id:=fun id g=>hl id (by grind);have V:CY o' p a=some (z,n,q):=by
      unfold CY at b;split at b
      ·split at b
       ·rename_i f;simp only[oi,pj] at b;obtain⟨rfl,rfl,rfl⟩:=b
        grind[CY,IX]
       grind
      ·split at b
       ·rename_i f;simp only[oi,pj] at b;obtain⟨rfl,rfl,rfl⟩:=b
        grind[CY,IX]
       grind
      ·rw[ce] at b;split at b
       ·rename_i H;split at b
        ·rename_i f;simp only[oi,pj] at b;obtain⟨rfl,rfl,rfl⟩:=b;simp only[CY,IX 24 f c,H,cond_true]
        grind
       grind
      ·exact b
      ·rename_i T t id _;split at b
       ·rename_i Y cs u;rw[ce] at b;split at b
        ·rename_i P;split at b
         ·rename_i w f;simp only[oi,pj] at b;obtain⟨rfl,rfl,rfl⟩:=b;rcases d with ⟨e,_⟩ | ⟨i',e,_,rfl⟩
          ·cases e
          cases e;have k:=hio id rfl;rw[u] at k;simp only[CY,<- k,P,cond_true,IX 24 f c]
         grind
        grind
       grind
      ·rename_i E t id G _;split at b
       ·rename_i X fr t' xs s u;rw[ce] at b;split at b
        ·rename_i W;split at b
         ·rename_i w hc;simp only[oi,pj] at b;obtain⟨rfl,rfl,rfl⟩:=b;rcases d with ⟨e,_⟩ | ⟨i',e,_,rfl⟩
          ·cases e
          cases e;have k:=hio id rfl
          grind[CY]
         grind
        grind
       grind
      ·exact b
      ·cases b
     have Q:=XH F (fun id g=>hl id (by grind)) (fun i hi=>by
      grind)
     grind
    grind
   grind
theorem f0Q:∀{l:List (Nat×Ob)},(∀x∈l,a8 o x.1=a8 o' x.1)->FG o' l=FG o l
 | [],_=>rfl
 | (i,b) :: r,h=>by
   simp only[FG];rw[GY (h (i,b) (by simp)),f0Q (fun x a=>h x (by grind))]
theorem j0H{d f:Nat}{g:List AV}:∀{T:List Ct} {q:Prop} {av:AV} {obs:List (Nat×Ob)} {fp:List Nat},IV o d f g T=some (q,av,obs,fp)->(∀id∈fp,a8 o id=a8 o' id)->IV o' d f g T=some (q,av,obs,fp)
 | [],q,av,obs,fp,h,_=>by cases h
 | c :: r,q,av,obs,fp,h,ho=>by
   simp only[IV,ce] at h ⊢;split at h
   ·rename_i n;rw[if_pos n];split at h
    ·rename_i x l m a;by_cases e:H8 c.ps=true
     ·rw[if_pos e] at h;unfold SF at h;split at h
      ·rename_i id;split at h
       ·rename_i T W t X Q E V F H u j;rw[ce] at h;split at h
        ·rename_i v;simp only[oi,pj] at h;obtain⟨rfl,rfl,rfl,rfl⟩:=h;have k:=OV (ba _ _ ▸ v).2;subst k;have b:a8 o id=a8 o' id:=ho id (by simp);rw[XH a (fun _ h=>by cases h) (fun i hi=>by grind)];simp only[e,if_true,SF,u,<- b,j,v,cond_true]
        grind
       grind
      grind
     rw[if_neg e] at h;simp only[if_neg e];split at h
     ·rename_i G;have s:=G;simp only[oi,pj] at h;obtain⟨rfl,rfl,rfl,rfl⟩:=h;have P:∀id∈l,a8 o id=a8 o' id:=fun id y=>ho id (by grind);have b:∀i,m=some i->a8 o i=a8 o' i:=fun i hi=>ho i (by grind);rw[XH a P b];simp only;rw[f0Q (o:=o) (fun x w=>ho x.1 (List.mem_append.2 (.inl (List.mem_map_of_mem w)))),if_pos s];have:Bq o' c.ps (c.res x).z m=Bq o c.ps (c.res x).z m:=by
       cases m with
       | none=>rfl
       | some i=>simp only[Bq,b i rfl]
      grind
     grind
    grind
   ·rename_i n;rw[if_neg n];exact j0H h ho
def B0X(xs:List Operand):List Nat:=xs.filterMap fun | .tmp t=>some t | _=>none
theorem v0G{xs:List Operand}{t:Nat}(h:.tmp t∈xs):t∈B0X xs:=List.mem_filterMap.2 ⟨_,h,rfl⟩
theorem XI{p:Pa}{x:Option Operand}(h:∀t,x=some (.tmp t)->a8 e t=a8 e' t):V0 ⟨e,o⟩ p x=V0 ⟨e',o'⟩ p x:=by
 cases x with
 | none=>rfl
 | some y =>
   grind[V0,DN]
theorem h0O{p:Pa}{pl:List (Nat×Nat)}:∀{ps:List (Nat×Operand)} {cs:List AV},(∀t,.tmp t∈ps.map (·.2)->a8 e t=a8 e' t)->Bo ⟨e,o⟩ p pl cs ps=Bo ⟨e',o'⟩ p pl cs ps
 | [],_,_=>rfl
 | (i,x) :: r,cs,h=>by
   unfold Bo;rw[DN (o:=o) (o':=o') (p:=p) (x:=x) (fun t a=>h t (by grind))];have b:=fun cs=>h0O (p:=p) (pl:=pl) (ps:=r) (cs:=cs) (fun t a=>h t (by grind))
   simp_all
theorem h0I{p:Pa}{t:Ty}:∀{ps:List (Nat×Operand)} {k:Nat} {ys:List (c7 t)×Bool},(∀s,.tmp s∈ps.map (·.2)->a8 e s=a8 e' s)->FE ⟨e,o⟩ p t k ps=some ys->FE ⟨e',o'⟩ p t k ps=some ys
 | [],_,_,_,h=>h
 | (i,x) :: r,k,ys,hs,h=>by
   unfold FE at h ⊢;rw[ce] at h ⊢;split at h
   ·rename_i hi;rw[if_pos hi];rw[<- DN (o:=o) (o':=o') (p:=p) (x:=x) (fun t l=>hs t (by grind))];split at h
    ·rename_i v j;split at h
     ·rename_i n m;simp only;split at h
      ·rename_i y f c;rw[IX 24 c (fun _ h=>by cases h)];simp only;split at h
       ·rename_i d g a;rw[h0I (fun s b=>hs s (by grind)) a];exact h
       grind
      grind
     omega
    omega
   grind
theorem s0V{Γ:p9}{p:Pa}{d:Op}{q:Prop}{r:AV}{l:List Nat}(g:∀t,.tmp t∈d.operands.toList->a8 e t=a8 e' t)(h:J4 Γ ⟨e,o⟩ p d=some (q,r,l))(s:∀id∈l,a8 o id=a8 o' id):J4 Γ ⟨e',o'⟩ p d=some (q,r,l):=by
 have R:∀(p:Pa) (x:Operand),x∈d.operands.toList->rd ⟨e',o'⟩ p x=rd ⟨e,o⟩ p x:=fun p x y=>(DN (fun t j=>g t (by grind))).symm;unfold J4 at h;split at h
 ·grind[J4,Op.operands]
 ·grind[J4,Op.operands]
 ·rename_i x;simp only[J4,R _ x (by simp[Op.operands])];split at h
  ·grind[oi,pj,XG]
  omega
 ·grind[J4,Op.operands]
 ·grind[J4,Op.operands]
 ·grind[J4,Op.operands]
 ·grind[J4,Op.operands]
 ·rename_i x;simp only[J4,R _ x (by simp[Op.operands])]
  grind
 ·rename_i x f;simp only[J4,R _ x (by simp[Op.operands])];split at h
  ·rename_i v G z V b u Q P;split at h
   ·rename_i w F c H n m;split at h
    ·rename_i E k;simp only[oi,pj] at h;obtain⟨rfl,rfl,rfl⟩:=h;simp only[n,(XG m s).1,k]
    grind
   grind
  omega
 ·rename_i x;simp only[J4,R _ x (by simp[Op.operands])];split at h
  ·grind[oi,pj,XG]
  omega
 ·grind[J4,Op.operands,v0W]
 ·grind[J4,Op.operands]
 ·grind[J4,Op.operands]
 ·grind[J4,Op.operands]
 ·grind[N6,IW,Op.operands,J4]
 ·rename_i T a;have:∀b c,Bo ⟨e',o'⟩ p b c a.toList=Bo ⟨e,o⟩ p b c a.toList:=fun b c=>(h0O (fun t j=>g t (by grind[Op.operands]))).symm
  grind[J4]
 ·grind[V0,XI,Op.operands,J4]
 ·rename_i i W;have:N6 ⟨e',o'⟩ p i.toList=N6 ⟨e,o⟩ p i.toList:=(IW (fun t j=>g t (by grind[Op.operands,Call.operands]))).symm;simp only[J4,this]
  grind
 ·grind[N6,IW,Op.operands,Call.operands,J4]
 ·grind[N6,IW,Op.operands,Call.operands,J4]
 grind
end
section
variable {e e':List (Nat×Sl)} {o o':List (Nat×Ob)}
theorem s0Y{Γ:p9}{p:Pa}{d:Nat}{f:Op}{q:Prop}{r:AV}{w:Nat×Ob}{l:List Nat}(g:∀t,.tmp t∈f.operands.toList->a8 e t=a8 e' t)(h:Bp Γ ⟨e,o⟩ p d f=some (q,r,w,l))(c:∀id∈l,a8 o id=a8 o' id):Bp Γ ⟨e',o'⟩ p d f=some (q,r,w,l):=by
 have R:∀(x:Operand),x∈f.operands.toList->rd ⟨e',o'⟩ p x=rd ⟨e,o⟩ p x:=fun x V=>(DN (fun t H=>g t (by grind))).symm;unfold Bp at h;split at h
 ·simp only[Bp];split at h
  ·split at h
   ·rw[ce] at h ⊢;split at h
    ·rename_i b;have a:=h;simp only[oi,pj] at h;obtain⟨_,_,_,rfl⟩:=h;rw[GY (c d (by simp)),if_pos b]; exact a
    grind
   omega
  omega
 ·rename_i T x;simp only[Bp,R x (by simp[Op.operands])];split at h
  ·split at h
   ·rw[ce] at h ⊢;split at h
    ·rename_i b;have a:=h;simp only[oi,pj] at h;obtain⟨_,_,_,rfl⟩:=h;rw[GY (c d (by simp)),if_pos b]; exact a
    grind
   omega
  omega
 ·rename_i T x y;simp only[Bp,R x (by simp[Op.operands]),R y (by simp[Op.operands])];split at h
  ·split at h
   ·split at h
    ·rw[ce] at h ⊢;split at h
     ·rename_i b;have a:=h;simp only[oi,pj] at h;obtain⟨_,_,_,rfl⟩:=h;rw[GY (c d (by simp)),if_pos b]; exact a
     grind
    ·split at h
     ·split at h
      ·rename_i F;rw[IX 24 F (fun _ h=>by cases h)];simp only;rw[ce] at h ⊢;split at h
       ·rename_i b;have a:=h;simp only[oi,pj] at h;obtain⟨_,_,_,rfl⟩:=h;rw[GY (c d (by simp)),if_pos b]; exact a
       grind
      grind
     omega
   omega
  omega
 ·rename_i T n j;simp only[Bp];split at h
  ·split at h
   ·split at h
    ·rename_i k P;rw[h0I (e':=e') (o':=o') (fun s G=>g s (by grind[Op.operands])) P];simp only;rw[ce] at h ⊢;split at h
     ·rename_i b;have a:=h;simp only[oi,pj] at h;obtain⟨_,_,_,rfl⟩:=h;rw[GY (c d (by simp)),if_pos b]; exact a
     grind
    grind
   omega
  omega
 ·rename_i k X;have:N6 ⟨e',o'⟩ p k.toList=N6 ⟨e,o⟩ p k.toList:=(IW (fun t H=>g t (by grind[Op.operands,Call.operands]))).symm;simp only[Bp,this];split at h
  ·split at h
   ·rename_i z v m;split at h
    ·rename_i E W;rw[ce] at h;split at h
     ·rename_i b;have a:=h;simp only[oi,pj] at h;obtain⟨_,_,_,rfl⟩:=h;have Q:=c _ List.mem_cons_self;simp only at v;rw[v] at Q;have u:=l0j (o':=o') m (fun id i=>c id (by grind))
      grind
     grind
    grind
   grind
  ·split at h
   ·rename_i z m;split at h
    ·rename_i E;rw[ce] at h;split at h
     ·rename_i b;have a:=h;simp only[oi,pj] at h;obtain⟨_,_,_,rfl⟩:=h;have u:=l0j (o':=o') m (fun id i=>c id (by grind));simp only[z,u,E,GY (c d (by simp))]
      grind
     grind
    grind
   grind
  omega
 grind
theorem s0T{Γ:p9}{p:Pa}{a:Op}{q:Prop}{w:Nat×Ob}{l:List Nat}(d:∀t,.tmp t∈a.operands.toList->a8 e t=a8 e' t)(h:CX Γ ⟨e,o⟩ p a=some (q,w,l))(g:∀id∈l,a8 o id=a8 o' id):CX Γ ⟨e',o'⟩ p a=some (q,w,l):=by
 have R:∀(x:Operand),x∈a.operands.toList->rd ⟨e',o'⟩ p x=rd ⟨e,o⟩ p x:=fun x n=>(DN (fun t m=>d t (by grind))).symm;unfold CX at h;split at h
 ·rename_i T x y;simp only[CX,R x (by simp[Op.operands]),R y (by simp[Op.operands])];split at h
  ·grind
  ·split at h
   ·rename_i b i;split at h
    ·rename_i k;rw[ce] at h;split at h
     ·rename_i j;have f:=h;simp only[oi,pj] at h;obtain⟨_,_,rfl⟩:=h;have c:=g _ (List.mem_singleton.2 rfl);simp only at b;rw[b] at c;simp only[<- c,i,IX (o':=o') 24 k (fun _ h=>by cases h),j,cond_true]; exact f
     grind
    grind
   grind
  omega
 grind
theorem l0q{T:List Ct}{p:Pa}{d:Nat}{a:Op}{q:Prop}{r:AV}{obs:List (Nat×Ob)}{fp:List Nat}(b:∀t,.tmp t∈a.operands.toList->a8 e t=a8 e' t)(h:DM T ⟨e,o⟩ p d a=some (q,r,obs,fp))(c:∀id∈fp,a8 o id=a8 o' id):DM T ⟨e',o'⟩ p d a=some (q,r,obs,fp):=by
 unfold DM at h
 grind[N6,IW,Op.operands,Call.operands,rd,DN,DM,j0H]
theorem J0p{Γ:p9}{st:St}{p:Pa}{d:Nat}{a:Op}{r:Prop×AV×List (Nat×Ob)×List Nat}(h:Cc Γ st p d a=some r):J4 Γ st p a=none:=by
 unfold Cc at h
 grind[J4,Z5]
theorem F0a{Γ:p9}{st:St}{p:Pa}{a:Op}{r:Prop×List (Nat×Ob)×List Nat}(h:Da Γ st p a=some r):CX Γ st p a=none:=by
 unfold Da at h
 grind[CX]
theorem t0b{Γ:p9}{p:Pa}{d:Nat}{a:Op}{q:Prop}{r:AV}{obs:List (Nat×Ob)}{l:List Nat}(b:∀t,.tmp t∈a.operands.toList->a8 e t=a8 e' t)(h:Cc Γ ⟨e,o⟩ p d a=some (q,r,obs,l))(g:∀id∈l,a8 o id=a8 o' id):Cc Γ ⟨e',o'⟩ p d a=some (q,r,obs,l):=by
 have R:∀(x:Operand),x∈a.operands.toList->rd ⟨e',o'⟩ p x=rd ⟨e,o⟩ p x:=fun x v=>(DN (fun t c=>b t (by grind))).symm;unfold Cc at h;split at h
 ·rename_i T x;simp only[Cc,R x (by simp[Op.operands])];split at h
  ·rename_i u w;split at h
   ·rename_i i;rw[ce] at h;split at h
    ·rename_i j;have s:=h;simp only[oi,pj] at h;obtain⟨_,_,_,rfl⟩:=h;have k:=g _ (List.mem_cons_of_mem _ (List.mem_singleton.2 rfl));simp only at i;rw[i] at k;simp only at j;simp only[<- k,GY (g d (by simp)),j,cond_true];exact s
    grind
   grind
  omega
 ·rename_i T x l f;have n:V0 ⟨e',o'⟩ p l=V0 ⟨e,o⟩ p l:=(XI (fun t c=>b t (by grind[Op.operands]))).symm;have m:V0 ⟨e',o'⟩ p f=V0 ⟨e,o⟩ p f:=(XI (fun t c=>b t (by grind[Op.operands]))).symm;simp only[Cc,R x (by simp[Op.operands]),n,m]
  grind
 grind
theorem p0M{Γ:p9}{p:Pa}{a:Op}{q:Prop}{obs:List (Nat×Ob)}{l:List Nat}(b:∀t,.tmp t∈a.operands.toList->a8 e t=a8 e' t)(h:Da Γ ⟨e,o⟩ p a=some (q,obs,l))(f:∀id∈l,a8 o id=a8 o' id):Da Γ ⟨e',o'⟩ p a=some (q,obs,l):=by
 have R:∀(x:Operand),x∈a.operands.toList->rd ⟨e',o'⟩ p x=rd ⟨e,o⟩ p x:=fun x d=>(DN (fun t c=>b t (by grind))).symm;unfold Da at h;split at h
 ·rename_i T x y;simp only[Da,R x (by simp[Op.operands]),R y (by simp[Op.operands])];split at h
  ·grind
  omega
 grind
theorem s0W{Γ:p9}{T:List Ct}{p:Pa}{x:Oper}{q:Prop}{av:Option AV}{obs:List (Nat×Ob)}{fp:List Nat}(b:∀t,.tmp t∈x.op.operands.toList->a8 e t=a8 e' t)(h:Aw Γ T ⟨e,o⟩ p x=some (q,av,obs,fp))(c:∀id∈fp,a8 o id=a8 o' id) :
  Aw Γ T ⟨e',o'⟩ p x=some (q,av,obs,fp):=by
 unfold Aw at h ⊢;split at h
 ·rw[ce] at h ⊢;split at h
  ·rename_i a;rw[if_pos a]
   grind[oi,pj,s0V,t0b,J0p]
  ·rename_i a;rw[if_neg a];rw[ce] at h ⊢;split at h
   ·rename_i a;rw[if_pos a]
    grind[oi,pj,s0Y]
   ·rename_i a;rw[if_neg a]
    grind[oi,pj,l0q]
 ·rw[ce] at h ⊢;split at h
  ·rename_i a;rw[if_pos a]
   grind[oi,pj,s0T,p0M,F0a]
  ·rename_i a;rw[if_neg a]
   grind[oi,pj,l0q]
end
structure C1 where
 o:Oper
 p:Pa
 av:Option AV
 obs:List (Nat×Ob)
 fp:List Nat
def SI(e:List (Nat×Sl))(p:Pa)(q:Prop):Prop:=match p with
 | []=>q
 | x :: r=>GX e (x :: r)->q
def IY(Γ:p9)(T:List Ct)(all:List Oper):List Oper->St->List C1->(St->List C1->Prop)->Prop
 | [],st,rs,K=>K st rs
 | o :: r,st,rs,K=>match Db all st.e o with
   | some p=>match Aw Γ T st p o with
     | some (q,av,obs,fp)=>bif DL p||DL obs then(SI st.e p q/\IY Γ T all r ⟨FH o.dst p av st.e,obs++st.o⟩ (⟨o,p,av,obs,fp⟩ :: rs) K) else False
     | none=>False
   | none=>False
def R5(n:Nat):Nat->List Nat->List Oper->Bool
 | _,_,[]=>true
 | i,seen,o :: r=>(match o.dst with
   | some d=>Nat.blt d n&&IU d seen
   | none=>true)&&(match o.guard with
   | some (j,_)=>Nat.blt j i
   | none=>true)&&R5 n (i+1) (match o.dst with
   | some d=>d :: seen
   | none=>seen) r
def I5(st:St)(R:C1):St:=⟨FH R.o.dst R.p R.av st.e,R.obs++st.o⟩
def KU(Γ:p9)(T:List Ct)(all:List Oper):St->List C1->Prop
 | _,[]=>True
 | st,R :: r=>Db all st.e R.o=some R.p/\(∃q,Aw Γ T st R.p R.o=some (q,R.av,R.obs,R.fp)/\(GX st.e R.p->q))/\(R.p=[]∨R.obs=[])/\KU Γ T all (I5 st R) r
theorem KV{Γ:p9}{T:List Ct}{all:List Oper}{K:St->List C1->Prop}:∀{ops:List Oper} {st:St} {rs:List C1},IY Γ T all ops st rs K->∃recs:List C1,recs.map (·.o)=ops/\KU Γ T all st recs/\K (recs.foldl I5 st) (recs.reverse++rs)
 | [],st,rs,h=>⟨[],rfl,trivial,h⟩
 | o :: r,st,rs,h=>by
   unfold IY at h;split at h
   ·rename_i p e;split at h
    ·rename_i q l a f i;rw[ce] at h;split at h
     ·rename_i g;obtain⟨b,k⟩:=h;obtain⟨recs,m,d,c⟩:=KV k;refine⟨⟨o,p,l,a,f⟩ :: recs,by grind,⟨e,⟨q,i,?_⟩,?_,d⟩,by simp only[List.foldl_cons,List.reverse_cons,List.append_assoc,List.singleton_append]; exact c⟩
      ·intro j;cases p with
       | nil=>exact b
       | cons x r=>exact b j
      ·rw[Bool.or_eq_true] at g
       grind[OV]
     grind
    grind
   grind
theorem n0p{a:Type}{l:List a}{j:Nat}{x:a}(h:I4 l j=some x):l[j]?=some x:=by grind[AN]
section
variable {X:Cx} {Γ:p9} {T:List Ct}
theorem SJ(l:B6 X.P Γ)(hT:∀c∈T,Ok X.P c){ops:Array Oper}{all:List Oper}(ha:ops=all.toArray){Q:Exit->Act->World->Prop}{rest:List Oper}:∀(recs:List C1) (i:Nat) (seen:List Nat) (st:St) (G:Gh) (a:Act),(∀j,j<recs.length->recs[j]?.map (·.o)=all[i+j]?)->R5 X.n i seen (recs.map (·.o))=true ->
  (∀j oj dj,j<i->all[j]?=some oj->oj.dst=some dj->dj∈seen)->(∀t s,a8 st.e t=some s->∀x∈s.p,x.1∈seen)->KU Γ T all st recs->Sat X G->G.o=st.o->EnvR X.n G st.e a ->
  (∀G' a',Sat X G'->G'.o=(recs.foldl I5 st).o->EnvR X.n G' (recs.foldl I5 st).e a'->wpList X.P ops Q rest a' G'.w)->wpList X.P ops Q (recs.map (·.o)++rest) a G.w
 | [],i,seen,st,G,a,_,_,_,_,_,S,ho,hE,hK=>hK G a S ho hE
 | R :: r,i,seen,st,G,a,hall,hreg,hseen,hpath,⟨hp,⟨q,hab,hq⟩,hg,hrun⟩,S,ho,hE,hK=>by
   simp only[List.map_cons,R5,ba] at hreg;obtain⟨⟨f,u⟩,H⟩:=hreg;have g:∀d,R.o.dst=some d->d<X.n/\d ∉ seen:=fun d k=>by
    rw[k] at f;simp only[ba] at f;exact⟨by simp_all,OW f.2⟩
   have z:∀x∈R.p,x.1∈seen:=by
    unfold Db at hp;split at hp
    ·grind
    ·rename_i j b E;rw[E] at u;have m:j<i:=by simpa using u
     split at hp
     ·rename_i oj hj;split at hp
      ·rename_i dj aC;split at hp
       ·rename_i q' f' x' hs;simp only[oi] at hp; rw[<- hp];intro y Y;rcases List.mem_cons.1 Y with rfl | Y
        ·grind[n0p]
        ·exact hpath dj _ hs y Y
       grind
      grind
     grind
   have k:∀d,R.o.dst=some d->d<X.n/\(∀x∈R.p,x.1≠d)/\∀t s,a8 st.e t=some s->∀x∈s.p,x.1≠d:=fun d k=>⟨(g d k).1,fun x v e=>(g d k).2 (e ▸ z x v),fun t s F x v e=>(g d k).2 (e ▸ hpath t s F x v)⟩
   have aA:=I0H (K:=wpList X.P ops Q (r.map (·.o)++rest)) l hT ha (Q:=Q) S ho hE hp hab hq hg k (fun a' G' S' _ W V=>by
    refine SJ l hT ha r (i+1) _ (I5 st R) G' a' (fun j hj=>?_) H ?_ ?_ hrun S' W V hK
    ·have:=hall (j+1) (by grind);simp only[List.getElem?_cons_succ] at this;rw[this]; congr 1; omega
    ·intro j oj dj hj h1 h2;rcases Nat.lt_or_ge j i with h | h
     ·grind
     ·have m:j=i:=by omega
      subst m;have h0:=hall 0 (by simp)
      grind
    ·intro t s F x v;have aB:x.1∈seen->x.1∈(match R.o.dst with | some d=>d :: seen | none=>seen):=fun h=>by
      grind
     simp only[I5,FH] at F
     grind[lK])
   grind[wpList,AP]
theorem D0J(l:B6 X.P Γ)(v:∀c∈T,Ok X.P c){ops:Array Oper}{all:List Oper}(m:ops=all.toArray){Q:Exit->Act->World->Prop}(recs:List C1)(i:Nat)(b:List Nat)(st:St)(G:Gh)(a:Act)(k:∀j,recs[j]?.map (·.o)=all[i+j]?)(h:R5 X.n i b (recs.map (·.o))=true)
  (f:∀j oj dj,j<i->all[j]?=some oj->oj.dst=some dj->dj∈b) (d:∀t s,a8 st.e t=some s->∀x∈s.p,x.1∈b) (g:KU Γ T all st recs) (S:Sat X G) (u:G.o=st.o) (q:EnvR X.n G st.e a)
  (r:∀G' a',Sat X G'->G'.o=(recs.foldl I5 st).o->EnvR X.n G' (recs.foldl I5 st).e a'->Q .normal a' G'.w):wpList X.P ops Q (recs.map (·.o)) a G.w:=by
 have:=SJ (rest:=[]) l v m recs i b st G a (fun j _=>k j) h f d g S u q r
 rwa [List.append_nil] at this
end
def C8(D:Nat->Bool):Nat->List C1->St->St
 | _,[],st=>st
 | i,R :: r,st=>C8 D (i+1) r (if D i=true then I5 st R else st)
def GZ(R:C1)(t:Nat):Prop:=R.o.dst=some t
def IZ(R:C1)(id:Nat):Prop:=∃x∈R.obs,x.1=id
theorem XJ(st:St)(R:C1)(t:Nat)(h:¬GZ R t):a8 (I5 st R).e t=a8 st.e t:=by
 simp only[I5,FH];split
 ·rename_i d a b _;rw[lK,if_neg (fun e=>h (by rw[<- e]; exact b))]
 ·rfl
theorem XK(st:St)(R:C1)(id:Nat)(h:¬IZ R id):a8 (I5 st R).o id=a8 st.o id:=by
 simp only[I5];exact XA (fun x a e=>h ⟨x,a,e⟩)
theorem m0U{st st':St}{R:C1}{t:Nat}(h:a8 st.e t=a8 st'.e t):a8 (I5 st R).e t=a8 (I5 st' R).e t:=by
 simp only[I5,FH]
 grind[lK]
theorem y0G{b:Type}{l m a:List (Nat×b)}{i:Nat}(h:a8 m i=a8 a i):a8 (l++m) i=a8 (l++a) i:=by
 induction l with
 | nil=>exact h
 | cons x r c =>
   grind[lK]
theorem m0T{st st':St}{R:C1}{id:Nat}(h:a8 st.o id=a8 st'.o id):a8 (I5 st R).o id=a8 (I5 st' R).o id:=y0G h
theorem XL{D b:Nat->Bool}{t:Nat}:∀{recs:List C1} {i:Nat} {st st':St},(∀j R,recs[j]?=some R->GZ R t->D (i+j)=b (i+j))->a8 st.e t=a8 st'.e t->a8 (C8 D i recs st).e t=a8 (C8 b i recs st').e t
 | [],_,_,_,_,h=>h
 | R :: r,i,st,st',hD,h=>by
   simp only[C8];refine XL (fun j c d a=>by have:=hD (j+1) c (by grind) a; rwa [show i+(j+1)=i+1+j by omega] at this) ?_;by_cases a:GZ R t
   ·have:=hD 0 R rfl a;simp only[Nat.add_zero] at this
    grind[m0U]
   grind[XJ]
theorem XM{D b:Nat->Bool}{id:Nat}:∀{recs:List C1} {i:Nat} {st st':St},(∀j R,recs[j]?=some R->IZ R id->D (i+j)=b (i+j))->a8 st.o id=a8 st'.o id->a8 (C8 D i recs st).o id=a8 (C8 b i recs st').o id
 | [],_,_,_,_,h=>h
 | R :: r,i,st,st',hD,h=>by
   simp only[C8];refine XM (fun j c d a=>by have:=hD (j+1) c (by grind) a; rwa [show i+(j+1)=i+1+j by omega] at this) ?_;by_cases a:IZ R id
   ·have:=hD 0 R rfl a;simp only[Nat.add_zero] at this
    grind[m0T]
   grind[XK]
theorem m0X{D:Nat->Bool}{t:Nat}{R:C1}:∀{recs:List C1} {i j:Nat} {st st':St},recs[j]?=some R->GZ R t->R.av≠none->D (i+j)=true->(∀k R',j<k->recs[k]?=some R'->GZ R' t->D (i+k)=false)->a8 (C8 D i recs st).e t=a8 (I5 st' R).e t
 | R0 :: r,i,0,st,st',hj,hw,hav,hD,hl=>by
   simp only[List.getElem?_cons_zero,oi] at hj; subst hj;simp only[Nat.add_zero] at hD;simp only[C8,hD,if_true];have g:a8 (C8 D (i+1) r (I5 st R0)).e t=a8 (I5 st R0).e t:=by
    have:∀{recs:List C1} {i:Nat} {st:St},(∀k R',recs[k]?=some R'->GZ R' t->D (i+k)=false)->a8 (C8 D i recs st).e t=a8 st.e t:=by
     intro recs
     induction recs with
     | nil=>intro i st _; rfl
     | cons d n l =>
       intro i st h;simp only[C8];rw[l (fun k R' c b=>by have:=h (k+1) R' (by grind) b; rwa [show i+(k+1)=i+1+k by omega] at this)];split
       ·rename_i f;refine XJ st d t (fun b=>?_);have:=h 0 d rfl b
        grind
       ·rfl
    exact this (fun k R' c b=>by have:=hl (k+1) R' (by omega) (by grind) b; rwa [show i+(k+1)=i+1+k by omega] at this)
   rw[g];unfold GZ at hw;simp only[I5,FH,hw];cases h:R0.av with
   | none=>grind
   | some a=>simp only[lK,if_true]
 | R0 :: r,i,j+1,st,st',hj,hw,hav,hD,hl=>by
   simp only[C8];exact m0X (j:=j) (by grind) hw hav (by grind) (fun k R' m c b=>by have:=hl (k+1) R' (by omega) (by grind) b; rwa [show i+(k+1)=i+1+k by omega] at this)
theorem p0i{a:Type}{l m b:List (Nat×a)}{i:Nat}(h:∃x∈l,x.1=i):a8 (l++m) i=a8 (l++b) i:=by
 induction l with
 | nil=>grind
 | cons x r c =>
   obtain⟨d,v⟩:=x;rw[List.cons_append,List.cons_append,lK,lK]
   grind
theorem m0W{D:Nat->Bool}{id:Nat}{R:C1}:∀{recs:List C1} {i j:Nat} {st st':St},recs[j]?=some R->IZ R id->D (i+j)=true->(∀k R',j<k->recs[k]?=some R'->IZ R' id->D (i+k)=false)->a8 (C8 D i recs st).o id=a8 (I5 st' R).o id
 | R0 :: r,i,0,st,st',hj,hw,hD,hl=>by
   simp only[List.getElem?_cons_zero,oi] at hj; subst hj;simp only[Nat.add_zero] at hD;simp only[C8,hD,if_true];have e:a8 (C8 D (i+1) r (I5 st R0)).o id=a8 (I5 st R0).o id:=by
    have:∀{recs:List C1} {i:Nat} {st:St},(∀k R',recs[k]?=some R'->IZ R' id->D (i+k)=false)->a8 (C8 D i recs st).o id=a8 st.o id:=by
     intro recs
     induction recs with
     | nil=>intro i st _; rfl
     | cons c l f =>
       intro i st h;simp only[C8];rw[f (fun k R' b a=>by have:=h (k+1) R' (by grind) a; rwa [show i+(k+1)=i+1+k by omega] at this)];split
       ·rename_i d;refine XK st c id (fun a=>?_);have:=h 0 c rfl a
        grind
       ·rfl
    exact this (fun k R' b a=>by have:=hl (k+1) R' (by omega) (by grind) a; rwa [show i+(k+1)=i+1+k by omega] at this)
   rw[e];exact p0i hw
 | R0 :: r,i,j+1,st,st',hj,hw,hD,hl=>by
   simp only[C8];exact m0W (j:=j) (by grind) hw (by grind) (fun k R' g b a=>by have:=hl (k+1) R' (by omega) (by grind) a; rwa [show i+(k+1)=i+1+k by omega] at this)
theorem u0H{D:Nat->Bool}:∀{recs:List C1} {i:Nat} {st:St},(∀j,j<recs.length->D (i+j)=true)->C8 D i recs st=recs.foldl I5 st
 | [],_,_,_=>rfl
 | R :: r,i,st,h=>by
   have a:=h 0 (by simp);simp only[Nat.add_zero] at a;simp only[C8,a,if_true,List.foldl_cons];exact u0H (fun j b=>by have:=h (j+1) (by grind); rwa [show i+(j+1)=i+1+j by omega] at this)
theorem C0b{Γ:p9}{T:List Ct}{all:List Oper}:∀{recs:List C1} {i:Nat} {st:St} {j:Nat} {R:C1},KU Γ T all st recs->recs[j]?=some R ->
  ∃sj,sj=C8 (fun k=>decide (k<i+j)) i recs st/\Db all sj.e R.o=some R.p/\(∃q,Aw Γ T sj R.p R.o=some (q,R.av,R.obs,R.fp)/\(GX sj.e R.p->q))/\(R.p=[]∨R.obs=[])
 | [],_,_,j,_,_,h=>by grind
 | R0 :: r,i,st,0,R,⟨h1,h2,h3,h4⟩,h=>by
   simp only[List.getElem?_cons_zero,oi] at h; subst h;have:∀{recs:List C1} {i j:Nat} {st:St},i<=j->C8 (fun k=>decide (k<i)) j recs st=st:=by
    intro recs
    induction recs with
    | nil=>intro i j st _; rfl
    | cons R r b =>
      intro i j st a;simp only[C8];rw[if_neg (by grind)];exact b (by omega)
   simp_all
 | R0 :: r,i,st,j+1,R,⟨h1,h2,h3,h4⟩,h=>by
   obtain⟨sj,e,c,d,k3⟩:=C0b (i:=i+1) (j:=j) h4 (by simpa using h)
   grind[C8]
def S8(o:Oper):List Nat:=o.after.toList.filterMap fun e=>bif Region.binds .any e then some e.on else none
def Z6:Nat->List Oper->Bool
 | _,[]=>true
 | i,o :: r=>(S8 o).all (fun k=>Nat.blt k i)&&Z6 (i+1) r
def V2:List (List Nat)->List Oper->List (List Nat)
 | acc,[]=>acc
 | acc,o :: r=>V2 (acc++[S8 o++(S8 o).flatMap fun k=>(I4 acc k).getD []]) r
def X4(x:Nat):List Nat->Bool
 | []=>false
 | y :: r=>Nat.beq x y||X4 x r
theorem DO{x:Nat}:∀{l:List Nat},X4 x l=true↔x∈l
 | []=>by simp[X4]
 | y :: r=>by
   simp only[X4,Bool.or_eq_true,List.mem_cons,DO (l:=r)]
   simp_all
theorem Dc{o:Oper}{k:Nat}:k∈S8 o↔∃e∈o.after,Region.binds .any e=true/\e.on=k:=by
 unfold S8
 grind
def Ha(D:Nat->Bool)(all:List Oper):Prop:=∀i o,all[i]?=some o->D i=true->∀k∈S8 o,D k=true
theorem XN{all:List Oper}:∀{rest:List Oper} {acc:List (List Nat)},(∀j:Nat,rest[j]?=all[acc.length+j]?)->Z6 acc.length rest=true ->
  (∀(i:Nat) (l:List Nat),acc[i]?=some l->(∀k∈l,k<i)/\∀D,Ha D all->∀o,all[i]?=some o->(∀k∈S8 o,D k=true)->∀k∈l,D k=true) ->
  ∀(i:Nat) (l:List Nat),(V2 acc rest)[i]?=some l->(∀k∈l,k<i)/\∀D,Ha D all->∀o,all[i]?=some o->(∀k∈S8 o,D k=true)->∀k∈l,D k=true
 | [],acc,_,_,h=>h
 | o :: r,acc,hall,hb,h=>by
   simp only[Z6,ba,List.all_eq_true] at hb;simp only[V2];refine XN (fun j=>?_) (by grind) (fun i l hi=>?_)
   ·have:=hall (j+1);simp only[List.getElem?_cons_succ] at this;rw[this]; congr 1; simp; omega
   ·rcases Nat.lt_or_ge i acc.length with t | hge
    ·rw[List.getElem?_append_left t] at hi;exact h i l hi
    ·have u:i=acc.length:=by
      rcases Nat.eq_or_lt_of_le hge with e | e
      ·exact e.symm
      ·rw[List.getElem?_eq_none (by simp; omega)] at hi; cases hi
     subst u;simp only[List.getElem?_concat_length,oi] at hi;subst hi;have x:∀k:Nat,k∈S8 o->k<acc.length:=fun k x=>by simp_all
     refine⟨fun k f=>?_,fun D y F a q k f=>?_⟩
     ·grind[AN,List.getElem?_eq_getElem]
     ·have z:=hall 0;simp only[List.getElem?_cons_zero,Nat.add_zero] at z;rw[<- z] at a;cases a;rcases List.mem_append.1 f with v | v
      ·grind
      ·obtain⟨m,w,s⟩:=List.mem_flatMap.1 v;rw[AN] at s;have b:=x m w;rw[List.getElem?_eq_getElem b] at s;have n:=q m w;obtain⟨g,c⟩:∃g,all[m]?=some g:=by
        grind
       exact(h m acc[m] (List.getElem?_eq_getElem b)).2 D y g c (fun E d=>y m g c n E d) k s
end Go.Proofs.Xv
end
section
set_option maxHeartbeats 0
namespace Go.Proofs.Xv
open Go Go.RowKit Go.Proofs.Sv
theorem Sat.congr{X:Cx}{G:Gh}(S:Sat X G){o':List (Nat×Ob)}(h:∀i,a8 o' i=a8 G.o i):Sat X { G with o:=o' }/\GLe G { G with o:=o' }:=by
 have c:GLe G { G with o:=o' }:=⟨rfl,fun k F _=>⟨F,rfl⟩,fun i T w hi=>⟨rfl,T,w,(h i).trans hi⟩,fun i T r e t j d hi=>⟨rfl,T,r,e,t,j,d,(h i).trans hi⟩,fun i T e t j f hi=>⟨T,e,t,j,f,(h i).trans hi,Nat.le_refl _,fun _=>rfl⟩⟩;have a:∀i o,a8 o' i=some o->a8 G.o i=some o:=fun i o hi=>(h i).symm.trans hi;refine⟨⟨S.base,S.os,S.tape,S.output,S.size,S.block,fun i o hi=>?_,fun i s o u b hi n=>S.inj i s o u b (a i o hi) (a s u n),fun i o b hi=>S.imm i o b (a i o hi),fun i o b hi=>S.own i o b (a i o hi),S.klt,S.kfrom,fun i b x Q=>?_,fun i v h=>(S.pin i v h).mono c⟩,c⟩
 rotate_right
 ·obtain⟨V,Y,P,W⟩:=S.sep i b x (by grind)
  grind
 have:=S.obs i o (a i o hi);cases o with
 | box T w=>obtain⟨b,E,m,l,q,z⟩:=this; exact⟨b,E,m,l,q,z.mono c⟩
 | arr T e t j f=>exact this
 | grd T r e t j d =>
   obtain⟨H,y,m,l,q⟩:=this;exact⟨H,y,m,l.up c (fun _=>Iff.rfl) (WE.refl (g:=none) _) (fun _ _ h=>by cases h),q⟩
theorem EnvR.congr{n:Nat}{G:Gh}{e e':List (Nat×Sl)}{a:Act}(h:EnvR n G e a)(b:∀t,a8 e' t=a8 e t):EnvR n G e' a :=
 ⟨h.defers,h.size,fun t s c=>h.val t s (by grind)⟩
theorem n0k{all:List Oper}{e e':List (Nat×Sl)}{o:Oper}{p:Pa}(h:Db all e o=some p)(a:∀x∈p,a8 e x.1=a8 e' x.1):Db all e' o=some p:=by
 unfold Db at h ⊢;split at h
 ·exact h
 grind[oi,a8,List.mem_cons_self]
theorem j0B{e e':List (Nat×Sl)}:∀{p:Pa},(∀x∈p,a8 e x.1=a8 e' x.1)->GX e p->GX e' p
 | [],_,_=>trivial
 | (s,b) :: r,h,⟨h1,h2⟩=>by
   refine⟨?_,j0B (fun x a=>h x (by grind)) h2⟩
   simp_all
def B0W(R:C1):List Nat:=B0X R.o.op.operands.toList++R.p.map Prod.fst
def XO(l m:List Nat):Bool:=l.all fun x=>!X4 x m
def KX(bs:List (List Nat))(i:Nat)(A:C1)(k:Nat)(B:C1):Bool :=
 (match A.o.dst with
   | some d=>(!X4 d (B0W B)||(X4 i ((I4 bs k).getD [])||X4 k ((I4 bs i).getD [])))&&(!X4 d (B.p.map Prod.fst)||X4 i ((I4 bs k).getD []))
   | none=>true)&&(XO (A.obs.map Prod.fst) (B.fp++B.obs.map Prod.fst)||(X4 i ((I4 bs k).getD [])||X4 k ((I4 bs i).getD [])))
def KY(f:Nat->C1->Bool):Nat->List C1->Bool
 | _,[]=>true
 | i,R :: r=>f i R&&KY f (i+1) r
theorem SK{f:Nat->C1->Bool}:∀{recs:List C1} {i:Nat},KY f i recs=true->∀j R,recs[j]?=some R->f (i+j) R=true
 | [],_,_,j,R,h=>by grind
 | R0 :: r,i,h,0,R,hj=>by
   grind[KY]
 | R0 :: r,i,h,j+1,R,hj=>by
   simp only[KY,ba] at h;have:=SK h.2 j R (by grind)
   grind
def C0a(A:C1):Bool:=match A.o.dst with
 | some d=>!X4 d (A.p.map Prod.fst)
 | none=>true
def KZ(bs:List (List Nat))(recs:List C1):Bool:=KY (fun i A=>C0a A&&KY (fun k B=>Nat.beq i k||KX bs i A k B) 0 recs) 0 recs
theorem SL{b:List (List Nat)}{recs:List C1}(h:KZ b recs=true){i k:Nat}{A B:C1}(hi:recs[i]?=some A)(c:recs[k]?=some B)(d:i≠k):KX b i A k B=true:=by
 have a:=SK h i A hi;rw[ba] at a;have e:=SK a.2 k B c
 simp_all
theorem XP{n:Nat}:∀{l:List Oper} {i:Nat} {seen:List Nat},R5 n i seen l=true->(∀(j:Nat) (o:Oper) (d:Nat),l[j]?=some o->o.dst=some d->d<n/\d ∉ seen)/\(∀(j k:Nat) (o o':Oper) (d:Nat),l[j]?=some o->l[k]?=some o'->o.dst=some d->o'.dst=some d->j=k)
 | [],_,_,_=>⟨fun j o d h=>by grind,fun j k o o' d h=>by grind⟩
 | o0 :: r,i,seen,h=>by
   simp only[R5,ba] at h;obtain⟨⟨a,_⟩,c⟩:=h;obtain⟨m,g⟩:=XP c;have e:∀d,d∈seen->d∈(match o0.dst with | some d=>d :: seen | none=>seen):=fun d b=>by
    grind
   have f:∀d,o0.dst=some d->d<n/\d ∉ seen:=fun d b=>by
    rw[b] at a;simp only[ba] at a;exact⟨by simp_all,OW a.2⟩
   grind
theorem n0U{b:Type}{p a:b->Bool}:∀{l:List b},(∀x,a x=true->p x=true)->(∃x∈l,p x=true/\a x=false)->(l.filter a).length < (l.filter p).length
 | [],_,⟨x,hx,_⟩=>by cases hx
 | y :: r,h,⟨x,hx,h1,h2⟩=>by
   have d:∀l:List b,(l.filter a).length<=(l.filter p).length:=fun l=>by
    induction l with
    | nil=>grind
    | cons z s c =>
      grind
   rcases List.mem_cons.1 hx with rfl | hx
   ·grind
   ·have c:=n0U h ⟨x,hx,h1,h2⟩;simp only[List.filter_cons];by_cases hz:a y=true
    ·rw[if_pos hz,if_pos (h y hz)]; simp only[List.length_cons]; omega
    ·rw[if_neg hz];split
     ·simp only[List.length_cons]; omega
     ·exact c
theorem q0s{D:Nat->Bool}{t:Nat}{s:Sl}:∀{recs:List C1} {i:Nat} {st:St},a8 (C8 D i recs st).e t=some s->a8 st.e t=some s∨∃k R,recs[k]?=some R/\D (i+k)=true/\s.p=R.p
 | [],_,_,h=>.inl h
 | R :: r,i,st,h=>by
   simp only[C8] at h;rcases q0s h with a | ⟨k,R',h1,h2,h3⟩
   ·by_cases b:D i=true
    ·rw[if_pos b] at a;simp only[I5,FH] at a;split at a
     ·rw[lK] at a;split at a
      ·cases a;exact .inr ⟨0,R,rfl,b,rfl⟩
      grind
     grind
    grind
   ·exact .inr ⟨k+1,R',by grind,by grind,h3⟩
theorem E0Y{Γ:p9}{T:List Ct}{st:St}{p:Pa}{o:Oper}{d:Nat}{q:Prop}{av:Option AV}{obs:List (Nat×Ob)}{fp:List Nat}(h:Aw Γ T st p o=some (q,av,obs,fp))(a:o.dst=some d):av≠none:=by
 grind[Aw]
section
variable {X:Cx} {Γ:p9} {T:List Ct}
theorem r0x(bD:B6 X.P Γ)(hT:∀c∈T,Ok X.P c){l:List Oper}{recs:List C1}{st:St}{Q:Exit->Act->World->Prop}(hl:recs.map (·.o)=l)(aM:KU Γ T l st recs)(aT:∀t s,a8 st.e t=some s->s.p=[])
  (aJ:R5 X.n 0 [] l=true) (Y:Z6 0 l=true) (E:KZ (V2 [] l) recs=true) (hK:∀G' a',Sat X G'->G'.o=(recs.foldl I5 st).o->EnvR X.n G' (recs.foldl I5 st).e a'->Q .normal a' G'.w) :
  ∀(fuel:Nat) (listed:Array Bool) (G:Gh) (a:Act),((List.range l.length).filter fun i=>!listed.getD i true).length<=fuel->listed.size=l.length->Ha (fun k=>listed.getD k false) l->Sat X G->(∀id,a8 G.o id=a8 (C8 (fun k=>listed.getD k false) 0 recs st).o id) ->
   EnvR X.n G (C8 (fun k=>listed.getD k false) 0 recs st).e a->wpAny X.P .any l.toArray Q fuel listed a G.w:=by
 have bN:recs.length=l.length:=by rw[<- hl]; simp
 have aW:∀(j:Nat) (R:C1),recs[j]?=some R->l[j]?=some R.o:=fun j R h=>by rw[<- hl,List.getElem?_map,h]; rfl
 have aX:∀(j:Nat) (o:Oper),l[j]?=some o->∃R,recs[j]?=some R/\R.o=o:=fun j o h=>by
  rw[<- hl,List.getElem?_map] at h;cases hr:recs[j]? with
  | none=>rw[hr] at h; cases h
  | some R=>rw[hr] at h; cases h; exact⟨R,rfl,rfl⟩
 have aV:=XN (all:=l) (rest:=l) (acc:=[]) (fun j=>by simp) Y (fun i m h=>by grind);have aD:=XP aJ;have aI:∀(i:Nat) (o:Oper) (k:Nat),l[i]?=some o->k∈S8 o->k<i:=by
  have:∀{m:List Oper} {i:Nat},Z6 i m=true->∀j o k,m[j]?=some o->k∈S8 o->k<i+j:=by
   intro m
   induction m with
   | nil=>grind
   | cons o0 r ih =>
     intro i h j o k hj v;simp only[Z6,ba,List.all_eq_true] at h;cases j with
     | zero=>simp only[List.getElem?_cons_zero,oi] at hj; simp_all
     | succ j=>grind
  intro i o k u h2;have:=this Y i o k u h2; omega
 -- all is done: the end
 have aF:∀(listed:Array Bool) (G:Gh) (a:Act),(∀i,i<l.length->listed.getD i false=true)->Sat X G->(∀id,a8 G.o id=a8 (C8 (fun k=>listed.getD k false) 0 recs st).o id)->EnvR X.n G (C8 (fun k=>listed.getD k false) 0 recs st).e a->Q .normal a G.w:=by
  intro listed G a aL S hO hE;rw[u0H (fun j hj=>by grind)] at hO hE;obtain⟨S',L'⟩:=S.congr (o':=(recs.foldl I5 st).o) (fun i=>(hO i).symm);exact hK ⟨G.ρ,G.γ,G.K,G.w,(recs.foldl I5 st).o,G.B,G.δ⟩ a S' rfl (hE.mono L')
 intro fuel
 induction fuel with
 | zero =>
   intro listed G a hf bH aB S hO hE;have aK:(List.range l.length).filter (fun i=>!listed.getD i true)=[]:=List.eq_nil_of_length_eq_zero (by omega);have aL:∀i,i<l.length->listed.getD i true=true:=fun i hi=>by
    cases h:listed.getD i true with
    | true=>rfl
    | false =>
      have:i∈(List.range l.length).filter (fun i=>!listed.getD i true):=List.mem_filter.2 ⟨List.mem_range.2 hi,by grind⟩;rw[aK] at this; cases this
   refine⟨?_,aF listed G a (fun i hi=>?_) S hO hE⟩
   ·grind[Region.ready,hi,mem_ready,Nat.lt_or_ge,List.getElem?_eq_none]
   grind
 | succ fuel ih =>
   intro listed G a hf bH aB S hO hE;refine⟨fun hr=>aF listed G a ?_ S hO hE,fun i hi=>?_⟩
   · -- nothing is ready: all is done
     intro i
     induction i using Nat.strongRecOn with
     | ind i aZ =>
       intro hi;cases h:listed.getD i false with
       | true=>rfl
       | false =>
         have:i∈Region.ready .any l.toArray listed:=mem_ready.2 ⟨by
          grind,l[i],by grind,fun e he hb=>aZ e.on (aI i l[i] e.on (List.getElem?_eq_getElem hi) (Dc.2 ⟨e,he,hb,rfl⟩)) (by have:=aI i l[i] e.on (List.getElem?_eq_getElem hi) (Dc.2 ⟨e,he,hb,rfl⟩); omega)⟩
         rw[hr] at this; cases this
   ·obtain⟨aN,o,ho,bP⟩:=mem_ready.1 hi;rw[List.getElem?_toArray] at ho;obtain⟨R,hR,rfl⟩:=aX i o ho;have aH:i<l.length:=by
     rcases Nat.lt_or_ge i l.length with h | h
     ·exact h
     ·grind
    have bT:listed.getD i false=false:=by
     have hs:i<listed.size:=by omega
     rw[Array.getD_eq_getD_getElem?,Array.getElem?_eq_getElem hs] at aN ⊢;exact aN
    -- what stands ahead of i is done
    have bU:∀k∈((I4 (V2 [] l) i).getD []),k<i/\listed.getD k false=true:=by
     intro k v;rw[AN] at v;cases hb:(V2 [] l)[i]? with
     | none=>grind
     | some m =>
       grind[Dc]
    have bR:∀k,listed.getD k false=true->k<l.length->∀m∈((I4 (V2 [] l) k).getD []),m<k/\listed.getD m false=true:=by
     intro k v g m hm;rw[AN] at hm;cases hb:(V2 [] l)[k]? with
     | none=>grind
     | some b =>
       rw[hb] at hm;obtain⟨g1,g2⟩:=aV k b hb;exact⟨g1 m hm,g2 _ aB l[k] (List.getElem?_eq_getElem g) (fun k' bE=>aB k l[k] (List.getElem?_eq_getElem g) v k' bE) m hm⟩
    have bK:∀k,k<l.length->∀m∈((I4 (V2 [] l) k).getD []),m<k:=by
     intro k g m hm;rw[AN] at hm;cases hb:(V2 [] l)[k]? with
     | none=>grind
     | some b=>grind
    -- ordered with i: done exactly if earlier in the text
    have aC:∀k,k<l.length->k≠i->(X4 k ((I4 (V2 [] l) i).getD [])||X4 i ((I4 (V2 [] l) k).getD []))=true->listed.getD k false=decide (k<i):=by
     intro k g bM h;rw[Bool.or_eq_true] at h;rcases h with h | h
     ·grind[DO]
     ·grind[DO]
    obtain⟨sj,aG,bA,⟨q,aP,hq⟩,hg⟩:=C0b (i:=0) aM hR;rw[Nat.zero_add] at aG
    -- the slots and objects that i looks at are as in the text's order
    have aS:∀t,t∈B0W R->a8 sj.e t=a8 (C8 (fun k=>listed.getD k false) 0 recs st).e t:=by
     intro t ht;rw[aG];refine XL (fun k R' v H=>?_) rfl;rw[Nat.zero_add];by_cases f:k=i
     ·grind
     ·have F:=SL E v hR f;have g:k<l.length:=by
       rcases Nat.lt_or_ge k l.length with h | h
       ·exact h
       ·grind
      simp only[KX,ba] at F;have H:R'.o.dst=some t:=H;rw[H] at F;simp only[ba] at F;have u:=F.1.1;rw[Bool.or_eq_true] at u;rcases u with u | u
      ·grind[DO]
      ·exact(aC k g f (by omega)).symm
    have aU:∀id,id∈R.fp++R.obs.map Prod.fst->a8 sj.o id=a8 G.o id:=by
     intro id aQ;rw[hO,aG];refine XM (fun k R' v H=>?_) rfl;rw[Nat.zero_add];by_cases f:k=i
     ·grind
     ·have F:=SL E v hR f;have g:k<l.length:=by
       rcases Nat.lt_or_ge k l.length with h | h
       ·exact h
       ·grind
      simp only[KX,ba] at F;have u:=F.2;rw[Bool.or_eq_true] at u;obtain⟨y,hy,bF⟩:=H;rcases u with u | u
      ·grind[XO,List.all_eq_true,List.mem_map_of_mem,DO]
      ·exact(aC k g f (Bool.or_comm _ _ ▸ u)).symm
    have aO:∀x∈R.p,a8 sj.e x.1=a8 (C8 (fun k=>listed.getD k false) 0 recs st).e x.1:=fun x hx=>aS x.1 (List.mem_append.2 (.inr (List.mem_map_of_mem hx)));have bI:=n0k bA aO;have aR:Aw Γ T ⟨(C8 (fun k=>listed.getD k false) 0 recs st).e,G.o⟩ R.p R.o=some (q,R.av,R.obs,R.fp) :=
     s0W (e:=sj.e) (o:=sj.o) (fun t ht=>aS t (List.mem_append.2 (.inl (v0G ht)))) aP (fun id aQ=>aU id (List.mem_append.2 (.inl aQ)))
    have hd:∀d,R.o.dst=some d->d<X.n/\(∀x∈R.p,x.1≠d)/\∀t s,a8 (C8 (fun k=>listed.getD k false) 0 recs st).e t=some s->∀x∈s.p,x.1≠d:=by
     intro d hd;refine⟨(aD.1 i R.o d ho hd).1,fun x hx e=>?_,fun t s ht x hx e=>?_⟩
     ·have u:=SK E i R hR;rw[Nat.zero_add,ba] at u
      grind[C0a,DO]
     ·rcases q0s ht with h | ⟨k,Rk,v,W,hsp⟩
      ·grind
      ·rw[Nat.zero_add] at W;have f:i≠k:=fun e'=>by grind
       have g:k<l.length:=by
        rcases Nat.lt_or_ge k l.length with h | h
        ·exact h
        ·grind
       have F:=SL E hR v f;simp only[KX,ba,hd] at F;have h2:=F.1.2;rw[Bool.or_eq_true] at h2
       grind[DO]
    have V:∀k,(listed.setIfInBounds i true).getD k false=if k=i then true else listed.getD k false:=fun k=>by
     by_cases f:k=i
     ·subst f;have hs:k<listed.size:=by omega
      simp[hs]
     ·rw[if_neg f]; exact getD_set_ne false (Ne.symm f)
    have bL:=I0H (st:=⟨(C8 (fun k=>listed.getD k false) 0 recs st).e,G.o⟩) (K:=wpAny X.P .any l.toArray Q fuel (listed.setIfInBounds i true)) bD hT (ops:=l.toArray) (all:=l) rfl (Q:=Q) S rfl hE bI aR (fun F=>hq (j0B (fun x hx=>(aO x hx).symm) F)) hg hd (fun a' G' S' _ bB aY=>by
     refine ih (listed.setIfInBounds i true) G' a' ?_ (by grind) ?_ S' ?_ ?_
     ·have:((List.range l.length).filter fun j=>!(listed.setIfInBounds i true).getD j true).length < ((List.range l.length).filter fun j=>!listed.getD j true).length:=by
       refine n0U (fun j hj=>?_) ⟨i,List.mem_range.2 aH,by grind,?_⟩
       ·by_cases bO:i=j
        ·grind
        grind
       ·grind
      omega
     ·intro k o v W m hm;simp only[V] at W ⊢;by_cases bJ:m=i
      ·grind
      ·rw[if_neg bJ];by_cases f:k=i
       ·subst f;rw[ho] at v;cases v;obtain⟨e,he,bQ,rfl⟩:=Dc.1 hm
        grind
       ·rw[if_neg f] at W;exact aB k o v W m hm
     ·intro id;rw[bB];by_cases H:IZ R id
      ·rw[m0W (D:=fun k=>(listed.setIfInBounds i true).getD k false) (st':=⟨[],G.o⟩) hR H (by grind) (fun k Rk bG v aA=>?_)]
       ·rfl
       ·rw[Nat.zero_add];simp only[V,if_neg (show k≠i by omega)];have g:k<l.length:=by
         rcases Nat.lt_or_ge k l.length with h | h
         ·exact h
         ·grind
        have F:=SL E v hR (show k≠i by omega);simp only[KX,ba] at F;have u:=F.2;rw[Bool.or_eq_true] at u;obtain⟨y,hy,bF⟩:=aA;obtain⟨z,hz,bS⟩:=H;rcases u with u | u
        ·simp only[XO,List.all_eq_true] at u
         grind[List.mem_map_of_mem,DO]
        grind
      ·have e1:=XK ⟨[],G.o⟩ R id H;simp only[I5] at e1;rw[e1,hO];refine XM (fun k Rk v aA=>?_) rfl;rw[Nat.zero_add];simp only[V];rw[if_neg (fun e=>by grind)]
     ·refine aY.congr (fun t=>?_);by_cases H:GZ R t
      ·have bC:=E0Y aP H;rw[m0X (D:=fun k=>(listed.setIfInBounds i true).getD k false) (st':=⟨(C8 (fun k=>listed.getD k false) 0 recs st).e,G.o⟩) hR H bC (by grind) (fun k Rk bG v aA=>by
        have:=aD.2 i k R.o Rk.o t ho (aW k Rk v) H aA;omega)]
       rfl
      ·have e1:=XJ ⟨(C8 (fun k=>listed.getD k false) 0 recs st).e,G.o⟩ R t H;simp only[I5] at e1;rw[e1];refine XL (fun k Rk v aA=>?_) rfl;rw[Nat.zero_add];simp only[V];rw[if_neg (fun e=>by grind)])
    grind[wpOp,AP]
end
end Go.Proofs.Xv
end
section
namespace Go.Proofs.Xv
open Go Go.RowKit Go.Proofs.Sv
def VX(X:Cx)(st:St)(c:Code)(Q:Exit->Act->World->Prop):Prop:=∀G a,Sat X G->G.o=st.o->EnvR X.n G st.e a->c.wp X.P Q a G.w
def FX(X:Cx)(st:St)(x:Exit)(Q:Exit->Act->World->Prop):Prop:=∀G a,Sat X G->G.o=st.o->EnvR X.n G st.e a->Q x a G.w
def Hb(e:List (Nat×Sl)):List Nat->List (Nat×Sl)
 | []=>[]
 | t :: r=>match a8 e t with
   | some ⟨[],a⟩=>(t,⟨[],a⟩) :: Hb e r
   | _=>Hb e r
def OX:List Nat->List (Nat×Ob)->List (Nat×Ob)
 | _,[]=>[]
 | seen,(i,b) :: r=>bif X4 i seen then OX seen r else(i,b) :: OX (i :: seen) r
def cut(keep:List Nat)(st:St):St:=⟨Hb st.e keep,OX [] st.o⟩
theorem SM{e:List (Nat×Sl)}:∀{keep:List Nat} {t:Nat} {s:Sl},a8 (Hb e keep) t=some s->a8 e t=some s/\s.p=[]
 | [],t,s,h=>by cases h
 | k :: r,t,s,h=>by
   unfold Hb at h;split at h
   ·rename_i a b;rw[lK] at h;split at h
    ·grind
    ·exact SM h
   ·exact SM h
theorem XQ:∀{o:List (Nat×Ob)} {seen:List Nat} {i:Nat},i ∉ seen->a8 (OX seen o) i=a8 o i
 | [],_,_,_=>rfl
 | (j,b) :: r,seen,i,h=>by
   unfold OX;rw[ce,lK];split
   ·rename_i c;have:¬j=i:=fun e=>h (by grind[DO]);rw[if_neg this];exact XQ h
   ·rw[lK];split
    ·rfl
    ·rename_i a;exact XQ (by grind)
theorem SN{X:Cx}{st:St}{G:Gh}{a:Act}(b:List Nat)(S:Sat X G)(h:G.o=st.o)(c:EnvR X.n G st.e a):∃G',Sat X G'/\G'.o=(cut b st).o/\G'.w=G.w/\EnvR X.n G' (cut b st).e a:=by
 obtain⟨j,g⟩:=S.congr (o':=(cut b st).o) (fun i=>by rw[h]; exact XQ (by simp));refine⟨_,j,rfl,rfl,c.defers,c.size,fun t s f=>?_⟩;obtain⟨d,_⟩:=SM f;have:=(c.mono g).val t s d;omega
def R6(e:List (Nat×Sl)):Bool:=e.all fun x=>DL x.2.p
theorem FI{e:List (Nat×Sl)}(h:R6 e=true):∀t s,a8 e t=some s->s.p=[]:=by
 intro t s a;have:∃x∈e,x.2=s:=by
  induction e with
  | nil=>cases a
  | cons y r c =>
    obtain⟨d,v⟩:=y;rw[lK] at a;split at a
    ·simp_all
    grind[R6]
 obtain⟨x,b,rfl⟩:=this
 grind[R6,List.all_eq_true,OV]
section
variable {X:Cx} {st:St} {Q:Exit->Act->World->Prop}
theorem vQ{x y:Code}(h:VX X st x (Y1 X.P y Q)):VX X st (.seq x y) Q:=fun G a S c b=>wp_seq (h G a S c b)
theorem vB{id:Nat}{c:Code}(h:VX X st c (CD id Q)):VX X st (.block id c) Q:=fun G a S d b=>wp_block (h G a S d b)
theorem vK(h:FX X st .normal Q):VX X st .skip Q:=fun G a S c b=>wp_skip (h G a S c b)
theorem a7(h:FX X st .ret Q):VX X st .ret Q:=fun G a S c b=>wp_ret (h G a S c b)
theorem vE{id:Nat}(h:FX X st (.exit id) Q):VX X st (.exit id) Q:=fun G a S c b=>wp_exit (h G a S c b)
theorem XR{c:Operand}{x y:Code}{f b:Bool}(k:rd st [] c=some (.d f .bool b))(j:b=true->VX X st x Q)(l:b=false->VX X st y Q):VX X st (.cond c x y) Q:=fun G a S i g=>by
 have e:=FD (D9 g (p:=[]) (fun _ h=>by cases h) k);exact wp_cond_split e (fun h=>j h G a S i g) (fun h=>l h G a S i g)
theorem t0E{c:Operand}{x y:Code}{f:Bool}(a:rd st [] c=some (.d f .bool true))(b:VX X st x Q):VX X st (.cond c x y) Q:=XR a (fun _=>b) (fun h=>by cases h)
theorem t0F{c:Operand}{x y:Code}{f:Bool}(a:rd st [] c=some (.d f .bool false))(b:VX X st y Q):VX X st (.cond c x y) Q:=XR a (fun h=>by cases h) (fun _=>b)
theorem fQ{y:Code}(h:VX X st y Q):FX X st .normal (Y1 X.P y Q):=fun G a S c b=>h G a S c b
theorem fE{y:Code}{id:Nat}(h:FX X st (.exit id) Q):FX X st (.exit id) (Y1 X.P y Q):=fun G a S c b=>h G a S c b
theorem fR{y:Code}(h:FX X st .ret Q):FX X st .ret (Y1 X.P y Q):=fun G a S c b=>h G a S c b
theorem fK{id:Nat}(h:FX X st .normal Q):FX X st .normal (CD id Q):=fun G a S c b=>h G a S c b
theorem c9{id:Nat}(h:FX X st .ret Q):FX X st .ret (CD id Q):=fun G a S c b=>h G a S c b
theorem fX{id b:Nat}(c:Nat.beq b id=true)(h:FX X st .normal Q):FX X st (.exit b) (CD id Q):=fun G a S e d=>by
 have:b=id:=by simpa using c
 show(if b=id then Q .normal a G.w else Q (.exit b) a G.w);rw[if_pos this]; exact h G a S e d
theorem z0G{Γ:p9}{T:List Ct}(g:B6 X.P Γ)(E:∀c∈T,Ok X.P c){id:Nat}{l:List Oper}(b:List Nat)(o:R5 X.n 0 [] l=true)(y:R6 st.e=true)
  (h:IY Γ T l l st [] fun st' _=>FX X (cut b st') .normal Q):VX X st (.region id l.toArray false) Q:=by
 intro G a S z r;obtain⟨d,e1,q,F⟩:=KV h;refine wp_region_lit ?_;have:=D0J g E (ops:=l.toArray) (all:=l) rfl (Q:=Q) d 0 [] st G a (fun j=>by grind) (by grind) (fun j oj dj Y=>by omega) (fun t s ht x V=>by grind[FI]) q S z r
  (fun W w v m k=>by
    obtain⟨G2,u,i,H,f⟩:=SN b v m k;have:=F G2 w u i f
    grind)
 grind
theorem C0H{Γ:p9}{T:List Ct}(m:B6 X.P Γ)(hT:∀c∈T,Ok X.P c)[H:M4 X.P]{id:Nat}{l:List Oper}(d:List Nat)(b:(R5 X.n 0 [] l&&Z6 0 l)=true)(t:R6 st.e=true)
  (h:IY Γ T l l st [] fun st' rs=>KZ (V2 [] l) rs.reverse=true/\FX X (cut d st') .normal Q):VX X st (.region id l.toArray true) Q:=by
 intro G a S ho z;rw[ba] at b;obtain⟨recs,e1,y,x,V⟩:=KV h;rw[List.append_nil,List.reverse_reverse] at x;refine wp_region_any H.h ?_;have f:Ext G.w { G.w with drawn:=G.w.drawn+1 }:=(Below.refl _ _).drew;obtain⟨S1,Y⟩:=S.ext f;have:=r0x m hT (Q:=Q) (l:=l) (recs:=recs) (st:=st) e1 y (FI t) b.1 b.2 x (fun G' W F v u=>by
   obtain⟨G2,E,q,aA,g⟩:=SN d F v u;have:=V G2 W E q g
   grind) l.length (Array.replicate l.length false) { G with w:={ G.w with drawn:=G.w.drawn+1 } } a
  (by grind) (by simp) (fun i o _ hD=>by
    by_cases hi:i<l.length
    ·simp_all
    grind) S1 (fun id=>by
    have:∀{recs:List C1} {i:Nat} {st:St},(∀j,(Array.replicate l.length false).getD j false=false)->C8 (fun k=>(Array.replicate l.length false).getD k false) i recs st=st:=by
     intro recs
     induction recs with
     | nil=>intro i st _; rfl
     | cons R r ih=>grind[C8]
    rw[this (fun j=>by by_cases s:j<l.length <;> simp[s])]
    grind) (by
    have:∀{recs:List C1} {i:Nat} {st:St},(∀j,(Array.replicate l.length false).getD j false=false)->C8 (fun k=>(Array.replicate l.length false).getD k false) i recs st=st:=by
     intro recs
     induction recs with
     | nil=>intro i st _; rfl
     | cons R r ih=>grind[C8]
    rw[this (fun j=>by by_cases s:j<l.length <;> simp[s])];exact z.mono Y)
 omega
end
def Hc:Option Ob->Nat->Prop
 | some (.arr _ _ _ _ v),ver=>v=ver
 | _,_=>False
theorem XS{b:Option Ob}{ver:Nat}(h:Hc b ver):∃T fr t xs,b=some (.arr T fr t xs ver):=by
 unfold Hc at h
 grind
def OY:Option Ob->Prop
 | some (.box _ _)=>True
 | _=>False
theorem r0i{b:Option Ob}(h:OY b):∃T cs,b=some (.box T cs):=by
 unfold OY at h
 grind
def SO:Option Ob->Prop
 | none=>True
 | _=>False
theorem v0T{b:Option Ob}(h:SO b):b=none:=by
 grind[SO]
def Ja:Value->Prop
 | .slice none 0 0=>True
 | _=>False
theorem XT{u:Value}(h:Ja u):u=.slice none 0 0:=by
 grind[Ja]
def XU:(t:Ty)->c7 t->Prop
 | .sl _,x=>x=[]
 | _,_=>False
theorem D0W{K:Nat->Prop}{w:World}:∀{t:Ty} {x:c7 t},XU t x->RT K w t [.slice none 0 0] x
 | .sl _,x,h=>by
   have h:x=[]:=h;subst h;exact⟨none,0,rfl,Nat.le_refl _,by omega,.inl rfl⟩
def XV:Option Ob->Prop
 | some (.grd ..)=>True
 | _=>False
theorem v0R{b:Option Ob}(h:XV b):∃T Te fr t xs hole,b=some (.grd T Te fr t xs hole):=by
 unfold XV at h
 grind
def XW:Option Nat->Prop
 | none=>True
 | some _=>False
theorem n0s{h:Option Nat}(k:XW h):h=none:=by
 cases h with
 | none=>rfl
 | some _=>exact k.elim
/- The first value may be taken for the second one. -/
mutual
def O8(o o':List (Nat×Ob)):AV->AV->Prop
 | .d fr t x,b=>match b with
   | .d fr' t' y=>(fr'=true->fr=true)/\Z4 t t' x=some y
   | _=>False
 | .v x,b=>match b with
   | .v y=>x=y
   | .os id ver=>Ja x/\SO (a8 o id)/\Hc (a8 o' id) ver
   | .d _ t y=>Ja x/\XU t y
   | _=>False
 | .os id ver,b=>match b with
   | .os id' ver'=>id=id'/\Hc (a8 o id) ver/\Hc (a8 o' id) ver'
   | _=>False
 | .ptr id off,b=>match b with
   | .ptr id' off'=>id=id'/\off=off'/\OY (a8 o' id)
   | _=>False
 | .agg xs,b=>match b with
   | .agg ys=>Dd o o' xs ys
   | _=>False
 | .tup xs,b=>match b with
   | .tup ys=>Dd o o' xs ys
   | _=>False
 | .fn f xs,b=>match b with
   | .fn g ys=>f=g/\Dd o o' xs ys
   | _=>False
 | .og id,b=>match b with
   | .og id'=>id=id'/\XV (a8 o' id)
   | _=>False
 | _,_=>False
def Dd(o o':List (Nat×Ob)):List AV->List AV->Prop
 | [],ys=>match ys with
   | []=>True
   | _=>False
 | a :: r,ys=>match ys with
   | b :: s=>O8 o o' a b/\Dd o o' r s
   | _=>False
end
def XX(o o':List (Nat×Ob)):Option Ob->Ob->Prop
 | some (.box T cs),.box T' cs'=>T=T'/\Dd o o' cs cs'
 | some (.arr T fr t xs _),.arr T' fr' t' ys _=>T=T'/\(fr'=true->fr=true)/\Z4 (.sl t) (.sl t') xs=some ys
 | none,.arr _ _ _ ys _=>ys=[]
 | some (.grd T Te fr t xs h),.grd T' Te' fr' t' ys h'=>T=T'/\Te=Te'/\XW h/\XW h'/\(fr'=true->fr=true)/\Z4 (.sl (.sl t)) (.sl (.sl t')) xs=some ys
 | _,_=>False
def XY(o o':List (Nat×Ob))(b:AV):Option Sl->Prop
 | some ⟨[],a⟩=>O8 o o' a b
 | _=>False
def XZ:Pa->Prop
 | []=>True
 | _=>False
theorem I0Y{q:Pa}(h:XZ q):q=[]:=by
 grind[XZ]
def SP(o o':List (Nat×Ob))(e:List (Nat×Sl)):List (Nat×Sl)->Prop
 | []=>True
 | (t,s) :: r=>XZ s.p/\XY o o' s.a (a8 e t)/\SP o o' e r
def OZ(o o':List (Nat×Ob)):List (Nat×Ob)->Prop
 | []=>True
 | (i,b) :: r=>XX o o' (a8 o i) b/\OZ o o' r
def P4(o':List (Nat×Ob)):List (Nat×Ob)->Prop
 | []=>True
 | (i,.box _ _) :: r=>(bif Nat.ble 500000 i then OY (a8 o' i) else True)/\P4 o' r
 | (_,.arr ..) :: r=>P4 o' r
 | (_,.grd ..) :: r=>P4 o' r
def Pb(st st':St):Prop:=SP st.o st'.o st.e st'.e/\OZ st.o st'.o st'.o/\P4 st'.o st.o
def Au(G:Gh)(o':List (Nat×Ob)):Gh :=
 ⟨fun i=>match a8 G.o i with | some _=>G.ρ i | none=>.slice none 0 0,fun i=>match a8 G.o i with | some _=>G.γ i | none=>none,G.K,G.w,o',G.B,G.δ⟩
theorem Jb{G:Gh}{o':List (Nat×Ob)}{i:Nat}{b:Ob}(h:a8 G.o i=some b):(Au G o').ρ i=G.ρ i:=by grind[Au]
theorem SQ{G:Gh}{o':List (Nat×Ob)}{i:Nat}{b:Ob}(h:a8 G.o i=some b):(Au G o').γ i=G.γ i:=by grind[Au]
theorem r0j{G:Gh}{o':List (Nat×Ob)}{i:Nat}(h:a8 G.o i=none):(Au G o').ρ i=.slice none 0 0:=by grind[Au]
theorem r0k{G:Gh}{o':List (Nat×Ob)}{i:Nat}(h:a8 G.o i=none):(Au G o').γ i=none:=by grind[Au]
mutual
theorem o0b{G:Gh}{o':List (Nat×Ob)}:∀{a b:AV} {u:Value},O8 G.o o' a b->AVR G a u->AVR (Au G o') b u
 | .d m t x,b,u,h,c=>by
   unfold O8 at h;split at h
   ·obtain⟨i,g⟩:=h;obtain⟨e,rfl⟩:=FB g;subst e;exact RT.up c (fun k n=>⟨n.1,fun e=>n.2 (i e)⟩)
   grind
 | .v x,b,u,h,c=>by
   have c:u=x:=c;unfold O8 at h;split at h
   ·exact c.trans h
   ·obtain⟨j,i,g⟩:=h;have j:=XT j;have i:=v0T i;obtain⟨T,m,t,l,g⟩:=XS g;subst c;subst j;exact⟨rfl,T,m,t,l,_,g,Nat.le_refl _,fun _=>(r0j i).symm⟩
   ·obtain⟨j,i⟩:=h;have j:=XT j;subst c;subst j;exact D0W i
   grind
 | .os id ver,b,u,h,⟨j,T,m,t,l,ver',k1,k2,k3⟩=>by
   unfold O8 at h;split at h
   ·obtain⟨rfl,i,g⟩:=h;obtain⟨y,r,z,w,i⟩:=XS i;obtain⟨E,s,F,q,g⟩:=XS g;rw[k1] at i;cases i;exact⟨j,_,_,_,_,_,g,Nat.le_refl _,fun _=>(k3 rfl).trans (Jb k1).symm⟩
   grind
 | .ptr id off,b,u,h,⟨⟨T,cs,k1⟩,b',k2,k3⟩=>by
   unfold O8 at h;split at h
   ·obtain⟨rfl,rfl,g⟩:=h;exact⟨r0i g,b',(Jb k1).trans k2,k3⟩
   grind
 | .agg l,b,u,h,⟨us,e,c⟩=>by
   unfold O8 at h;split at h
   ·exact⟨us,e,Pc h c⟩
   grind
 | .tup l,b,u,h,⟨us,e,c⟩=>by
   unfold O8 at h;split at h
   ·exact⟨us,e,Pc h c⟩
   grind
 | .fn f l,b,u,h,⟨us,e,c⟩=>by
   unfold O8 at h;split at h
   ·obtain⟨rfl,h⟩:=h;exact⟨us,e,Pc h c⟩
   grind
 | .pel _ _ _ _ _,b,u,h,c=>by grind[O8]
 | .gel _ _,b,u,h,c=>by grind[O8]
 | .og id,b,u,h,⟨j,⟨T,Te,m,t,l,hole,k1⟩,k2⟩=>by
   unfold O8 at h;split at h
   ·obtain⟨rfl,g⟩:=h;exact⟨j,v0R g,k2.trans (Jb k1).symm⟩
   grind
 | .ow _ _ _ _,b,u,h,c=>c.elim
 | .ob _ _,b,u,h,c=>c.elim
theorem Pc{G:Gh}{o':List (Nat×Ob)}:∀{as' bs:List AV} {us:List Value},Dd G.o o' as' bs->AVRs G as' us->AVRs (Au G o') bs us
 | [],bs,us,h,hu=>by
   unfold Dd at h;split at h
   ·exact hu
   grind
 | a :: r,bs,us,h,⟨u,us',e,k1,k2⟩=>by
   unfold Dd at h;split at h
   ·exact⟨u,us',e,o0b h.1 k1,Pc h.2 k2⟩
   grind
end
theorem Ya{o o':List (Nat×Ob)}:∀{l:List (Nat×Ob)} {i:Nat} {b:Ob},OZ o o' l->a8 l i=some b->XX o o' (a8 o i) b
 | [],_,_,_,h=>by cases h
 | (j,c) :: r,i,b,h,hl=>by
   rw[lK] at hl;split at hl
   ·rename_i e; subst e; cases hl; exact h.1
   ·exact Ya h.2 hl
theorem w0s{o o':List (Nat×Ob)}{e:List (Nat×Sl)}:∀{l:List (Nat×Sl)} {t:Nat} {s:Sl},SP o o' e l->a8 l t=some s->s.p=[]/\XY o o' s.a (a8 e t)
 | [],_,_,_,h=>by cases h
 | (j,c) :: r,t,s,h,hl=>by
   rw[lK] at hl;split at hl
   ·rename_i e; subst e; cases hl; exact⟨I0Y h.1,h.2.1⟩
   ·exact w0s h.2.2 hl
theorem SR{o':List (Nat×Ob)}:∀{l:List (Nat×Ob)} {i:Nat} {T:TypeId} {cs:List AV},P4 o' l->a8 l (500000+i)=some (.box T cs)->OY (a8 o' (500000+i))
 | [],_,_,_,_,h=>by cases h
 | (j,.arr ..) :: r,i,_,_,h,hl=>by
   rw[lK] at hl;split at hl
   ·cases hl
   ·exact SR (l:=r) h hl
 | (j,.grd ..) :: r,i,_,_,h,hl=>by
   rw[lK] at hl;split at hl
   ·cases hl
   ·exact SR (l:=r) h hl
 | (j,.box ..) :: r,i,_,_,h,hl=>by
   rw[lK] at hl;split at hl
   ·rename_i e; subst e;have:=h.1
    simp_all
   ·exact SR h.2 hl
theorem z0b{X:Cx}{G:Gh}{o':List (Nat×Ob)}(S:Sat X G)(h:OZ G.o o' o')(P:P4 o' G.o):Sat X (Au G o'):=by
 have g:∀{i:Nat} {b:Nat},(Au G o').γ i=some b->(∃c,a8 G.o i=some c)/\G.γ i=some b:=fun {i b} q=>by
  cases hl:a8 G.o i with
  | none=>grind[r0k]
  | some c=>grind[SQ]
 have E:∀i,J3 (a8 o' i)=true->J3 (a8 G.o i)=true:=fun i hg=>by
  obtain⟨T,Q,n,t,m,d,e⟩:=OQ hg;have a:=Ya h e;cases hl:a8 G.o i with
  | none=>rw[hl] at a; exact a.elim
  | some c =>
    rw[hl] at a;cases c with
    | box T w=>exact a.elim
    | arr T n t m r=>exact a.elim
    | grd T Q n t m d=>rfl
 refine⟨S.base,S.os,S.tape,S.output,S.size,S.block,?_,?_,?_,?_,S.klt,S.kfrom,fun i b q hg=>?_,fun i v hv=>?_⟩
 rotate_right
 rotate_right
 ·obtain⟨s1,s2,s3,s4⟩:=S.sep i b q (E i hg);exact⟨s1,s2,fun j o ho hj=>by grind,fun j hj aB=>s4 j hj (E j aB)⟩
 ·obtain⟨⟨T,w,l⟩,b,f,y⟩:=S.pin i v hv;exact⟨r0i (SR P l),b,(Jb l).trans f,y⟩
 ·intro id o ho;have a:=Ya h ho;cases hl:a8 G.o id with
  | none =>
    rw[hl] at a;cases o with
    | box T w=>exact a.elim
    | grd T Q n t m d=>exact a.elim
    | arr T n t m r =>
      have hx:m=[]:=a;subst hx;refine⟨[],?_,rfl,fun b q=>by grind⟩;rw[r0k hl,r0j hl];exact .inl ⟨rfl,rfl,rfl,none,rfl⟩
  | some c =>
    rw[hl] at a;have:=S.obs id c hl;cases c with
    | box T w =>
      cases o with
      | arr z n t m r=>exact a.elim
      | grd T Q n t m d=>exact a.elim
      | box z W =>
        obtain⟨rfl,a⟩:=a;obtain⟨b,us,l,f,y,H⟩:=this;exact⟨b,us,(SQ hl).trans l,(Jb hl).trans f,y,Pc a H⟩
    | arr T n t m r =>
      cases o with
      | box z W=>exact a.elim
      | arr z V t' ys F =>
        obtain⟨rfl,l,f⟩:=a;obtain⟨e,rfl⟩:=FB f;cases e;obtain⟨w,k1,s,k3⟩:=this;refine⟨w,?_,s.mapR (fun c x Y=>RT.up Y (fun k u=>⟨u.1,fun e=>u.2 (l e)⟩)),fun b q=>k3 b (g q).2⟩;rw[SQ hl,Jb hl];exact k1
      | grd T Q n t m d=>exact a.elim
    | grd T Q n t m d =>
      cases o with
      | box z W=>exact a.elim
      | arr z V t' ys F=>exact a.elim
      | grd z Te' V t' ys aA =>
        obtain⟨rfl,rfl,e1,e2,l,f⟩:=a;have e1:=n0s e1;have e2:=n0s e2;subst e1; subst e2;obtain⟨e,rfl⟩:=FB f;cases e;obtain⟨vs,bs,k1,s,k3⟩:=this;refine⟨vs,bs,by rw[SQ hl,Jb hl]; exact k1,⟨s.len,s.blk,s.inj,fun k u hh=>?_,s.one⟩,fun b q=>k3 b (g q).2⟩;obtain⟨w,r1,r2,r3⟩:=s.row k u hh;exact⟨w,r1,r2.mapR (fun c x Y=>RT.up Y (fun k u=>⟨u.1,fun e=>u.2 (l e)⟩)),r3⟩
 ·intro i i' o1 o2 b l f y H;obtain⟨⟨c,a⟩,y⟩:=g y;obtain⟨⟨c',aC⟩,H⟩:=g H;exact S.inj i i' c c' b a aC y H
 ·intro i o1 b l f;obtain⟨⟨c,a⟩,f⟩:=g f;exact S.imm i c b a f
 ·intro i o1 b l f;obtain⟨⟨c,a⟩,f⟩:=g f;exact S.own i c b a f
theorem Yb{X:Cx}{G:Gh}{st st':St}{a:Act}(h:Pb st st')(S:Sat X G)(m:G.o=st.o)(b:EnvR X.n G st.e a):∃G',Sat X G'/\G'.o=st'.o/\G'.w=G.w/\EnvR X.n G' st'.e a:=by
 obtain⟨d,f,g⟩:=h;rw[<- m] at d f g;refine⟨Au G st'.o,z0b S f g,rfl,rfl,b.defers,b.size,fun t s i=>?_⟩;obtain⟨j,c⟩:=w0s d i;rw[j];refine⟨fun _=>?_,fun k=>(k (fun _ h=>by cases h)).elim⟩;unfold XY at c;split at c
 ·rename_i q l;exact o0b c ((b.val t _ l).1 (fun _ h=>by cases h))
 grind
section
variable {X:Cx} {st:St} {Q:Exit->Act->World->Prop}
def SS(X:Cx){σ:Type}(E:σ->St)(J:σ->Prop)(μ:σ->Nat)(s:σ)(Q:Exit->Act->World->Prop):Exit->Act->World->Prop
 | .normal,a,w=>∃s',μ s'<μ s/\J s'/\∃G,Sat X G/\G.o=(E s').o/\G.w=w/\EnvR X.n G (E s').e a
 | e,a,w=>Q e a w
theorem C0G{c:Code}(st':St)(h:Pb st st')(k:VX X st' c Q):VX X st c Q:=fun G a S f e=>by
 obtain⟨j,i,b,g,d⟩:=Yb h S f e;have:=k j a i b d
 grind
theorem C0F{b:Code}{g:Type}(E:g->St)(J:g->Prop)(d:g->Nat)(f:g)(F:J f)(l:Pb st (E f))
  (c:∀s,J s->VX X (E s) b (SS X E J d s Q)):VX X st (.loop b) Q:=by
 intro G a S q j;obtain⟨v,H,h,k,i⟩:=Yb l S q j;refine wp_loop_ghost (fun m a w=>∃s,d s=m/\J s/\∃G,Sat X G/\G.o=(E s).o/\G.w=w/\EnvR X.n G (E s).e a) (d f) ⟨f,rfl,F,v,H,h,k,i⟩ ?_;rintro m a w ⟨s,rfl,y,G,S,q,rfl,j⟩;refine wp_mono (c s y G a S q j) ?_;intro x V T r;cases x with
 | normal =>
   obtain⟨t,z,u,P⟩:=r;exact⟨d t,z,t,rfl,u,P⟩
 | _=>exact r
theorem E0w{b:Type}{E:b->St}{J:b->Prop}{e:b->Nat}{s:b}(c:b)(l:J c)(h:e c<e s)(i:Pb st (E c)):FX X st .normal (SS X E J e s Q):=fun G a S k j=>by
 obtain⟨n,m,d,g,f⟩:=Yb i S k j;exact⟨c,h,l,n,m,d,g,f⟩
theorem n0P{b:Type}{E:b->St}{J:b->Prop}{c:b->Nat}{s:b}{id:Nat}(h:FX X st (.exit id) Q):FX X st (.exit id) (SS X E J c s Q):=fun G a S e d=>h G a S e d
theorem p0r{b:Type}{E:b->St}{J:b->Prop}{c:b->Nat}{s:b}(h:FX X st .ret Q):FX X st .ret (SS X E J c s Q):=fun G a S e d=>h G a S e d
end
def N8:Nat->(ps:List o6)->A4 ps->List (Nat×Sl)
 | _,[],_=>[]
 | i,.dat t :: r,x=>(i,⟨[],.d false t x.1⟩) :: N8 (i+1) r x.2
 | i,.agg t :: r,x=>(i,⟨[],.agg (A7 false t x.1)⟩) :: N8 (i+1) r x.2
 | i,.fn f c :: r,x=>(i,⟨[],.fn f (A7 false c x.1)⟩) :: N8 (i+1) r x.2
 | i,.nof f :: r,x=>(i,⟨[],.fn f []⟩) :: N8 (i+1) r x.2
 | i,.nil :: r,x=>(i,⟨[],.v (.pointer none)⟩) :: N8 (i+1) r x.2
 | i,.io _ _ :: r,x=>(i,⟨[],.ptr (500000+i) 0⟩) :: N8 (i+1) r x.2
 | i,.os _ _ :: r,x=>(i,⟨[],.os (500000+i) 0⟩) :: N8 (i+1) r x.2
def K8:Nat->(ps:List o6)->A4 ps->List (Nat×Ob)
 | _,[],_=>[]
 | i,.io T t :: _,x=>[(500000+i,.box T (A7 false t x.1))]
 | i,.os E t :: _,x=>[(500000+i,.arr E true t x.1 0)]
 | i,.dat _ :: r,x=>K8 (i+1) r x.2
 | i,.agg _ :: r,x=>K8 (i+1) r x.2
 | i,.fn _ _ :: r,x=>K8 (i+1) r x.2
 | i,.nof _ :: r,x=>K8 (i+1) r x.2
 | i,.nil :: r,x=>K8 (i+1) r x.2
def r6:Nat->List o6->Option Nat->Option (Nat×Value)
 | _,[],_=>none
 | i,.io _ _ :: _,some b=>some (i,.pointer (some ⟨b,0,none⟩))
 | _,.os _ _ :: _,_=>none
 | i,_ :: r,go=>r6 (i+1) r go
def De:List o6->Bool
 | []=>true
 | .io _ _ :: _=>false
 | .os _ _ :: _=>false
 | .dat _ :: r=>De r
 | .agg _ :: r=>De r
 | .fn _ _ :: r=>De r
 | .nof _ :: r=>De r
 | .nil :: r=>De r
def Br:List o6->Bool
 | []=>true
 | .io _ _ :: r=>De r
 | .os _ _ :: r=>De r
 | .dat _ :: r=>Br r
 | .agg _ :: r=>Br r
 | .fn _ _ :: r=>Br r
 | .nof _ :: r=>Br r
 | .nil :: r=>Br r
theorem Jc:∀{ps:List o6} {i:Nat} {x:A4 ps},De ps=true->K8 i ps x=[]
 | [],_,_,_=>rfl
 | .io _ _ :: _,_,_,h=>by cases h
 | .os _ _ :: _,_,_,h=>by cases h
 | .dat _ :: r,i,x,h=>Jc (ps:=r) (i:=i+1) h
 | .agg _ :: r,i,x,h=>Jc (ps:=r) (i:=i+1) h
 | .fn _ _ :: r,i,x,h=>Jc (ps:=r) (i:=i+1) h
 | .nof _ :: r,i,x,h=>Jc (ps:=r) (i:=i+1) h
 | .nil :: r,i,x,h=>Jc (ps:=r) (i:=i+1) h
theorem La{K:Nat->Prop}{w:World}{go:Option Nat}:∀{ps:List o6} {z:F0 ps},De ps=true->IOR K w go ps z
 | [],_,_=>trivial
 | .io _ _ :: _,_,h=>by cases h
 | .os _ _ :: _,_,h=>by cases h
 | .dat _ :: r,z,h=>La (ps:=r) h
 | .agg _ :: r,z,h=>La (ps:=r) h
 | .fn _ _ :: r,z,h=>La (ps:=r) h
 | .nof _ :: r,z,h=>La (ps:=r) h
 | .nil :: r,z,h=>La (ps:=r) h
theorem Lb:∀{ps:List o6},De ps=true->¬H8 ps=true
 | [],_=>fun e=>by cases e
 | .io _ _ :: _,h=>by cases h
 | .os _ _ :: _,h=>by cases h
 | .dat _ :: r,h=>Lb (ps:=r) h
 | .agg _ :: r,h=>Lb (ps:=r) h
 | .fn _ _ :: r,h=>Lb (ps:=r) h
 | .nof _ :: r,h=>Lb (ps:=r) h
 | .nil :: r,h=>Lb (ps:=r) h
theorem Lc{K:Nat->Prop}{w:World}{go:Option Nat}:∀{ps:List o6} {z:F0 ps},Br ps=true->H8 ps=true->IOR K w go ps z
 | [],_,_,_=>trivial
 | .io _ _ :: r,_,h,g=>(Lb (ps:=r) h g).elim
 | .os _ _ :: r,_z,h,_=>La (ps:=r) h
 | .dat _ :: r,_z,h,g=>Lc (ps:=r) h g
 | .agg _ :: r,_z,h,g=>Lc (ps:=r) h g
 | .fn _ _ :: r,_z,h,g=>Lc (ps:=r) h g
 | .nof _ :: r,_z,h,g=>Lc (ps:=r) h g
 | .nil :: r,_z,h,g=>Lc (ps:=r) h g
theorem Jd:∀{ps:List o6},De ps=true->Br ps=true
 | [],_=>rfl
 | .io _ _ :: _,h=>by cases h
 | .os _ _ :: _,h=>by cases h
 | .dat _ :: r,h=>Jd (ps:=r) h
 | .agg _ :: r,h=>Jd (ps:=r) h
 | .fn _ _ :: r,h=>Jd (ps:=r) h
 | .nof _ :: r,h=>Jd (ps:=r) h
 | .nil :: r,h=>Jd (ps:=r) h
def Pd(o:Option (Nat×Value)):Nat->Value->Prop:=fun i v=>o=some (i,v)
def Cd:List o6->List Value->Value
 | .io _ _ :: _,v :: _=>v
 | .os _ _ :: _,v :: _=>v
 | _ :: r,_ :: us=>Cd r us
 | _,_=>undef
def FJ(K:Nat->Prop)(w:World)(go:Option Nat)(r0:Value)(B:Nat)(o:List (Nat×Ob)):Gh:=⟨fun _=>r0,fun _=>go,K,w,o,B,fun _ _=>False⟩
@[reducible] def cx (P:Program) (n:Nat) (y:World×(Nat->Prop)×(Nat->Prop)×(Nat->Value->Prop)×Nat):Cx:=⟨P,n,y.1,y.2.1,y.2.2.1,y.2.2.2.1,y.2.2.2.2⟩
def R7(ps:List o6)(w:World):Nat:=bif H8 ps then 0 else w.heap.size
theorem o0k{ps:List o6}{w:World}(h:¬H8 ps=true):R7 ps w=w.heap.size:=by
 grind[R7]
theorem l0o{ps:List o6}{w:World}(h:H8 ps=true):R7 ps w=0:=by
 grind[R7]
theorem w0I(ps:List o6)(w:World):R7 ps w<=w.heap.size:=by
 by_cases h:H8 ps=true
 ·rw[l0o h]; exact Nat.zero_le _
 ·rw[o0k h]; exact Nat.le_refl _
theorem SU{K:Nat->Prop}{w:World}{go:Option Nat}{r0:Value}{B:Nat}{o:List (Nat×Ob)}{t:Ty}{us:List Value}{x:c7 t}(h:RT K w t us x):RT (rg (FJ K w go r0 B o) false) (FJ K w go r0 B o).w t us x :=
 RT.up h (fun _ a=>⟨a,fun e=>by cases e⟩)
theorem Je{K:Nat->Prop}{w:World}:∀{ps:List o6} {i:Nat} {x:A4 ps} {vs:List Value} {go:Option Nat},ArgsR K w go ps x vs ->
  (K8 i ps x=[]/\go=none/\r6 i ps go=none/\¬H8 ps=true)∨(∃j b T t z cs,K8 i ps x=[(500000+j,.box T (A7 false t z))]/\go=some b/\r6 i ps go=some (j,.pointer (some ⟨b,0,none⟩))/\Cd ps vs=.pointer (some ⟨b,0,none⟩)/\Blk w b cs T/\RT K w t cs z/\¬K b) ∨
    ∃j E t,∃xs:List (c7 t),∃cs,K8 i ps x=[(500000+j,.arr E true t xs 0)]/\r6 i ps go=none/\(Cd ps vs).oneCell'=true/\Own w E (sz t) go (Cd ps vs) xs.length cs/\AllR (RT K w t) cs xs/\(∀b,go=some b->¬K b)/\H8 ps=true
 | [],i,x,vs,go,h=>.inl ⟨rfl,h.2,rfl,fun e=>by cases e⟩
 | .dat t :: r,i,x,vs,go,⟨v,us,e,_,h⟩=>by
   subst e;have:=Je (i:=i+1) h;cases go <;> exact this
 | .agg t :: r,i,x,vs,go,⟨v,us,e,_,h⟩=>by
   subst e;have:=Je (i:=i+1) h;cases go <;> exact this
 | .fn f t :: r,i,x,vs,go,⟨v,us,e,_,h⟩=>by
   subst e;have:=Je (i:=i+1) h;cases go <;> exact this
 | .nof f :: r,i,x,vs,go,⟨us,e,h⟩=>by
   subst e;have:=Je (i:=i+1) h;cases go <;> exact this
 | .nil :: r,i,x,vs,go,⟨us,e,h⟩=>by
   subst e;have:=Je (i:=i+1) h;cases go <;> exact this
 | .io T t :: r,i,x,vs,go,⟨b,cs,us,e,hgo,h1,h2,h3,h⟩=>by
   subst hgo;subst e;exact .inr (.inl ⟨i,b,T,t,x.1,cs,rfl,rfl,rfl,rfl,h2,h3,h1⟩)
 | .os E t :: r,i,x,vs,go,⟨v,cs,us,e,h1,h2,h3,h4,h⟩=>by
   subst e;exact .inr (.inr ⟨i,E,t,x.1,cs,rfl,(by cases go <;> rfl),h2,h3,h4,h1,rfl⟩)
theorem Hd{K:Nat->Prop}{w:World}{o:List (Nat×Ob)}{g0:Option Nat}{r0:Value}{B:Nat}:∀{ps:List o6} {i:Nat} {x:A4 ps} {vs:List Value} {go:Option Nat},Br ps=true->ArgsR K w go ps x vs->(K8 i ps x≠[]->Cd ps vs=r0)->(∀z∈K8 i ps x,a8 o z.1=some z.2) ->
  ∀t s,a8 (N8 i ps x) t=some s->i<=t/\s.p=[]/\∃u,vs[t-i]?=some u/\AVR (FJ K w g0 r0 B o) s.a u
 | [],i,x,vs,go,_,h,_,_,t,s,ht=>by cases ht
 | .dat ty :: r,i,x,vs,go,hn,⟨v,us,e,h1,h⟩,hg,hz,t,s,ht=>by
   subst e;unfold N8 at ht;rw[lK] at ht;split at ht
   ·rename_i e; subst e; cases ht; exact⟨Nat.le_refl _,rfl,v,by simp,SU h1⟩
   ·obtain⟨l,c,u,m,d⟩:=Hd (ps:=r) (i:=i+1) hn h hg hz t s ht;exact⟨by omega,c,u,by grind,d⟩
 | .agg ty :: r,i,x,vs,go,hn,⟨v,us,e,h1,h⟩,hg,hz,t,s,ht=>by
   subst e;unfold N8 at ht;rw[lK] at ht;split at ht
   ·rename_i e; subst e; cases ht; exact⟨Nat.le_refl _,rfl,_,by simp,v,rfl,Bm (SU h1)⟩
   ·obtain⟨l,c,u,m,d⟩:=Hd (ps:=r) (i:=i+1) hn h hg hz t s ht;exact⟨by omega,c,u,by grind,d⟩
 | .fn f ty :: r,i,x,vs,go,hn,⟨v,us,e,h1,h⟩,hg,hz,t,s,ht=>by
   subst e;unfold N8 at ht;rw[lK] at ht;split at ht
   ·rename_i e; subst e; cases ht; exact⟨Nat.le_refl _,rfl,_,by simp,v,rfl,Bm (SU h1)⟩
   ·obtain⟨l,c,u,m,d⟩:=Hd (ps:=r) (i:=i+1) hn h hg hz t s ht;exact⟨by omega,c,u,by grind,d⟩
 | .nof f :: r,i,x,vs,go,hn,⟨us,e,h⟩,hg,hz,t,s,ht=>by
   subst e;unfold N8 at ht;rw[lK] at ht;split at ht
   ·rename_i e; subst e; cases ht; exact⟨Nat.le_refl _,rfl,_,by simp,[],rfl,rfl⟩
   ·obtain⟨l,c,u,m,d⟩:=Hd (ps:=r) (i:=i+1) hn h hg hz t s ht;exact⟨by omega,c,u,by grind,d⟩
 | .nil :: r,i,x,vs,go,hn,⟨us,e,h⟩,hg,hz,t,s,ht=>by
   subst e;unfold N8 at ht;rw[lK] at ht;split at ht
   ·rename_i e; subst e; cases ht; exact⟨Nat.le_refl _,rfl,_,by simp,rfl⟩
   ·obtain⟨l,c,u,m,d⟩:=Hd (ps:=r) (i:=i+1) hn h hg hz t s ht;exact⟨by omega,c,u,by grind,d⟩
 | .io T ty :: r,i,x,vs,go,hn,⟨b,cs,us,e,hgo,h1,h2,h3,h⟩,hg,hz,t,s,ht=>by
   subst e;have k:Value.pointer (some ⟨b,0,none⟩)=r0:=hg (fun e=>by cases e);unfold N8 at ht;rw[lK] at ht;split at ht
   ·rename_i e; subst e; cases ht;exact⟨Nat.le_refl _,rfl,_,by simp,⟨_,_,hz _ (List.mem_singleton.2 rfl)⟩,b,k.symm,rfl⟩
   ·have g:K8 (i+1) r x.2=[]:=Jc hn;obtain⟨l,c,u,m,d⟩:=Hd (ps:=r) (i:=i+1) (Jd hn) h (fun e=>(e g).elim) (fun z j=>by rw[g] at j; cases j) t s ht;exact⟨by omega,c,u,by grind,d⟩
 | .os E ty :: r,i,x,vs,go,hn,⟨v,cs,us,e,h1,h2,h3,h4,h⟩,hg,hz,t,s,ht=>by
   subst e;have k:v=r0:=hg (fun e=>by cases e);unfold N8 at ht;rw[lK] at ht;split at ht
   ·rename_i e; subst e; cases ht;exact⟨Nat.le_refl _,rfl,_,by simp,h2,_,_,_,_,_,hz _ (List.mem_singleton.2 rfl),Nat.le_refl _,fun _=>k⟩
   ·have g:K8 (i+1) r x.2=[]:=Jc hn;obtain⟨l,c,u,m,d⟩:=Hd (ps:=r) (i:=i+1) (Jd hn) h (fun e=>(e g).elim) (fun z j=>by rw[g] at j; cases j) t s ht;exact⟨by omega,c,u,by grind,d⟩
theorem ArgsR.len{K:Nat->Prop}{w:World}:∀{ps:List o6} {x:A4 ps} {vs:List Value} {go:Option Nat},ArgsR K w go ps x vs->vs.length=ps.length
 | [],x,vs,go,h=>by rw[h.1]; rfl
 | .dat t :: r,x,vs,go,⟨v,us,e,_,h⟩=>by rw[e,List.length_cons,h.len]; rfl
 | .agg t :: r,x,vs,go,⟨v,us,e,_,h⟩=>by rw[e,List.length_cons,h.len]; rfl
 | .fn f t :: r,x,vs,go,⟨v,us,e,_,h⟩=>by rw[e,List.length_cons,h.len]; rfl
 | .nof f :: r,x,vs,go,⟨us,e,h⟩=>by rw[e,List.length_cons,h.len]; rfl
 | .nil :: r,x,vs,go,⟨us,e,h⟩=>by rw[e,List.length_cons,h.len]; rfl
 | .io T t :: r,x,vs,go,⟨b,cs,us,e,_,_,_,_,h⟩=>by rw[e,List.length_cons,h.len]; rfl
 | .os E t :: r,x,vs,go,⟨v,cs,us,e,_,_,_,_,h⟩=>by rw[e,List.length_cons,h.len]; rfl
theorem u0G{P:Program}{n:Nat}{K:Nat->Prop}{w:World}{ps:List o6}{x:A4 ps}{vs:List Value}{go:Option Nat}(r:KW P w go K)(h:ArgsR K w go ps x vs) :
  Sat (cx P n ⟨w,fun k=>go=some k,K,Pd (r6 0 ps go),R7 ps w⟩) (FJ K w go (Cd ps vs) (R7 ps w) (K8 0 ps x)):=by
 have G:=r.2;have m:=r.1;have m:∀k,K k->UFg w w.heap.size k:=fun k d=>⟨m k d,fun h=>absurd (m k d) (Nat.not_lt.2 h)⟩;have q:∀i,(FJ K w go (Cd ps vs) (R7 ps w) (K8 0 ps x)).γ i=go:=fun _=>rfl;have g:=w0I ps w;rcases Je (i:=0) h with ⟨l,H,s,_⟩ | ⟨j,b,T,t,z,cs,l,H,s,hr,h1,h2,h3⟩ | ⟨j,E,t,xs,cs,l,s,h1,h2,h3,h4,hv⟩
 ·have a:∀i o,a8 (FJ K w go (Cd ps vs) (R7 ps w) (K8 0 ps x)).o i=some o->False:=fun i o e=>by
   have:a8 (K8 0 ps x) i=some o:=e;rw[l] at this; cases this
  refine⟨⟨rfl,g,G⟩,rfl,rfl,rfl,Nat.le_refl _,fun _ _ _=>rfl,fun i o e=>(a i o e).elim,fun i _ o _ _ e=>(a i o e).elim,fun i o _ e=>(a i o e).elim,fun i o _ e=>(a i o e).elim,m,fun k d=>.inl d,fun _ _ h=>h.elim,fun i v e=>?_⟩;have:r6 0 ps go=some (i,v):=e
  grind
 ·subst H;have a:∀i o,a8 (FJ K w (some b) (Cd ps vs) (R7 ps w) (K8 0 ps x)).o i=some o->i=500000+j/\o=.box T (A7 false t z):=fun i o e=>by
   have:a8 (K8 0 ps x) i=some o:=e;rw[l,lK] at this;split at this
   ·grind
   ·cases this
  refine⟨⟨rfl,g,G⟩,rfl,rfl,rfl,Nat.le_refl _,fun _ _ _=>rfl,fun i o e=>?_,fun i F o y _ e f _ _=>(a i o e).1.trans (a F y f).1.symm,fun i o u e f d=>?_,fun i o u e f=>.inr (by grind),m,fun k d=>.inl d,fun _ _ h=>h.elim,fun i v e=>?_⟩
  ·obtain⟨rfl,rfl⟩:=a i o e;exact⟨b,cs,rfl,hr,h1,Bm (SU h2)⟩
  ·rw[q] at f; cases f; exact h3 d
  ·have:r6 0 ps (some b)=some (i,v):=e;rw[s] at this;cases this;refine⟨⟨T,A7 false t z,?_⟩,b,hr,rfl⟩;show a8 (K8 0 ps x) _=_;rw[l,lK,if_pos rfl]
 ·have a:∀i o,a8 (FJ K w go (Cd ps vs) (R7 ps w) (K8 0 ps x)).o i=some o->i=500000+j/\o=.arr E true t xs 0:=fun i o e=>by
   have:a8 (K8 0 ps x) i=some o:=e;rw[l,lK] at this;split at this
   ·grind
   ·cases this
  have Q:=l0o (w:=w) hv;refine⟨⟨rfl,g,G⟩,rfl,rfl,rfl,Nat.le_refl _,fun _ _ _=>rfl,fun i o e=>?_,fun i F o y _ e f _ _=>(a i o e).1.trans (a F y f).1.symm,fun i o u e f d=>?_,fun i o u e f=>.inr (by grind),m,fun k d=>.inl d,fun _ _ h=>h.elim,fun i v e=>?_⟩
  ·obtain⟨rfl,rfl⟩:=a i o e;exact⟨cs,h2,h3.mapR (fun c x V=>RT.up V (fun k d=>⟨d,fun _=>by show R7 ps w<=k; omega⟩)),fun b _=>by show R7 ps w<=b; omega⟩
  ·rw[q] at f; exact h4 u f d
  ·have:r6 0 ps go=some (i,v):=e;rw[s] at this;cases this
/- A value as the wanted result: on what condition, the rows handed over, the objects that become data. -/
mutual
def O9(o:List (Nat×Ob)):AV->AV->Option (Prop×List (Option Nat)×List Nat)
 | a,.ow T fr t xs=>match a with
   | .os id ver=>match a8 o id with
     | some (.arr T' fr' t' ys ver')=>bif Nat.beq ver ver'&&Nat.beq T' T then some ((fr=true->fr'=true)/\Z4 (.sl t') (.sl t) ys=some xs,[some id],[]) else none
     | _=>none
   | .v x=>some (Ja x/\xs=[],[none],[])
   | _=>none
 | a,.d fr t x=>match H7 o 24 t [a] with
   | some (y,l,fl)=>some ((fr=true->fl=true)/\y=x,[],l)
   | none=>none
 | a,.ob T rs=>match a with
   | .ptr id 0=>match a8 o id with
     | some (.box T' cs)=>bif Nat.beq T' T then(match DP o cs rs with
       | some (q,m,f)=>some (q,some id :: m,f)
       | none=>none) else none
     | _=>none
   | _=>none
 | a,.v x=>match a with
   | .v y=>some (y=x,[],[])
   | _=>none
 | a,.agg rs=>match a with
   | .agg as'=>DP o as' rs
   | _=>none
 | a,.tup rs=>match a with
   | .tup as'=>DP o as' rs
   | _=>none
 | _,_=>none
def DP(o:List (Nat×Ob)):List AV->List AV->Option (Prop×List (Option Nat)×List Nat)
 | as',[]=>match as' with
   | []=>some (True,[],[])
   | _=>none
 | as',r :: rs=>match as' with
   | a :: t=>match O9 o a r with
     | some (q,m,f)=>match DP o t rs with
       | some (q',m',f')=>some (q/\q',m++m',f++f')
       | none=>none
     | none=>none
   | []=>none
end
def Z7(G:Gh)(mv:List (Option Nat)):List (Option Nat):=mv.map fun o=>o.bind G.γ
def Yc(G:Gh)(mv:List (Option Nat)):Prop:=∀id,some id∈mv->∃o,a8 G.o id=some o
mutual
theorem SV{X:Cx}{G:Gh}(S:Sat X G){K':Nat->Prop}(j:∀k,G.K k->K' k){Kf:Bool->Nat->Prop}(s:∀fr k,rk G K' fr k->Kf fr k):∀{a r:AV} {u:Value} {q:Prop} {mv:List (Option Nat)} {fz:List Nat},O9 G.o a r=some (q,mv,fz)->q->(∀id∈fz,(∃o,a8 G.o id=some o)->∀b,G.γ id=some b->K' b)->AVR G a u ->
  ResR Kf G.w r u (Z7 G mv)/\Yc G mv
 | a,.ow T fr t xs,u,q,mv,fz,h,hq,hz,f=>by
   unfold O9 at h;split at h
   ·rename_i id aD;split at h
    ·rename_i T' aC t' ys Y F;rw[ce] at h;split at h
     ·rename_i W;simp only[ba] at W;have Q:=nb W.1;have P:=nb W.2;subst Q; subst P;simp only[oi,pj] at h;obtain⟨rfl,rfl,rfl⟩:=h;obtain⟨g,n⟩:=hq;obtain⟨e,rfl⟩:=FB n;cases e;obtain⟨h0,T1,aF,t1,aB,aA,k1,k2,k3⟩:=f;rw[F] at k1;cases k1;have f:=k3 rfl;subst f;obtain⟨cs,g1,H,g3⟩:=S.obs id _ F;exact⟨⟨G.γ id,cs,rfl,h0,g1,H.mapR (fun c x hr=>RT.up hr (fun k E=>s fr k ⟨j k E.1,fun e=>E.2 (g e)⟩))⟩,fun i hi=>by
       grind⟩
     grind
    grind
   ·rename_i x;simp only[oi,pj] at h;obtain⟨rfl,rfl,rfl⟩:=h;obtain⟨g,rfl⟩:=hq;have g:=XT g;have f:u=x:=f;subst f;subst g;exact⟨⟨none,[],rfl,rfl,.inl ⟨rfl,rfl,rfl,none,rfl⟩,rfl⟩,fun i hi=>by grind⟩
   grind
 | a,.d fr t x,u,q,mv,fz,h,hq,hz,f=>by
   unfold O9 at h;split at h
   ·rename_i y l fl hd;simp only[oi,pj] at h;obtain⟨rfl,rfl,rfl⟩:=h;obtain⟨g,rfl⟩:=hq;exact⟨⟨RT.up (DH S j 24 hd (fun id m=>hz id m (GV 24 hd id m)) ⟨u,[],rfl,f,rfl⟩) (fun k E=>s fr k ⟨E.1,fun e=>E.2 (g e)⟩),rfl⟩,fun i hi=>by cases hi⟩
   grind
 | a,.ob T rs,u,q,mv,fz,h,hq,hz,f=>by
   unfold O9 at h;split at h
   ·rename_i id;split at h
    ·rename_i T' cs F;rw[ce] at h;split at h
     ·rename_i V;have V:=nb V;subst V;split at h
      ·rename_i q1 m1 f1 g;simp only[oi,pj] at h;obtain⟨rfl,rfl,rfl⟩:=h;obtain⟨_,b,hb,rfl⟩:=f;obtain⟨b',z,g1,H,g3,g4⟩:=S.obs id _ F;rw[hb] at H;cases H;obtain⟨a1,a2⟩:=SW S j s g hq hz g4;refine⟨⟨b,z,Z7 G m1,by grind[Z7],rfl,g3,a1⟩,fun i hi=>?_⟩;rcases List.mem_cons.1 hi with e | hi
       ·grind
       ·exact a2 i hi
      grind
     grind
    grind
   grind
 | a,.v x,u,q,mv,fz,h,hq,hz,f=>by
   unfold O9 at h;split at h
   ·simp only[oi,pj] at h;obtain⟨rfl,rfl,rfl⟩:=h;exact⟨⟨(show u=_ from f).trans hq,rfl⟩,fun i hi=>by cases hi⟩
   grind
 | a,.agg rs,u,q,mv,fz,h,hq,hz,f=>by
   unfold O9 at h;split at h
   ·obtain⟨z,e,f⟩:=f;obtain⟨g,n⟩:=SW S j s h hq hz f;exact⟨⟨z,e,g⟩,n⟩
   grind
 | a,.tup rs,u,q,mv,fz,h,hq,hz,f=>by
   unfold O9 at h;split at h
   ·obtain⟨z,e,f⟩:=f;obtain⟨g,n⟩:=SW S j s h hq hz f;exact⟨⟨z,e,g⟩,n⟩
   grind
 | a,.ptr _ _,u,q,mv,fz,h,hq,hz,f=>by grind[O9]
 | a,.pel _ _ _ _ _,u,q,mv,fz,h,hq,hz,f=>by grind[O9]
 | a,.os _ _,u,q,mv,fz,h,hq,hz,f=>by grind[O9]
 | a,.fn _ _,u,q,mv,fz,h,hq,hz,f=>by grind[O9]
 | a,.gel _ _,u,q,mv,fz,h,hq,hz,f=>by grind[O9]
 | a,.og _,u,q,mv,fz,h,hq,hz,f=>by grind[O9]
theorem SW{X:Cx}{G:Gh}(S:Sat X G){K':Nat->Prop}(j:∀k,G.K k->K' k){Kf:Bool->Nat->Prop}(l:∀fr k,rk G K' fr k->Kf fr k):∀{as' rs:List AV} {us:List Value} {q:Prop} {mv:List (Option Nat)} {fz:List Nat},DP G.o as' rs=some (q,mv,fz)->q->(∀id∈fz,(∃o,a8 G.o id=some o)->∀b,G.γ id=some b->K' b)->AVRs G as' us ->
  ResRs Kf G.w rs us (Z7 G mv)/\Yc G mv
 | as',[],us,q,mv,fz,h,hq,hz,hu=>by
   unfold DP at h;split at h
   ·simp only[oi,pj] at h;obtain⟨rfl,rfl,rfl⟩:=h;exact⟨⟨hu,rfl⟩,fun i hi=>by cases hi⟩
   grind
 | as',r :: rs,us,q,mv,fz,h,hq,hz,hu=>by
   unfold DP at h;split at h
   ·rename_i a t;split at h
    ·rename_i P s F n;split at h
     ·rename_i H v Q y;simp only[oi,pj] at h;obtain⟨rfl,rfl,rfl⟩:=h;obtain⟨u,g,e,f,d⟩:=hu;obtain⟨x,m⟩:=SV S j l n hq.1 (fun id c=>hz id (by grind)) f;obtain⟨E,z⟩:=SW S j l y hq.2 (fun id c=>hz id (by grind)) d;refine⟨⟨u,g,Z7 G s,Z7 G v,e,by simp[Z7],x,E⟩,fun i hi=>?_⟩;rcases List.mem_append.1 hi with h | h
      ·exact m i h
      ·exact z i h
     grind
    grind
   grind
end
def Ax(o:List (Nat×Ob)):Nat->(ps:List o6)->F0 ps->Option (Prop×List Nat×Option Nat)
 | _,[],_=>some (True,[],none)
 | i,.io T t :: _,z=>match a8 o (500000+i) with
   | some (.box T' cs)=>bif Nat.beq T' T then(match H7 o 24 t cs with
     | some (y,l,_)=>some (y=z,l,some (500000+i))
     | none=>none) else none
   | _=>none
 | i,.dat _ :: r,z=>Ax o (i+1) r z
 | i,.agg _ :: r,z=>Ax o (i+1) r z
 | i,.fn _ _ :: r,z=>Ax o (i+1) r z
 | i,.nof _ :: r,z=>Ax o (i+1) r z
 | i,.nil :: r,z=>Ax o (i+1) r z
 | i,.os _ _ :: r,z=>Ax o (i+1) r z
def Pe(Γ:p9)(st:St):ResultVar->Option (Prop×AV)
 | .tmp t=>match a8 st.e t with
   | some ⟨[],a⟩=>some (True,a)
   | _=>none
 | .cell t ty=>match a8 st.e t with
   | some ⟨[],p⟩=>match Z5 st.o p with
     | some (cs,_)=>match a8 Γ ty with
       | some ti=>match KM ti cs with
         | some a=>some (CW st.o p,a)
         | none=>none
       | none=>none
     | none=>none
   | _=>none
def Jf(Γ:p9)(st:St):List ResultVar->Option (Prop×List AV)
 | []=>some (True,[])
 | r :: rs=>match Pe Γ st r with
   | some (q,a)=>match Jf Γ st rs with
     | some (q',l)=>some (q/\q',a :: l)
     | none=>none
   | none=>none
def Jg(tmps:Array Value):ResultVar->Sem Value
 | .tmp t=>pure (tmps.getD t undef)
 | .cell a t=>do loadVar t (<- asAddr (tmps.getD a undef))
theorem s0p{X:Cx}{Γ:p9}(s:B6 X.P Γ){G:Gh}{st:St}{a:Act}(S:Sat X G)(ho:G.o=st.o)(E:EnvR X.n G st.e a){r:ResultVar}{q:Prop}{b:AV}(h:Pe Γ st r=some (q,b))(T:q) :
  ∃v,(Jg a.tmps r).run X.P G.w=.ok v G.w/\AVR G b v:=by
 unfold Pe at h;split at h
 ·rename_i t;split at h
  ·rename_i a0 z;simp only[oi,pj] at h;obtain⟨rfl,rfl⟩:=h;exact⟨_,rfl,(E.val t _ z).1 (fun _ h=>by cases h)⟩
  grind
 ·rename_i t g;split at h
  ·rename_i p z;split at h
   ·rename_i cs l Q;split at h
    ·rename_i f x;split at h
     ·rename_i av d;simp only[oi,pj] at h;obtain⟨rfl,rfl⟩:=h;rw[<- ho] at Q T;obtain⟨W,o,us,hp,k,y⟩:=Xo S Q T ((E.val t _ z).1 (fun _ h=>by cases h));obtain⟨hi,aA,_,_,m⟩:=s _ _ x;have m:=C0q m;have j:∀v,(loadVar g ⟨W,o,none⟩).run X.P G.w=.ok v G.w->(Jg a.tmps (.cell t g)).run X.P G.w=.ok v G.w:=fun v hv=>by
       grind[undef,Array.getD_eq_getD_getElem?,Jg,asAddr]
      unfold KM at d;rw[ce] at d;split at d
      ·rename_i H;rw[ce] at d;split at d
       ·rename_i i;simp only[oi] at d; subst d;have i:=Nat.le_of_ble_eq_true i
        haveI:M5 X.P g:=⟨m.1 H⟩
        haveI:Info X.P g f.size f.bytes f.zero:=⟨hi⟩
        have F:=y.len;exact⟨_,j _ (RZ (by grind) (Xk k f.size)),us.take f.size,rfl,(y.take _).1⟩
       grind
      ·rename_i H;split at d
       ·rename_i c r;simp only[oi] at d; subst d
        haveI:K9 X.P g:=⟨m.2 (by grind)⟩
        obtain⟨u,V,rfl,Y,_⟩:=y;exact⟨u,j _ (j0l (by simpa using k 0 u rfl)),Y⟩
       grind
     grind
    grind
   grind
  grind
theorem Yd{X:Cx}{Γ:p9}(c:B6 X.P Γ){G:Gh}{st:St}{a:Act}(S:Sat X G)(g:G.o=st.o)(f:EnvR X.n G st.e a):∀{rs:List ResultVar} {q:Prop} {bs:List AV},Jf Γ st rs=some (q,bs)->q ->
  ∃vs,(rs.mapM (Jg a.tmps)).run X.P G.w=.ok vs G.w/\AVRs G bs vs/\vs.length=rs.length
 | [],q,bs,h,hq=>by
   simp only[Jf,oi,pj] at h;obtain⟨rfl,rfl⟩:=h;exact⟨[],rfl,rfl,rfl⟩
 | r :: rs,q,bs,h,hq=>by
   unfold Jf at h;split at h
   ·rename_i t b i;split at h
    ·rename_i s l k;simp only[oi,pj] at h;obtain⟨rfl,rfl⟩:=h;obtain⟨v,x,j⟩:=s0p c S g f i hq.1;obtain⟨vs,m,d,u⟩:=Yd c S g f k hq.2;exact⟨v :: vs,by simp_all,⟨v,vs,rfl,j,d⟩,by grind⟩
    grind
   grind
def Ye:List AV->AV
 | [a]=>a
 | as'=>.tup as'
def M0S:List Value->Value
 | [v]=>v
 | vs=>.tuple vs.toArray
theorem Yf{G:Gh}{c:List AV}{vs:List Value}(h:AVRs G c vs):AVR G (Ye c) (M0S vs):=by
 match c,vs,h with
 | [],vs,h=>have h:vs=[]:=h; subst h; exact⟨[],rfl,rfl⟩
 | [a],vs,⟨u,us,e,h1,d⟩=>have d:us=[]:=d; subst d; subst e; exact h1
 | a :: b :: r,vs,⟨u,us,e,h1,u2,us2,e2,d,h3⟩=>subst e2; subst e; exact⟨u :: u2 :: us2,rfl,u,_,rfl,h1,u2,us2,rfl,d,h3⟩
theorem Yg{b:Func}{rs:List ResultVar}(d:b.results=rs.toArray){P:Program}{a:Array Value}{w:World}{vs:List Value}(h:(rs.mapM (Jg a)).run P w=.ok vs w):(results b a).run P w=.ok (M0S vs) w:=by
 have c:results b a=(do
   let vs <- Array.mapM (Jg a) rs.toArray
   pure (if h:vs.size=1 then vs[0] else .tuple vs)):=by
  unfold results;rw[d];congr 1
 have:(Array.mapM (Jg a) rs.toArray).run P w=.ok vs.toArray w:=by
  rw[List.mapM_toArray];simp[h,Result.andThen]
 rw[c];simp only[Sem.run_bind,this,Result.andThen]
 match vs with
 | []=>rfl
 | [v]=>rfl
 | v :: u :: r=>rfl
def onceN:List (Option Nat)->Bool
 | []=>true
 | none :: r=>onceN r
 | some i :: r=>notInS i r&&onceN r
where notInS (i:Nat):List (Option Nat)->Bool
 | []=>true
 | none :: r=>notInS i r
 | some j :: r=>!(Nat.beq i j)&&notInS i r
def Pf(mv:List (Option Nat)):List Nat->Bool
 | []=>true
 | i :: r=>onceN.notInS i mv&&Pf mv r
theorem Pg{i:Nat}:∀{l:List (Option Nat)},onceN.notInS i l=true->some i ∉ l
 | [],_=>by simp
 | none :: r,h=>by
   have:=Pg (l:=r) h;simpa using this
 | some j :: r,h=>by
   simp only[onceN.notInS,ba,Bool.not_eq_true'] at h;have:=Pg h.2;simp only[List.mem_cons,oi,not_or];exact⟨fun e=>by simp_all,this⟩
theorem r0Q{mv:List (Option Nat)}:∀{l:List Nat},Pf mv l=true->∀i∈l,some i ∉ mv
 | j :: r,h,i,hi=>by
   simp only[Pf,ba] at h;rcases List.mem_cons.1 hi with rfl | hi
   ·grind[Pg]
   ·exact r0Q h.2 i hi
theorem SX{X:Cx}{G:Gh}(S:Sat X G):∀{mv:List (Option Nat)},onceN mv=true->Yc G mv->Cb (Z7 G mv)
 | [],_,_=>trivial
 | none :: r,h,ha=>⟨(fun b e=>by cases e),SX S (mv:=r) h (fun i hi=>ha i (List.mem_cons_of_mem _ hi))⟩
 | some i :: r,h,ha=>by
   simp only[onceN,ba] at h;refine⟨fun b e d=>?_,SX S h.2 (fun i hi=>ha i (List.mem_cons_of_mem _ hi))⟩;have e:G.γ i=some b:=e;obtain⟨o,f,a⟩:=List.mem_map.1 d;cases o with
   | none=>grind
   | some j =>
     have a:G.γ j=some b:=a;obtain⟨_,c⟩:=ha i (by simp);obtain⟨_,g⟩:=ha j (List.mem_cons_of_mem _ f);have:=S.inj i j _ _ b c g e a
     grind[Pg]
def SY(f:Nat->Bool):Option Nat->Bool
 | none=>true
 | some i=>f i
/- Data that lead nowhere. -/
mutual
def DQ:AV->Bool
 | .d _ t _=>D8 t
 | .ow _ _ t _=>D8 t
 | .ob _ xs=>Ld xs
 | .agg xs=>Ld xs
 | .tup xs=>Ld xs
 | _=>true
def Ld:List AV->Bool
 | []=>true
 | a :: r=>DQ a&&Ld r
end
mutual
theorem ResR.kf{K K':Bool->Nat->Prop}{w:World}:∀{a:AV} {u:Value} {gs:List (Option Nat)},DQ a=true->ResR K w a u gs->ResR K' w a u gs
 | .v _,_,_,_,h=>h
 | .d fr t x,u,gs,hf,⟨h,e⟩=>⟨RT.free (by grind[DQ]) h,e⟩
 | .ow T fr t xs,u,gs,hf,⟨g,cs,h1,h2,h3,h4⟩=>⟨g,cs,h1,h2,h3,h4.mapR (fun c x h=>RT.free (by grind[DQ]) h)⟩
 | .agg xs,u,gs,hf,⟨us,e,h⟩=>⟨us,e,ResRs.kf (by grind[DQ]) h⟩
 | .ob T xs,u,gs,hf,⟨b,us,gs',e1,e2,h1,h⟩=>⟨b,us,gs',e1,e2,h1,ResRs.kf (by grind[DQ]) h⟩
 | .tup xs,u,gs,hf,⟨us,e,h⟩=>⟨us,e,ResRs.kf (by grind[DQ]) h⟩
theorem ResRs.kf{K K':Bool->Nat->Prop}{w:World}:∀{as':List AV} {us:List Value} {gs:List (Option Nat)},Ld as'=true->ResRs K w as' us gs->ResRs K' w as' us gs
 | [],_,_,_,h=>h
 | a :: r,us,gs,hf,⟨u,us',g1,g2,e1,e2,h1,h2⟩=>by
   simp only[Ld,ba] at hf;exact⟨u,us',g1,g2,e1,e2,ResR.kf hf.1 h1,ResRs.kf hf.2 h2⟩
end
def Jh(Γ:p9)(st:St)(rs:List ResultVar)(r:AV)(ps:List o6)(z:F0 ps):Prop :=
 match Jf Γ st rs with
 | some (q0,as')=>match O9 st.o (Ye as') r with
   | some (q,mv,fz)=>match Ax st.o 0 ps z with
     | some (q',fz',pin)=>bif onceN mv&&Pf mv (fz++fz')&&SY (fun i=>IU i (fz++fz')) pin&&(!H8 ps||DQ r)&&SY (fun i=>onceN.notInS i mv) pin then q0/\q/\q' else False
     | none=>False
   | none=>False
 | none=>False
def J0r(c:Ct)(x:A4 c.ps)(w:World)(go:Option Nat)(K:Nat->Prop)(en:Ending)(w':World):Prop :=
 ∃v gs,en=.returned v/\WE go w w'/\Cb gs/\(∀b,some b∈gs->w.heap.size<=b∨(H8 c.ps=true/\go=some b))/\ResR (fun fr=>IT fr K w w' gs) w' (c.res x).r v gs /\
  IOR (fun k=>(K k∨w.heap.size<=k)/\UFg w' w.heap.size k/\some k ∉ gs/\go≠some k) w' go c.ps (c.res x).z
theorem Ji{X:Cx}{G:Gh}(S:Sat X G){K' Kf:Nat->Prop}(a:∀k,G.K k->K' k)(c:∀k,K' k->Kf k){go:Option Nat}:∀{ps:List o6} {i:Nat} {z:F0 ps} {q:Prop} {fz:List Nat} {pin:Option Nat},¬H8 ps=true->Ax G.o i ps z=some (q,fz,pin)->q->X.pin=Pd (r6 i ps go)->((∃b,go=some b)∨pin=none) ->
  (∀id∈fz,(∃o,a8 G.o id=some o)->∀b,G.γ id=some b->K' b)->IOR Kf G.w go ps z/\∀id,pin=some id->∃T cs,a8 G.o id=some (.box T cs)/\G.γ id=go
 | .os _ _ :: _,_,_,_,_,_,hv,_,_,_,_,_=>(hv rfl).elim
 | [],i,z,q,fz,pin,_,h,hq,_,_,_=>by
   simp only[Ax,oi,pj] at h;obtain⟨_,_,rfl⟩:=h;exact⟨trivial,fun _ e=>by cases e⟩
 | .io T t :: r,i,z,q,fz,pin,_,h,hq,hp,hg,hz=>by
   unfold Ax at h;split at h
   ·rename_i H cs E;rw[ce] at h;split at h
    ·rename_i g;have g:=nb g;subst g;split at h
     ·rename_i y l W m;simp only[oi,pj] at h;obtain⟨rfl,rfl,rfl⟩:=h;obtain rfl:=hq;rcases hg with ⟨b,rfl⟩ | hg
      ·obtain⟨_,V,n,x⟩:=S.pin i (.pointer (some ⟨b,0,none⟩)) (by rw[hp]; rfl);cases x;obtain⟨Q,v,P,j,s,F⟩:=S.obs _ _ E;rw[n] at j;cases j;exact⟨⟨b,v,rfl,s,RT.up (DH S a 24 m (fun id d=>hz id d (GV 24 m id d)) F) (fun k u=>c k u.1)⟩,fun id e=>by grind⟩
      grind
     grind
    grind
   grind
 | .dat t :: r,i,z,q,fz,pin,hv,h,hq,hp,hg,hz=>Ji (ps:=r) (i:=i+1) S a c hv h hq (by cases go <;> exact hp) hg hz
 | .agg t :: r,i,z,q,fz,pin,hv,h,hq,hp,hg,hz=>Ji (ps:=r) (i:=i+1) S a c hv h hq (by cases go <;> exact hp) hg hz
 | .fn f t :: r,i,z,q,fz,pin,hv,h,hq,hp,hg,hz=>Ji (ps:=r) (i:=i+1) S a c hv h hq (by cases go <;> exact hp) hg hz
 | .nof f :: r,i,z,q,fz,pin,hv,h,hq,hp,hg,hz=>Ji (ps:=r) (i:=i+1) S a c hv h hq (by cases go <;> exact hp) hg hz
 | .nil :: r,i,z,q,fz,pin,hv,h,hq,hp,hg,hz=>Ji (ps:=r) (i:=i+1) S a c hv h hq (by cases go <;> exact hp) hg hz
theorem Le{K:Nat->Prop}{w:World}{o:List (Nat×Ob)}:∀{ps:List o6} {i:Nat} {x:A4 ps} {vs:List Value} {go:Option Nat} {z:F0 ps} {q:Prop} {fz:List Nat} {pin:Option Nat},¬H8 ps=true->ArgsR K w go ps x vs->Ax o i ps z=some (q,fz,pin)->(go=none/\pin=none)∨∃b j,go=some b/\pin=some j
 | .os _ _ :: _,_,_,_,_,_,_,_,_,hv,_,_=>(hv rfl).elim
 | [],i,x,vs,go,z,q,fz,pin,_,ha,h=>by
   simp only[Ax,oi,pj] at h;exact .inl ⟨ha.2,h.2.2.symm⟩
 | .io T t :: r,i,x,vs,go,z,q,fz,pin,_,⟨b,_,_,_,hg,_⟩,h=>by
   grind[Ax]
 | .dat t :: r,i,x,vs,go,z,q,fz,pin,hv,⟨_,_,_,_,ha⟩,h=>Le (ps:=r) (i:=i+1) hv ha h
 | .agg t :: r,i,x,vs,go,z,q,fz,pin,hv,⟨_,_,_,_,ha⟩,h=>Le (ps:=r) (i:=i+1) hv ha h
 | .fn f t :: r,i,x,vs,go,z,q,fz,pin,hv,⟨_,_,_,_,ha⟩,h=>Le (ps:=r) (i:=i+1) hv ha h
 | .nof f :: r,i,x,vs,go,z,q,fz,pin,hv,⟨_,_,ha⟩,h=>Le (ps:=r) (i:=i+1) hv ha h
 | .nil :: r,i,x,vs,go,z,q,fz,pin,hv,⟨_,_,ha⟩,h=>Le (ps:=r) (i:=i+1) hv ha h
theorem C0w{P:Program}{n:Nat}{Γ:p9}(aJ:B6 P Γ){c:Ct}{x:A4 c.ps}{w:World}{K:Nat->Prop}{go:Option Nat}{vs:List Value}(aK:Br c.ps=true)(ha:ArgsR K w go c.ps x vs)
  {fn:Func} {rs:List ResultVar} (hr:fn.results=rs.toArray) {st:St} (h:Jh Γ st rs (c.res x).r c.ps (c.res x).z) :
  ∀G a,Sat (cx P n ⟨w,fun k=>go=some k,K,Pd (r6 0 c.ps go),R7 c.ps w⟩) G->G.o=st.o->EnvR n G st.e a->a.defers=[]/\∃v,(results fn a.tmps).run P G.w=.ok v G.w/\J0r c x w go K (.returned v) G.w:=by
 intro G a S ho hE;unfold Jh at h;split at h
 ·rename_i q0 aP h0;split at h
  ·rename_i q E fz i;split at h
   ·rename_i q' aD aS Q;rw[ce] at h;split at h
    ·rename_i u;simp only[ba] at u;obtain⟨⟨⟨⟨aF,aM⟩,aC⟩,aH⟩,aG⟩:=u;obtain⟨aN,hq,aB⟩:=h;obtain⟨us,e1,hu,_⟩:=Yd (X:=cx P n ⟨w,fun k=>go=some k,K,Pd (r6 0 c.ps go),R7 c.ps w⟩) aJ S ho hE h0 aN;rw[<- ho] at i Q;have aT:=r0Q aM;obtain⟨_,l⟩:=SV (K':=fun _=>True) (Kf:=fun _ _=>True) S (fun _ _=>trivial) (fun _ _ _=>trivial) i hq (fun _ _ _ _ _=>trivial) (Yf hu);have y:∀k,some k∈Z7 G E->∃id,some id∈E/\G.γ id=some k:=fun k d=>by
      obtain⟨o,i,Q⟩:=List.mem_map.1 d;cases o with
      | none=>cases Q
      | some id=>grind
     by_cases m:H8 c.ps=true
     ·obtain⟨hR,_⟩:=SV (K':=fun _=>True) (Kf:=fun _ _=>True) S (fun _ _=>trivial) (fun _ _ _=>trivial) i hq (fun _ _ _ _ _=>trivial) (Yf hu);rw[m,Bool.not_true,Bool.false_or] at aH;refine⟨hE.defers,_,Yg hr e1,_,Z7 G E,rfl,⟨S.os,S.tape,S.output,S.size,fun k d hg=>S.block k d hg⟩,SX S aF l,fun b u=>?_,ResR.kf aH hR,Lc aK m⟩;obtain⟨j,H,W⟩:=y b u;obtain⟨_,F⟩:=l j H;rcases S.own j _ b F W with h | h
      ·grind
      grind
     have aI:=o0k (w:=w) m;have Y:=Le m ha Q;obtain⟨_,s⟩:=Ji (K':=fun _=>True) (Kf:=fun _=>True) (go:=go) S (fun _ _=>trivial) (fun _ _=>trivial) m Q aB rfl (by
      grind) (fun _ _ _ _ _=>trivial)
     have aQ:∀id∈fz++aD,∀o,a8 G.o id=some o->∀k,G.γ id=some k->w.heap.size<=k/\UFg G.w w.heap.size k/\some k ∉ Z7 G E/\go≠some k:=fun id aA o f k d=>by
      have aL:go≠some k:=fun e=>by
       rcases Y with ⟨h,_⟩ | ⟨b,j,h,hj⟩
       ·grind
       ·obtain⟨T,cs,k1,k2⟩:=s j hj;have:=S.inj id j _ _ k f k1 d (k2.trans e);subst this;rw[hj] at aC;exact OW aC aA
      refine⟨?_,?_,?_,aL⟩
      ·rcases S.own id o k f d with h | h
       ·exact h
       grind
      ·have:=S.obs id o f;cases o with
       | box T cs=>obtain⟨b',us,i,Q,h3,h4⟩:=this; rw[d] at i; cases i; exact(Xe h3).g
       | arr T fr t xs aR=>obtain⟨cs,i,Q,_⟩:=this; rw[d] at i; exact(GR i).g
       | grd T Te fr t xs aO=>obtain⟨vs,bs,i,_⟩:=this; rw[d] at i; exact(GR i).g
      ·intro hm;obtain⟨j,H,W⟩:=y k hm;obtain⟨_,F⟩:=l j H;have:=S.inj id j _ _ k f F d W
       grind
     have aU:∀k,G.K k->(K k∨w.heap.size<=k)/\UFg G.w w.heap.size k/\some k ∉ Z7 G E/\go≠some k:=fun k d=>by
      refine⟨by
       have h:K k∨R7 c.ps w<=k:=S.kfrom k d
       rwa [aI] at h,S.klt k d,fun hm=>?_,fun e=>?_⟩
      ·obtain⟨j,H,W⟩:=y k hm;obtain⟨_,F⟩:=l j H;exact S.imm j _ k F W d
      ·rcases Y with ⟨h,_⟩ | ⟨b,j,h,hj⟩
       ·grind
       ·obtain⟨T,cs,k1,k2⟩:=s j hj;exact S.imm j _ k k1 (k2.trans e) d
     let K':Nat->Prop:=fun k=>G.K k∨∃id∈fz++aD,G.γ id=some k/\∃o,a8 G.o id=some o
     have V:∀k,K' k->(K k∨w.heap.size<=k)/\UFg G.w w.heap.size k/\some k ∉ Z7 G E/\go≠some k:=fun k d=>by
      grind
     obtain⟨hR,_⟩:=SV (K':=K') (Kf:=fun fr=>IT fr K w G.w (Z7 G E)) S (fun _ h=>.inl h) (fun fr k d=>by
      obtain⟨a1,a2,a3,_⟩:=V k d.1;refine⟨?_,a2,a3⟩;cases fr with
      | false =>
        grind
      | true=>exact .inr (by
        have h:G.B<=k:=d.2 rfl;have e:G.B=R7 c.ps w:=S.base.1;omega)) i hq (fun id aA ⟨o,f⟩ b u=>.inr ⟨id,by grind,u,o,f⟩) (Yf hu)
     obtain⟨hI,_⟩:=Ji (K':=K') (Kf:=fun k=>(K k∨w.heap.size<=k)/\UFg G.w w.heap.size k/\some k ∉ Z7 G E/\go≠some k) (go:=go) S (fun _ h=>.inl h) V m Q aB rfl (by
      grind) (fun id aA ⟨o,f⟩ b u=>.inr ⟨id,by grind,u,o,f⟩)
     refine⟨hE.defers,_,Yg hr e1,_,Z7 G E,rfl,⟨S.os,S.tape,S.output,S.size,fun k d hg=>S.block k d hg⟩,SX S aF l,fun b u=>?_,hR,hI⟩;obtain⟨j,H,W⟩:=y b u;obtain⟨_,F⟩:=l j H;rcases S.own j _ b F W with h | h
     ·grind
     ·have h:go=some b:=h;rcases Y with ⟨h',_⟩ | ⟨b',i',h',hj⟩
      ·grind
      ·obtain⟨T,cs,k1,k2⟩:=s i' hj;have:=S.inj i' j _ _ b k1 F (k2.trans h) W;subst this;rw[hj] at aG;exact(Pg aG H).elim
    grind
   grind
  grind
 grind
def wfs:(ps:List o6)->A4 ps->Prop
 | [],_=>True
 | .dat t :: r,x=>wf t x.1/\wfs r x.2
 | .agg t :: r,x=>wf t x.1/\wfs r x.2
 | .fn _ c :: r,x=>wf c x.1/\wfs r x.2
 | .nof _ :: r,x=>wfs r x.2
 | .nil :: r,x=>wfs r x.2
 | .io _ t :: r,x=>wf t x.1/\wfs r x.2
 | .os _ t :: r,x=>wf (.sl t) x.1/\wfs r x.2
theorem C0f{K:Nat->Prop}{w:World}{E s:Nat}{t:Ty}{g:Option Nat}{v:Value}{cs:List Value}{xs:List (c7 t)}(h:Own w E s g v xs.length cs)(a:AllR (RT K w t) cs xs):wf (.sl t) xs:=by
 refine⟨?_,fun x e=>?_⟩
 ·rcases h with ⟨_,h,_⟩ | ⟨b,o,cap,cur,_,_,_,h1,h2,_⟩
  ·omega
  grind[maxLen,Nat.le_trans]
 ·obtain⟨c,d⟩:=a.mem x e;exact RT.wf d
theorem ArgsR.wfs{K:Nat->Prop}{w:World}:∀{ps:List o6} {x:A4 ps} {vs:List Value} {go:Option Nat},ArgsR K w go ps x vs->Xv.wfs ps x
 | [],_x,_vs,_go,_=>trivial
 | .dat _t :: _r,_x,_vs,_go,⟨_v,_us,_e,h1,h⟩=>⟨RT.wf h1,ArgsR.wfs h⟩
 | .agg _t :: _r,_x,_vs,_go,⟨_v,_us,_e,h1,h⟩=>⟨RT.wf h1,ArgsR.wfs h⟩
 | .fn _f _t :: _r,_x,_vs,_go,⟨_v,_us,_e,h1,h⟩=>⟨RT.wf h1,ArgsR.wfs h⟩
 | .nof _f :: r,_x,_vs,_go,⟨_us,_e,h⟩=>ArgsR.wfs (ps:=r) h
 | .nil :: r,_x,_vs,_go,⟨_us,_e,h⟩=>ArgsR.wfs (ps:=r) h
 | .io _ _t :: _r,_x,_vs,_go,⟨_,_cs,_us,_e,_,_,_,h1,h⟩=>⟨RT.wf h1,ArgsR.wfs h⟩
 | .os _ _t :: _r,_x,_vs,_go,⟨_v,_cs,_us,_e,_,_,h1,h2,h⟩=>⟨C0f h1 h2,ArgsR.wfs h⟩
theorem L0v{P:Program}{Γ:p9}(H:B6 P Γ){c:Ct}{m:Func}{e:Code}{n:Nat}(rs:List ResultVar)(hf:P.funcs[c.f]?=some m)(hn:m.ntmps=n)(hb:m.body=some e)(hr:m.results=rs.toArray)(he:BX P c.f=true)(d:(Nat.ble c.ps.length n&&Br c.ps)=true)
  (h:∀y x,(c.res x).q->Xv.wfs c.ps x->∀Q,(∀st,Jh Γ st rs (c.res x).r c.ps (c.res x).z->FX (cx P n y) st .normal Q/\FX (cx P n y) st .ret Q)->VX (cx P n y) ⟨N8 0 c.ps x,K8 0 c.ps x⟩ e Q):Ok P c:=by
 refine⟨he,fun x hq w v F K hK l=>?_⟩;rw[ba] at d;obtain⟨d,g⟩:=d;have d:=Nat.le_of_ble_eq_true d;have aA:=l.len;refine calls_of_wp hf hb ?_;have:=h ⟨w,fun k=>F=some k,K,Pd (r6 0 c.ps F),R7 c.ps w⟩ x hq l.wfs (bodyPost P m (J0r c x w F K)) (fun st V=>?_) (FJ K w F (Cd c.ps v) (R7 c.ps w) (K8 0 c.ps x)) { tmps:=v.toArray++Array.replicate (m.ntmps-v.toArray.size) undef,defers:=[] } (u0G hK l) rfl ⟨rfl,by grind,fun t s ht=>?_⟩
 ·exact this
 ·exact⟨fun G a S Y X=>C0w H g l hr V G a S Y X,fun G a S Y X=>C0w H g l hr V G a S Y X⟩
 ·obtain⟨_,a2,u,a3,a4⟩:=Hd (i:=0) (o:=K8 0 c.ps x) (r0:=Cd c.ps v) (B:=R7 c.ps w) (g0:=F) g l (fun _=>rfl) (fun z hz=>by
   rcases Je (i:=0) l with ⟨W,_⟩ | ⟨j,b,T,t,z',cs,W,_⟩ | ⟨j,E,t,xs,cs,W,_⟩
   ·grind
   ·rw[W] at hz ⊢;cases List.mem_singleton.1 hz;rw[lK,if_pos rfl]
   ·rw[W] at hz ⊢;cases List.mem_singleton.1 hz;rw[lK,if_pos rfl]) t s ht
  rw[a2];refine⟨fun _=>?_,fun hn=>(hn (fun _ h=>by cases h)).elim⟩;have aB:t<v.length:=by
   rcases Nat.lt_or_ge t v.length with h' | h'
   ·exact h'
   ·grind
  rw[Array.getD_eq_getD_getElem?,Array.getElem?_append_left (by omega)]
  grind
def Lf:Option AV->Bool
 | some (.pel ..)=>false
 | some (.gel ..)=>false
 | _=>true
theorem Yh{o:List (Nat×Ob)}{v:AV}(h:Lf (some v)=true):CW o v:=by
 cases v <;> first | trivial | cases h
def Bs(st:St)(p:Pa):Op->Bool
 | .move _ | .assign _ | .pick .. | .unOp .not .. | .fieldAddr .. | .field .. | .extract .. | .makeFunc .. | .build .. | .alloc _ | .box .. | .buildSlice ..=>true
 | .call ⟨.builtin .len,_,_⟩ | .call ⟨.builtin .min,_,_⟩ | .call ⟨.builtin .max,_,_⟩=>true
 | .load _ x | .nilCheck x | .store _ x _=>Lf (rd st p x)
 | .binOp .eql .. | .binOp .neq .. | .binOp .lss .. | .binOp .leq .. | .binOp .gtr .. | .binOp .geq ..=>true
 | _=>false
theorem J0d{k a:IntKind}{b:Bool}{q:Prop}{r:AV}(h:DI k a b=some (q,r)):q:=by
 grind[DI]
theorem J0h{b:Option TI}{a:BinOp}{u v r:AV}{q:Prop}(c:(match a with | .eql | .neq | .lss | .leq | .gtr | .geq=>true | _=>false)=true)(h:OT b a u v=some (q,r)):q:=by
 unfold OT at h
 grind[J0d,oi,pj,absurd]
theorem J0l{Γ:p9}{st:St}{p:Pa}{c:Op}{q:Prop}{r:AV}{l:List Nat}(a:Bs st p c=true)(h:J4 Γ st p c=some (q,r,l)):q:=by
 unfold J4 at h;split at h
 case h_5 op' T x y n =>
  split at h
  ·split at h
   ·rename_i d;simp only[oi,pj] at h;obtain⟨rfl,_⟩:=h;refine J0h ?_ d;cases op' <;> first | rfl | exact a
   grind
  grind
 case h_3 x =>
  split at h
  ·rename_i v b;split at h
   ·simp only[oi,pj] at h;obtain⟨rfl,_⟩:=h;exact Yh (by rw[<- b]; exact a)
   grind
  grind
 all_goals try (simp[Bs] at a; done)
 case h_10 T x =>
  split at h
  ·rename_i v f b e;split at h
   ·split at h
    ·simp only[oi,pj] at h;obtain⟨rfl,_⟩:=h;exact Yh (by rw[<- b]; exact a)
    grind
   grind
  grind
 all_goals (repeat' (split at h))
 all_goals first
  | cases h; done
  | (simp only[oi,pj] at h; rw[<- h.1]; trivial)
  | (rw[ce] at h
     split at h
     ·grind
     ·cases h)
theorem J0n{Γ:p9}{st:St}{p:Pa}{d:Nat}{a:Op}{q:Prop}{r:AV}{w:Nat×Ob}{l:List Nat}(b:Bs st p a=true)(h:Bp Γ st p d a=some (q,r,w,l)):q:=by
 unfold Bp at h
 grind[Bs]
theorem J0k{Γ:p9}{st:St}{p:Pa}{a:Op}{q:Prop}{w:Nat×Ob}{l:List Nat}(b:Bs st p a=true)(h:CX Γ st p a=some (q,w,l)):q:=by
 unfold CX at h
 grind[Bs,Lf]
theorem J0o{Γ:p9}{st:St}{p:Pa}{d:Nat}{a:Op}{r:Prop×AV×List (Nat×Ob)×List Nat}(b:Bs st p a=true)(h:Cc Γ st p d a=some r):False:=by
 unfold Cc at h
 grind[Bs,Lf]
theorem E0Z{Γ:p9}{st:St}{p:Pa}{a:Op}{r:Prop×List (Nat×Ob)×List Nat}(b:Bs st p a=true)(h:Da Γ st p a=some r):False:=by
 unfold Da at h
 grind[Bs,Lf]
theorem J0m{Γ:p9}{T:List Ct}{st:St}{p:Pa}{o:Oper}{q:Prop}{av:Option AV}{obs:List (Nat×Ob)}{l:List Nat}(b:Bs st p o.op=true)(h:Aw Γ T st p o=some (q,av,obs,l)):q:=by
 have a:∀d q r obs l,DM T st p d o.op≠some (q,r,obs,l):=fun d q r obs l a=>by
  unfold DM at a
  grind[Bs]
 unfold Aw at h;split at h
 ·rw[ce] at h;split at h
  ·grind[oi,pj,J0l,J0o]
  ·rw[ce] at h
   grind[oi,pj,J0n]
 ·rw[ce] at h
  grind[oi,pj,J0k,E0Z]
def Bt(Γ:p9)(T:List Ct)(all:List Oper):List Oper->St->List C1->Option (Prop×St×List C1)
 | [],st,rs=>some (True,st,rs)
 | o :: r,st,rs=>match Db all st.e o with
   | some p=>match Aw Γ T st p o with
     | some (q,av,obs,fp)=>bif DL p||DL obs then(match Bt Γ T all r ⟨FH o.dst p av st.e,obs++st.o⟩ (⟨o,p,av,obs,fp⟩ :: rs) with
       | some (V,st',rs')=>some (bif Bs st p o.op then V else(SI st.e p q/\V),st',rs')
       | none=>none) else none
     | none=>none
   | none=>none
theorem F0K{e:List (Nat×Sl)}{p:Pa}{q:Prop}(h:q):SI e p q:=by
 unfold SI
 grind
theorem He{Γ:p9}{T:List Ct}{all:List Oper}{K:St->List C1->Prop}:∀{ops:List Oper} {st:St} {rs:List C1} {V:Prop} {st':St} {rs':List C1},Bt Γ T all ops st rs=some (V,st',rs')->V->K st' rs'->IY Γ T all ops st rs K
 | [],st,rs,V,st',rs',h,hV,hK=>by
   simp only[Bt,oi,pj] at h;obtain⟨_,rfl,rfl⟩:=h;exact hK
 | o :: r,st,rs,V,st',rs',h,hV,hK=>by
   unfold Bt at h;unfold IY;split at h
   ·rename_i p g
    try (rw[g]; simp only)
    split at h
    ·rename_i q l i k c
     try (rw[c]; simp only)
     rw[ce] at h ⊢;split at h
     ·rename_i d;rw[if_pos d];split at h
      ·rename_i m e j b;simp only[oi,pj] at h;obtain⟨a,rfl,rfl⟩:=h;rw[ce] at a;split at a
       ·rename_i f;subst a;exact⟨F0K (J0m f c),He b hV hK⟩
       ·subst a;exact⟨hV.1,He b hV.2 hK⟩
      grind
     grind
    grind
   grind
def Ph(n:Nat)(Γ:p9)(T:List Ct)(l:List Oper)(keep:List Nat)(st:St):Option (Prop×St) :=
 bif R5 n 0 [] l&&R6 st.e then(match Bt Γ T l l st [] with
  | some (V,st',_)=>some (V,cut keep st')
  | none=>none) else none
def SZ(n:Nat)(Γ:p9)(T:List Ct)(l:List Oper)(keep:List Nat)(st:St):Option (Prop×St) :=
 bif R5 n 0 [] l&&Z6 0 l&&R6 st.e then(match Bt Γ T l l st [] with
  | some (V,st',rs)=>bif KZ (V2 [] l) rs.reverse then some (V,cut keep st') else none
  | none=>none) else none
section
variable {P:Program} {n:Nat} {y:World×(Nat->Prop)×(Nat->Prop)×(Nat->Value->Prop)×Nat} {st:St} {Q:Exit->Act->World->Prop} {Γ:p9} {T:List Ct}
theorem rs(d:B6 P Γ)(j:∀c∈T,Ok P c)(a:List Nat)(st':St)(V:Prop){id:Nat}{l:List Oper}{c:Code}(h:Ph n Γ T l a st=some (V,st'))(g:V)(i:VX (cx P n y) st' c Q):VX (cx P n y) st (.seq (.region id l.toArray false) c) Q:=by
 unfold Ph at h;rw[ce] at h;split at h
 ·rename_i b;rw[ba] at b;split at h
  ·rename_i m f k e;simp only[oi,pj] at h;obtain⟨rfl,rfl⟩:=h;exact vQ (z0G (X:=cx P n y) d j a b.1 b.2 (He e g (fQ i)))
  grind
 grind
theorem re(d:B6 P Γ)(j:∀c∈T,Ok P c)(a:List Nat)(st':St)(V:Prop){id:Nat}{l:List Oper}(h:Ph n Γ T l a st=some (V,st'))(g:V)(i:FX (cx P n y) st' .normal Q):VX (cx P n y) st (.region id l.toArray false) Q:=by
 unfold Ph at h;rw[ce] at h;split at h
 ·rename_i b;rw[ba] at b;split at h
  ·rename_i m f k e;simp only[oi,pj] at h;obtain⟨rfl,rfl⟩:=h;exact z0G (X:=cx P n y) d j a b.1 b.2 (He e g i)
  grind
 grind
theorem de(d:B6 P Γ)(k:∀c∈T,Ok P c)[o:M4 P](a:List Nat)(st':St)(V:Prop){id:Nat}{l:List Oper}(h:SZ n Γ T l a st=some (V,st'))(i:V)(j:FX (cx P n y) st' .normal Q):VX (cx P n y) st (.region id l.toArray true) Q:=by
 unfold SZ at h;rw[ce] at h;split at h
 ·rename_i b;rw[ba] at b;split at h
  ·rename_i q f m e;rw[ce] at h;split at h
   ·rename_i g;simp only[oi,pj] at h;obtain⟨rfl,rfl⟩:=h;exact C0H (X:=cx P n y) d k a b.1 b.2 (He e i ⟨g,j⟩)
   grind
  grind
 grind
theorem ds(b:B6 P Γ)(f:∀c∈T,Ok P c)[g:M4 P](a:List Nat)(st':St)(V:Prop){id:Nat}{l:List Oper}{c:Code}(h:SZ n Γ T l a st=some (V,st'))(d:V)(e:VX (cx P n y) st' c Q):VX (cx P n y) st (.seq (.region id l.toArray true) c) Q :=
 vQ (de b f a st' V h d (fQ e))
end
theorem D0A{P:Program}:B6 P []:=fun _ _ h=>by cases h
theorem tK{P:Program}{T:TypeId}{c:TI}{Γ:p9}(h:IM P T c)(d:B6 P Γ):B6 P ((T,c) :: Γ):=fun e b a=>by
 rw[lK] at a;split at a
 ·grind
 ·exact d e b a
abbrev i64:Ty:=.int .i64
abbrev p(t:Nat)(a:AV):Nat×Sl:=(t,⟨[],a⟩)
abbrev I(x:Int):AV:=.d true (.int .i64) x
abbrev J(x:Int):AV:=.d false (.int .i64) x
abbrev B(x:Bool):AV:=.d true .bool x
abbrev C(x:Bool):AV:=.d false .bool x
abbrev S(x:ByteArray):AV:=.d true .str x
abbrev U(x:ByteArray):AV:=.d false .str x
abbrev D(t:Ty)(x:c7 t):AV:=.d false t x
abbrev N(t:Ty)(x:c7 t):AV:=.d true t x
abbrev L(t:Ty)(x:List (c7 t)):AV:=.d false (.sl t) x
abbrev M(t:Ty)(x:List (c7 t)):AV:=.d true (.sl t) x
abbrev nil:AV:=.v (.slice none 0 0)
theorem ev{Γ:p9}{st:St}{rs:List ResultVar}{r:AV}{ps:List o6}{z:F0 ps}(V:Prop)(h:Jh Γ st rs r ps z=V)(a:V):Jh Γ st rs r ps z:=h ▸ a
theorem tn{P:Program}:∀c∈([]:List Ct),Ok P c:=fun _ h=>by cases h
theorem tc{P:Program}{c:Ct}{T:List Ct}(h:Ok P c)(b:∀c∈T,Ok P c):∀c'∈c :: T,Ok P c':=fun c' a=>by
 grind
end Go.Proofs.Xv
end
section
namespace Go.Proofs.Xd
open Go Go.Proofs.Xv
theorem w0g{b:Type}(a:List b)(z d:b)(s:Nat)(h:s<a.length):(a.take s++List.replicate (a.length-s) z).set s (a.getD s d)=a.take (s+1)++List.replicate (a.length-(s+1)) z:=by
 apply List.ext_getElem?
 grind
theorem z0l{b:Type}(a:List b)(z:b)(s:Nat)(h:a.length<=s):a.take s++List.replicate (a.length-s) z=a:=by
 grind[List.take_of_length_le,Nat.sub_eq_zero_of_le]
theorem E0o{c:Type}{a b:List c}(d:c)(e:a.length=b.length)(h:∀i,i<a.length->a.getD i d=b.getD i d):a=b:=by
 apply List.ext_getElem?
 grind
def u6(n:Nat)(l:Int):Int:=if l-(n:Int)<0 then -1 else l-(n:Int)
theorem I0m{n:Nat}{l:Int}(h:0<=l) : -1<=u6 n l/\u6 n l<=l:=by grind[u6]
theorem u0B{m n:Nat}{l:Int}(h:u6 m l<0):u6 (m+n) l = -1:=by
 grind[u6]
theorem u0A{m n:Nat}{l:Int}(h:0<=u6 m l):u6 (m+n) l=u6 n (u6 m l):=by
 grind[u6]
def h9:(t:Ty)->c7 t->Nat
 | .int _,_=>0
 | .bool,_=>0
 | .str,s=>s.size
 | .sl e,xs=>xs.length+(xs.map (h9 e)).sum
 | .pt e,x=>h9 e x
 | .pr a b,x=>h9 a x.1+h9 b x.2
theorem J0c{t:Ty}{a:List (c7 t)}{i:Nat}{d:c7 t}(h:i<a.length):h9 t (a.getD i d)<=(a.map (h9 t)).sum:=by
 rw[gq,List.getElem?_eq_getElem h];have b:∀(l:List (c7 t)) (x:c7 t),x∈l->h9 t x<=(l.map (h9 t)).sum:=by
  intro l
  induction l with
  | nil=>grind
  | cons y r c =>
    grind
 simp_all
theorem B0T{n:Nat}{l:Int}(h:l-(n:Int)<0):u6 n l = -1:=if_pos h
theorem Yi{n:Nat}{l:Int}(h:0<=l-(n:Int)):u6 n l=l-(n:Int):=if_neg (by omega)
theorem D0C{m n:Nat}{l:Int}(h:l-(m:Int)<0):u6 (m+n) l = -1:=u0B (by grind[B0T])
theorem D0B{m n:Nat}{l:Int}(h:0<=l-(m:Int)):u6 (m+n) l=u6 n (l-(m:Int)):=by
 grind[u0A,Yi]
theorem x0M{l:Int}(h:0<=l):u6 0 l=l:=by grind[Yi]
theorem Ba{a b:Ty}{x:c7 (.pr a b)}:h9 (.pr a b) x=h9 a x.1+h9 b x.2:=by grind[h9]
theorem CA{k:IntKind}{x:Int}:h9 (.int k) x=0:=by grind[h9]
theorem CB{x:Bool}:h9 .bool x=0:=by grind[h9]
theorem BE{x:ByteArray}:h9 .str x=x.size:=by grind[h9]
theorem CC{e:Ty}{x:List (c7 e)}:h9 (.sl e) x=x.length+(x.map (h9 e)).sum:=by grind[h9]
theorem r0B{k:IntKind}{x:List Int}:h9 (.sl (.int k)) x=x.length:=by
 have:∀l:List Int,(l.map (h9 (.int k))).sum=0:=by
  intro l
  induction l with
  | nil=>rfl
  | cons a r b=>grind[h9]
 grind[CC]
end Go.Proofs.Xd
end
section
namespace Go.Proofs.Xl
def gd{ρ:Type}(V:Prop)[Decidable V](e:Option ρ):Option ρ:=if V then e else none
def lt{α β:Type}(x:α)(f:α->β):β:=f x
def vl{α:Type}[Inhabited α](o:Option α):α:=o.getD default
def b7(x:Int):Prop := -9223372036854775808<=x/\x<=9223372036854775807
instance (x:Int):Decidable (b7 x):=inferInstanceAs (Decidable (_/\_))
def ix(i:Int)(n:Nat):Prop:=0<=i/\i < (n:Int)
instance (i:Int)(n:Nat):Decidable (ix i n):=inferInstanceAs (Decidable (_/\_))
def P7:Nat:=36893488147419103232
def K5{σ ρ:Type}(F:(σ->Option ρ)->σ->Option ρ):Nat->σ->Option ρ
 | 0,_=>none
 | n+1,s=>F (K5 F n) s
def lp{σ ρ:Type}(F:(σ->Option ρ)->σ->Option ρ)(s:σ):Option ρ:=K5 F P7 s
theorem Hf{a:Type}{V:Prop}[Decidable V]{e:Option a}{r:a}(h:gd V e=some r):V/\e=some r:=by
 grind[gd]
theorem gP{a:Type}{V:Prop}[Decidable V]{e:Option a}(h:V):gd V e=e:=if_pos h
theorem vS{a:Type}[Inhabited a](x:a):vl (some x)=x:=rfl
theorem u0M{a:Type}[Inhabited a]{o:Option a}(h:o.isSome=true):o=some (vl o):=by cases o with
 | none=>cases h
 | some x=>rfl
end Go.Proofs.Xl
namespace Go.Proofs.Xv
open Go Go.RowKit Go.Proofs.Sv Go.Proofs.Xl
def S9{α β:Type}(f:α->β):Option α->Option β
 | some x=>some (f x)
 | none=>none
theorem V3{a b:Type}{f:a->b}{o:Option a}{y:b}(h:S9 f o=some y):∃x,o=some x/\f x=y:=by
 cases o with
 | none=>cases h
 | some x=>exact⟨x,rfl,by cases h; rfl⟩
def Yj(o o':List (Nat×Ob))(x:Value)(id ver:Nat):Option AV:=match x with
 | .slice none 0 0=>match a8 o id with
   | none=>match a8 o' id with
     | some (.arr _ _ _ _ v)=>bif Nat.beq v ver then some (.os id ver) else none
     | _=>none
   | _=>none
 | _=>none
def Yk(x:Value)(fr:Bool)(e:Ty):Option AV:=match x with
 | .slice none 0 0=>some (.d fr (.sl e) [])
 | _=>none
def Yl(o o':List (Nat×Ob))(id ver id' ver':Nat):Option AV:=bif Nat.beq id id' then(match a8 o id with
    | some (.arr _ _ _ _ v)=>match a8 o' id with
      | some (.arr _ _ _ _ v')=>bif Nat.beq v ver&&Nat.beq v' ver' then some (.os id' ver') else none
      | _=>none
    | _=>none) else none
def wkP(o':List (Nat×Ob))(id off:Nat):Option AV:=match a8 o' id with
 | some (.box _ _)=>some (.ptr id off)
 | _=>none
def wkG(o':List (Nat×Ob))(id:Nat):Option AV:=match a8 o' id with
 | some (.grd ..)=>some (.og id)
 | _=>none
mutual
def Ay(o o':List (Nat×Ob)):AV->AV->Option AV
 | .d fr t x,b=>match b with
   | .d fr' t' _=>bif !fr'||fr then S9 (.d fr' t') (Z4 t t' x) else none
   | _=>none
 | .v x,b=>match b with
   | .v _=>some (.v x)
   | .os id ver=>Yj o o' x id ver
   | .d fr (.sl e) _=>Yk x fr e
   | _=>none
 | .os id ver,b=>match b with
   | .os id' ver'=>Yl o o' id ver id' ver'
   | _=>none
 | .ptr id off,b=>match b with
   | .ptr _ _=>wkP o' id off
   | _=>none
 | .agg xs,b=>match b with
   | .agg ys=>S9 .agg (Hg o o' xs ys)
   | _=>none
 | .tup xs,b=>match b with
   | .tup ys=>S9 .tup (Hg o o' xs ys)
   | _=>none
 | .fn f xs,b=>match b with
   | .fn _ ys=>S9 (.fn f) (Hg o o' xs ys)
   | _=>none
 | .og id,b=>match b with
   | .og _=>wkG o' id
   | _=>none
 | _,_=>none
def Hg(o o':List (Nat×Ob)):List AV->List AV->Option (List AV)
 | [],ys=>match ys with
   | []=>some []
   | _=>none
 | a :: r,ys=>match ys with
   | b :: s=>match Ay o o' a b with
     | some x=>S9 (x :: ·) (Hg o o' r s)
     | none=>none
   | _=>none
end
def Ym(o o':List (Nat×Ob)):Option Ob->Ob->Option Ob
 | some (.box T cs),.box _ cs'=>S9 (.box T) (Hg o o' cs cs')
 | some (.arr T fr t xs _),.arr _ fr' t' _ v'=>bif !fr'||fr then S9 (fun z=>.arr T fr' t' z v') (Z4 (.sl t) (.sl t') xs) else none
 | none,.arr T fr t _ v=>some (.arr T fr t [] v)
 | some (.grd T Te fr t xs none),.grd _ _ fr' t' _ none=>bif !fr'||fr then S9 (fun z=>.grd T Te fr' t' z none) (Z4 (.sl (.sl t)) (.sl (.sl t')) xs) else none
 | _,_=>none
def Ta(o o':List (Nat×Ob))(e:List (Nat×Sl)):List (Nat×Sl)->Option (List (Nat×Sl))
 | []=>some []
 | (t,s) :: r=>match s.p,a8 e t with
   | [],some ⟨[],a⟩=>match Ay o o' a s.a with
     | some x=>S9 ((t,⟨[],x⟩) :: ·) (Ta o o' e r)
     | none=>none
   | _,_=>none
def Tb(o o':List (Nat×Ob)):List (Nat×Ob)->Option (List (Nat×Ob))
 | []=>some []
 | (i,b) :: r=>match Ym o o' (a8 o i) b with
   | some x=>S9 ((i,x) :: ·) (Tb o o' r)
   | none=>none
def Lg(o':List (Nat×Ob)):List (Nat×Ob)->Bool
 | []=>true
 | (i,.box _ _) :: r=>(bif Nat.ble 500000 i then(match a8 o' i with | some (.box _ _)=>true | _=>false) else true)&&Lg o' r
 | (_,.arr ..) :: r=>Lg o' r
 | (_,.grd ..) :: r=>Lg o' r
def Hh(a b:St):Option St:=match Ta a.o b.o a.e b.e with
 | some e=>match Tb a.o b.o b.o with
   | some o=>bif Lg b.o a.o then some ⟨e,o⟩ else none
   | none=>none
 | none=>none
theorem F0H{o o':List (Nat×Ob)}{x:Value}{id ver:Nat}(h:Yj o o' x id ver=some (.os id ver)):Ja x/\SO (a8 o id)/\Hc (a8 o' id) ver:=by
 unfold Yj at h;split at h
 ·split at h
  ·rename_i a;split at h
   ·rename_i b;rw[ce] at h;split at h
    ·rename_i c;have:=nb c;subst this;rw[a,b];exact⟨trivial,trivial,rfl⟩
    grind
   grind
  grind
 grind
theorem F0F{o o':List (Nat×Ob)}{id ver b a:Nat}(h:Yl o o' id ver b a=some (.os b a)):id=b/\Hc (a8 o id) ver/\Hc (a8 o' id) a:=by
 unfold Yl at h;rw[ce] at h;split at h
 ·rename_i c;split at h
  ·rename_i e;split at h
   ·rename_i g;rw[ce] at h;split at h
    ·rename_i d;rw[ba] at d;have i:=nb d.1;have f:=nb d.2;subst i; subst f;rw[e,g];exact⟨nb c,rfl,rfl⟩
    grind
   grind
  grind
 grind
theorem F0I{x:Value}{fr:Bool}{e:Ty}{y:c7 (.sl e)}(h:Yk x fr e=some (.d fr (.sl e) y)):Ja x/\XU (.sl e) y:=by
 unfold Yk at h;split at h
 ·simp only[oi,AV.d.injEq,heq_eq_eq,true_and] at h;exact⟨trivial,h.symm⟩
 grind
theorem Yn{a b:Bool}(h:(!a||b)=true):a=true->b=true:=by
 grind
mutual
theorem z0E{o o':List (Nat×Ob)}:∀{a b:AV},Ay o o' a b=some b->O8 o o' a b
 | .d fr t x,b,h=>by
   unfold Ay at h;unfold O8;split at h
   ·rename_i g i y;rw[ce] at h;split at h
    ·rename_i j;obtain⟨z,c,e⟩:=V3 h
     grind
    grind
   grind
 | .v x,b,h=>by
   unfold Ay at h
   grind[O8,F0H,F0I]
 | .os id ver,b,h=>by
   unfold Ay at h
   grind[O8,F0F]
 | .ptr id off,b,h=>by
   unfold Ay at h;unfold O8;split at h
   ·unfold wkP at h;split at h
    ·rename_i c;simp only[oi,AV.ptr.injEq] at h;obtain⟨rfl,rfl⟩:=h;exact⟨rfl,rfl,by rw[c]; trivial⟩
    grind
   grind
 | .agg xs,b,h=>by
   unfold Ay at h;unfold O8;split at h
   ·obtain⟨z,c,e⟩:=V3 h;simp only[AV.agg.injEq] at e;subst e;exact Pj c
   grind
 | .tup xs,b,h=>by
   unfold Ay at h;unfold O8;split at h
   ·obtain⟨z,c,e⟩:=V3 h;simp only[AV.tup.injEq] at e;subst e;exact Pj c
   grind
 | .fn f xs,b,h=>by
   unfold Ay at h;unfold O8;split at h
   ·obtain⟨z,c,e⟩:=V3 h;simp only[AV.fn.injEq] at e;obtain⟨rfl,rfl⟩:=e;exact⟨rfl,Pj c⟩
   grind
 | .pel ..,b,h=>by grind[Ay]
 | .gel ..,b,h=>by grind[Ay]
 | .og id,b,h=>by
   unfold Ay at h;unfold O8;split at h
   ·unfold wkG at h;split at h
    ·rename_i c;simp only[oi,AV.og.injEq] at h;subst h;exact⟨rfl,by rw[c]; trivial⟩
    grind
   grind
 | .ow ..,b,h=>by grind[Ay]
 | .ob ..,b,h=>by grind[Ay]
theorem Pj{o o':List (Nat×Ob)}:∀{as' bs:List AV},Hg o o' as' bs=some bs->Dd o o' as' bs
 | [],bs,h=>by
   grind[Hg,Dd]
 | a :: r,bs,h=>by
   unfold Hg at h;unfold Dd;split at h
   ·split at h
    ·rename_i x d;obtain⟨z,c,b⟩:=V3 h;simp only[List.cons.injEq] at b;obtain⟨rfl,rfl⟩:=b;exact⟨z0E d,Pj c⟩
    grind
   grind
end
theorem F0G{o o':List (Nat×Ob)}{a:Option Ob}{b:Ob}(h:Ym o o' a b=some b):XX o o' a b:=by
 unfold Ym at h;split at h
 ·obtain⟨z,d,c⟩:=V3 h;simp only[Ob.box.injEq] at c;obtain⟨rfl,rfl⟩:=c;exact⟨rfl,Pj d⟩
 ·rw[ce] at h;split at h
  ·rename_i e;obtain⟨z,d,c⟩:=V3 h;simp only[Ob.arr.injEq,heq_eq_eq,true_and,and_true] at c;obtain⟨rfl,rfl⟩:=c;exact⟨rfl,Yn e,d⟩
  grind
 ·simp only[oi,Ob.arr.injEq,heq_eq_eq,true_and,and_true] at h;exact h.symm
 ·rw[ce] at h;split at h
  ·rename_i e;obtain⟨z,d,c⟩:=V3 h;simp only[Ob.grd.injEq,heq_eq_eq,true_and,and_true] at c;obtain⟨rfl,rfl,rfl⟩:=c;exact⟨rfl,rfl,trivial,trivial,Yn e,d⟩
  grind
 grind
theorem t0A{o o':List (Nat×Ob)}{e:List (Nat×Sl)}:∀{l:List (Nat×Sl)},Ta o o' e l=some l->SP o o' e l
 | [],_=>trivial
 | (t,s) :: r,h=>by
   unfold Ta at h;split at h
   ·rename_i g d;split at h
    ·rename_i x c;obtain⟨z,b,a⟩:=V3 h;simp only[List.cons.injEq,pj,true_and] at a;obtain⟨f,rfl⟩:=a;subst f;exact⟨trivial,by rw[d]; exact z0E c,t0A b⟩
    grind
   grind
theorem t0z{o o':List (Nat×Ob)}:∀{l:List (Nat×Ob)},Tb o o' l=some l->OZ o o' l
 | [],_=>trivial
 | (t,s) :: r,h=>by
   unfold Tb at h;split at h
   ·rename_i x c;obtain⟨z,b,a⟩:=V3 h;simp only[List.cons.injEq,pj,true_and] at a;obtain⟨rfl,rfl⟩:=a;exact⟨F0G c,t0z b⟩
   grind
theorem Tc{o':List (Nat×Ob)}:∀{l:List (Nat×Ob)},Lg o' l=true->P4 o' l
 | [],_=>trivial
 | (_,.arr ..) :: r,h=>Tc (l:=r) h
 | (_,.grd ..) :: r,h=>Tc (l:=r) h
 | (i,.box _ _) :: r,h=>by
   simp only[Lg,ba] at h;refine⟨?_,Tc h.2⟩;have a:=h.1;rw[ce] at a ⊢;split
   ·rename_i hi;rw[if_pos hi] at a;split at a
    ·rename_i b; rw[b]; trivial
    grind
   grind
theorem Yo{a b:St}(h:Hh a b=some b):Pb a b:=by
 unfold Hh at h;split at h
 ·rename_i e d;split at h
  ·rename_i o f;rw[ce] at h;split at h
   ·rename_i c;cases h;exact⟨t0A d,t0z f,Tc c⟩
   grind
  grind
 grind
mutual
def Az(o:List (Nat×Ob)):AV->AV->Option (AV×List (Option Nat)×List Nat)
 | a,.ow T fr t _=>match a with
   | .os id ver=>match a8 o id with
     | some (.arr T' fr' t' ys ver')=>bif Nat.beq ver ver'&&Nat.beq T' T&&(!fr||fr') then S9 (fun z=>(.ow T fr t z,[some id],[])) (Z4 (.sl t') (.sl t) ys) else none
     | _=>none
   | .v x=>match x with
     | .slice none 0 0=>some (.ow T fr t [],[none],[])
     | _=>none
   | _=>none
 | a,.d fr t _=>match H7 o 24 t [a] with
   | some (y,l,fl)=>bif !fr||fl then some (.d fr t y,[],l) else none
   | none=>none
 | a,.ob T rs=>match a with
   | .ptr id 0=>match a8 o id with
     | some (.box T' cs)=>bif Nat.beq T' T then(match Jj o cs rs with
       | some (x,l,m)=>some (.ob T x,some id :: l,m)
       | none=>none) else none
     | _=>none
   | _=>none
 | a,.v _=>match a with
   | .v y=>some (.v y,[],[])
   | _=>none
 | a,.agg rs=>match a with
   | .agg as'=>match Jj o as' rs with
     | some (x,l,m)=>some (.agg x,l,m)
     | none=>none
   | _=>none
 | a,.tup rs=>match a with
   | .tup as'=>match Jj o as' rs with
     | some (x,l,m)=>some (.tup x,l,m)
     | none=>none
   | _=>none
 | _,_=>none
def Jj(o:List (Nat×Ob)):List AV->List AV->Option (List AV×List (Option Nat)×List Nat)
 | as',[]=>match as' with
   | []=>some ([],[],[])
   | _=>none
 | as',r :: rs=>match as' with
   | a :: t=>match Az o a r with
     | some (x,m,f)=>match Jj o t rs with
       | some (xs,m',f')=>some (x :: xs,m++m',f++f')
       | none=>none
     | none=>none
   | []=>none
end
def DR(o:List (Nat×Ob)):Nat->(ps:List o6)->F0 ps->Option (F0 ps×List Nat×Option Nat)
 | _,[],z=>some (z,[],none)
 | i,.io T t :: _,_=>match a8 o (500000+i) with
   | some (.box T' cs)=>bif Nat.beq T' T then(match H7 o 24 t cs with
     | some (y,l,_)=>some (y,l,some (500000+i))
     | none=>none) else none
   | _=>none
 | i,.dat _ :: r,z=>DR o (i+1) r z
 | i,.agg _ :: r,z=>DR o (i+1) r z
 | i,.fn _ _ :: r,z=>DR o (i+1) r z
 | i,.nof _ :: r,z=>DR o (i+1) r z
 | i,.nil :: r,z=>DR o (i+1) r z
 | i,.os _ _ :: r,z=>DR o (i+1) r z
def v0n(Γ:p9)(st:St):ResultVar->Option AV
 | .tmp t=>match a8 st.e t with
   | some ⟨[],a⟩=>some a
   | _=>none
 | .cell t ty=>match a8 st.e t with
   | some ⟨[],p⟩=>bif Lf (some p) then(match Z5 st.o p with
     | some (cs,_)=>match a8 Γ ty with
       | some ti=>KM ti cs
       | none=>none
     | none=>none) else none
   | _=>none
def Pk(Γ:p9)(st:St):List ResultVar->Option (List AV)
 | []=>some []
 | r :: rs=>match v0n Γ st r with
   | some a=>S9 (a :: ·) (Pk Γ st rs)
   | none=>none
def Td(Γ:p9)(st:St)(rs:List ResultVar)(ps:List o6)(r:AV)(z:F0 ps):Option (AV×F0 ps) :=
 match Pk Γ st rs with
 | some as'=>match Az st.o (Ye as') r with
   | some (r',mv,fz)=>match DR st.o 0 ps z with
     | some (z',fz',pin)=>bif onceN mv&&Pf mv (fz++fz')&&SY (fun i=>IU i (fz++fz')) pin&&(!H8 ps||DQ r')&&SY (fun i=>onceN.notInS i mv) pin then some (r',z') else none
     | none=>none
   | none=>none
 | none=>none
mutual
theorem C0g{o:List (Nat×Ob)}:∀{a r:AV} {mv:List (Option Nat)} {fz:List Nat},Az o a r=some (r,mv,fz)->∃q:Prop,q/\O9 o a r=some (q,mv,fz)
 | a,.ow T fr t xs,mv,fz,h=>by
   unfold Az at h;unfold O9;split at h
   ·split at h
    ·rename_i n c s k i u;rw[ce] at h;split at h
     ·rename_i f;simp only[ba] at f;obtain⟨z,j,g⟩:=V3 h;simp only[pj,AV.ow.injEq,heq_eq_eq,true_and] at g;obtain⟨rfl,rfl,rfl⟩:=g;refine⟨(fr=true->c=true)/\Z4 (.sl s) (.sl t) k=some z,⟨Yn f.2,j⟩,?_⟩
      grind
     grind
    grind
   ·split at h
    ·simp only[oi,pj,AV.ow.injEq,heq_eq_eq,true_and] at h;obtain⟨rfl,rfl,rfl⟩:=h;exact⟨_,⟨trivial,rfl⟩,rfl⟩
    grind
   grind
 | a,.d fr t x,mv,fz,h=>by
   unfold Az at h;unfold O9;split at h
   ·rename_i y l P w;rw[ce] at h;split at h
    ·rename_i G;simp only[oi,pj,AV.d.injEq,heq_eq_eq,true_and] at h;obtain⟨rfl,rfl,rfl⟩:=h
     try rw[w]
     grind
    grind
   grind
 | a,.ob T rs,mv,fz,h=>by
   unfold Az at h;unfold O9;split at h
   ·split at h
    ·rename_i n F u;rw[ce] at h;split at h
     ·rename_i H;split at h
      ·rename_i x l m b;simp only[oi,pj,AV.ob.injEq,true_and] at h;obtain⟨rfl,rfl,rfl⟩:=h;obtain⟨q,E,e⟩:=Tf b;refine⟨q,E,?_⟩
       grind
      grind
     grind
    grind
   grind
 | a,.v x,mv,fz,h=>by
   unfold Az at h;unfold O9;split at h
   ·simp only[oi,pj,AV.v.injEq] at h;obtain⟨rfl,rfl,rfl⟩:=h
    grind
   grind
 | a,.agg rs,mv,fz,h=>by
   unfold Az at h;unfold O9;split at h
   ·split at h
    ·rename_i x l m b;simp only[oi,pj,AV.agg.injEq] at h;obtain⟨rfl,rfl,rfl⟩:=h;exact Tf b
    grind
   grind
 | a,.tup rs,mv,fz,h=>by
   unfold Az at h;unfold O9;split at h
   ·split at h
    ·rename_i x l m b;simp only[oi,pj,AV.tup.injEq] at h;obtain⟨rfl,rfl,rfl⟩:=h;exact Tf b
    grind
   grind
 | a,.ptr _ _,mv,fz,h=>by grind[Az]
 | a,.pel ..,mv,fz,h=>by grind[Az]
 | a,.os _ _,mv,fz,h=>by grind[Az]
 | a,.fn _ _,mv,fz,h=>by grind[Az]
 | a,.gel _ _,mv,fz,h=>by grind[Az]
 | a,.og _,mv,fz,h=>by grind[Az]
theorem Tf{o:List (Nat×Ob)}:∀{as' rs:List AV} {mv:List (Option Nat)} {fz:List Nat},Jj o as' rs=some (rs,mv,fz)->∃q:Prop,q/\DP o as' rs=some (q,mv,fz)
 | as',[],mv,fz,h=>by
   unfold Jj at h;unfold DP;split at h
   ·simp only[oi,pj,true_and] at h;obtain⟨rfl,rfl⟩:=h
    grind
   grind
 | as',r :: rs,mv,fz,h=>by
   unfold Jj at h;unfold DP;split at h
   ·split at h
    ·rename_i x m f c;split at h
     ·rename_i l j k b;simp only[oi,pj,List.cons.injEq] at h;obtain⟨⟨rfl,rfl⟩,rfl,rfl⟩:=h;obtain⟨q,e,g⟩:=C0g c;obtain⟨d,a,i⟩:=Tf b;refine⟨q/\d,⟨e,a⟩,?_⟩
      grind
     grind
    grind
   grind
end
theorem Jk{o:List (Nat×Ob)}:∀{ps:List o6} {i:Nat} {z:F0 ps} {fz:List Nat} {pin:Option Nat},DR o i ps z=some (z,fz,pin)->∃q:Prop,q/\Ax o i ps z=some (q,fz,pin)
 | [],i,z,fz,pin,h=>by
   simp only[DR,oi,pj,true_and] at h;obtain⟨rfl,rfl⟩:=h;exact⟨_,trivial,rfl⟩
 | .io T t :: r,i,z',fz,pin,h=>by
   unfold DR at h;unfold Ax;split at h
   ·rename_i b d c;rw[ce] at h;split at h
    ·rename_i a;split at h
     ·rename_i y l f e;simp only[oi,pj] at h;obtain⟨rfl,rfl,rfl⟩:=h;refine⟨y=y,rfl,?_⟩
      grind
     grind
    grind
   grind
 | .dat _ :: r,i,z,fz,pin,h=>Jk (ps:=r) (i:=i+1) h
 | .agg _ :: r,i,z,fz,pin,h=>Jk (ps:=r) (i:=i+1) h
 | .fn _ _ :: r,i,z,fz,pin,h=>Jk (ps:=r) (i:=i+1) h
 | .nof _ :: r,i,z,fz,pin,h=>Jk (ps:=r) (i:=i+1) h
 | .nil :: r,i,z,fz,pin,h=>Jk (ps:=r) (i:=i+1) h
 | .os _ _ :: r,i,z,fz,pin,h=>Jk (ps:=r) (i:=i+1) h
theorem u0Z{Γ:p9}{st:St}:∀{rs:List ResultVar} {as':List AV},Pk Γ st rs=some as'->∃q:Prop,q/\Jf Γ st rs=some (q,as')
 | [],as',h=>by
   simp only[Pk,oi] at h;subst h;exact⟨_,trivial,rfl⟩
 | r :: rs,as',h=>by
   unfold Pk at h;unfold Jf;split at h
   ·rename_i a b;obtain⟨l,d,i⟩:=V3 h;subst i;obtain⟨q,n,j⟩:=u0Z d;have:∃c:Prop,c/\Pe Γ st r=some (c,a):=by
     unfold v0n at b;unfold Pe;split at b
     ·split at b
      ·rename_i g;cases b;refine⟨True,trivial,?_⟩
       grind
      grind
     ·split at b
      ·rename_i g;rw[ce] at b;split at b
       ·rename_i f;split at b
        ·rename_i m;split at b
         ·rename_i s;refine⟨CW st.o _,Yh f,?_⟩
          grind
         grind
        grind
       grind
      grind
    obtain⟨c,k,e⟩:=this;rw[e,j]
    grind
   grind
theorem w0l{Γ:p9}{st:St}{rs:List ResultVar}{ps:List o6}{r:AV}{z:F0 ps}(h:Td Γ st rs ps r z=some (r,z)):Jh Γ st rs r ps z:=by
 unfold Td at h;split at h
 ·rename_i a e;split at h
  ·rename_i m u fz c;split at h
   ·rename_i q b d f;rw[ce] at h;split at h
    ·rename_i g;simp only[oi,pj] at h;obtain⟨rfl,rfl⟩:=h;obtain⟨l,n,o⟩:=u0Z e;obtain⟨k,v,t⟩:=C0g c;obtain⟨j,s,i⟩:=Jk f
     grind[Jh]
    grind
   grind
  grind
 grind
end Go.Proofs.Xv
end
section
namespace Go.Proofs.Xv
open Go Go.RowKit Go.Proofs.Sv Go.Proofs.Xl
def J6(b:Bool)(n:Nat)(Γ:p9)(T:List Ct)(l:List Oper)(keep:List Nat)(st:St):Option (Prop×St):=bif b then SZ n Γ T l keep st else Ph n Γ T l keep st
def Lh(st:St)(c:Operand):Option Bool:=match rd st [] c with
 | some (.d _ .bool b)=>some b
 | _=>none
theorem Yp{st:St}{c:Operand}{b:Bool}(h:Lh st c=some b):∃f,rd st [] c=some (.d f .bool b):=by
 grind[Lh]
theorem ct{X:Cx}{st:St}{Q:Exit->Act->World->Prop}{c:Operand}{a d:Code}(b:Lh st c=some true)(h:VX X st a Q):VX X st (.cond c a d) Q:=(Yp b).elim fun _ b=>t0E b h
theorem cf{X:Cx}{st:St}{Q:Exit->Act->World->Prop}{c:Operand}{a d:Code}(b:Lh st c=some false)(h:VX X st d Q):VX X st (.cond c a d) Q:=(Yp b).elim fun _ b=>t0F b h
section
variable {P:Program} {n:Nat} {y:World×(Nat->Prop)×(Nat->Prop)×(Nat->Value->Prop)×Nat} {st:St} {Q:Exit->Act->World->Prop} {Γ:p9} {T:List Ct} {ρ α:Type} {r:ρ}
theorem Tg(d:B6 P Γ)(g:∀c∈T,Ok P c)[i:M4 P]{a:List Nat}{st':St}{V:Prop}{id:Nat}{l:List Oper}{b:Bool}(h:J6 b n Γ T l a st=some (V,st'))(e:V)(f:FX (cx P n y) st' .normal Q):VX (cx P n y) st (.region id l.toArray b) Q:=by
 cases b with
 | true=>exact de d g a st' V h e f
 | false=>exact re d g a st' V h e f
theorem za(d:B6 P Γ)(f:∀c∈T,Ok P c)[g:M4 P](a:List Nat)(st':St){id:Nat}{l:List Oper}{b:Bool}(h:J6 b n Γ T l a st=some (True,st'))(e:FX (cx P n y) st' .normal Q):VX (cx P n y) st (.region id l.toArray b) Q :=
 Tg d f h trivial e
theorem zb(d:B6 P Γ)(g:∀c∈T,Ok P c)[i:M4 P](a:List Nat)(st':St){V:Prop}[Decidable V]{e:Option ρ}{id:Nat}{l:List Oper}{b:Bool}(H:gd V e=some r)(h:J6 b n Γ T l a st=some (V,st'))(f:e=some r->FX (cx P n y) st' .normal Q):VX (cx P n y) st (.region id l.toArray b) Q :=
 Tg d g h (Hf H).1 (f (Hf H).2)
theorem zc(d:B6 P Γ)(g:∀c∈T,Ok P c)[i:M4 P](a:List Nat)(S:α->St){x:α}{f:α->Option ρ}{id:Nat}{l:List Oper}{b:Bool}(H:lt x f=some r)(h:J6 b n Γ T l a st=some (True,S x))(e:∀v,f v=some r->FX (cx P n y) (S v) .normal Q):VX (cx P n y) st (.region id l.toArray b) Q :=
 Tg d g h trivial (e x H)
theorem zd(d:B6 P Γ)(g:∀c∈T,Ok P c)[i:M4 P](a:List Nat)(S:α->St){V:Prop}[Decidable V]{x:α}{f:α->Option ρ}{id:Nat}{l:List Oper}{b:Bool}(H:gd V (lt x f)=some r)(h:J6 b n Γ T l a st=some (V,S x))(e:∀v,f v=some r->FX (cx P n y) (S v) .normal Q):VX (cx P n y) st (.region id l.toArray b) Q :=
 Tg d g h (Hf H).1 (e x (Hf H).2)
theorem qa(d:B6 P Γ)(f:∀c∈T,Ok P c)[g:M4 P](a:List Nat)(st':St){id:Nat}{l:List Oper}{b:Bool}{c:Code}(h:J6 b n Γ T l a st=some (True,st'))(e:VX (cx P n y) st' c Q):VX (cx P n y) st (.seq (.region id l.toArray b) c) Q :=
 vQ (za d f a st' h (fQ e))
theorem qb(d:B6 P Γ)(g:∀c∈T,Ok P c)[i:M4 P](a:List Nat)(st':St){V:Prop}[Decidable V]{e:Option ρ}{id:Nat}{l:List Oper}{b:Bool}{c:Code}(H:gd V e=some r)(h:J6 b n Γ T l a st=some (V,st'))(f:e=some r->VX (cx P n y) st' c Q):VX (cx P n y) st (.seq (.region id l.toArray b) c) Q :=
 vQ (zb d g a st' H h fun H=>fQ (f H))
theorem qc(d:B6 P Γ)(g:∀c∈T,Ok P c)[i:M4 P](a:List Nat)(S:α->St){x:α}{f:α->Option ρ}{id:Nat}{l:List Oper}{b:Bool}{c:Code}(H:lt x f=some r)(h:J6 b n Γ T l a st=some (True,S x))(e:∀v,f v=some r->VX (cx P n y) (S v) c Q):VX (cx P n y) st (.seq (.region id l.toArray b) c) Q :=
 vQ (zc d g a S H h fun v H=>fQ (e v H))
theorem qd(d:B6 P Γ)(g:∀c∈T,Ok P c)[i:M4 P](a:List Nat)(S:α->St){V:Prop}[Decidable V]{x:α}{f:α->Option ρ}{id:Nat}{l:List Oper}{b:Bool}{c:Code}(H:gd V (lt x f)=some r)(h:J6 b n Γ T l a st=some (V,S x))(e:∀v,f v=some r->VX (cx P n y) (S v) c Q):VX (cx P n y) st (.seq (.region id l.toArray b) c) Q :=
 vQ (zd d g a S H h fun v H=>fQ (e v H))
theorem cd{X:Cx}{c:Operand}{a d:Code}{b:Bool}{g f:Option ρ}(H:(if b=true then g else f)=some r)(e:Lh st c=some b)(i:g=some r->VX X st a Q)(k:f=some r->VX X st d Q):VX X st (.cond c a d) Q :=
 (Yp e).elim fun _ j=>XR j (fun h=>i (by grind)) (fun h=>k (by grind))
theorem jn{X:Cx}{b:Type}(r:ρ)(E:b->St)(J:b->Option ρ){a d:Code}(h:∀s,J s=some r->VX X (E s) d Q)(k:∀Q',(∀{s st'},J s=some r->Hh st' (E s)=some (E s)->FX X st' .normal Q')->(∀{st' id},FX X st' (.exit id) Q->FX X st' (.exit id) Q')->(∀{st'},FX X st' .ret Q->FX X st' .ret Q')->VX X st a Q'):VX X st (.seq a d) Q :=
 vQ (k _ (fun H c=>fQ (C0G _ (Yo c) (h _ H))) fE fR)
theorem lx{X:Cx}{c:Type}(E:c->St)(d:c){F:(c->Option ρ)->c->Option ρ}{a:Code}(H:lp F d=some r)(e:Hh st (E d)=some (E d))
  (b:∀Q' (g:c->Option ρ),(∀{s st'},g s=some r->Hh st' (E s)=some (E s)->FX X st' .normal Q')->(∀{st' id},FX X st' (.exit id) Q->FX X st' (.exit id) Q')->(∀{st'},FX X st' .ret Q->FX X st' .ret Q')->∀s,F g s=some r->VX X (E s) a Q'):VX X st (.loop a) Q:=by
 refine C0F (fun z:Nat×c=>E z.2) (fun z=>K5 F z.1 z.2=some r) (fun z=>z.1) (P7,d) H (Yo e) ?_;rintro⟨m,s⟩ hz;cases m with
 | zero=>cases hz
 | succ m=>exact b _ (K5 F m) (fun {f st'} h i=>E0w (m,f) h (Nat.lt_succ_self m) (Yo i)) n0P p0r s hz
end
def b9(f:FuncId)(ps:List o6){ρ:Type}[Inhabited ρ](F:A4 ps->Option ρ)(R:ρ->AV)(Z:ρ->F0 ps):Ct:=⟨f,ps,fun x=>⟨(F x).isSome=true,R (vl (F x)),Z (vl (F x))⟩⟩
def O0p(X:Cx)(Γ:p9)(rs:List ResultVar)(ps:List o6){ρ:Type}(R:ρ->AV)(Z:ρ->F0 ps)(r:ρ)(x:Exit)(Q:Exit->Act->World->Prop):Prop :=
 ∀{st:St} {e:ρ},some e=some r->Td Γ st rs ps (R e) (Z e)=some (R e,Z e)->FX X st x Q
theorem okl{P:Program}{Γ:p9}(j:B6 P Γ){f:FuncId}{ps:List o6}{i:Type}[Inhabited i]{F:A4 ps->Option i}{R:i->AV}{Z:i->F0 ps}{d:Func}{a:Code}{n:Nat}(rs:List ResultVar)
  (u:P.funcs[f]?=some d) (t:d.ntmps=n) (q:d.body=some a) (s:d.results=rs.toArray) (b:BX P f=true) (l:(Nat.ble ps.length n&&Br ps)=true)
  (h:∀y x r,F x=some r->∀Q,O0p (cx P n y) Γ rs ps R Z r .normal Q->O0p (cx P n y) Γ rs ps R Z r .ret Q->VX (cx P n y) ⟨N8 0 ps x,K8 0 ps x⟩ a Q):Ok P (b9 f ps F R Z):=by
 refine L0v (c:=b9 f ps F R Z) j rs u t q s b l (fun y x v g Q m=>?_);have o:=u0M v;refine h y x _ o Q ?_ ?_
 ·intro k e b g;cases b;exact(m k (w0l g)).1
 ·intro k e b g;cases b;exact(m k (w0l g)).2
mutual
def frz:AV->AV
 | .ow _ fr t xs=>.d (fr||D8 t) (.sl t) xs
 | .agg xs=>.agg (frzs xs)
 | .tup xs=>.tup (frzs xs)
 | a=>a
def frzs:List AV->List AV
 | []=>[]
 | a :: r=>frz a :: frzs r
end
mutual
def FK:AV->Bool
 | .ob ..=>false
 | .agg xs=>Pl xs
 | .tup xs=>Pl xs
 | _=>true
def Pl:List AV->Bool
 | []=>true
 | a :: r=>FK a&&Pl r
end
theorem Jl{w:World}{T:TypeId}{t:Ty}{g:Option Nat}{u:Value}{xs:List (c7 t)}{cs:List Value}{K:Nat->Prop}(a:Own w T (sz t) g u xs.length cs)(e:AllR (RT K w t) cs xs)(f:∀b,g=some b->K b):RT K w (.sl t) [u] xs:=by
 cases g with
 | none =>
   rcases a with ⟨_,i,_,p,l⟩ | ⟨b,_,_,_,hb,_⟩
   ·have:xs=[]:=List.eq_nil_of_length_eq_zero i;subst this;exact⟨p,0,by grind,Nat.le_refl _,by omega,.inl rfl⟩
   grind
 | some b =>
   obtain⟨j,k,d,c⟩:=a.at;rcases a with ⟨h,_⟩ | ⟨b',o1,cap,cur,hb,hv2,k1,k2,k3,k4,k5⟩
   ·cases h
   ·cases hb;rw[hv2] at d; cases d;exact⟨_,k,by rw[hv2],k2,(by grind[maxLen]),.inr ⟨b,j,cs,rfl,f b rfl,c,e⟩⟩
mutual
theorem ResR.frz{K K':Bool->Nat->Prop}{w:World}(f:∀fr k,K fr k->K' fr k):∀{a:AV} {u:Value} {gs:List (Option Nat)},FK a=true->(∀b,some b∈gs->∀fr,K' fr b)->ResR K w a u gs->ResR K' w (Xv.frz a) u []
 | .v _,_,_,_,_,h=>⟨h.1,rfl⟩
 | .d fr t x,u,gs,_,_,⟨h,_⟩=>⟨RT.up h (f fr),rfl⟩
 | .agg xs,u,gs,hn,hg,⟨us,e,h⟩=>⟨us,e,ResRs.frz f (by grind[FK]) hg h⟩
 | .ob _ _,_,_,hn,_,_=>by grind[FK]
 | .tup xs,u,gs,hn,hg,⟨us,e,h⟩=>⟨us,e,ResRs.frz f (by grind[FK]) hg h⟩
 | .ow T fr t xs,u,gs,_,hg,⟨g,cs,e,_,hO,hA⟩=>by
   refine⟨Jl hO (hA.mapR (fun c x j=>?_)) (fun b i=>hg b (by grind) _),rfl⟩
   grind[D8,RT.free,RT.up]
theorem ResRs.frz{K K':Bool->Nat->Prop}{w:World}(c:∀fr k,K fr k->K' fr k):∀{as':List AV} {us:List Value} {gs:List (Option Nat)},Pl as'=true->(∀b,some b∈gs->∀fr,K' fr b)->ResRs K w as' us gs->ResRs K' w (Xv.frzs as') us []
 | [],us,gs,_,_,h=>⟨h.1,rfl⟩
 | a :: r,us,gs,hn,hg,⟨u,us',g1,g2,e1,e2,h1,h2⟩=>by
   simp only[Pl,ba] at hn;exact⟨u,us',[],[],e1,rfl,ResR.frz c hn.1 (fun b d=>hg b (by grind)) h1,ResRs.frz c hn.2 (fun b d=>hg b (by grind)) h2⟩
end
theorem IOR.up{K K':Nat->Prop}{w:World}{go:Option Nat}(a:∀k,K k->K' k):∀{ps:List o6} {z:F0 ps},IOR K w go ps z->IOR K' w go ps z
 | [],_,_=>trivial
 | .io _ _ :: _,_,⟨b,cs,h1,h2,h3⟩=>⟨b,cs,h1,h2,RT.up h3 a⟩
 | .dat _ :: r,_z,h=>IOR.up (ps:=r) a h
 | .agg _ :: r,_z,h=>IOR.up (ps:=r) a h
 | .fn _ _ :: r,_z,h=>IOR.up (ps:=r) a h
 | .nof _ :: r,_z,h=>IOR.up (ps:=r) a h
 | .nil :: r,_z,h=>IOR.up (ps:=r) a h
 | .os _ _ :: r,_z,h=>IOR.up (ps:=r) a h
theorem ResR.lt{K:Bool->Nat->Prop}{w:World}:∀{a:AV} {u:Value} {gs:List (Option Nat)},ResR K w a u gs->∀b,some b∈gs->UF w b:=by
 suffices H:(∀(a:AV) {u:Value} {gs:List (Option Nat)},ResR K w a u gs->∀b,some b∈gs->UF w b) from fun {a}=>H a
 intro a;refine AV.rec (motive_1:=fun a=>∀{u:Value} {gs:List (Option Nat)},ResR K w a u gs->∀b,some b∈gs->UF w b) (motive_2:=fun l=>∀{d:List Value} {gs:List (Option Nat)},ResRs K w l d gs->∀b,some b∈gs->UF w b) ?_ ?_ ?_ ?_ ?_ ?_ ?_ ?_ ?_ ?_ ?_ ?_ ?_ ?_ a
 ·intro x u gs h b c; rw[h.2] at c; cases c
 ·intro m t x u gs h b c; rw[h.2] at c; cases c
 ·intro f i u gs h b c; obtain⟨d,_,h⟩:=h; grind
 ·intro f i u gs h b c; obtain⟨d,_,h⟩:=h; grind
 ·intro _ _ u gs h; exact h.elim
 ·intro _ _ _ _ _ u gs h; exact h.elim
 ·intro _ _ u gs h; exact h.elim
 ·intro _ _ _ u gs h; exact h.elim
 ·intro T m t f u gs h b c;obtain⟨g,F,e,_,y,_⟩:=h
  grind[List.mem_singleton,GR]
 ·intro _ _ u gs h; exact h.elim
 ·intro _ u gs h; exact h.elim
 ·intro T f i u gs h b c;obtain⟨v,d,j,e,_,z,h⟩:=h
  grind[Xe]
 ·intro d gs h b c; rw[h.2] at c; cases c
 ·intro a r k o d gs h b c;obtain⟨u,n,P,E,_,s,q,G⟩:=h
  grind
theorem JA{P:Program}{f:FuncId}{ps:List o6}{d:Type}[Inhabited d]{F:A4 ps->Option d}{R:d->AV}{Z:d->F0 ps}(h:Ok P (b9 f ps F R Z))(G:H8 ps=false:=by rfl)(l:∀r,FK (R r)=true:=by intro _; rfl):Ok P (b9 f ps F (fun r=>frz (R r)) Z):=by
 refine⟨h.1,fun x E w H o K q s=>?_⟩;refine Calls.mono (h.2 x E w H o K q s) ?_;rintro T Q ⟨v,y,e,u,V,j,m,z⟩;have i:=ResR.lt m;have j:∀b,some b∈y->w.heap.size<=b:=fun b a=>(j b a).resolve_right (fun h=>by have n:H8 ps=true:=h.1; rw[G] at n; cases n);refine⟨v,[],e,u,trivial,(fun b a=>nomatch a),ResR.frz (fun t k c=>⟨c.1,c.2.1,by simp⟩) (l _) (fun b a t=>⟨.inr (j b a),(i b a).g,by simp⟩) m,IOR.up (fun k c=>⟨c.1,c.2.1,by simp,c.2.2.2⟩) z⟩
mutual
def AQ(id ver:Nat)(fr:Bool)(t:Ty)(xs:List (c7 t)):AV->Option AV
 | .os i v=>bif Nat.beq i id then(bif Nat.beq v ver then some (.d fr (.sl t) xs) else none) else some (.os i v)
 | .pel i v k s off=>bif Nat.beq i id then none else some (.pel i v k s off)
 | .agg l=>S9 .agg (FL id ver fr t xs l)
 | .tup l=>S9 .tup (FL id ver fr t xs l)
 | .fn f l=>S9 (.fn f) (FL id ver fr t xs l)
 | .ptr i off=>bif Nat.beq i id then none else some (.ptr i off)
 | .v x=>some (.v x)
 | .d fr t x=>some (.d fr t x)
 | .ow T fr t x=>some (.ow T fr t x)
 | .ob T l=>some (.ob T l)
 | .og i=>bif Nat.beq i id then some (.d fr (.sl t) xs) else some (.og i)
 | .gel i k=>bif Nat.beq i id then none else some (.gel i k)
def FL(id ver:Nat)(fr:Bool)(t:Ty)(xs:List (c7 t)):List AV->Option (List AV)
 | []=>some []
 | a :: r=>match AQ id ver fr t xs a with
   | some b=>S9 (b :: ·) (FL id ver fr t xs r)
   | none=>none
end
def FM(id ver:Nat)(fr:Bool)(t:Ty)(xs:List (c7 t)):List (Nat×Sl)->List (Nat×Sl)
 | []=>[]
 | (k,s) :: r=>match AQ id ver fr t xs s.a with
   | some b=>(k,⟨s.p,b⟩) :: FM id ver fr t xs r
   | none=>FM id ver fr t xs r
def AR(id ver:Nat)(fr:Bool)(t:Ty)(xs:List (c7 t)):List (Nat×Ob)->Option (List (Nat×Ob))
 | []=>some []
 | (k,o) :: r=>bif Nat.beq k id then AR id ver fr t xs r else(match o with
   | .box T cs=>match FL id ver fr t xs cs with
     | some cs'=>S9 ((k,.box T cs') :: ·) (AR id ver fr t xs r)
     | none=>none
   | o=>S9 ((k,o) :: ·) (AR id ver fr t xs r))
def Jm:List (Nat×Sl)->Bool
 | []=>true
 | (k,_) :: r=>(r.all fun x=>!Nat.beq x.1 k)&&Jm r
def Th(id:Nat)(st:St):Option St:=match a8 st.o id with
 | some (.arr _ fr t xs ver)=>bif Jm st.e then(match AR id ver (fr||D8 t) t xs st.o with
   | some o=>some ⟨FM id ver (fr||D8 t) t xs st.e,o⟩
   | none=>none) else none
 | some (.grd _ _ fr t xs none)=>bif Jm st.e then(match AR id 0 (fr||D8 t) (.sl t) xs st.o with
   | some o=>some ⟨FM id 0 (fr||D8 t) (.sl t) xs st.e,o⟩
   | none=>none) else none
 | _=>none
section
variable {X:Cx} {G:Gh} {id ver:Nat} {fr:Bool} {t:Ty} {xs:List (c7 t)}
def FN(G:Gh)(id:Nat)(o:List (Nat×Ob)):Gh:=⟨G.ρ,G.γ,fun k=>G.K k∨G.γ id=some k∨(J3 (a8 G.o id)=true/\G.δ id k),G.w,o,G.B,G.δ⟩
theorem FO{o:List (Nat×Ob)}:∀{l r:List (Nat×Ob)},AR id ver fr t xs l=some r->∀i,(i=id->a8 r i=none)/\(i≠id->match a8 l i with
  | some (.box T cs)=>∃cs',FL id ver fr t xs cs=some cs'/\a8 r i=some (.box T cs')
  | some o=>a8 r i=some o
  | none=>a8 r i=none)
 | [],r,h,i=>by
   simp only[AR,oi] at h;subst h;exact⟨fun _=>rfl,fun _=>rfl⟩
 | (k,ob) :: l,r,h,i=>by
   unfold AR at h;rw[ce] at h;split at h
   ·rename_i a;have a:=nb a;obtain⟨b,c⟩:=FO (o:=o) h i;refine⟨b,fun hi=>?_⟩;rw[lK,if_neg (by omega)]
    grind
   ·rename_i a;have a:k≠id:=fun e=>a (by simp_all);split at h
    ·rename_i T cs;split at h
     ·rename_i cs' g;obtain⟨z,hz,rfl⟩:=V3 h;obtain⟨b,c⟩:=FO (o:=o) hz i;refine⟨fun hi=>?_,fun hi=>?_⟩
      ·rw[lK,if_neg (by rw[hi]; exact a)]; exact b hi
      ·rw[lK,lK];by_cases e:k=i
       ·rw[if_pos e,if_pos e]; exact⟨cs',g,rfl⟩
       ·rw[if_neg e,if_neg e]; exact c hi
     ·cases h
    ·rename_i d;obtain⟨z,hz,rfl⟩:=V3 h;obtain⟨b,c⟩:=FO (o:=o) hz i;refine⟨fun hi=>?_,fun hi=>?_⟩
     ·rw[lK,if_neg (by rw[hi]; exact a)]; exact b hi
     ·rw[lK,lK];by_cases e:k=i
      ·rw[if_pos e,if_pos e];cases ob with
       | box T cs=>exact(d T cs rfl).elim
       | arr T f j x v=>rfl
       | grd T m f j x h=>rfl
      ·rw[if_neg e,if_neg e]; exact c hi
def Li(G:Gh)(id ver:Nat)(fr:Bool)(t:Ty)(xs:List (c7 t))(o':List (Nat×Ob)):Prop:=∀u,AVR G (.os id ver) u∨AVR G (.og id) u->AVR (FN G id o') (.d fr (.sl t) xs) u
mutual
theorem Ti{o':List (Nat×Ob)}(g:Li G id ver fr t xs o')(hz:AR id ver fr t xs G.o=some o'):∀{a b:AV} {u:Value},AQ id ver fr t xs a=some b->AVR G a u->AVR (FN G id o') b u
 | .os i v,b,u,h,c=>by
   unfold AQ at h;rw[ce] at h;have E:=c;obtain⟨P,r,m,F,n,q,j,w,Q⟩:=c;split at h
   ·rename_i hi;have hi:=nb hi;subst hi;rw[ce] at h;split at h
    ·rename_i T;have T:=nb T;subst T;cases h;exact g u (.inl E)
    grind
   ·rename_i hi;cases h;have hi:i≠id:=fun e=>hi (by simp_all);have:=(FO (o:=G.o) hz i).2 hi;rw[j] at this;exact⟨P,r,m,F,n,q,this,w,Q⟩
 | .og i,b,u,h,c=>by
   unfold AQ at h;rw[ce] at h;have E:=c;obtain⟨P,⟨r,Te1,m,F,n,y,j⟩,w⟩:=c;split at h
   ·rename_i hi;have hi:=nb hi;subst hi;cases h;exact g u (.inr E)
   ·rename_i hi;cases h;have hi:i≠id:=fun e=>hi (by simp_all);have:=(FO (o:=G.o) hz i).2 hi;rw[j] at this;exact⟨P,⟨r,Te1,m,F,n,y,this⟩,w⟩
 | .gel i k,b,u,h,c=>by
   unfold AQ at h;rw[ce] at h;obtain⟨⟨r,Te1,m,F,n,y,j⟩,w⟩:=c;split at h
   ·cases h
   ·rename_i hi;cases h;have hi:i≠id:=fun e=>hi (by simp_all);have:=(FO (o:=G.o) hz i).2 hi;rw[j] at this;exact⟨⟨r,Te1,m,F,n,y,this⟩,w⟩
 | .pel i v k s off,b,u,h,c=>by
   unfold AQ at h;rw[ce] at h;obtain⟨P,r,m,F,n,q,j,w,Q⟩:=c;split at h
   ·cases h
   ·rename_i hi;cases h;have hi:i≠id:=fun e=>hi (by simp_all);have:=(FO (o:=G.o) hz i).2 hi;rw[j] at this;exact⟨P,r,m,F,n,q,this,w,Q⟩
 | .ptr i off,b,u,h,c=>by
   unfold AQ at h;rw[ce] at h;obtain⟨⟨r,X,j⟩,w⟩:=c;split at h
   ·cases h
   ·rename_i hi;cases h;have hi:i≠id:=fun e=>hi (by simp_all);have:=(FO (o:=G.o) hz i).2 hi;rw[j] at this;obtain⟨V,_,Q⟩:=this;exact⟨⟨r,V,Q⟩,w⟩
 | .agg l,b,u,h,c=>by
   unfold AQ at h;obtain⟨z,j,rfl⟩:=V3 h;obtain⟨H,e,c⟩:=c;exact⟨H,e,Pm g hz j c⟩
 | .tup l,b,u,h,c=>by
   unfold AQ at h;obtain⟨z,j,rfl⟩:=V3 h;obtain⟨H,e,c⟩:=c;exact⟨H,e,Pm g hz j c⟩
 | .fn f l,b,u,h,c=>by
   unfold AQ at h;obtain⟨z,j,rfl⟩:=V3 h;obtain⟨H,e,c⟩:=c;exact⟨H,e,Pm g hz j c⟩
 | .v x,b,u,h,c=>by unfold AQ at h; cases h; exact c
 | .d f t' x,b,u,h,c=>by
   unfold AQ at h; cases h;exact RT.up c (fun k W=>⟨.inl W.1,W.2⟩)
 | .ow ..,b,u,h,c=>c.elim
 | .ob ..,b,u,h,c=>c.elim
theorem Pm{o':List (Nat×Ob)}(c:Li G id ver fr t xs o')(hz:AR id ver fr t xs G.o=some o'):∀{as' bs:List AV} {us:List Value},FL id ver fr t xs as'=some bs->AVRs G as' us->AVRs (FN G id o') bs us
 | [],bs,us,h,hu=>by
   simp only[FL,oi] at h;subst h; exact hu
 | a :: r,bs,us,h,⟨u,us',e,h1,h2⟩=>by
   unfold FL at h;split at h
   ·rename_i b f;obtain⟨z,d,rfl⟩:=V3 h;exact⟨u,us',e,Ti c hz f h1,Pm c hz d h2⟩
   grind
end
theorem y0k{T:TypeId}{h:Bool}(S:Sat X G)(g:a8 G.o id=some (.arr T h t xs ver))(q:fr=(h||D8 t))(o':List (Nat×Ob)):Li G id ver fr t xs o':=fun u n=>by
 rcases n with ⟨H,z,r,E,l,i,d,y,v⟩ | ⟨_,⟨_,_,_,_,_,_,d⟩,_⟩
 ·rw[g] at d;cases d;rw[v rfl];obtain⟨P,m,s,w⟩:=S.obs id _ g;refine Jl m (s.mapR (fun c x j=>?_)) (fun b f=>⟨.inr (.inl f),fun _=>w b f⟩);subst q;by_cases F:D8 t=true
  ·grind[RT.free]
  ·exact RT.up j (fun k a=>⟨.inl a.1,fun e=>a.2 (by grind)⟩)
 grind
theorem w0P{a:Type}{R:List Value->a->Prop}:∀{vs:List Value} {xs:List a},vs.length=xs.length->(∀(k:Nat) v x,vs[k]?=some v->xs[k]?=some x->R [v] x)->AllR R vs xs
 | [],[],_,_=>rfl
 | v :: vs,x :: xs,hl,h=>⟨[v],vs,rfl,h 0 v x rfl rfl,w0P (by grind) (fun k e c b d=>h (k+1) e c b d)⟩
 | [],_ :: _,hl,_=>by grind
 | _ :: _,[],hl,_=>by grind
theorem y0j{T Te:TypeId}{q:Bool}{xs:List (List (c7 t))}(S:Sat X G)(n:a8 G.o id=some (.grd T Te q t xs none))(H:fr=(q||D8 t))(o':List (Nat×Ob)):Li G id ver fr (.sl t) xs o':=fun u F=>by
 rcases F with ⟨h0,T1,P,t1,z,s,h1,h2,r⟩ | ⟨_,_,r⟩
 ·grind
 ·rw[r];obtain⟨V,Y,E,g,W⟩:=S.obs id _ n;refine Jl (t:=.sl t) E (w0P g.len (fun k v x Q f=>?_)) (fun b a=>⟨.inr (.inl a),fun _=>W b a⟩);have i:k<xs.length:=by
   rcases Nat.lt_or_ge k xs.length with h | h
   ·exact h
   ·rw[List.getElem?_eq_none h] at f; cases f
  obtain⟨cs,l,m,y⟩:=g.row k i (fun h=>by cases h);have ev:V.getD k (.bool false)=v:=by rw[gq,Q]; rfl
  have j:xs.getD k []=x:=by rw[gq,f]; rfl
  rw[ev,j] at l;rw[j] at m;refine Jl l (m.mapR (fun c x w=>?_)) (fun b a=>⟨.inr (.inr ⟨by rw[n]; rfl,(g.blk b).2 ⟨k,i,(fun h=>by cases h),a⟩⟩),fun _=>y b a⟩);subst H;by_cases i:D8 t=true
  ·grind[RT.free]
  ·exact RT.up w (fun k d=>⟨.inl d.1,fun e=>d.2 (by grind)⟩)
theorem Yq{aA:Ob}{o':List (Nat×Ob)}(S:Sat X G)(ho:a8 G.o id=some aA)(E:∀k,G.γ id=some k->UF G.w k/\G.B<=k)(W:Li G id ver fr t xs o')(hz:AR id ver fr t xs G.o=some o')(aD:Nat.blt id 500000=true):Sat X (FN G id o'):=by
 have Q:=FO (o:=G.o) hz;have d:∀i n,a8 o' i=some n->i≠id/\∃m,a8 G.o i=some m:=fun i n h=>by
  grind
 have z:∀i,J3 (a8 o' i)=true->i≠id/\J3 (a8 G.o i)=true:=fun i r=>by
  grind[OQ,hi]
 refine⟨S.base,S.os,S.tape,S.output,S.size,S.block,?_,?_,?_,?_,?_,?_,?_,?_⟩
 ·intro i n h;obtain⟨hi,m,l⟩:=d i n h;have:=(Q i).2 hi;rw[l] at this;have y:=S.obs i m l;cases m with
  | box Y aJ =>
    obtain⟨V,e1,e2⟩:=this;have h:a8 o' i=some n:=h;rw[e2] at h;cases h;obtain⟨b,us,P,u,F,g4⟩:=y;exact⟨b,us,P,u,F,Pm W hz e1 g4⟩
  | arr Y aH t1 aB aL =>
    simp only at this;have h:a8 o' i=some n:=h;rw[this] at h;cases h;obtain⟨cs,P,u,F⟩:=y;exact⟨cs,P,u.mapR (fun c x hr=>RT.up hr (fun k a=>⟨.inl a.1,a.2⟩)),F⟩
  | grd Y Te1 aH t1 aB aI =>
    simp only at this;have h:a8 o' i=some n:=h;rw[this] at h;cases h;obtain⟨vs,bs,P,u,F⟩:=y;refine⟨vs,bs,P,⟨u.len,u.blk,u.inj,fun k a hh=>?_,u.one⟩,F⟩;obtain⟨cs,r1,r2,r3⟩:=u.row k a hh;exact⟨cs,r1,r2.mapR (fun c x hr=>RT.up hr (fun k a=>⟨.inl a.1,a.2⟩)),r3⟩
 ·intro i i' n m b h h' q aF;obtain⟨_,s,l⟩:=d i n h;obtain⟨_,o2,h2⟩:=d i' m h';exact S.inj i i' s o2 b l h2 q aF
 ·intro i n b h q a;obtain⟨hi,s,l⟩:=d i n h;rcases a with a | a | ⟨r,a⟩
  ·exact S.imm i s b l q a
  ·exact hi (S.inj i id s _ b l ho q a)
  ·exact(S.sep id b a r).2.2.1 i s l q
 ·intro i n b h q;obtain⟨_,s,l⟩:=d i n h;exact S.own i s b l q
 ·intro k a;rcases a with a | a | ⟨r,a⟩
  ·exact S.klt k a
  ·exact(E k a).1.g
  ·exact(S.duf a r).g
 ·intro k a;rcases a with a | a | ⟨r,a⟩
  ·exact S.kfrom k a
  ·exact .inr (by rw[<- S.base.1]; exact(E k a).2)
  ·obtain⟨T,Te,f,t,xs,aK,e⟩:=OQ r;obtain⟨vs,bs,_,hR,_⟩:=S.obs id _ e;obtain⟨j,H,hh,q⟩:=(hR.blk k).1 a;obtain⟨_,_,_,h3⟩:=hR.row j H hh;exact .inr (by rw[<- S.base.1]; exact h3 k q)
 ·intro i b q r;obtain⟨hi,r⟩:=z i r;obtain⟨s1,s2,s3,s4⟩:=S.sep i b q r;refine⟨s1,?_,fun j o H aC=>?_,fun j H aG=>s4 j H (z j aG).2⟩
  ·rintro(a | a | ⟨aM,a⟩)
   ·grind
   ·grind
   grind
  ·obtain⟨_,s,l⟩:=d j o H;exact s3 j s l aC
 ·intro i v hv;obtain⟨⟨Y,aJ,l⟩,h2⟩:=S.pin i v hv;have hi:500000+i≠id:=fun e=>by
   have:id<500000:=by simpa using aD
   omega
  have:=(Q (500000+i)).2 hi;rw[l] at this;obtain⟨V,_,e⟩:=this;exact⟨⟨Y,V,e⟩,h2⟩
theorem Lj:∀{e:List (Nat×Sl)},Jm e=true->∀{k:Nat} {s:Sl},a8 (FM id ver fr t xs e) k=some s->∃a,a8 e k=some ⟨s.p,a⟩/\AQ id ver fr t xs a=some s.a
 | [],_,k,s,h=>by cases h
 | (j,s0) :: r,hn,k,s,h=>by
   simp only[Jm,ba,List.all_eq_true,Bool.not_eq_true'] at hn;unfold FM at h;split at h
   ·rename_i b c;rw[lK] at h ⊢;split at h
    ·rename_i e;cases h;exact⟨s0.a,by simp_all,c⟩
    ·rename_i e;rw[if_neg e];exact Lj hn.2 h
   ·obtain⟨a,g,f⟩:=Lj hn.2 h;refine⟨a,?_,f⟩;rw[lK];split
    ·rename_i e;exfalso;have:∀{e:List (Nat×Sl)},(∀x∈e,Nat.beq x.1 j=false)->a8 e j=none:=by
      intro e
      induction e with
      | nil=>intro _; rfl
      | cons y r m =>
        intro i;obtain⟨d,v⟩:=y;rw[lK,if_neg]
        ·grind
        ·intro l
         simp_all
     grind
    omega
end
theorem M0k{X:Cx}{st st':St}{id:Nat}(h:Th id st=some st')(l:Nat.blt id 500000=true){G:Gh}{a:Act}(S:Sat X G)(u:G.o=st.o)(i:EnvR X.n G st.e a):∃G',Sat X G'/\G'.o=st'.o/\G'.w=G.w/\EnvR X.n G' st'.e a:=by
 unfold Th at h;split at h
 ·rename_i T Q t F ver d;rw[ce] at h;split at h
  ·rename_i r;split at h
   ·rename_i j hz;cases h;rw[<- u] at d hz;have c:=y0k S d rfl j;obtain⟨x,m,P,f⟩:=S.obs id _ d;refine⟨FN G id j,Yq S d (fun k g=>⟨by grind[GR],f k g⟩) c hz l,rfl,rfl,i.defers,i.size,fun k s g=>?_⟩;obtain⟨b,q,E⟩:=Lj r g;obtain⟨V,z⟩:=i.val k _ q
    grind[Ti]
   grind
  grind
 ·rename_i T W Q t F d;rw[ce] at h;split at h
  ·rename_i r;split at h
   ·rename_i j hz;cases h;rw[<- u] at d hz;have c:=y0j (ver:=0) S d rfl j;obtain⟨H,v,m,y,f⟩:=S.obs id _ d;refine⟨FN G id j,Yq S d (fun k g=>⟨by grind[GR],f k g⟩) c hz l,rfl,rfl,i.defers,i.size,fun k s g=>?_⟩;obtain⟨b,q,E⟩:=Lj r g;obtain⟨V,z⟩:=i.val k _ q
    grind[Ti]
   grind
  grind
 grind
theorem fz{X:Cx}{st:St}{c:Code}{Q:Exit->Act->World->Prop}(id:Nat)(st':St)(h:Th id st=some st')(b:Nat.blt id 500000=true)(k:VX X st' c Q):VX X st c Q:=fun G a S g f=>by
 obtain⟨l,j,d,i,e⟩:=M0k h b S g f;have:=k l a j d e
 grind
theorem Qs{X:Cx}{st:St}{c:Code}{Q:Exit->Act->World->Prop}{a:Type}{r:a}(H:none=some r):VX X st c Q:=by cases H
def Lk:List o6->Bool
 | []=>true
 | .dat (.int _) :: r=>Lk r
 | .dat .bool :: r=>Lk r
 | .dat .str :: r=>Lk r
 | _=>false
def sc:(ps:List o6)->A4 ps->List Value
 | [],_=>[]
 | .dat (.int k) :: r,x=>.int k x.1 :: sc r x.2
 | .dat .bool :: r,x=>.bool x.1 :: sc r x.2
 | .dat .str :: r,x=>.string x.1 :: sc r x.2
 | _ :: r,x=>sc r x.2
theorem Tj{K:Nat->Prop}{w:World}:∀{ps:List o6} {x:A4 ps} {vs:List Value} {go:Option Nat},Lk ps=true->ArgsR K w go ps x vs->vs=sc ps x/\go=none
 | [],x,vs,go,_,h=>h
 | .dat (.int k) :: r,x,vs,go,hs,⟨v,us,e,a,h⟩=>by
   obtain⟨b,c⟩:=Tj (ps:=r) hs h;refine⟨?_,c⟩;rw[e,b];have a:=a.1;simp only[List.cons.injEq,and_true] at a;rw[a]; rfl
 | .dat .bool :: r,x,vs,go,hs,⟨v,us,e,a,h⟩=>by
   obtain⟨b,c⟩:=Tj (ps:=r) hs h;refine⟨?_,c⟩;rw[e,b];have a:[v]=_:=a;simp only[List.cons.injEq,and_true] at a;rw[a]; rfl
 | .dat .str :: r,x,vs,go,hs,⟨v,us,e,a,h⟩=>by
   obtain⟨b,c⟩:=Tj (ps:=r) hs h;refine⟨?_,c⟩;rw[e,b];have a:=a.1;simp only[List.cons.injEq,and_true] at a;rw[a]; rfl
theorem Tk{K:Nat->Prop}{w:World}{go:Option Nat}:∀{ps:List o6} (z:F0 ps),Lk ps=true->IOR K w go ps z
 | [],_,_=>trivial
 | .dat (.int _) :: r,z,h=>Tk (ps:=r) z h
 | .dat .bool :: r,z,h=>Tk (ps:=r) z h
 | .dat .str :: r,z,h=>Tk (ps:=r) z h
theorem C0i{P:Program}{f:FuncId}{ps:List o6}{a:Type}[Inhabited a]{F:A4 ps->Option a}{t:Ty}{D:a->c7 t}{Z:a->F0 ps}(c:Lk ps=true)(o:BX P f=true)
  (h:∀x r w,F x=some r->wfs ps x->Calls P f (sc ps x).toArray w fun en w'=>∃v,en=.returned v/\Ext w w'/\RT (fun _=>False) w' t [v] (D r)):Ok P (b9 f ps F (fun r=>.d true t (D r)) Z):=by
 refine⟨o,fun x n w s q K u g=>?_⟩;obtain⟨rfl,rfl⟩:=Tj c g;refine Calls.mono (h x _ w (u0M n) g.wfs) ?_;rintro en w' ⟨v,e,m,j⟩;exact⟨v,[],e,WE.of_ext m,trivial,(fun b i=>nomatch i),⟨RT.up j (fun k l=>l.elim),rfl⟩,Tk _ c⟩
theorem I0t{K:Nat->Prop}{w:World}{k:IntKind}{x:Int}(h:lo k<=x/\x<=hi k):RT K w (.int k) [.int k x] x:=⟨rfl,h⟩
theorem I0s{K:Nat->Prop}{w:World}{s:ByteArray}(h:s.size<=9223372036854775807):RT K w .str [.string s] s:=⟨rfl,h⟩
end Go.Proofs.Xv
end
section
namespace Go.Proofs.Xl
instance O0g{α β:Type}[Inhabited α]:Inhabited (α ⊕ β):=⟨.inl default⟩
def Ff{α β:Type}:Option (α ⊕ β)->Bool
 | some (.inl _)=>true
 | _=>false
def NR{α β:Type}:Option (α ⊕ β)->Bool
 | some (.inr _)=>true
 | _=>false
def vL{α β:Type}[Inhabited α]:Option (α ⊕ β)->α
 | some (.inl a)=>a
 | _=>default
def vR{α β:Type}[Inhabited β]:Option (α ⊕ β)->β
 | some (.inr b)=>b
 | _=>default
def two{α β γ:Type}(f:α->γ)(g:β->γ):α ⊕ β->γ
 | .inl a=>f a
 | .inr b=>g b
end Go.Proofs.Xl
namespace Go.Proofs.Xv
open Go Go.RowKit Go.Proofs.Sv Go.Proofs.Xl
def QW(f:FuncId)(ps:List o6){α β:Type}[Inhabited α](F:A4 ps->Option (α ⊕ β))(R:α->AV)(z:F0 ps):Ct:=⟨f,ps,fun x=>⟨Ff (F x)=true,R (vL (F x)),z⟩⟩
def QX(f:FuncId)(ps:List o6){α β:Type}[Inhabited β](F:A4 ps->Option (α ⊕ β))(R:β->AV)(z:F0 ps):Ct:=⟨f,ps,fun x=>⟨NR (F x)=true,R (vR (F x)),z⟩⟩
theorem M0U{P:Program}{f:FuncId}{ps:List o6}{d e:Type}[Inhabited (d ⊕ e)][Inhabited d]{F:A4 ps->Option (d ⊕ e)}{g:d->AV}{RB:e->AV}{z:F0 ps}(h:Ok P (b9 f ps F (two g RB) (fun _=>z))):Ok P (QW f ps F g z):=by
 refine⟨h.1,fun x c w k i K l j=>?_⟩;have c:Ff (F x)=true:=c;cases hF:F x with
 | none=>rw[hF] at c; cases c
 | some s =>
   cases s with
   | inr b=>rw[hF] at c; cases c
   | inl a =>
     have:=h.2 x (show(F x).isSome=true by grind) w k i K l j;simp only[b9,QW] at this ⊢;rw[hF] at this ⊢;exact this
theorem M0T{P:Program}{f:FuncId}{ps:List o6}{e d:Type}[Inhabited (e ⊕ d)][Inhabited d]{F:A4 ps->Option (e ⊕ d)}{l:e->AV}{RB:d->AV}{z:F0 ps}(h:Ok P (b9 f ps F (two l RB) (fun _=>z))):Ok P (QX f ps F RB z):=by
 refine⟨h.1,fun x c w j g K k i=>?_⟩;have c:NR (F x)=true:=c;cases hF:F x with
 | none=>rw[hF] at c; cases c
 | some s =>
   cases s with
   | inl b=>rw[hF] at c; cases c
   | inr a =>
     have:=h.2 x (show(F x).isSome=true by grind) w j g K k i;simp only[b9,QX] at this ⊢;rw[hF] at this ⊢;exact this
theorem sp{X:Cx}{st:St}{c:Code}{Q:Exit->Act->World->Prop}{d:Type}{r:d}{b:Bool}{e a:Option d}(H:(if b=true then e else a)=some r)(f:e=some r->VX X st c Q)(g:a=some r->VX X st c Q):VX X st c Q:=by
 grind
end Go.Proofs.Xv
end
section
namespace Go.Proofs.Xv
open Go Go.RowKit Go.Proofs.Sv Go.Proofs.Xl
abbrev Z(e:List (Nat×Sl))(o:List (Nat×Ob)):St:=⟨e,o⟩
abbrev R(i:Nat):AV:=.ptr i 0
abbrev O(i:Nat):AV:=.os i 0
abbrev A(T:TypeId)(t:Ty)(xs:List (c7 t))(v:Nat):Ob:=.arr T true t xs v
abbrev K(T:TypeId)(t:Ty)(x:c7 t):Ob:=.box T (A7 false t x)
class HG(P:Program)(Γ:outParam p9):Prop where
 h:B6 P Γ
class HT(P:Program)(T:outParam (List Ct)):Prop where
 h:∀c∈T,Ok P c
def Yr(st:St):List Nat:=st.e.map Prod.fst
section
variable {P:Program} {n:Nat} {y:World×(Nat->Prop)×(Nat->Prop)×(Nat->Value->Prop)×Nat} {st:St} {Q:Exit->Act->World->Prop} {Γ:p9} {T:List Ct} {ρ α:Type} {r:ρ}
theorem zD[a:HG P Γ][d:HT P T][e:M4 P](S:α->St){V:Prop}[Decidable V]{x:α}{f:α->Option ρ}{id:Nat}{l:List Oper}{b:Bool}(H:gd V (lt x f)=some r)(c:∀v,f v=some r->FX (cx P n y) (S v) .normal Q)(h:J6 b n Γ T l (Yr (S x)) st=some (V,S x):=by kernel_rfl):VX (cx P n y) st (.region id l.toArray b) Q:=zd a.h d.h _ S H h c
theorem qC[a:HG P Γ][e:HT P T][g:M4 P](S:α->St){x:α}{f:α->Option ρ}{id:Nat}{l:List Oper}{b:Bool}{c:Code}(H:lt x f=some r)(d:∀v,f v=some r->VX (cx P n y) (S v) c Q)(h:J6 b n Γ T l (Yr (S x)) st=some (True,S x):=by kernel_rfl):VX (cx P n y) st (.seq (.region id l.toArray b) c) Q:=qc a.h e.h _ S H h d
theorem qD[a:HG P Γ][e:HT P T][g:M4 P](S:α->St){V:Prop}[Decidable V]{x:α}{f:α->Option ρ}{id:Nat}{l:List Oper}{b:Bool}{c:Code}(H:gd V (lt x f)=some r)(d:∀v,f v=some r->VX (cx P n y) (S v) c Q)(h:J6 b n Γ T l (Yr (S x)) st=some (V,S x):=by kernel_rfl):VX (cx P n y) st (.seq (.region id l.toArray b) c) Q:=qd a.h e.h _ S H h d
theorem cD{X:Cx}{c:Operand}{a d:Code}{b:Bool}{e f:Option ρ}(H:(if b=true then e else f)=some r)(i:e=some r->VX X st a Q)(g:f=some r->VX X st d Q)(h:Lh st c=some b:=by kernel_rfl):VX X st (.cond c a d) Q:=cd H h i g
theorem jN{X:Cx}{b:Type}(r:ρ)(E:b->St)(J:b->Option ρ){a d:Code}(h:∀s,J s=some r->VX X (E s) d Q)(k:∀Q',(∀{s st'},J s=some r->(h:Hh st' (E s)=some (E s):=by kernel_rfl)->FX X st' .normal Q')->(∀{st' id},FX X st' (.exit id) Q->FX X st' (.exit id) Q')->(∀{st'},FX X st' .ret Q->FX X st' .ret Q')->VX X st a Q'):VX X st (.seq a d) Q:=jn r E J h (fun Q' n e t=>k Q' (fun H h=>n H h) e t)
theorem lX{X:Cx}{c:Type}(E:c->St)(d:c){F:(c->Option ρ)->c->Option ρ}{a:Code}(H:lp F d=some r)
 (b:∀Q' (g:c->Option ρ),(∀{s st'},g s=some r->(h:Hh st' (E s)=some (E s):=by kernel_rfl)->FX X st' .normal Q')->(∀{st' id},FX X st' (.exit id) Q->FX X st' (.exit id) Q')->(∀{st'},FX X st' .ret Q->FX X st' .ret Q')->∀s,F g s=some r->VX X (E s) a Q') (f:Hh st (E d)=some (E d):=by kernel_rfl):VX X st (.loop a) Q:=lx E d H f (fun Q' g n e t s H=>b Q' g (fun H h=>n H h) e t s H)
theorem fZ{X:Cx}{c:Code}(id:Nat)(st':St)(k:VX X st' c Q)(h:Th id st=some st':=by kernel_rfl)(a:Nat.blt id 500000=true:=by kernel_rfl):VX X st c Q:=fz id st' h a k
end
def Tl(X:Cx)(Γ:p9)(rs:List ResultVar)(ps:List o6){ρ:Type}(R:ρ->AV)(Z:ρ->F0 ps)(r:ρ)(x:Exit)(Q:Exit->Act->World->Prop):Prop :=
 ∀{st:St} {e:ρ},some e=some r->(h:Td Γ st rs ps (R e) (Z e)=some (R e,Z e):=by kernel_rfl)->FX X st x Q
theorem okL{P:Program}{Γ:p9}[i:HG P Γ]{f:FuncId}{ps:List o6}{e:Type}[Inhabited e]{F:A4 ps->Option e}{R:e->AV}{Z:e->F0 ps}{d:Func}{c:Code}{n:Nat}(rs:List ResultVar)
  (m:P.funcs[f]?=some d) (l:d.ntmps=n) (k:d.results=rs.toArray)
  (h:∀y x r,F x=some r->∀Q,Tl (cx P n y) Γ rs ps R Z r .normal Q->Tl (cx P n y) Γ rs ps R Z r .ret Q->VX (cx P n y) ⟨N8 0 ps x,K8 0 ps x⟩ c Q)
  (j:d.body=some c:=by rfl) (o:BX P f=true:=by kernel_rfl) (g:(Nat.ble ps.length n&&Br ps)=true:=by rfl):Ok P (b9 f ps F R Z) :=
 okl i.h rs m l j k o g (fun y x r H Q a b=>h y x r H Q (fun H h=>a H h) (fun H h=>b H h))
end Go.Proofs.Xv
end
section
namespace Go.Proofs.Xv
open Go Go.Proofs Go.Proofs.Sv
def Ys(P:Program)(T:TypeId):Nat->List (Nat×Nat)->List (Option (Nat×Bool))
 | _,[]=>[]
 | k,_ :: r=>OK P T k :: Ys P T (k+1) r
theorem C0u{P:Program}{T:TypeId}:∀{l:List (Nat×Nat)} {k:Nat},Ys P T k l=l.map (fun x=>some (x.1,true))->Si P T k l
 | [],_,_=>trivial
 | _ :: _,_,h=>⟨(List.cons.inj h).1,C0u (List.cons.inj h).2⟩
abbrev J0q:=(Option (Nat×Nat×Option Value)×Bool×Bool×Bool)×Bool×Option (List (Nat×Nat))×Bool×List (Option (Nat×Bool))×Bool×Option (List (Bool×Bool))×Option TypeDesc
def Yt(P:Program)(x:Nat×TI):J0q :=
 ((RY P x.1,Z3 x.2.zero.cells.toList x.2.size,Nat.blt 0 x.2.size,ones x.2.zero.cells.toList),match x.2.kd with
 | .agg pl e _=>(BW P x.1,KH P x.1,OO P x.1,Ys P x.1 0 pl,(!e||Xh P x.1),Xi P x.1,none)
 | .arr _ _=>(BW P x.1,none,true,[],true,none,P.underlying x.1)
 | .oth=>(Z2 P x.1,none,true,[],true,none,none)
 | _=>(Z2 P x.1,none,true,[],true,none,P.underlying x.1))
def Yu(P:Program)(x:Nat×TI):J0q :=
 ((some (x.2.size,x.2.bytes,some x.2.zero),true,true,true),match x.2.kd with
 | .agg pl _ ag=>(true,some pl,true,pl.map (fun x=>some (x.1,true)),true,some (ag.map fun b=>(b,!b)),none)
 | .arr m E=>(true,none,true,[],true,none,some (.array m E))
 | .sl E=>(true,none,true,[],true,none,some (.slice E))
 | .str=>(true,none,true,[],true,none,some .string)
 | .bool=>(true,none,true,[],true,none,some .bool)
 | .int k=>(true,none,true,[],true,none,some (.int k))
 | .ptr=>(true,none,true,[],true,none,some (.pointer (P.pointee x.1)))
 | .oth=>(true,none,true,[],true,none,none))
theorem L0e{P:Program}{x:Nat×TI}(h:Yt P x=Yu P x):IM P x.1 x.2:=by
 obtain⟨T,c,b,zero,g,k⟩:=x;unfold Yt Yu at h;simp only[pj] at h;obtain⟨⟨d,e,f,i⟩,a⟩:=h;refine⟨d,e,f,i,?_⟩;cases g <;> simp only[pj] at a <;> unfold Sk
 ·exact⟨a.1,a.2.1,a.2.2.1,C0u a.2.2.2.1,fun j=>by simpa [j] using a.2.2.2.2.1,a.2.2.2.2.2.1⟩
 ·exact⟨a.1,a.2.2.2.2.2.2⟩
 ·exact⟨a.1,a.2.2.2.2.2.2⟩
 ·exact⟨a.1,a.2.2.2.2.2.2⟩
 ·exact⟨a.1,a.2.2.2.2.2.2⟩
 ·exact⟨a.1,a.2.2.2.2.2.2⟩
 ·exact a.1
 ·exact⟨a.1,a.2.2.2.2.2.2⟩
theorem I0j{P:Program}{Γ:p9}(h:Γ.map (Yt P)=Γ.map (Yu P)):B6 P Γ:=by
 induction Γ with
 | nil=>exact D0A
 | cons x r a =>
   simp only[List.map_cons,List.cons.injEq] at h;exact tK (L0e h.1) (a h.2)
end Go.Proofs.Xv
end
