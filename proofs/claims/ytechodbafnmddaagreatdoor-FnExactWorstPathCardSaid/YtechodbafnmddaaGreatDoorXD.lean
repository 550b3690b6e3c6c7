/- Calls by contracts. Over any program. -/
import Derived.Test.YtechodbafnmddaaGreatDoorXA
import Derived.KernelRfl
set_option maxHeartbeats 0
section
namespace Go.Proofs.Xv
open Go Go.RowKit Go.Proofs.Sv
theorem Sat.after{X:Cx}{G:Gh}(S:Sat X G){w':World}{go:Option Nat}(m:WE go G.w w'){K':Nat->Prop}(hK:∀k,G.K k->K' k)(aA:∀k,K' k->UFg w' X.w0.heap.size k)(E:∀k,K' k->X.K0 k∨X.base<=k)
  (aC:∀id o b,b5 G.o id=some o->G.γ id=some b->¬K' b) (aF:∀id b,G.δ id b->I2 (b5 G.o id)=true->¬K' b) {a:List (Nat×Ob)}
  (hu:(go=none/\a=[])∨∃id b T cs0 t,∃z:c9 t,go=some b/\a=[(id,Ob.box T (F2 false t z))]/\b5 G.o id=some (.box T cs0)/\G.γ id=some b/\∃us,Blk w' b us T/\RT K' w' t us z) :
  Sat X ⟨G.ρ,G.γ,K',w',a++G.o,G.B,G.δ⟩/\GLe G ⟨G.ρ,G.γ,K',w',a++G.o,G.B,G.δ⟩:=by
 have Q:∀k,G.K k->go≠some k:=fun k n e=>by
  grind
 have Y:∀k,G.K k->k<G.w.heap.size->w'.heap[k]?=G.w.heap[k]?:=fun k n hl=>m.block k hl (Q k n)
 -- where the objects stand
 have W:∀i,(∃T cs0 t,∃z:c9 t,b5 (a++G.o) i=some (.box T (F2 false t z))/\b5 G.o i=some (.box T cs0)/\go=G.γ i/\(∃b us,G.γ i=some b/\Blk w' b us T/\RT K' w' t us z))∨(b5 (a++G.o) i=b5 G.o i/\∀o b,b5 G.o i=some o->G.γ i=some b->go≠some b):=fun i=>by
  rcases hu with ⟨rfl,rfl⟩ | ⟨id,b,T,cs0,t,z,rfl,rfl,g,hγ,us,hB,hR⟩
  ·grind
  ·by_cases e:id=i
   ·subst e;exact .inl ⟨T,cs0,t,z,by rw[List.cons_append,lK,if_pos rfl],g,hγ.symm,b,us,hγ,hB,hR⟩
   ·refine .inr ⟨by rw[List.cons_append,lK,if_neg e]; rfl,fun o b' d u e'=>?_⟩;cases e';exact e (S.inj id i _ _ b g d hγ u)
 have l:GLe G ⟨G.ρ,G.γ,K',w',a++G.o,G.B,G.δ⟩:=by
  refine⟨rfl,fun k n hl=>⟨hK k n,Y k n hl⟩,fun i T cs hi=>⟨rfl,?_⟩,fun i T Te fr t xs V hi=>⟨rfl,?_⟩,fun i T fr t xs aB hi=>?_⟩
  ·grind
  ·grind
  ·grind
 have f:∀i o,b5 (a++G.o) i=some o->∃o',b5 G.o i=some o':=fun i o h=>by
  grind
 have F:∀i,I2 (b5 (a++G.o) i)=true->I2 (b5 G.o i)=true:=fun i h=>by
  rcases W i with ⟨T',_,t,z,q,_⟩ | ⟨q,_⟩
  ·rw[q] at h; cases h
  grind
 refine⟨⟨S.base,m.os.trans S.os,m.tape.trans S.tape,m.output.trans S.output,Nat.le_trans S.size m.size,fun k n hi=>?_,?_,?_,?_,?_,aA,E,fun i b s hg=>?_,fun i v h=>(S.pin i v h).mono l⟩,l⟩
 rotate_right
 ·have hg:=F i hg;obtain⟨s1,s2,s3,s4⟩:=S.sep i b s hg
  grind
 ·refine(m.block k (Nat.lt_of_lt_of_le n S.size) (fun e=>?_)).trans (S.block k n hi);rcases hu with ⟨rfl,_⟩ | ⟨id,b,T,cs0,t,z,rfl,_,g,hγ,_⟩
  ·cases e
  ·cases e;rcases S.own id _ k g hγ with h | h
   ·omega
   grind
 ·intro i o g;rcases W i with ⟨T,cs0,t,z,q,H,_,b,us,h3,h4,h5⟩ | ⟨q,H⟩
  ·rw[q] at g;cases g;obtain⟨b',aD,r,y,_⟩:=S.obs i _ H;rw[h3] at r;cases r;exact⟨b,us,h3,y,h4,DV (RT.up h5 (fun k n=>⟨n,(fun e=>by cases e)⟩))⟩
  ·have d:b5 G.o i=some o:=by rw[<- q]; exact g
   have:=S.obs i o d;cases o with
   | box T cs =>
     obtain⟨b,us,r,y,P,g4⟩:=this;exact⟨b,us,r,y,P.we m (fun j hj e=>by grind),g4.mono l⟩
   | arr T fr t xs aB =>
     obtain⟨cs,r,y,P⟩:=this;exact⟨cs,r.we m (fun j hj e=>H _ j d e hj),y.mapR (fun c x hr=>RT.same (w:=G.w) l.hR hr),P⟩
   | grd T Te fr t xs V =>
     obtain⟨vs,bs,r,y,P⟩:=this;refine⟨vs,bs,r.we m (fun j hj e=>H _ j d e hj),y.up l (fun _=>Iff.rfl) m (fun b s F=>?_),P⟩;rcases hu with ⟨rfl,_⟩ | ⟨id,b',T,cs0,t,z,rfl,_,ho2,hγ,_⟩
     ·grind
     ·cases F;exact(S.sep i b s (by rw[d]; rfl)).2.2.1 id _ ho2 hγ
 ·intro i i' o o' b g d s u;obtain⟨o1,q⟩:=f i o g;obtain⟨o2,H⟩:=f i' o' d;exact S.inj i i' o1 o2 b q H s u
 ·grind
 ·intro i o b g s;obtain⟨o1,q⟩:=f i o g;exact S.own i o1 b q s
theorem Sat.add{X:Cx}{G:Gh}(S:Sat X G){id:Nat}{ob:Ob}{r:Value}{g:Option Nat}(hd:b5 G.o id=none)(hg:∀b,g=some b->(X.w0.heap.size<=b∨X.io b)/\¬G.K b/\(∀i o,b5 G.o i=some o->G.γ i≠some b)/\∀i,G.δ i b->I2 (b5 G.o i)=true->False)
  (aA:GLe G (G.put id ob r g G.w)->ObR (G.put id ob r g G.w) id ob):Sat X (G.put id ob r g G.w)/\GLe G (G.put id ob r g G.w):=by
 have d:∀i,b5 (G.put id ob r g G.w).o i=if id=i then some ob else b5 G.o i:=fun i=>lK _ _ _ _
 have H:∀i o,b5 G.o i=some o->¬id=i:=fun i o h e=>by grind
 have f:GLe G (G.put id ob r g G.w):=by
  refine⟨rfl,fun k s _=>⟨s,rfl⟩,fun i T z hi=>?_,fun i T Te x t E q hi=>?_,fun i T x t E F hi=>?_⟩
  ·grind[Gh.put]
  ·grind[Gh.put]
  ·have e:=H i _ hi;rw[d,if_neg e];simp only[Gh.put,if_neg (Ne.symm e)]
   grind
 refine⟨⟨S.base,S.os,S.tape,S.output,S.size,S.block,?_,?_,?_,?_,S.klt,S.kfrom,fun i b c n=>?_,fun i v h=>(S.pin i v h).mono f⟩,f⟩
 rotate_right
 ·obtain⟨Y,c⟩:=c;rw[d,if_neg (Ne.symm Y)] at n;obtain⟨s1,s2,s3,s4⟩:=S.sep i b c n;refine⟨s1,s2,fun j o a y=>?_,fun j y aB=>?_⟩
  ·grind[Gh.put]
  ·obtain⟨aC,y⟩:=y
   grind
 ·intro i o a;rw[d] at a;by_cases e:id=i
  ·grind
  ·rw[if_neg e] at a;have:=S.obs i o a;cases o with
   | box T z =>
     obtain⟨b,us,W,u,P,h4⟩:=this;exact⟨b,us,by grind[Gh.put],by grind[Gh.put],P,h4.mono f⟩
   | arr T x t E F =>
     obtain⟨z,W,u,P⟩:=this;exact⟨z,by grind[Gh.put],u,by grind[Gh.put]⟩
   | grd T Te x t E q =>
     obtain⟨vs,bs,W,u,P⟩:=this;exact⟨vs,bs,by grind[Gh.put],u.up f (fun b=>⟨fun h=>h.2,fun h=>⟨Ne.symm e,h⟩⟩) (WE.refl (g:=none) _) (fun _ _ h=>by cases h),by grind[Gh.put]⟩
 ·intro i Q o o' b a l c m;rw[d] at a l;simp only[Gh.put] at c m;by_cases e:i=id
  ·grind
  ·rw[if_neg e] at c;rw[if_neg (Ne.symm e)] at a;by_cases V:Q=id
   ·grind
   ·rw[if_neg V] at m;rw[if_neg (Ne.symm V)] at l;exact S.inj i Q o o' b a l c m
 ·intro i o b a c s;rw[d] at a;simp only[Gh.put] at c s;by_cases e:i=id
  ·grind
  ·rw[if_neg e] at c;rw[if_neg (Ne.symm e)] at a;exact S.imm i o b a c s
 ·intro i o b a c;rw[d] at a;simp only[Gh.put] at c;by_cases e:i=id
  ·grind
  ·rw[if_neg e] at c;rw[if_neg (Ne.symm e)] at a;exact S.own i o b a c
mutual
def I4(d:Nat):Nat->AV->AV×List (Nat×Ob)×Nat
 | j,.ow T fr t xs=>(.os (1000*j+d) 0,[(1000*j+d,.arr T fr t xs 0)],j+1)
 | j,.ob T xs=>match O0 d j xs with | (ys,o,k)=>(.ptr (1000*k+d) 0,(1000*k+d,.box T ys) :: o,k+1)
 | j,.agg xs=>match O0 d j xs with | (ys,o,k)=>(.agg ys,o,k)
 | j,.tup xs=>match O0 d j xs with | (ys,o,k)=>(.tup ys,o,k)
 | j,.v x=>(.v x,[],j)
 | j,.d fr t x=>(.d fr t x,[],j)
 | j,a=>(a,[],j)
def O0(d:Nat):Nat->List AV->List AV×List (Nat×Ob)×Nat
 | j,[]=>([],[],j)
 | j,a :: r=>match I4 d j a with
   | (b,o,k)=>match O0 d k r with | (s,o',k')=>(b :: s,o'++o,k')
end
theorem VP{a:Type}{l m:List (Nat×a)}{i:Nat}(h:∀x∈l,x.1≠i):b5 (l++m) i=b5 m i:=by
 induction l with
 | nil=>rfl
 | cons x r b =>
   obtain⟨d,v⟩:=x;rw[List.cons_append,lK,if_neg (h (d,v) (by simp))]
   grind
structure VR(X:Cx)(d j k:Nat)(G:Gh)(obs:List (Nat×Ob))(gs:List (Option Nat))(G':Gh):Prop where
 sat:Sat X G'
 le:GLe G G'
 w:G'.w=G.w
 K:G'.K=G.K
 o:G'.o=obs++G.o
 jk:j<=k
 num:∀x∈obs,∃i,j<=i/\i<k/\x.1=1000*i+d
 far:∀b,some b ∉ gs->(∀i o,b5 G.o i=some o->G.γ i≠some b)->∀i o,b5 G'.o i=some o->G'.γ i≠some b
 dl:∀i b,G'.δ i b->I2 (b5 G'.o i)=true->G.δ i b/\I2 (b5 G.o i)=true
def Rp(X:Cx)(G:Gh)(gs:List (Option Nat)):Prop:=∀b,some b∈gs->X.w0.heap.size<=b/\¬G.K b/\(∀i o,b5 G.o i=some o->G.γ i≠some b)/\∀i,G.δ i b->I2 (b5 G.o i)=true->False
theorem n0d:∀{g h:List (Option Nat)},Dc (g++h)->Dc g/\Dc h/\∀b,some b∈g->some b ∉ h
 | [],h,k=>⟨trivial,k,fun _ a=>by cases a⟩
 | x :: r,h,⟨k1,k2⟩=>by
   obtain⟨d,f,i⟩:=n0d k2;refine⟨⟨fun b a c=>k1 b a (by simp[c]),d⟩,f,fun b a c=>?_⟩;rcases List.mem_cons.1 a with e | a
   ·exact k1 b e.symm (by simp[c])
   grind
theorem VT{X:Cx}{d j:Nat}{G:Gh}(S:Sat X G){b:List (Option Nat)}:VR X d j j G [] b G :=
 ⟨S,GLe.refl G,rfl,rfl,rfl,Nat.le_refl _,(fun _ h=>by cases h),(fun _ _ h=>h),fun _ _ h a=>⟨h,a⟩⟩
mutual
theorem i0P{X:Cx}{d:Nat}{K:Bool->Nat->Prop}:∀(a:AV) {j k:Nat} {b:AV} {obs:List (Nat×Ob)} {G:Gh} {u:Value} {gs:List (Option Nat)},I4 d j a=(b,obs,k)->Sat X G->(∀fr i,K fr i->rg G fr i)->ResR K G.w a u gs->Dc gs->Rp X G gs->(∀x∈obs,b5 G.o x.1=none) ->
  ∃G',VR X d j k G obs gs G'/\AVR G' b u
 | .ow T fr t xs,j,k,b,obs,G,u,gs,h,S,hK,hR,hN,hF,hfr=>by
   simp only[I4,pj] at h;obtain⟨rfl,rfl,rfl⟩:=h;obtain⟨g,cs,rfl,E,hO,hA⟩:=hR;have hd:=hfr _ (List.mem_singleton.2 rfl);have f:=S.add (id:=1000*j+d) (ob:=.arr T fr t xs 0) (r:=u) (g:=g) hd (fun b m=>let h:=hF b (by grind); ⟨.inl h.1,h.2⟩) (fun z=>⟨cs,by grind[Gh.put],hA.mapR (fun c x hr=>RT.same (w:=G.w) (fun k hk _=>⟨hK fr k hk,rfl⟩) hr),fun b e=>by simp only[Gh.put,if_true] at e ⊢; subst e; exact Nat.le_trans S.le (hF b (by simp)).1⟩);refine⟨_,⟨f.1,f.2,rfl,rfl,rfl,Nat.le_succ _,fun x H=>?_,fun b m s i o hi=>?_,fun i b m n=>?_⟩,E,T,fr,t,xs,0,?_,Nat.le_refl _,fun _=>by simp[Gh.put]⟩
   ·cases List.mem_singleton.1 H;exact⟨j,Nat.le_refl _,Nat.lt_succ_self _,rfl⟩
   ·rw[show(Gh.put G (1000*j+d) (.arr T fr t xs 0) u g G.w).o=(1000*j+d,.arr T fr t xs 0) :: G.o from rfl,lK] at hi
    grind[Gh.put]
   ·obtain⟨Y,m⟩:=m;rw[show(Gh.put G (1000*j+d) (.arr T fr t xs 0) u g G.w).o=(1000*j+d,.arr T fr t xs 0) :: G.o from rfl,lK,if_neg (Ne.symm Y)] at n;exact⟨m,n⟩
   ·rw[show(Gh.put G (1000*j+d) (.arr T fr t xs 0) u g G.w).o=(1000*j+d,.arr T fr t xs 0) :: G.o from rfl,lK]; simp
 | .agg xs,j,k,b,obs,G,u,gs,h,S,hK,⟨us,e,hR⟩,hN,hF,hfr=>by
   simp only[I4] at h;cases f:O0 d j xs with
   | mk F r =>
     obtain⟨o,q⟩:=r;rw[f] at h;simp only[pj] at h;obtain⟨rfl,rfl,rfl⟩:=h;obtain⟨G',E,W⟩:=Rq xs f S hK hR hN hF hfr;exact⟨G',E,us,e,W⟩
 | .tup xs,j,k,b,obs,G,u,gs,h,S,hK,⟨us,e,hR⟩,hN,hF,hfr=>by
   simp only[I4] at h;cases f:O0 d j xs with
   | mk F r =>
     obtain⟨o,q⟩:=r;rw[f] at h;simp only[pj] at h;obtain⟨rfl,rfl,rfl⟩:=h;obtain⟨G',E,W⟩:=Rq xs f S hK hR hN hF hfr;exact⟨G',E,us,e,W⟩
 | .v x,j,k,b,obs,G,u,gs,h,S,hK,⟨hR,e⟩,hN,hF,hfr=>by
   simp only[I4,pj] at h;obtain⟨rfl,rfl,rfl⟩:=h;exact⟨G,VT S,hR⟩
 | .d fr t x,j,k,b,obs,G,u,gs,h,S,hK,⟨hR,e⟩,hN,hF,hfr=>by
   simp only[I4,pj] at h;obtain⟨rfl,rfl,rfl⟩:=h;exact⟨G,VT S,RT.same (w:=G.w) (fun k hk _=>⟨hK fr k hk,rfl⟩) hR⟩
 | .ptr _ _,_,_,_,_,_,_,_,_,_,_,hR,_,_,_=>hR.elim
 | .pel _ _ _ _ _,_,_,_,_,_,_,_,_,_,_,hR,_,_,_=>hR.elim
 | .os _ _,_,_,_,_,_,_,_,_,_,_,hR,_,_,_=>hR.elim
 | .fn _ _,_,_,_,_,_,_,_,_,_,_,hR,_,_,_=>hR.elim
 | .gel _ _,_,_,_,_,_,_,_,_,_,_,hR,_,_,_=>hR.elim
 | .og _,_,_,_,_,_,_,_,_,_,_,hR,_,_,_=>hR.elim
 | .ob T xs,j,k,b,obs,G,u,gs,h,S,hK,⟨b0,us,gs',eg,hu,hB,hR⟩,hN,hF,hfr=>by
   subst eg;simp only[I4] at h;cases f:O0 d j xs with
   | mk F r =>
     obtain⟨o,q⟩:=r;rw[f] at h;simp only[pj] at h;obtain⟨rfl,rfl,rfl⟩:=h;obtain⟨n1,n2⟩:=hN;have Q:=JK xs f;have z:=JL xs f;obtain⟨G1,l,A1⟩:=Rq xs f S hK hR n2 (fun b m=>hF b (by grind)) (fun x H=>hfr x (by grind));obtain⟨f1,f2,f3,f4⟩:=hF b0 (by simp);have hd:b5 G1.o (1000*q+d)=none:=by
      rw[l.o,VP]
      ·simp_all
      ·intro y hy e;obtain⟨i',aB,aC,aA⟩:=Q y hy;rw[aA] at e;omega
     have f:=l.sat.add (id:=1000*q+d) (ob:=.box T F) (r:=u) (g:=some b0) hd (fun b m=>by
      cases m;exact⟨.inl f1,by rw[l.K]; exact f2,l.far b0 (n1 b0 rfl) f3,fun i hi P=>f4 i (l.dl i b0 hi P).1 (l.dl i b0 hi P).2⟩) (fun z=>⟨b0,us,by simp[Gh.put],by simp[Gh.put,hu],by show Blk G1.w b0 us T; rw[l.w]; exact hB,A1.mono z⟩)
     have V:(Gh.put G1 (1000*q+d) (.box T F) u (some b0) G1.w).o=(1000*q+d,.box T F) :: G1.o:=rfl;refine⟨_,⟨f.1,GLe.trans l.le f.2 (by rw[l.w]; exact Nat.le_refl _),l.w,l.K,by rw[V,l.o]; rfl,by omega,fun x H=>?_,fun b m s i o hi=>?_,fun i b m n=>?_⟩,⟨T,F,by rw[V,lK,if_pos rfl]⟩,b0,by simp[Gh.put,hu],by rw[hu]⟩
     ·rcases List.mem_cons.1 H with rfl | H
      ·exact⟨q,by omega,by omega,rfl⟩
      ·obtain⟨i,E,W,h3⟩:=l.num x H;exact⟨i,E,by omega,h3⟩
     ·rw[V,lK] at hi;simp only[Gh.put];by_cases e:i=1000*q+d
      ·grind
      ·rw[if_neg e];rw[if_neg (Ne.symm e)] at hi;exact l.far b (fun h=>m (by simp[h])) s i o hi
     ·obtain⟨Y,m⟩:=m;rw[V,lK,if_neg (Ne.symm Y)] at n;exact l.dl i b m n
theorem Rq{X:Cx}{d:Nat}{K:Bool->Nat->Prop}:∀(as':List AV) {j k:Nat} {bs:List AV} {obs:List (Nat×Ob)} {G:Gh} {us:List Value} {gs:List (Option Nat)},O0 d j as'=(bs,obs,k)->Sat X G->(∀fr i,K fr i->rg G fr i)->ResRs K G.w as' us gs->Dc gs->Rp X G gs->(∀x∈obs,b5 G.o x.1=none) ->
  ∃G',VR X d j k G obs gs G'/\AVRs G' bs us
 | [],j,k,bs,obs,G,us,gs,h,S,hK,⟨hR,e⟩,hN,hF,hfr=>by
   simp only[O0,pj] at h;obtain⟨rfl,rfl,rfl⟩:=h;exact⟨G,VT S,hR⟩
 | a :: r,j,k,bs,obs,G,us,gs,h,S,hK,⟨u,us',g1,g2,e1,e2,hR1,hR2⟩,hN,hF,hfr=>by
   subst e1; subst e2;simp only[O0] at h;cases hp:I4 d j a with
   | mk b q =>
     obtain⟨o,W⟩:=q;rw[hp] at h;simp only at h;cases hp2:O0 d W r with
     | mk s q =>
       obtain⟨o',k2⟩:=q;rw[hp2] at h;simp only[pj] at h;obtain⟨rfl,rfl,rfl⟩:=h;obtain⟨n1,n2,n3⟩:=n0d hN;obtain⟨G1,c,A1⟩:=i0P a hp S hK hR1 n1 (fun b g=>hF b (by simp[g])) (fun x l=>hfr x (by simp[l]));have H:Rp X G1 g2:=fun b g=>by
        obtain⟨f1,f2,f3,f4⟩:=hF b (by simp[g]);exact⟨f1,by rw[c.K]; exact f2,c.far b (fun h=>n3 b h g) f3,fun i hi t=>f4 i (c.dl i b hi t).1 (c.dl i b hi t).2⟩
       have n:∀x∈o',b5 G1.o x.1=none:=fun x l=>by
        obtain⟨i,aA,aB,F⟩:∃i,W<=i/\i<k2/\x.1=1000*i+d:=by
         exact JK r hp2 x l
        rw[c.o,VP]
        ·grind
        ·intro y hy e;obtain⟨i',T,V,P⟩:=c.num y hy;rw[P,F] at e;omega
       obtain⟨G2,f,Y⟩:=Rq r hp2 c.sat (fun fr i hi=>by obtain⟨E,z⟩:=hK fr i hi; exact⟨by rw[c.K]; exact E,fun e=>by rw[c.le.hB]; exact z e⟩) (by rw[c.w]; exact hR2) n2 H n;refine⟨G2,⟨f.sat,?_,f.w.trans c.w,f.K.trans c.K,?_,Nat.le_trans c.jk f.jk,?_,?_,fun i b g m=>c.dl i b (f.dl i b g m).1 (f.dl i b g m).2⟩,u,us',rfl,A1.mono f.le,Y⟩
       ·exact GLe.trans c.le f.le (by rw[c.w]; exact Nat.le_refl _)
       ·rw[f.o,c.o,List.append_assoc]
       ·intro x l;rcases List.mem_append.1 l with l | l
        ·obtain⟨i,E,z,Q⟩:=f.num x l;exact⟨i,Nat.le_trans c.jk E,z,Q⟩
        ·obtain⟨i,E,z,Q⟩:=c.num x l;exact⟨i,E,Nat.lt_of_lt_of_le z f.jk,Q⟩
       ·intro b g v;exact f.far b (fun h=>g (by simp[h])) (c.far b (fun h=>g (by simp[h])) v)
theorem VU{d:Nat}:∀(a:AV) {j k:Nat} {b:AV} {obs:List (Nat×Ob)},I4 d j a=(b,obs,k)->(∀x∈obs,∃i,j<=i/\i<k/\x.1=1000*i+d)/\j<=k
 | .ow T fr t xs,j,k,b,obs,h=>by
   simp only[I4,pj] at h;obtain⟨rfl,rfl,rfl⟩:=h;refine⟨fun x c=>?_,Nat.le_succ _⟩;cases List.mem_singleton.1 c;exact⟨j,Nat.le_refl _,Nat.lt_succ_self _,rfl⟩
 | .agg xs,j,k,b,obs,h=>by
   simp only[I4] at h;cases hp:O0 d j xs with
   | mk l r =>
     obtain⟨o,g⟩:=r;rw[hp] at h;simp only[pj] at h;obtain⟨rfl,rfl,rfl⟩:=h;exact⟨JK xs hp,JL xs hp⟩
 | .tup xs,j,k,b,obs,h=>by
   simp only[I4] at h;cases hp:O0 d j xs with
   | mk l r =>
     obtain⟨o,g⟩:=r;rw[hp] at h;simp only[pj] at h;obtain⟨rfl,rfl,rfl⟩:=h;exact⟨JK xs hp,JL xs hp⟩
 | .v x,j,k,b,obs,h=>by simp only[I4,pj] at h; grind
 | .d fr t x,j,k,b,obs,h=>by simp only[I4,pj] at h; grind
 | .ptr _ _,j,k,b,obs,h=>by simp only[I4,pj] at h; grind
 | .pel _ _ _ _ _,j,k,b,obs,h=>by simp only[I4,pj] at h; grind
 | .os _ _,j,k,b,obs,h=>by simp only[I4,pj] at h; grind
 | .fn _ _,j,k,b,obs,h=>by simp only[I4,pj] at h; grind
 | .gel _ _,j,k,b,obs,h=>by simp only[I4,pj] at h; grind
 | .og _,j,k,b,obs,h=>by simp only[I4,pj] at h; grind
 | .ob T xs,j,k,b,obs,h=>by
   simp only[I4] at h;cases hp:O0 d j xs with
   | mk l r =>
     obtain⟨o,g⟩:=r;rw[hp] at h;simp only[pj] at h;obtain⟨rfl,rfl,rfl⟩:=h;have e:=JK xs hp;have f:=JL xs hp;refine⟨fun x c=>?_,by omega⟩;rcases List.mem_cons.1 c with rfl | c
     ·exact⟨g,f,by omega,rfl⟩
     ·obtain⟨i,n,q,m⟩:=e x c;exact⟨i,n,by omega,m⟩
theorem JL{d:Nat}:∀(as':List AV) {j k:Nat} {bs:List AV} {obs:List (Nat×Ob)},O0 d j as'=(bs,obs,k)->j<=k
 | [],j,k,bs,obs,h=>by simp only[O0,pj] at h; omega
 | a :: r,j,k,bs,obs,h=>by
   simp only[O0] at h;cases hp:I4 d j a with
   | mk b q =>
     obtain⟨o,c⟩:=q;rw[hp] at h;simp only at h;cases hp2:O0 d c r with
     | mk s q =>
       obtain⟨f,e⟩:=q;rw[hp2] at h;simp only[pj] at h;obtain⟨rfl,rfl,rfl⟩:=h;exact Nat.le_trans (VU a hp).2 (JL r hp2)
theorem JK{d:Nat}:∀(as':List AV) {j k:Nat} {bs:List AV} {obs:List (Nat×Ob)},O0 d j as'=(bs,obs,k)->∀x∈obs,∃i,j<=i/\i<k/\x.1=1000*i+d
 | [],j,k,bs,obs,h=>by simp only[O0,pj] at h; grind
 | a :: r,j,k,bs,obs,h=>by
   simp only[O0] at h;cases hp:I4 d j a with
   | mk b q =>
     obtain⟨o,l⟩:=q;rw[hp] at h;simp only at h;cases hp2:O0 d l r with
     | mk s q =>
       obtain⟨m,n⟩:=q;rw[hp2] at h;simp only[pj] at h;obtain⟨rfl,rfl,rfl⟩:=h;intro x c;rcases List.mem_append.1 c with c | c
       ·obtain⟨i,g,f,e⟩:=JK r hp2 x c;exact⟨i,Nat.le_trans (VU a hp).2 g,f,e⟩
       ·obtain⟨i,g,f,e⟩:=(VU a hp).1 x c;exact⟨i,g,Nat.lt_of_lt_of_le f (JL r hp2),e⟩
end
def Ge:(ps:List q9)->D4 ps->List AV
 | [],_=>[]
 | .io _ t :: _,z=>F2 false t z
 | .dat _ :: r,z=>Ge r z
 | .agg _ :: r,z=>Ge r z
 | .fn _ _ :: r,z=>Ge r z
 | .nof _ :: r,z=>Ge r z
 | .nil :: r,z=>Ge r z
 | .os _ _ :: r,z=>Ge r z
def AS(o:List (Nat×Ob))(ps:List q9)(z:D4 ps):Option Nat->List (Nat×Ob)
 | none=>[]
 | some id=>match b5 o id with
   | some (.box T _)=>[(id,.box T (Ge ps z))]
   | _=>[]
def De{α:Type}:List α->Bool
 | []=>true
 | _ :: _=>false
theorem NL{c:Type}{l:List c}(h:De l=true):l=[]:=by cases l with
 | nil=>rfl
 | cons a b=>cases h
def isNone{α:Type}:Option α->Bool
 | none=>true
 | some _=>false
def Fb(o:List (Nat×Ob)):List (Nat×Ob)->Bool
 | []=>true
 | (i,_) :: r=>Am o i&&Fb o r
def HI(i:Nat):List Nat->Bool
 | []=>true
 | x :: r=>!Nat.beq x i&&HI i r
def VV(l:List Nat):Option Nat->Bool
 | none=>true
 | some i=>HI i l
def Rr:List q9->List AV->Bool
 | .fn f _ :: r,.fn f' _ :: s=>Nat.beq f f'&&Rr r s
 | .nof f :: r,.fn f' _ :: s=>Nat.beq f f'&&Rr r s
 | _ :: r,_ :: s=>Rr r s
 | _,_=>true
/- Data that lead Z2 new memory alone, or nowhere. -/
mutual
def Cu:AV->Bool
 | .d fr t _=>fr||H7 t
 | .ow _ fr t _=>fr||H7 t
 | .ob _ xs=>JM xs
 | .agg xs=>JM xs
 | .tup xs=>JM xs
 | _=>true
def JM:List AV->Bool
 | []=>true
 | a :: r=>Cu a&&JM r
end
mutual
theorem ResR.fresh{K K':Bool->Nat->Prop}{w:World}(f:∀fr k,K true k->K' fr k):∀{a:AV} {u:Value} {gs:List (Option Nat)},Cu a=true->ResR K w a u gs->ResR K' w a u gs
 | .v _,_,_,_,h=>h
 | .d fr t x,u,gs,hf,⟨h,e⟩=>by
   refine⟨?_,e⟩;simp only[Cu,Bool.or_eq_true] at hf
   grind[RT.up,RT.free]
 | .ow T fr t xs,u,gs,hf,⟨g,cs,h1,h2,h3,h4⟩=>by
   refine⟨g,cs,h1,h2,h3,h4.mapR (fun c x h=>?_)⟩;simp only[Cu,Bool.or_eq_true] at hf
   grind[RT.up,RT.free]
 | .agg xs,u,gs,hf,⟨us,e,h⟩=>⟨us,e,ResRs.fresh f (by grind[Cu]) h⟩
 | .ob T xs,u,gs,hf,⟨b,us,gs',e1,e2,h1,h⟩=>⟨b,us,gs',e1,e2,h1,ResRs.fresh f (by grind[Cu]) h⟩
 | .tup xs,u,gs,hf,⟨us,e,h⟩=>⟨us,e,ResRs.fresh f (by grind[Cu]) h⟩
theorem ResRs.fresh{K K':Bool->Nat->Prop}{w:World}(b:∀fr k,K true k->K' fr k):∀{as':List AV} {us:List Value} {gs:List (Option Nat)},JM as'=true->ResRs K w as' us gs->ResRs K' w as' us gs
 | [],_,_,_,h=>h
 | a :: r,us,gs,hf,⟨u,us',g1,g2,e1,e2,h1,h2⟩=>by
   simp only[JM,ba] at hf;exact⟨u,us',g1,g2,e1,e2,ResR.fresh b hf.1 h1,ResRs.fresh b hf.2 h2⟩
end
def Rs(o:List (Nat×Ob))(q:Prop)(rv:AV)(l:List Nat):Option Nat->Option (Prop×AV×List (Nat×Ob)×List Nat)
 | some id=>match rv,b5 o id with
   | .ow T fr t xs,some (.arr _ _ _ _ ver)=>bif H7 t&&De l then some (q,.os id (ver+1),[(id,.arr T fr t xs (ver+1))],[id]) else none
   | _,_=>none
 | none=>none
def HJ(o:List (Nat×Ob))(d f:Nat)(as':List AV):List Ct->Option (Prop×AV×List (Nat×Ob)×List Nat)
 | []=>none
 | c :: r=>bif Nat.beq c.f f&&Rr c.ps as' then(match S6 o c.ps as' with
   | some (x,l,io)=>match c.res x with
     | ⟨q,rv,z⟩=>bif H2 c.ps then Rs o q rv l io else(match I4 d 0 rv with
       | (av,obs,_)=>bif VV l io&&Fb o obs&&(De l||(Cu rv&&isNone io)) then some (q,av,obs++AS o c.ps z io,(obs.map Prod.fst)++(l++io.toList)) else none)
   | none=>none) else HJ o d f as' r
def Df(T:List Ct)(st:St)(p:Pa)(d:Nat):Op->Option (Prop×AV×List (Nat×Ob)×List Nat)
 | .call ⟨.value x,xs,_⟩=>match rd st p x,N9 st p xs.toList with
   | some (.fn f caps),some as'=>HJ st.o d f (as'++caps) T
   | _,_=>none
 | _=>none
def Cl(X:Cx)(G:Gh)(a:Act)(op:Op)(ty:TypeId)(av:AV)(obs:List (Nat×Ob)):Prop :=
 ∃f vs,(∀dst pos after g,(execOp a.eval ⟨dst,op,ty,pos,after,g⟩).run X.P G.w=.ok (.enter f vs) G.w) /\
  Calls X.P f vs G.w fun en w'=>∃v G',en=.returned v/\G'.w=w'/\Sat X G'/\GLe G G'/\G'.o=obs++G.o/\AVR G' av v
theorem j0z{o:List (Nat×Ob)}:∀{l:List (Nat×Ob)},Fb o l=true->∀x∈l,b5 o x.1=none
 | [],_,_,h=>by cases h
 | (i,b) :: r,h,x,hx=>by
   simp only[Fb,ba] at h;rcases List.mem_cons.1 hx with rfl | hx
   ·grind[DZ]
   ·exact j0z h.2 x hx
theorem NM{i:Nat}:∀{l:List Nat},HI i l=true->i ∉ l
 | [],_,h=>by cases h
 | x :: r,h,hx=>by
   simp only[HI,ba,Bool.not_eq_true'] at h;rcases List.mem_cons.1 hx with rfl | hx
   ·simp at h
   ·exact NM h.2 hx
theorem IOR.get{K:Nat->Prop}{w:World}{b:Nat}:∀{ps:List q9} {z:D4 ps} {Ka:Nat->Prop} {wa:World} {x:C8 ps} {vs:List Value},¬H2 ps=true->IOR K w (some b) ps z->ArgsR Ka wa (some b) ps x vs->∃t,∃z':c9 t,∃T us cs0,Ge ps z=F2 false t z'/\Blk w b us T/\RT K w t us z'/\Blk wa b cs0 T
 | [],_,_,_,_,_,_,_,h=>by cases h.2
 | .os _ _ :: r,_,_,_,_,_,hv,_,_=>(hv rfl).elim
 | .io T t :: r,z,_,_,x,vs,_,⟨b',cs,e,hB,hR⟩,⟨b2,cs2,us,_,e2,_,hB2,_⟩=>by cases e; cases e2; exact⟨t,z,T,cs,_,rfl,hB,hR,hB2⟩
 | .dat _ :: r,z,_,_,x,vs,hv,h,⟨_,_,_,_,k⟩=>IOR.get (ps:=r) hv h k
 | .agg _ :: r,z,_,_,x,vs,hv,h,⟨_,_,_,_,k⟩=>IOR.get (ps:=r) hv h k
 | .fn _ _ :: r,z,_,_,x,vs,hv,h,⟨_,_,_,_,k⟩=>IOR.get (ps:=r) hv h k
 | .nof _ :: r,z,_,_,x,vs,hv,h,⟨_,_,k⟩=>IOR.get (ps:=r) hv h k
 | .nil :: r,z,_,_,x,vs,hv,h,⟨_,_,k⟩=>IOR.get (ps:=r) hv h k
theorem VW{o:List (Nat×Ob)}:∀{ps:List q9} {as':List AV} {x:C8 ps} {l:List Nat} {io:Option Nat},S6 o ps as'=some (x,l,io)->∀id∈l,∃ob,b5 o id=some ob
 | [],[],x,l,io,h=>by
   simp only[S6,oi,pj] at h
   grind
 | [],_ :: _,x,l,io,h=>by grind[S6]
 | _ :: _,[],x,l,io,h=>by grind[S6]
 | p :: r,a :: as',x,l,io,h=>by
   simp only[S6] at h;split at h
   ·rename_i i c f b;split at h
    ·rename_i y m j e;have g:=VW e;have d:∀id∈c,∃ob,b5 o id=some ob:=by
      unfold Dd at b;split at b
      ·split at b
       ·grind[oi,pj,Gd]
       grind
      ·split at b
       ·grind[oi,pj,Gd]
       grind
      ·rw[ce] at b;split at b
       ·split at b
        ·grind[oi,pj,Gd]
        grind
       grind
      ·grind
      ·grind
      ·grind
      ·grind
      ·cases b
     grind
    grind
   grind
theorem y0w{X:Cx}{G:Gh}(S:Sat X G){d:Nat}{aL:List AV}{us:List Value}(hA:AVRs G aL us){ps:List q9}(aI:¬H2 ps=true){x:C8 ps}{l:List Nat}{m:Option Nat}(H:S6 G.o ps aL=some (x,l,m))(aH:VV l m=true) :
  ∃go,KW X.P G.w go (AR G l)/\ArgsR (AR G l) G.w go ps x us/\∀(res:C8 ps->Res ps),Fb G.o (I4 d 0 (res x).r).2.1=true/\(De l||(Cu (res x).r&&isNone m))=true->∀(en:Ending) (w':World),
  (∃v gs,en=.returned v/\WE go G.w w'/\Dc gs/\(∀b,some b∈gs->G.w.heap.size<=b∨(H2 ps=true/\go=some b))/\ResR (fun fr=>JJ fr (AR G l) G.w w' gs) w' (res x).r v gs /\
    IOR (fun k=>(AR G l k∨G.w.heap.size<=k)/\UFg w' G.w.heap.size k/\some k ∉ gs/\go≠some k) w' go ps (res x).z) ->
  ∃v G',en=.returned v/\G'.w=w'/\Sat X G'/\GLe G G'/\G'.o=((I4 d 0 (res x).r).2.1++AS G.o ps (res x).z m)++G.o/\AVR G' (I4 d 0 (res x).r).1 v:=by
 have aA:=VW H;obtain⟨_,go,aM,aD⟩:=VN S aA H (fun _ h=>h) (fun i hi=>by subst hi; exact NM aH) hA;have aU:∀k,AR G l k->k<G.w.heap.size:=by
  rintro k (h | ⟨id,aK,c⟩)
  ·exact(S.klt k h).lt
  ·obtain⟨ob,F⟩:=aA id aK;have:=S.obs id ob F;cases ob with
   | box T cs=>obtain⟨b,us,a,s,q,h4⟩:=this; rw[c] at a; cases a; exact(Vs q).lt
   | arr T fr t xs aX=>obtain⟨cs,a,s,_⟩:=this; rw[c] at a; exact(FZ a).lt
   | grd T Te fr t xs aG=>obtain⟨vs,bs,a,_⟩:=this; rw[c] at a; exact(FZ a).lt
 have aN:∀k,G.K k->go≠some k:=fun k c e=>by
  rcases aD with ⟨_,n⟩ | ⟨id,b,T',cs',_,n,ho',hγ'⟩ | ⟨_,_,_,_,_,_,_,_,_,n⟩
  ·grind
  ·rw[n] at e; cases e; exact S.imm id _ _ ho' hγ' c
  grind
 have aT:WK X.P G.w fun k=>go=some k:=S.wk.sub fun k c=>by
  rcases aD with ⟨_,n⟩ | ⟨id,b,T',cs',_,n,ho',hγ'⟩ | ⟨id,_,_,_,_,_,_,n,ho',_⟩
  ·rw[n] at c; cases c
  ·rw[n] at c; cases c; exact S.own id _ _ ho' hγ'
  ·exact S.own id _ _ ho' (n ▸ c)
 refine⟨go,⟨aU,aT⟩,aM,fun res aJ en w' aC=>?_⟩;obtain⟨v,gs,rfl,hw,hN,E,hR,aP⟩:=aC;have hc:(VV l m=true/\Fb G.o (I4 d 0 (res x).r).2.1=true)/\(De l||(Cu (res x).r&&isNone m))=true:=⟨⟨aH,aJ.1⟩,aJ.2⟩;have E:∀b,some b∈gs->G.w.heap.size<=b:=fun b f=>(E b f).resolve_right (fun h=>aI h.1);have aZ:∀id o b,b5 G.o id=some o->G.γ id=some b->b<G.w.heap.size:=fun id o b F f=>by
  have:=S.obs id o F;cases o with
  | box T cs=>obtain⟨b',us,a,s,q,h4⟩:=this; rw[f] at a; cases a; exact q.lt
  | arr T fr t xs aX=>obtain⟨cs,a,s,_⟩:=this; exact a.lt b f
  | grd T Te fr t xs aG=>obtain⟨vs,bs,a,_⟩:=this; exact a.lt b f
 -- the region that data may lead to now
 let K':Nat->Prop:=fun k=>G.K k∨(G.w.heap.size<=k/\UF w' k/\some k ∉ gs)
 have aY:l=[]->∀k,AR G l k->G.K k:=fun Y k c=>by
  subst Y;rcases c with h | ⟨id,aK,_⟩
  ·exact h
  grind
 have aF:l=[]∨(Cu (res x).r=true/\m=none):=by
  have:=hc.2;simp only[Bool.or_eq_true,ba] at this;rcases this with h | ⟨a,s⟩
  ·grind[NL]
  ·refine .inr ⟨a,?_⟩;cases m with
   | none=>rfl
   | some i=>cases s
 obtain⟨KR,aO,hR⟩:∃KR:Bool->Nat->Prop,(∀fr k,KR fr k->K' k/\(fr=true->G.B<=k))/\ResR KR w' (res x).r v gs:=by
  rcases aF with Y | ⟨aB,_⟩
  ·refine⟨_,fun fr k c=>?_,hR⟩;obtain⟨a | a,s,q⟩:=c
   ·grind
   ·exact⟨.inr ⟨a,s.2 a,q⟩,fun _=>Nat.le_trans S.le (Nat.le_trans S.size a)⟩
  ·refine⟨fun _=>JJ true (AR G l) G.w w' gs,fun fr k c=>?_,ResR.fresh (fun _ _ h=>h) aB hR⟩;obtain⟨a | a,s,q⟩:=c
   ·grind
   ·exact⟨.inr ⟨a,s.2 a,q⟩,fun _=>Nat.le_trans S.le (Nat.le_trans S.size a)⟩
 have u:(go=none/\AS G.o ps (res x).z m=[])∨∃id b T W t,∃z:c9 t,go=some b/\AS G.o ps (res x).z m=[(id,Ob.box T (F2 false t z))]/\b5 G.o id=some (.box T W)/\G.γ id=some b/\∃us,Blk w' b us T/\RT K' w' t us z:=by
  rcases aD with ⟨rfl,rfl⟩ | ⟨id,b,T,cs,rfl,rfl,F,hγ⟩ | ⟨_,_,_,_,_,_,_,_,_,e⟩
  rotate_right
  ·grind
  ·exact .inl ⟨rfl,rfl⟩
  ·obtain⟨t,z',T',aR,W,e,hB,aS,V⟩:=IOR.get aI aP aM;obtain⟨b',bA,a,s,q,h4⟩:=S.obs id _ F;rw[hγ] at a;cases a;have aV:T=T':=by
    unfold Blk at q V;rw[q] at V;simp only[oi,Obj.cells.injEq] at V;exact V.2.1
   subst aV;refine .inr ⟨id,b,T,cs,t,z',rfl,?_,F,hγ,aR,hB,RT.same (w:=w') (fun k c _=>⟨?_,rfl⟩) aS⟩
   ·grind[AS]
   ·obtain⟨a | a,s,q,h4⟩:=c
    ·grind
    ·exact .inr ⟨a,s.2 a,q⟩
 obtain⟨S1,L1⟩:=Sat.after S hw (K':=K') (fun k c=>.inl c) (by
  rintro k (h | h)
  ·exact(S.klt k h).same hw.size (hw.block k (S.klt k h).lt (aN k h))
  ·exact h.2.1.g) (by
  rintro k (h | h)
  ·exact S.kfrom k h
  ·exact .inr (Nat.le_trans S.base.2.1 (Nat.le_trans S.size h.1))) (by
  rintro id o b F f (h | h)
  ·exact S.imm id o b F f h
  grind) (by
  rintro id b f Q (h | h)
  ·exact(S.sep id b f Q).2.1 h
  ·have:=S.dlt f Q; omega) u
 have aQ:∀i o,b5 (AS G.o ps (res x).z m++G.o) i=some o->∃o',b5 G.o i=some o':=fun i o h=>by
  rcases u with ⟨_,e⟩ | ⟨id,b,T,W,t,z,_,e,F,_⟩
  ·rw[e] at h; exact⟨o,h⟩
  ·rw[e,List.cons_append,lK] at h;by_cases n:id=i
   ·subst n; exact⟨_,F⟩
   ·rw[if_neg n] at h; exact⟨o,h⟩
 have aW:∀i,I2 (b5 (AS G.o ps (res x).z m++G.o) i)=true->I2 (b5 G.o i)=true:=fun i h=>by
  rcases u with ⟨_,e⟩ | ⟨id,b,T,W,t,z,_,e,F,_⟩
  ·grind
  ·rw[e,List.cons_append,lK] at h;by_cases n:id=i
   ·rw[if_pos n] at h; cases h
   grind
 have hF:Rp X ⟨G.ρ,G.γ,K',w',AS G.o ps (res x).z m++G.o,G.B,G.δ⟩ gs:=fun b f=>by
  refine⟨Nat.le_trans S.size (E b f),?_,fun i o hi e=>?_,fun i hi Q=>?_⟩
  ·rintro(h | h)
   ·have:=(S.klt b h).lt; have:=E b f; omega
   grind
  ·grind
  ·have:=S.dlt hi (aW i Q);have:=E b f;omega
 have aB:∀y∈(I4 d 0 (res x).r).2.1,b5 (AS G.o ps (res x).z m++G.o) y.1=none:=fun y hy=>by
  grind[j0z,b5,AS]
 obtain⟨G',P,hv⟩:=i0P (K:=KR) (res x).r (d:=d) (j:=0) rfl S1 aO hR hN hF aB;refine⟨v,G',rfl,P.w,P.sat,GLe.trans L1 P.le hw.size,?_,hv⟩;rw[P.o,List.append_assoc]
theorem j0t{X:Cx}{G:Gh}(S:Sat X G){d f:Nat}{aC:List AV}{us:List Value}(hA:AVRs G aC us):∀{T:List Ct},(∀c∈T,Ok X.P c)->∀{q:Prop} {av:AV} {obs:List (Nat×Ob)} {fp:List Nat},HJ G.o d f aC T=some (q,av,obs,fp)->q ->
  CY X.P f=true/\Calls X.P f us.toArray G.w fun en w'=>∃v G',en=.returned v/\G'.w=w'/\Sat X G'/\GLe G G'/\G'.o=obs++G.o/\AVR G' av v
 | [],_,q,av,obs,fp,h,_=>by cases h
 | c :: r,hT,q,av,obs,fp,h,hq=>by
   have hr:=j0t S (d:=d) hA (T:=r) (fun c H=>hT c (by grind)) (f:=f) (q:=q) (av:=av) (obs:=obs) (fp:=fp);simp only[HJ,ce] at h;split at h
   ·rename_i Q;rw[ba] at Q;have Q:=nb Q.1;split at h
    ·rename_i x l io a;by_cases z:H2 c.ps=true
     ·rw[if_pos z] at h;unfold Rs at h;split at h
      ·rename_i id;split at h
       ·rename_i T fr t xs E' aG t' aF j aJ ho;rw[ce] at h;split at h
        ·rename_i y;rw[ba] at y;have Y:=NL y.2;subst Y;simp only[oi,pj] at h;obtain⟨rfl,rfl,rfl,_⟩:=h;obtain⟨W,E⟩:=hT c (by simp);refine⟨by grind,?_⟩;have aB:=VW a;obtain⟨_,go,F,s⟩:=VN S aB a (fun _ h=>h) (fun i hi h=>by cases h) hA;have s:go=G.γ id:=by
          rcases s with ⟨e,_⟩ | ⟨id',b,T',cs',e,_,ho',_⟩ | ⟨id',_,_,_,_,_,e,hg,_⟩
          ·cases e
          ·grind
          ·grind
         subst s;obtain⟨_,_,_,aH⟩:=S.obs id _ ho;have u:∀k,AR G [] k->k<G.w.heap.size:=by
          rintro k (h | ⟨id,aO,hk⟩)
          ·exact(S.klt k h).lt
          ·grind
         rw[<- Q];refine Calls.mono (E x hq G.w us (G.γ id) (AR G []) ⟨u,S.wk.sub fun k hk=>S.own id _ k ho hk⟩ F) ?_;rintro en w' ⟨v,gs,rfl,hw,hN,aL,hR,aM⟩;rw[aJ] at hR;obtain⟨g,cs,rfl,V,hO,aI⟩:=hR;have aA:∀b,g=some b->G.γ id=some b∨G.w.heap.size<=b:=fun b hb=>by
          grind
         have m:=S.put (id:=id) (ob:=.arr T fr t xs (j+1)) (r:=v) (g:=g) (w':=w') (go:=G.γ id) ⟨(fun T cs h=>by grind),(fun T aG t' aF aN h=>by grind),by rw[ho]; rfl⟩
          (fun b hb=>⟨⟨_,ho⟩,hb⟩) hw aA
          (fun aK=>⟨cs,by grind[Gh.put],aI.mapR (fun c x h=>RT.free y.1 h),fun b e=>by
            simp only[Gh.put,if_true] at e ⊢;rcases aA b e with h | h
            ·exact aH b h
            ·exact Nat.le_trans S.le (Nat.le_trans S.size h)⟩)
         exact⟨v,_,rfl,rfl,m.1,m.2,rfl,V,T,fr,t,xs,j+1,by rw[show(Gh.put G id (.arr T fr t xs (j+1)) v g w').o=(id,.arr T fr t xs (j+1)) :: G.o from rfl,lK]; simp,Nat.le_refl _,fun _=>by simp[Gh.put]⟩
        ·cases h
       ·cases h
      ·cases h
     rw[if_neg z] at h;split at h
     ·rename_i H;simp only[ba] at H;simp only[oi,pj] at h;obtain⟨rfl,rfl,rfl,_⟩:=h;obtain⟨W,E⟩:=hT c (by simp);refine⟨by grind,?_⟩;obtain⟨go,u,F,aD⟩:=y0w S (d:=d) hA z a H.1.1;rw[<- Q];exact Calls.mono (E x hq G.w us go (AR G l) u F) (fun en w' n=>aD c.res ⟨H.1.2,H.2⟩ en w' n)
     grind
    grind
   grind
theorem k0X{X:Cx}{G:Gh}{a:Act}{st:St}{p:Pa}{T:List Ct}(E:∀c∈T,Ok X.P c)(S:Sat X G)(F:G.o=st.o)(t:EnvR X.n G st.e a)(k:PathP p a){s:Op}{ty:TypeId}{d:Nat}{q:Prop}{r:AV}{obs:List (Nat×Ob)}{fp:List Nat}
  (h:Df T st p d s=some (q,r,obs,fp)) (V:q):Cl X G a s ty r obs:=by
 unfold Df at h;split at h
 ·rename_i x l Ts;split at h
  ·rename_i f m Q Y W;obtain⟨cs,v,y⟩:=D2 t k Y;have z:=Cp t k W;rw[<- F] at h;obtain⟨i,b⟩:=j0t S (AVRs.app y z) E h V;refine⟨f,_,fun w u j g=>?_,b⟩
   haveI:C4 X.P f:=⟨i⟩
   have H:l.map a.eval=(l.toList.map a.eval).toArray:=by grind
   simp only[execOp,resolve,H,v];simp[Deferred.ofValue,invoke,QR]
  grind
 grind
def BE(Γ:p8)(st:St)(p:Pa)(d:Nat):Op->Option (Prop×AV×List (Nat×Ob)×List Nat)
 | .load T x=>match rd st p x,b5 Γ T with
   | some (.gel id k),some ⟨_,_,_,.sl _,_⟩=>match b5 st.o id with
     | some (.grd T0 Te fr t xs none)=>bif Am st.o d then some (k<xs.length,.os d 0,[(d,.arr Te fr t (xs.getD k []) 0),(id,.grd T0 Te fr t xs (some k))],[d,id]) else none
     | _=>none
   | _,_=>none
 | .slice T x l h none=>match rd st p x,S5 st p l,S5 st p h,b5 Γ T with
   | some (.os id ver),some lo,some none,some ⟨_,_,_,.sl E,_⟩=>match b5 Γ E,b5 st.o id with
     | some te,some (.arr E' fr t xs ver')=>bif Nat.beq ver ver'&&Nat.beq te.size (sz t) then some (NK (lo.getD 0) xs.length xs.length,.os id (ver+1),[(id,.arr E' fr t (HH xs lo none) (ver+1))],[id]) else none
     | _,_=>none
   | _,_,_,_=>none
 | _=>none
def Cv(Γ:p8)(st:St)(p:Pa):Op->Option (Prop×List (Nat×Ob)×List Nat)
 | .store T x y=>match rd st p x,rd st p y,b5 Γ T with
   | some (.gel id k),some (.os d ver),some ti=>match b5 st.o id,b5 st.o d with
     | some (.grd T0 Te fr t xs (some k')),some (.arr Te' fr' t' l ver')=>match X0 (.sl t') (.sl t) l with
       | some l'=>bif Nat.beq ver ver'&&Nat.beq Te Te'&&Nat.beq ti.size 1 then some (k<xs.length/\k=k',[(id,.grd T0 Te (fr&&fr') t (xs.set k l') none),(d,.arr Te' fr' t' [] (ver+1))],[id,d]) else none
       | none=>none
     | _,_=>none
   | _,_,_=>none
 | _=>none
def Ml(X:Cx)(G:Gh)(a:Act)(op:Op)(ty:TypeId)(av:AV)(obs:List (Nat×Ob)):Prop :=
 ∃v G',(∀dst pos after g,(execOp a.eval ⟨dst,op,ty,pos,after,g⟩).run X.P G.w=.ok (.value v) G'.w)/\Sat X G'/\GLe G G'/\G'.o=obs++G.o/\AVR G' av v
def Ul(X:Cx)(G:Gh)(a:Act)(op:Op)(ty:TypeId)(obs:List (Nat×Ob)):Prop :=
 ∃G',(∀dst pos after g,(execOp a.eval ⟨dst,op,ty,pos,after,g⟩).run X.P G.w=.ok .skip G'.w)/\Sat X G'/\GLe G G'/\G'.o=obs++G.o
theorem v0g{a:Type}{l:List a}{k:Nat}(b:k<l.length)(z:a):l[k]?=some (l.getD k z):=by grind
section
variable {X:Cx} {G:Gh} {a:Act} {st:St} {Γ:p8} {p:Pa}
theorem C0m(S:Sat X G){id d k:Nat}{n Te:TypeId}{fr:Bool}{t:Ty}{xs:List (List (c9 t))}(y:b5 G.o id=some (.grd n Te fr t xs none))(hd:b5 G.o d=none)(u:k<xs.length){vs:List Value}{m:Nat->Option Nat}
  (T:Own G.w n 1 (G.γ id) (G.ρ id) xs.length vs) (f:Rows G id Te fr t xs none vs m) (V:∀b,G.γ id=some b->G.B<=b) :
  ∃G',Sat X G'/\GLe G G'/\G'.w=G.w/\G'.o=[(d,.arr Te fr t (xs.getD k []) 0),(id,.grd n Te fr t xs (some k))]++G.o/\AVR G' (.os d 0) (vs.getD k (.bool false)):=by
 have aA:¬id=d:=fun e=>by grind
 obtain⟨cs,Y,r2,r3⟩:=f.row k u (fun h=>by cases h);have q:∀b j,j<xs.length->m j=some b->(X.w0.heap.size<=b∨X.io b)/\¬G.K b/\(∀i o,b5 G.o i=some o->G.γ i≠some b)/\∀i,G.δ i b->I2 (b5 G.o i)=true->id=i:=fun b j a c=>S.sep id b ((f.blk b).2 ⟨j,a,(fun h=>by cases h),c⟩) (by rw[y]; rfl)
 have h1:=S.grd (id:=id) (T':=n) (Te':=Te) (fr':=fr) (t':=t) (xs':=xs) (hole':=some k) (D:=fun b=>∃j,j<xs.length/\j≠k/\m j=some b) (w':=G.w) (go:=none) y (fun _ e=>by cases e) (WE.refl _)
  (fun b ⟨j,a,_,c⟩=>by
    grind)
  (fun v=>⟨vs,m,T,⟨f.len,fun b=>⟨fun h=>?_,fun⟨j,a,hh,c⟩=>.inl ⟨rfl,j,a,(fun e=>hh (by rw[e])),c⟩⟩,fun j Q b a E _ _ c x=>f.inj j Q b a E (fun h=>by cases h) (fun h=>by cases h) c x,fun j a _=>f.row j a (fun h=>by cases h),f.one⟩,V⟩)
 ·obtain⟨S1,P⟩:=h1;have s:∀i,b5 (G.grd id (.grd n Te fr t xs (some k)) (fun b=>∃j,j<xs.length/\j≠k/\m j=some b) G.w).o i=if id=i then some (.grd n Te fr t xs (some k)) else b5 G.o i:=fun i=>lK _ _ _ _
  have h2:=S1.add (id:=d) (ob:=.arr Te fr t (xs.getD k []) 0) (r:=vs.getD k (.bool false)) (g:=m k) (by grind)
   (fun b c=>by
     obtain⟨s1,W,H,s4⟩:=q b k u c;refine⟨s1,W,fun i o hi=>?_,fun i hi z=>?_⟩
     ·rw[s] at hi;by_cases e:id=i
      ·subst e; exact H _ _ y
      ·rw[if_neg e] at hi; exact H i o hi
     ·rw[s] at z;rcases hi with ⟨_,j,a,l,F⟩ | ⟨hi,hib⟩
      ·exact l (f.inj j k b a u (fun h=>by cases h) (fun h=>by cases h) F c)
      ·rw[if_neg (Ne.symm hi)] at z;exact hi (s4 i hib z).symm)
   (fun v=>⟨cs,by simp only[Gh.put,if_true]; exact Y,r2,fun b e=>by simp only[Gh.put,if_true] at e ⊢; exact r3 b e⟩)
  obtain⟨S2,L2⟩:=h2;refine⟨_,S2,P.trans L2 (Nat.le_refl _),rfl,rfl,f.one _ ?_,Te,fr,t,xs.getD k [],0,by rw[show ∀G0:Gh,(Gh.put G0 d (.arr Te fr t (xs.getD k []) 0) (vs.getD k (.bool false)) (m k) G0.w).o=(d,.arr Te fr t (xs.getD k []) 0) :: G0.o from fun _=>rfl,lK]; simp,Nat.le_refl _,fun _=>by simp[Gh.put]⟩;exact List.mem_of_getElem? (v0g (by rw[f.len]; exact u) _)
 ·rcases h with ⟨_,j,a,l,c⟩ | ⟨h,_⟩
  ·exact⟨j,a,(fun e=>l (Option.some.inj e).symm),c⟩
  ·exact(h rfl).elim
theorem x0y{w:World}{E s:Nat}{g:Option Nat}{d:Option Addr}{n a:Nat}{cs:List Value}(h:Own w E s g (.slice d n a) n cs){k:Nat}(i:k<=n):∃g',(g'=none∨g'=g)/\n<=a/\Own w E s g' (.slice (if a=k then d else d.map (·.add (k*s))) (n-k) (a-k)) (n-k) (cs.drop (k*s)):=by
 have f:=h.clen;rcases h with ⟨rfl,rfl,rfl,p,e⟩ | ⟨b,o,c,cur,rfl,e,h1,h2,h3,h4,rfl⟩
 ·cases e;have:k=0:=by omega
  subst this;exact⟨none,.inl rfl,Nat.le_refl _,.inl ⟨rfl,rfl,by simp,d,by simp⟩⟩
 ·cases e;by_cases j:a=k
  ·refine⟨none,.inl rfl,h2,.inl ⟨rfl,by omega,?_,some ⟨b,o,none⟩,?_⟩⟩
   ·grind
   grind
  ·refine⟨some b,.inr rfl,h2,.inr ⟨b,o+k*s,a-k,cur,rfl,?_,h1,by omega,by omega,?_,?_⟩⟩
   ·grind[Addr.add]
   ·have:=Nat.mul_le_mul_right s (show k<=a by omega)
    grind[Nat.sub_mul]
   grind[List.drop_take,List.drop_drop,Nat.sub_mul]
theorem l0l(z:B2 X.P Γ)(S:Sat X G)(hE:EnvR X.n G st.e a)(hp:PathP p a){T E j ty id ver:Nat}{s0 y0:Nat}{z0:Value}{aF:Ty}{x:Operand}{l h:Option Operand}{lo:Option Int}{fr:Bool}{t:Ty}{xs:List (c9 t)}{V:TI}
  (hT:b5 Γ T=some ⟨s0,y0,z0,.sl E,aF⟩) (aA:b5 Γ E=some V) (W:b5 G.o id=some (.arr j fr t xs ver)) (hs:V.size=sz t) (hx:AVR G (.os id ver) (a.eval x)) (hl:S5 st p l=some lo) (hh:S5 st p h=some none) (hq:NK (lo.getD 0) xs.length xs.length) :
  Ml X G a (.slice T x l h none) ty (.os id (ver+1)) [(id,.arr j fr t (HH xs lo none) (ver+1))]:=by
 obtain⟨_,T1,aN,t1,aO,aI,g1,g2,g3⟩:=hx;rw[W] at g1;cases g1;have hu:=g3 rfl;obtain⟨cs,hO,hA,aG⟩:=S.obs id _ W;obtain⟨q,d,hv⟩:=hO.len;rw[hv] at hO hu;have hU:=(z T _ hT).2.2.2.2.2;have hI:Info X.P E V.size V.bytes V.zero:=⟨(z E _ aA).1⟩;obtain⟨aJ,f,h2,h3,h5⟩:=hI.get;have F:HH xs lo none=xs.drop (lo.getD 0).toNat:=by
  rw[v0A xs lo none hq];simp
 rw[F];have aC:h=none:=by
  rcases Rj hE hp hh with ⟨m,_⟩ | ⟨y,n,k,_,e2,_⟩
  ·exact m
  ·cases e2
 subst aC;have aB:(∃n k,l=some n/\a.eval n=.int k (lo.getD 0))∨(l=none/\lo.getD 0=0):=by
  rcases Rj hE hp hl with ⟨m,e2⟩ | ⟨y,n,k,m,e2,e3⟩
  ·grind
  ·grind
 generalize lo.getD 0=l0 at *
 obtain⟨q1,q2,q3⟩:=hq;have hk:l0.toNat<=xs.length:=by omega
 obtain⟨g',H,aH,aD⟩:=x0y hO hk;have Q:∀u s i g,(execOp a.eval ⟨u,.slice T x l none none,ty,s,i,g⟩).run X.P G.w=.ok (.value (.slice (if d=l0.toNat then q else q.map (·.add (l0.toNat*sz t))) (xs.length-l0.toNat) (d-l0.toNat))) G.w:=by
  intro u s i g;rcases aB with ⟨n1,k1,rfl,m⟩ | ⟨rfl,m⟩
  ·have r2:=run_sliceBound (P:=X.P) (w:=G.w) k1 l0 xs.length .sliceB q1 q2;simp[execOp,hu,Instr.sliceAt,Instr.slice,Instr.sliceBounds,run_underlying hU,Result.andThen,U8 G.w f,h2,hs,m,r2]
  ·simp[execOp,hu,Instr.sliceAt,Instr.slice,Instr.sliceBounds,run_underlying hU,Result.andThen,U8 G.w f,h2,hs,m]
 have h:=S.put (id:=id) (ob:=.arr j fr t (xs.drop l0.toNat) (ver+1)) (r:=.slice (if d=l0.toNat then q else q.map (·.add (l0.toNat*sz t))) (xs.length-l0.toNat) (d-l0.toNat)) (g:=g') (w':=G.w) (go:=G.γ id) ⟨(fun T cs h=>by grind),(fun T aL t' aK aM h=>by grind),by rw[W]; rfl⟩
  (fun b v=>⟨⟨_,W⟩,v⟩) (WE.refl _) (fun b v=>by
    rcases H with h | h
    ·rw[h] at v; cases v
    ·exact .inl (h ▸ v))
  (fun Y=>⟨cs.drop (l0.toNat*sz t),by simp only[Gh.put,if_true,List.length_drop]; exact aD,(AllR.takeD (fun c y hy=>RT.len hy) l0.toNat hA).2.mapR (fun c x hr=>RT.same (w:=G.w) Y.hR hr),fun b e=>by
    simp only[Gh.put,if_true] at e ⊢;rcases H with h | h
    ·rw[h] at e; cases e
    ·exact aG b (h ▸ e)⟩)
 exact⟨_,G.put id (.arr j fr t (xs.drop l0.toNat) (ver+1)) (.slice (if d=l0.toNat then q else q.map (·.add (l0.toNat*sz t))) (xs.length-l0.toNat) (d-l0.toNat)) g' G.w,Q,h.1,h.2,rfl,rfl,j,fr,t,xs.drop l0.toNat,ver+1,by rw[show(Gh.put G id (.arr j fr t (xs.drop l0.toNat) (ver+1)) _ _ _).o=(id,.arr j fr t (xs.drop l0.toNat) (ver+1)) :: G.o from rfl,lK]; simp,Nat.le_refl _,fun _=>by simp[Gh.put]⟩
theorem s0s(aA:B2 X.P Γ)(S:Sat X G)(ho:G.o=st.o)(hE:EnvR X.n G st.e a)(hp:PathP p a){op:Op}{ty:TypeId}{d:Nat}{q:Prop}{r:AV}{obs:List (Nat×Ob)}{l:List Nat}
  (h:BE Γ st p d op=some (q,r,obs,l)) (hq:q):Ml X G a op ty r obs:=by
 unfold BE at h;split at h
 ·rename_i T x;split at h
  ·rename_i id k s0 y0 z0 E aB h1 h2;split at h
   ·rename_i T0 Te fr t xs H;rw[ce] at h;split at h
    ·rename_i F;simp only[oi,pj] at h;obtain⟨rfl,rfl,rfl,_⟩:=h;rw[<- ho] at H F;have W:=D2 hE hp h1;obtain⟨_,b,o,n,c,y,W⟩:=W;obtain⟨u,bs,z,hR,hB⟩:=S.obs id _ H;have Q:G.γ id=some b:=by
      rcases z with ⟨_,hn,_⟩ | ⟨b',o',cap,cur,Q,f,_⟩
      ·omega
      ·rw[y] at f;simp only[Value.slice.injEq,oi,Addr.mk.injEq] at f;rw[Q,f.1.1]
     have j:At G.w b o u:=by rw[Q] at z; obtain⟨o0,c0,e0,j⟩:=z.at; rw[y] at e0; cases e0; exact j
     have s:=v0g (by rw[hR.len]; exact hq:k<u.length) (.bool false);have m:At G.w b (o+k) [u.getD k (.bool false)]:=by
      intro i v f;cases i with
      | zero =>
        simp only[List.getElem?_cons_zero,oi] at f;subst f;have:=j k _ s;omega
      | succ i=>grind
     obtain⟨v,aD,f⟩:=q0H (ty:=ty) (cs:=[.v (u.getD k (.bool false))]) (av:=.v (u.getD k (.bool false))) hE (aA _ _ h2) W m ⟨_,[],rfl,rfl,rfl⟩ rfl;have f:v=_:=f;subst f;obtain⟨G',S',L',hw,Y,hr⟩:=C0m S H (DZ F) hq z hR hB;exact⟨_,G',fun aG aF V g=>by grind,S',L',Y,hr⟩
    grind
   grind
  grind
 ·rename_i T x l0 h0;split at h
  ·rename_i id aH lo s0 y0 z0 E aB h1 h2 H h4;split at h
   ·rename_i te E' fr t xs aC h5 h6;rw[ce] at h;split at h
    ·rename_i F;rw[ba] at F
     grind[oi,pj,nb,l0l,D2]
    grind
   grind
  grind
 grind
theorem x0e{vs:List Value}{k j:Nat}{u z:Value}(a:k<vs.length):(u6 vs k [u]).getD j z=if j=k then u else vs.getD j z:=by
 grind[u6]
theorem D0H(bA:B2 X.P Γ)(S:Sat X G){id d k ver:Nat}{T0 Te T ty:TypeId}{fr fr':Bool}{t:Ty}{xs:List (List (c9 t))}{l:List (c9 t)}{x y:Operand}{ti:TI}(hT:b5 Γ T=some ti)(hs:ti.size=1)
  (ho:b5 G.o id=some (.grd T0 Te fr t xs (some k))) (hd:b5 G.o d=some (.arr Te fr' t l ver)) (hk:k<xs.length) (hx:AVR G (.gel id k) (a.eval x)) (hy:AVR G (.os d ver) (a.eval y)) :
  Ul X G a (.store T x y) ty [(id,.grd T0 Te (fr&&fr') t (xs.set k l) none),(d,.arr Te fr' t [] (ver+1))]:=by
 haveI:Info X.P T ti.size ti.bytes ti.zero:=⟨(bA T _ hT).1⟩
 have H:¬d=id:=fun e=>by grind
 obtain⟨_,b,o,n,c,aH,aR⟩:=hx;obtain⟨y0,T1,bH,t1,bI,bE,g1,g2,g3⟩:=hy;rw[hd] at g1;cases g1;have aZ:=g3 rfl;obtain⟨cs,aU,hA,bJ⟩:=S.obs d _ hd;have aF:Own G.w Te (sz t) (G.γ d) (a.eval y) l.length cs:=by rw[aZ]; exact aU
 -- the row lets go of its block
 have h1:=S.put (id:=d) (ob:=.arr Te fr' t [] (ver+1)) (r:=.slice none 0 0) (g:=none) (w':=G.w) (go:=none) ⟨(fun T cs h=>by grind),(fun T fr' t' xs' bK h=>by grind),by rw[hd]; rfl⟩
  (fun _ e=>by cases e) (WE.refl _) (fun _ e=>by cases e) (fun aI=>⟨[],by simp only[Gh.put,if_true]; exact Own.nil,rfl,fun b e=>by grind[Gh.put]⟩)
 generalize hG1:G.put d (.arr Te fr' t [] (ver+1)) (.slice none 0 0) none G.w=G1 at h1;obtain⟨S1,L1⟩:=h1;have aJ:G1.w=G.w:=by rw[<- hG1]; rfl
 have aY:G1.K=G.K:=by rw[<- hG1]; rfl
 have aX:G1.B=G.B:=by rw[<- hG1]; rfl
 have E:∀i,b5 G1.o i=if d=i then some (.arr Te fr' t [] (ver+1)) else b5 G.o i:=fun i=>by rw[<- hG1]; exact lK _ _ _ _
 have Q:∀i,i≠d->G1.ρ i=G.ρ i:=fun i hi=>by grind[Gh.put]
 have W:∀i,i≠d->G1.γ i=G.γ i:=fun i hi=>by rw[<- hG1]; simp only[Gh.put,if_neg hi]
 have bD:G1.γ d=none:=by rw[<- hG1]; simp only[Gh.put,if_true]
 have aK:∀i b,G1.δ i b↔i≠d/\G.δ i b:=fun i b=>by rw[<- hG1]; exact Iff.rfl
 have s:b5 G1.o id=some (.grd T0 Te fr t xs (some k)):=by rw[E,if_neg H]; exact ho
 obtain⟨vs,bs,hO,hR,hB⟩:=S1.obs id _ s;have hb:G1.γ id=some b:=by
  rcases hO with ⟨_,hn,_⟩ | ⟨f,o',cap,cur,hb,q,_⟩
  ·omega
  ·rw[Q id (Ne.symm H),aH] at q;simp only[Value.slice.injEq,oi,Addr.mk.injEq] at q;rw[hb,q.1.1]
 have aV:G.γ id=some b:=by rw[<- W id (Ne.symm H)]; exact hb
 -- the store
 have aD:=hO;rw[hb] at aD;rcases aD with ⟨h,_⟩ | ⟨f,o',cap,cur,m,hv2,k1,k2,k3,k4,k5⟩
 ·cases h
 cases m;have V:G1.ρ id=.slice (some ⟨b,o,none⟩) n c:=(Q id (Ne.symm H)).trans aH;have aT:o'=o:=by rw[V] at hv2; cases hv2; rfl
 subst aT;have bC:cur.toList.length=o'+cap:=by rw[Array.length_toList,k4,Nat.mul_one]
 have F:(a.eval y).cells.toList=[a.eval y]:=by
  have:=y0;cases q:a.eval y <;> rw[q] at this <;> first | rfl | (simp[Value.oneCell'] at this)
 have aW:Blk G.w b cur.toList T0:=by unfold Blk; rw[Array.toArray_toList]; rw[aJ] at k1; exact k1
 have aP:=JA (P:=X.P) (T:=T) (o:=o'+k) (v:=a.eval y) F (by rw[hs]; rfl) (IS (fun u hu=>by cases List.mem_singleton.1 hu; exact y0)) aW (by simp only[List.length_singleton]; omega);have hW:=QS G.w b (u6 cur.toList (o'+k) [a.eval y]).toArray;have aA:k<vs.length:=by rw[hR.len]; exact hk
 have Y:Own (G.w.setRow b (u6 cur.toList (o'+k) [a.eval y]).toArray) T0 1 (G1.γ id) (G1.ρ id) xs.length (u6 vs k [a.eval y]):=by
  rw[hb] at hO ⊢;have:=Own.set (w':=G.w.setRow b (u6 cur.toList (o'+k) [a.eval y]).toArray) (k:=k) (vs:=[a.eval y]) hO V hk rfl (fun bF aG=>by
   rw[k1] at aG;cases aG;rw[Nat.mul_one]
   grind[setRow_heap])
  rwa [Nat.mul_one] at this
 have aQ:∀f,G.γ d=some f->(X.w0.heap.size<=f∨X.io f)/\¬G.K f/\(∀i o,b5 G1.o i=some o->G1.γ i≠some f)/\∀i,G1.δ i f->I2 (b5 G1.o i)=true->False:=fun f m=>by
  refine⟨S.own d _ f hd m,S.imm d _ f hd m,fun i o hi hg=>?_,fun i hi hg=>?_⟩
  ·by_cases e:i=d
   ·grind
   ·rw[E,if_neg (Ne.symm e)] at hi;rw[W i e] at hg;exact e (S.inj i d _ _ f hi hd hg m)
  ·obtain⟨e,hi⟩:=(aK i f).1 hi;rw[E,if_neg (Ne.symm e)] at hg;exact(S.sep i f hi hg).2.2.1 d _ hd m
 have h2:=S1.grd (id:=id) (T':=T0) (Te':=Te) (fr':=fr&&fr') (t':=t) (xs':=xs.set k l) (hole':=none) (D:=fun f=>G1.δ id f∨G.γ d=some f) (w':=G.w.setRow b (u6 cur.toList (o'+k) [a.eval y]).toArray) (go:=some b) s (fun f e=>by grind) (by grind[WE.of_wr])
  (fun f m=>by
    rcases m with m | m
    ·obtain⟨s1,s2,s3,s4⟩:=S1.sep id f m (by rw[s]; rfl)
     grind
    grind)
  (fun aI=>by
    refine⟨u6 vs k [a.eval y],fun j=>if j=k then G.γ d else bs j,by rw[List.length_set]; exact Y,⟨?_,fun f=>⟨fun h=>?_,fun h=>?_⟩,fun j j' f z aM _ _ aL aC=>?_,fun j z _=>?_,fun v q=>?_⟩,hB⟩
    ·grind[List.length_set,u6,List.length_append,List.length_take,List.length_drop,List.length_singleton]
    ·have h':G1.δ id f∨G.γ d=some f:=by
      rcases h with ⟨_,h⟩ | ⟨h,_⟩
      ·exact h
      ·omega
     rcases h' with h' | h'
     ·obtain⟨j,z,bL,aB⟩:=(hR.blk f).1 h'
      grind
     ·exact⟨k,by grind,(fun h=>by cases h),by grind⟩
    ·obtain⟨j,z,_,aB⟩:=h;rw[List.length_set] at z;refine .inl ⟨rfl,?_⟩;by_cases e:j=k
     ·grind
     ·rw[if_neg e] at aB; exact .inl ((hR.blk f).2 ⟨j,z,(fun h=>e (Option.some.inj h).symm),aB⟩)
    ·rw[List.length_set] at z aM;have bG:∀i,i<xs.length->i≠k->bs i=some f->G.γ d=some f->False:=fun i hi aO bB aN=>(aQ f aN).2.2.2 id ((hR.blk f).2 ⟨i,hi,(fun h=>aO (Option.some.inj h).symm),bB⟩) (by rw[s]; rfl);by_cases e:j=k
     ·grind
     ·by_cases e':j'=k
      ·grind
      ·rw[if_neg e] at aL; rw[if_neg e'] at aC;exact hR.inj j j' f z aM (fun h=>e (Option.some.inj h).symm) (fun h=>e' (Option.some.inj h).symm) aL aC
    ·rw[List.length_set] at z;simp only[x0e aA];by_cases e:j=k
     ·subst e;simp only[if_true];have eg:(xs.set j l).getD j []=l:=by simp[z]
      rw[eg];refine⟨cs,aF.we (w':=G.w.setRow b (u6 cur.toList (o'+j) [a.eval y]).toArray) (WE.of_wr hW) (fun i hi e=>?_),hA.mapR (fun c x hr=>?_),fun f m=>show G1.B<=f from by grind⟩
      ·grind
      ·refine RT.up (RT.same (K':=rg G fr') (w:=G.w) (fun i hi hl=>⟨hi,?_⟩) hr) (fun i hi=>⟨show G1.K i from by rw[aY]; exact hi.1,fun e=>show G1.B<=i from ?_⟩)
       ·exact hW.block i (fun e=>S.imm id _ b ho aV (by rw[<- e]; exact hi.1))
       ·rw[ba] at e; rw[aX]; exact hi.2 e.2
     ·simp only[if_neg e];obtain⟨aS,r1,r2,r3⟩:=hR.row j z (fun h=>e (Option.some.inj h).symm);have eg:(xs.set k l).getD j []=xs.getD j []:=by simp[List.getElem?_set_ne (Ne.symm e)]
      rw[eg];refine⟨aS,r1.we (WE.of_wr (by rw[aJ]; exact hW)) (fun i hi e'=>?_),r2.mapR (fun c x hr=>RT.up (RT.same (w:=G1.w) aI.hR hr) (fun i hi=>⟨hi.1,fun e=>hi.2 (by grind)⟩)),r3⟩;cases hi;exact(S1.sep id b ((hR.blk b).2 ⟨j,z,(fun h=>e (Option.some.inj h).symm),e'⟩) (by rw[s]; rfl)).2.2.1 id _ s hb
    ·unfold u6 at q;rcases List.mem_append.1 q with q | q
     ·rcases List.mem_append.1 q with q | q
      ·exact hR.one v (List.mem_of_mem_take q)
      grind
     ·exact hR.one v (List.mem_of_mem_drop q))
 obtain⟨S2,L2⟩:=h2;refine⟨_,VM aR aP,S2,L1.trans L2 (by grind),?_⟩;rw[<- hG1];rfl
theorem p0n(i:B2 X.P Γ)(S:Sat X G)(H:G.o=st.o)(hE:EnvR X.n G st.e a)(w:PathP p a){c:Op}{ty:TypeId}{q:Prop}{obs:List (Nat×Ob)}{l:List Nat}
  (h:Cv Γ st p c=some (q,obs,l)) (hq:q):Ul X G a c ty obs:=by
 unfold Cv at h;split at h
 ·rename_i T x y;split at h
  ·rename_i id k d j u Y h2 h3;split at h
   ·rename_i F Q r t z v Te' g m W b E V;split at h
    ·rename_i l' s;rw[ce] at h;split at h
     ·rename_i f;simp only[ba] at f
      grind[oi,pj,nb,DU,D0H,D2]
     grind
    grind
   grind
  grind
 grind
end
def K0A:Op->Bool
 | .move _ | .assign _ | .nilCheck _ | .pick .. | .binOp .. | .unOp .. | .convert .. | .fieldAddr .. | .field .. | .load .. | .indexAddr .. | .index .. | .extract .. | .makeFunc .. | .build .. | .slice ..=>true
 | .call ⟨.builtin .len,_,_⟩ | .call ⟨.builtin .min,_,_⟩ | .call ⟨.builtin .max,_,_⟩=>true
 | _=>false
def K0C:Op->Bool
 | .alloc _ | .box .. | .makeSlice .. | .buildSlice .. | .call ⟨.builtin .append,_,_⟩=>true
 | _=>false
def K0z:Op->Bool
 | .store ..=>true
 | _=>false
def Z3(Γ:p8)(T:List Ct)(st:St)(p:Pa)(o:Oper):Option (Prop×Option AV×List (Nat×Ob)×List Nat):=match o.dst with
 | some d=>bif K0A o.op then(match I3 Γ st p o.op with
   | some (q,r,l)=>some (q,some r,[],l)
   | none=>match BE Γ st p d o.op with
     | some (q,r,obs,l)=>some (q,some r,obs,l)
     | none=>none) else bif K0C o.op then(match AQ Γ st p d o.op with
     | some (q,r,w,l)=>some (q,some r,[w],l)
     | none=>none) else match Df T st p d o.op with
       | some (q,r,obs,l)=>some (q,some r,obs,l)
       | none=>none
 | none=>bif K0z o.op then(match Cs Γ st p o.op with
   | some (q,w,l)=>some (q,none,[w],l)
   | none=>match Cv Γ st p o.op with
     | some (q,obs,l)=>some (q,none,obs,l)
     | none=>none) else match Df T st p 0 o.op with
     | some (q,_,obs,l)=>some (q,none,obs,l)
     | none=>none
def Cw(all:List Oper)(e:List (Nat×Sl))(o:Oper):Option Pa:=match o.guard with
 | none=>some []
 | some (j,b)=>match I1 all j with
   | some oj=>match oj.dst with
     | some dj=>match b5 e dj with
       | some ⟨q,.d _ .bool _⟩=>some ((dj,b) :: q)
       | _=>none
     | none=>none
   | none=>none
def Gf(e:List (Nat×Sl)):Pa->Prop
 | []=>True
 | (s,b) :: r=>(match b5 e s with
   | some ⟨q,.d _ .bool x⟩=>if QW q r=true then x=b else True
   | _=>True)/\Gf e r
def Fc(dst:Option Nat)(p:Pa)(av:Option AV)(e:List (Nat×Sl)):List (Nat×Sl):=match dst,av with
 | some d,some a=>(d,⟨p,a⟩) :: e
 | _,_=>e
def BF(P:Program)(ops:Array Oper)(Q:Exit->Act->World->Prop)(o:Oper)(K:Act->World->Prop)(a:Act)(w:World):Prop :=
 if Region.wanted o (yielded ops a.tmps) then o.wp P a w K Q else K (a.put o.dst undef) w
section
variable {X:Cx} {G:Gh} {a:Act} {st:St} {Γ:p8} {T:List Ct}
theorem q0X(d:EnvR X.n G st.e a):∀{p:Pa},PathP p a->Gf st.e p
 | [],_=>trivial
 | (s,b) :: r,h=>by
   have k:=h (s,b) (by simp);have g:PathP r a:=fun x j=>h x (by grind);refine⟨?_,q0X d g⟩;split
   ·rename_i q f x i;split
    ·rename_i c;have:=DX ((d.val s _ i).1 (g.sub c))
     grind
    grind
   grind
theorem NN{d:Nat}{v:Value}(b:d<a.tmps.size)(t:Nat):(a.put (some d) v).tmps.getD t undef=if d=t then v else a.tmps.getD t undef:=by
 unfold Act.put;by_cases h:d=t
 ·simp_all
 ·simp[h]
theorem q0j{d:Option Nat}{v:Value}:(a.put d v).tmps.size=a.tmps.size/\(a.put d v).defers=a.defers:=by
 cases d <;> simp[Act.put]
theorem m0W{d:Nat}{v:Value}(c:d<a.tmps.size){p:Pa}(h:∀x∈p,x.1≠d):PathP p (a.put (some d) v)↔PathP p a:=by
 constructor <;> intro k x b
 ·have:=k x b;rw[NN c,if_neg (Ne.symm (h x b))] at this; omega
 ·rw[NN c,if_neg (Ne.symm (h x b))]; exact k x b
theorem EnvR.put{g:Gh}{d:Nat}{v:Value}{p:Pa}{r:AV}(f:EnvR X.n g st.e a)(h:d<X.n)(j:∀x∈p,x.1≠d)(i:∀t s,b5 st.e t=some s->∀x∈s.p,x.1≠d)
  (k:(PathP p a->AVR g r v)/\(¬PathP p a->v=undef)):EnvR X.n g ((d,⟨p,r⟩) :: st.e) (a.put (some d) v):=by
 have b:d<a.tmps.size:=by rw[f.size]; exact h
 refine⟨by rw[q0j.2]; exact f.defers,by rw[q0j.1]; exact f.size,fun t s c=>?_⟩;rw[lK] at c;rw[NN b];by_cases e:d=t
 ·rw[if_pos e] at c ⊢
  grind[m0W]
 ·rw[if_neg e] at c ⊢;rw[m0W b (i t s c)];exact f.val t s c
theorem l0Z{ops:Array Oper}{all:List Oper}(g:ops=all.toArray){j b:Nat}{c:Oper}(d:I1 all j=some c)(f:c.dst=some b):yielded ops a.tmps j=match a.tmps.getD b undef with
  | .bool v=>some v
  | _=>none:=by
 subst g;rw[AO] at d;unfold yielded;have e:(all.toArray[j]?).bind (·.dst)=some b:=by simp[d,f]
 rw[e];simp only[Option.bind_some];rw[Array.getD_eq_getD_getElem?]
 grind[undef]
theorem r0P{ops:Array Oper}{all:List Oper}(z:ops=all.toArray)(v:EnvR X.n G st.e a){o:Oper}{p:Pa}(c:Cw all st.e o=some p) :
  (Region.wanted o (yielded ops a.tmps)=true/\PathP p a)∨(Region.wanted o (yielded ops a.tmps)=false/\¬PathP p a):=by
 unfold Cw at c;split at c
 ·rename_i r;simp only[oi] at c; subst c;exact .inl ⟨by grind[Region.wanted],fun x m=>by cases m⟩
 ·rename_i j b r;split at c
  ·rename_i E u;split at c
   ·rename_i l t;split at c
    ·rename_i q f x w;simp only[oi] at c; subst c;have g:=l0Z (a:=a) z u t;have k:=v.val l _ w;by_cases i:PathP q a
     ·have e:=DX (k.1 i);rw[e] at g;simp only at g;by_cases s:x=b
      ·subst s;refine .inl ⟨by grind[Region.wanted],fun y d=>?_⟩;rcases List.mem_cons.1 d with rfl | h
       ·exact e
       ·exact i y h
      ·refine .inr ⟨by grind[Region.wanted],fun h=>?_⟩;have:=h (l,b) (by simp)
       grind
     ·have e:=k.2 i;rw[e] at g;simp only[undef] at g;exact .inr ⟨by grind[Region.wanted],fun h=>i (fun y d=>h y (by grind))⟩
    grind
   grind
  grind
theorem H0q(E:B2 X.P Γ)(hT:∀c∈T,Ok X.P c){ops:Array Oper}{all:List Oper}(ha:ops=all.toArray){Q:Exit->Act->World->Prop}(S:Sat X G)(ho:G.o=st.o)(i:EnvR X.n G st.e a){o:Oper}{p:Pa}{q:Prop}{av:Option AV}{obs:List (Nat×Ob)}{fp:List Nat}
  (hp:Cw all st.e o=some p) (h:Z3 Γ T st p o=some (q,av,obs,fp)) (V:Gf st.e p->q) (hg:p=[]∨obs=[]) (hd:∀d,o.dst=some d->d<X.n/\(∀x∈p,x.1≠d)/\∀t s,b5 st.e t=some s->∀x∈s.p,x.1≠d)
  {K:Act->World->Prop} (Y:∀a' G',Sat X G'->GLe G G'->G'.o=obs++st.o->EnvR X.n G' (Fc o.dst p av st.e) a'->K a' G'.w):BF X.P ops Q o K a G.w:=by
 unfold BF;rcases r0P ha i hp with ⟨hw,k⟩ | ⟨hw,k⟩
 ·rw[if_pos hw];have V:=V (q0X i k);unfold Z3 at h;split at h
  ·rename_i d b;obtain⟨m,y,u⟩:=hd d b;rw[ce] at h;split at h
   ·split at h
    ·rename_i q' r l z;simp only[oi,pj] at h;obtain⟨rfl,rfl,rfl,_⟩:=h;obtain⟨v,g,W⟩:=s0m E S ho i k (ty:=o.type) z V;unfold Oper.wp;have:=g o.dst o.pos o.after o.guard;rw[show(execOp a.eval o).run X.P G.w=.ok (.value v) G.w from this];show K (a.put o.dst v) G.w;rw[b];refine Y _ G S (GLe.refl G) (by grind) ?_;rw[b];exact EnvR.put i m y u ⟨fun _=>W,fun h=>(h k).elim⟩
    ·split at h
     ·rename_i q' r F l z;simp only[oi,pj] at h;obtain⟨rfl,rfl,rfl,_⟩:=h;obtain⟨v,G',g,H,j,hO,W⟩:=s0s E S ho i k (ty:=o.type) z V;unfold Oper.wp;have:=g o.dst o.pos o.after o.guard;rw[show(execOp a.eval o).run X.P G.w=.ok (.value v) G'.w from this];show K (a.put o.dst v) G'.w;rw[b];refine Y _ G' H j (by grind) ?_;rw[b];exact EnvR.put (i.mono j) m y u ⟨fun _=>W,fun h=>(h k).elim⟩
     grind
   ·rw[ce] at h;split at h
    ·split at h
     ·rename_i q' r w l z;simp only[oi,pj] at h;obtain⟨rfl,rfl,rfl,_⟩:=h;obtain⟨v,G',g,H,j,hO,W⟩:=s0p E S ho i k (ty:=o.type) z V;unfold Oper.wp;have:=g o.dst o.pos o.after o.guard;rw[show(execOp a.eval o).run X.P G.w=.ok (.value v) G'.w from this];show K (a.put o.dst v) G'.w;rw[b];refine Y _ G' H j (by grind) ?_;rw[b];exact EnvR.put (i.mono j) m y u ⟨fun _=>W,fun h=>(h k).elim⟩
     grind
    ·split at h
     ·rename_i q' r F l z;simp only[oi,pj] at h;obtain⟨rfl,rfl,rfl,_⟩:=h;obtain⟨f,vs,g,hc⟩:=k0X hT S ho i k (ty:=o.type) z V;unfold Oper.wp;have:=g o.dst o.pos o.after o.guard;rw[show(execOp a.eval o).run X.P G.w=.ok (.enter f vs) G.w from this];refine Calls.mono hc ?_;rintro en w' ⟨v,G',rfl,rfl,H,j,hO,W⟩;show K (a.put o.dst v) G'.w;rw[b];refine Y _ G' H j (by grind) ?_;rw[b];exact EnvR.put (i.mono j) m y u ⟨fun _=>W,fun h=>(h k).elim⟩
     grind
  ·rename_i b;rw[ce] at h;split at h
   ·split at h
    ·rename_i q' w l z;simp only[oi,pj] at h;obtain⟨rfl,rfl,rfl,_⟩:=h;obtain⟨G',g,H,j,hO⟩:=s0k E S ho i k (ty:=o.type) z V;unfold Oper.wp;have:=g o.dst o.pos o.after o.guard;rw[show(execOp a.eval o).run X.P G.w=.ok .skip G'.w from this];show K (a.put o.dst undef) G'.w;rw[b];refine Y _ G' H j (by grind) ?_;rw[b];exact i.mono j
    ·split at h
     ·rename_i q' F l z;simp only[oi,pj] at h;obtain⟨rfl,rfl,rfl,_⟩:=h;obtain⟨G',g,H,j,hO⟩:=p0n E S ho i k (ty:=o.type) z V;unfold Oper.wp;have:=g o.dst o.pos o.after o.guard;rw[show(execOp a.eval o).run X.P G.w=.ok .skip G'.w from this];show K (a.put o.dst undef) G'.w;rw[b];refine Y _ G' H j (by grind) ?_;rw[b];exact i.mono j
     grind
   ·split at h
    ·rename_i q' r F l z;simp only[oi,pj] at h;obtain⟨rfl,rfl,rfl,_⟩:=h;obtain⟨f,vs,g,hc⟩:=k0X hT S ho i k (ty:=o.type) z V;unfold Oper.wp;have:=g o.dst o.pos o.after o.guard;rw[show(execOp a.eval o).run X.P G.w=.ok (.enter f vs) G.w from this];refine Calls.mono hc ?_;rintro en w' ⟨v,G',rfl,rfl,H,j,hO,W⟩;show K (a.put o.dst v) G'.w;rw[b];refine Y _ G' H j (by grind) ?_;rw[b];exact i.mono j
    grind
 ·rw[if_neg (by grind)];have aA:obs=[]:=by
   rcases hg with rfl | h
   ·exact(k (fun x hx=>by cases hx)).elim
   ·exact h
  subst aA;refine Y _ G S (GLe.refl G) (by grind) ?_;cases b:o.dst with
  | none=>cases av <;> exact i
  | some d =>
    obtain⟨m,y,u⟩:=hd d b;have:∃r,av=some r:=by
     unfold Z3 at h;rw[b] at h;simp only[ce] at h;split at h
     ·grind
     ·grind
    obtain⟨r,rfl⟩:=this;exact EnvR.put i m y u ⟨fun h=>(k h).elim,fun _=>rfl⟩
end
section
variable {e e':List (Nat×Sl)} {o o':List (Nat×Ob)}
theorem Dg{x:Operand}{p:Pa}(h:∀t,x=.tmp t->b5 e t=b5 e' t):rd ⟨e,o⟩ p x=rd ⟨e',o'⟩ p x:=by
 cases x with
 | tmp t=>simp only[rd,h t rfl]
 | _=>rfl
theorem HK{p:Pa}:∀{xs:List Operand},(∀t,.tmp t∈xs->b5 e t=b5 e' t)->N9 ⟨e,o⟩ p xs=N9 ⟨e',o'⟩ p xs
 | [],_=>rfl
 | x :: r,h=>by
   unfold N9;rw[Dg (o:=o) (o':=o') (p:=p) (x:=x) (fun t a=>h t (by grind)),HK (xs:=r) (fun t a=>h t (by grind))]
theorem VY{v:AV}{cs:List AV}{l:List Nat}(h:X1 o v=some (cs,l))(i:∀id∈l,b5 o id=b5 o' id):X1 o' v=some (cs,l)/\Cr o' v=Cr o v:=by
 unfold X1 at h;split at h
 ·rename_i id a;split at h
  ·rename_i T e c;simp only[oi,pj] at h;obtain⟨rfl,rfl⟩:=h
   grind[X1,Cr]
  grind
 ·rename_i id d k s a;split at h
  ·rename_i T j t g b c;rw[ce] at h;split at h
   ·rename_i f;simp only[oi,pj] at h;obtain⟨rfl,rfl⟩:=h
    grind[X1,Cr]
   grind
  grind
 ·simp only[oi,pj] at h;obtain⟨rfl,rfl⟩:=h;exact⟨rfl,rfl⟩
 grind
theorem v0e{Γ:p8}{T:TypeId}{v r:AV}{n:Int}{q:Prop}{l:List Nat}(h:JI Γ o T v n=some (q,r,l))(a:∀id∈l,b5 o id=b5 o' id):JI Γ o' T v n=some (q,r,l):=by
 unfold JI at h ⊢;split at h
 ·exact h
 ·grind
 ·exact h
 ·grind
 omega
theorem s0c{b a:(t:Ty)->List AV->Option (c9 t×List Nat×Bool)}(g:∀{t:Ty} {cs:List AV} {x:c9 t} {l:List Nat} {d:Bool},b t cs=some (x,l,d)->(∀id∈l,b5 o id=b5 o' id)->a t cs=some (x,l,d))
  {t:Ty} {c:AV} {x:c9 t} {l:List Nat} {d:Bool} (h:AM o b t c=some (x,l,d)) (q:∀id∈l,b5 o id=b5 o' id):AM o' a t c=some (x,l,d):=by
 unfold AM at h;split at h
 ·grind[AM]
 ·exact h
 ·rename_i e id j;split at h
  ·rename_i T v u r f i;rw[ce] at h;split at h
   ·rename_i m;split at h
    ·rename_i y n;simp only[oi,pj] at h;obtain⟨rfl,rfl,rfl⟩:=h
     grind[AM]
    grind
   grind
  grind
 ·rename_i e id k;split at h
  ·rename_i T cs i;split at h
   ·rename_i z s w E;simp only[oi,pj] at h;obtain⟨rfl,rfl,rfl⟩:=h
    grind[hi,AM]
   grind
  grind
 grind
theorem HL:∀(n:Nat) {t:Ty} {cs:List AV} {x:c9 t} {l:List Nat} {fl:Bool},H8 o n t cs=some (x,l,fl)->(∀id∈l,b5 o id=b5 o' id)->H8 o' n t cs=some (x,l,fl):=by
 intro n
 induction n with
 | zero=>grind[H8]
 | succ n c =>
   intro t cs x l fl h d;cases t with
   | pr a b =>
     unfold H8 at h ⊢
     grind
   | _ =>
     unfold H8 at h ⊢
     grind[s0c]
theorem k0P{v:AV}{t:Ty}{c:List (c9 t)}{a:List Nat}{b:Bool}(h:Db o v=some ⟨t,c,a,b⟩)(d:∀id∈a,b5 o id=b5 o' id):Db o' v=some ⟨t,c,a,b⟩:=by
 unfold Db at h
 grind[id,Db]
theorem Gg{d:Nat}(h:b5 o d=b5 o' d):Am o' d=Am o d:=by grind[Am]
theorem VZ:∀{ps:List q9} {as':List AV} {x:C8 ps} {l:List Nat} {io:Option Nat},S6 o ps as'=some (x,l,io)->(∀id∈l,b5 o id=b5 o' id)->(∀i,io=some i->b5 o i=b5 o' i)->S6 o' ps as'=some (x,l,io)
 | [],[],x,l,io,h,_,_=>h
 | [],_ :: _,x,l,io,h,_,_=>by grind[S6]
 | _ :: _,[],x,l,io,h,_,_=>by grind[S6]
 | p :: r,a :: as',x,l,io,h,hl,hio=>by
   simp only[S6] at h ⊢;split at h
   ·rename_i v g k b;split at h
    ·rename_i y m j V;have G:l=g++m/\((k=none/\io=j)∨(∃i,k=some i/\j=none/\io=some i)):=by
      split at h
      ·grind
      ·grind
      ·cases h
     obtain⟨rfl,c⟩:=G;have f:∀id∈g,b5 o id=b5 o' id:=fun id q=>hl id (by grind);have H:Dd o' p a=some (v,g,k):=by
      unfold Dd at b;split at b
      ·split at b
       ·rename_i d;simp only[oi,pj] at b;obtain⟨rfl,rfl,rfl⟩:=b
        grind[Dd,HL]
       grind
      ·split at b
       ·rename_i d;simp only[oi,pj] at b;obtain⟨rfl,rfl,rfl⟩:=b
        grind[Dd,HL]
       grind
      ·rw[ce] at b;split at b
       ·rename_i w;split at b
        ·rename_i d;simp only[oi,pj] at b;obtain⟨rfl,rfl,rfl⟩:=b;simp only[Dd,HL 24 d f,w,cond_true]
        grind
       grind
      ·exact b
      ·rename_i T t id _;split at b
       ·rename_i T' cs u;rw[ce] at b;split at b
        ·rename_i z;split at b
         ·rename_i F d;simp only[oi,pj] at b;obtain⟨rfl,rfl,rfl⟩:=b;rcases c with ⟨e,_⟩ | ⟨i',e,_,rfl⟩
          ·cases e
          cases e;have n:=hio id rfl;rw[u] at n;simp only[Dd,<- n,z,cond_true,HL 24 d f]
         grind
        grind
       grind
      ·rename_i E t id Q _;split at b
       ·rename_i W fr X xs s u;rw[ce] at b;split at b
        ·rename_i hb;split at b
         ·rename_i F Y;simp only[oi,pj] at b;obtain⟨rfl,rfl,rfl⟩:=b;rcases c with ⟨e,_⟩ | ⟨i',e,_,rfl⟩
          ·cases e
          cases e;have n:=hio id rfl
          grind[Dd]
         grind
        grind
       grind
      ·exact b
      ·cases b
     have P:=VZ V (fun id q=>hl id (by grind)) (fun i hi=>by
      grind)
     grind
    grind
   grind
theorem f0x:∀{l:List (Nat×Ob)},(∀x∈l,b5 o x.1=b5 o' x.1)->Fb o' l=Fb o l
 | [],_=>rfl
 | (i,b) :: r,h=>by
   simp only[Fb];rw[Gg (h (i,b) (by simp)),f0x (fun x a=>h x (by grind))]
theorem j0u{d f:Nat}{k:List AV}:∀{T:List Ct} {q:Prop} {av:AV} {obs:List (Nat×Ob)} {fp:List Nat},HJ o d f k T=some (q,av,obs,fp)->(∀id∈fp,b5 o id=b5 o' id)->HJ o' d f k T=some (q,av,obs,fp)
 | [],q,av,obs,fp,h,_=>by cases h
 | c :: r,q,av,obs,fp,h,ho=>by
   simp only[HJ,ce] at h ⊢;split at h
   ·rename_i n;rw[if_pos n];split at h
    ·rename_i x l m a;by_cases e:H2 c.ps=true
     ·rw[if_pos e] at h;unfold Rs at h;split at h
      ·rename_i id;split at h
       ·rename_i T W t X Q E V y G u g;rw[ce] at h;split at h
        ·rename_i v;simp only[oi,pj] at h;obtain⟨rfl,rfl,rfl,rfl⟩:=h;have j:=NL (ba _ _ ▸ v).2;subst j;have b:b5 o id=b5 o' id:=ho id (by simp);rw[VZ a (fun _ h=>by cases h) (fun i hi=>by grind)];simp only[e,if_true,Rs,u,<- b,g,v,cond_true]
        grind
       grind
      grind
     rw[if_neg e] at h;simp only[if_neg e];split at h
     ·rename_i w;have s:=w;simp only[oi,pj] at h;obtain⟨rfl,rfl,rfl,rfl⟩:=h;have P:∀id∈l,b5 o id=b5 o' id:=fun id H=>ho id (by grind);have b:∀i,m=some i->b5 o i=b5 o' i:=fun i hi=>ho i (by grind);rw[VZ a P b];simp only;rw[f0x (o:=o) (fun x F=>ho x.1 (List.mem_append.2 (.inl (List.mem_map_of_mem F)))),if_pos s];have:AS o' c.ps (c.res x).z m=AS o c.ps (c.res x).z m:=by
       cases m with
       | none=>rfl
       | some i=>simp only[AS,b i rfl]
      grind
     grind
    grind
   ·rename_i n;rw[if_neg n];exact j0u h ho
def B0a(xs:List Operand):List Nat:=xs.filterMap fun | .tmp t=>some t | _=>none
theorem u0M{xs:List Operand}{t:Nat}(h:.tmp t∈xs):t∈B0a xs:=List.mem_filterMap.2 ⟨_,h,rfl⟩
theorem Wa{p:Pa}{x:Option Operand}(h:∀t,x=some (.tmp t)->b5 e t=b5 e' t):S5 ⟨e,o⟩ p x=S5 ⟨e',o'⟩ p x:=by
 cases x with
 | none=>rfl
 | some y =>
   grind[S5,Dg]
theorem h0v{p:Pa}{pl:List (Nat×Nat)}:∀{ps:List (Nat×Operand)} {cs:List AV},(∀t,.tmp t∈ps.map (·.2)->b5 e t=b5 e' t)->AP ⟨e,o⟩ p pl cs ps=AP ⟨e',o'⟩ p pl cs ps
 | [],_,_=>rfl
 | (i,x) :: r,cs,h=>by
   unfold AP;rw[Dg (o:=o) (o':=o') (p:=p) (x:=x) (fun t a=>h t (by grind))];have b:=fun cs=>h0v (p:=p) (pl:=pl) (ps:=r) (cs:=cs) (fun t a=>h t (by grind))
   simp_all
theorem h0p{p:Pa}{t:Ty}:∀{ps:List (Nat×Operand)} {k:Nat} {ys:List (c9 t)×Bool},(∀s,.tmp s∈ps.map (·.2)->b5 e s=b5 e' s)->DY ⟨e,o⟩ p t k ps=some ys->DY ⟨e',o'⟩ p t k ps=some ys
 | [],_,_,_,h=>h
 | (i,x) :: r,k,ys,hs,h=>by
   unfold DY at h ⊢;rw[ce] at h ⊢;split at h
   ·rename_i hi;rw[if_pos hi];rw[<- Dg (o:=o) (o':=o') (p:=p) (x:=x) (fun t n=>hs t (by grind))];split at h
    ·rename_i v j;split at h
     ·rename_i l m;simp only;split at h
      ·rename_i y f b;rw[HL 24 b (fun _ h=>by cases h)];simp only;split at h
       ·rename_i d g a;rw[h0p (fun s c=>hs s (by grind)) a];exact h
       grind
      grind
     omega
    omega
   grind
theorem s0n{Γ:p8}{p:Pa}{d:Op}{q:Prop}{r:AV}{l:List Nat}(g:∀t,.tmp t∈d.operands.toList->b5 e t=b5 e' t)(h:I3 Γ ⟨e,o⟩ p d=some (q,r,l))(m:∀id∈l,b5 o id=b5 o' id):I3 Γ ⟨e',o'⟩ p d=some (q,r,l):=by
 have R:∀(p:Pa) (x:Operand),x∈d.operands.toList->rd ⟨e',o'⟩ p x=rd ⟨e,o⟩ p x:=fun p x H=>(Dg (fun t j=>g t (by grind))).symm;unfold I3 at h;split at h
 ·grind[I3,Op.operands]
 ·grind[I3,Op.operands]
 ·rename_i x;simp only[I3,R _ x (by simp[Op.operands])];split at h
  ·grind[oi,pj,VY]
  omega
 ·grind[I3,Op.operands]
 ·grind[I3,Op.operands]
 ·grind[I3,Op.operands]
 ·grind[I3,Op.operands]
 ·rename_i x;simp only[I3,R _ x (by simp[Op.operands])]
  grind
 ·rename_i x f;simp only[I3,R _ x (by simp[Op.operands])];split at h
  ·rename_i v Q V z b n y F;split at h
   ·rename_i w P c W k u;split at h
    ·rename_i G s;simp only[oi,pj] at h;obtain⟨rfl,rfl,rfl⟩:=h;simp only[k,(VY u m).1,s]
    grind
   grind
  omega
 ·rename_i x;simp only[I3,R _ x (by simp[Op.operands])];split at h
  ·grind[oi,pj,VY]
  omega
 ·grind[I3,Op.operands,v0e]
 ·grind[I3,Op.operands]
 ·grind[I3,Op.operands]
 ·grind[I3,Op.operands]
 ·grind[N9,HK,Op.operands,I3]
 ·rename_i T a;have:∀b c,AP ⟨e',o'⟩ p b c a.toList=AP ⟨e,o⟩ p b c a.toList:=fun b c=>(h0v (fun t j=>g t (by grind[Op.operands]))).symm
  grind[I3]
 ·grind[S5,Wa,Op.operands,I3]
 ·rename_i i E;have:N9 ⟨e',o'⟩ p i.toList=N9 ⟨e,o⟩ p i.toList:=(HK (fun t j=>g t (by grind[Op.operands,Call.operands]))).symm;simp only[I3,this]
  grind
 ·grind[N9,HK,Op.operands,Call.operands,I3]
 ·grind[N9,HK,Op.operands,Call.operands,I3]
 grind
end
section
variable {e e':List (Nat×Sl)} {o o':List (Nat×Ob)}
theorem s0q{Γ:p8}{p:Pa}{d:Nat}{f:Op}{q:Prop}{r:AV}{w:Nat×Ob}{l:List Nat}(i:∀t,.tmp t∈f.operands.toList->b5 e t=b5 e' t)(h:AQ Γ ⟨e,o⟩ p d f=some (q,r,w,l))(c:∀id∈l,b5 o id=b5 o' id):AQ Γ ⟨e',o'⟩ p d f=some (q,r,w,l):=by
 have R:∀(x:Operand),x∈f.operands.toList->rd ⟨e',o'⟩ p x=rd ⟨e,o⟩ p x:=fun x X=>(Dg (fun t Q=>i t (by grind))).symm;unfold AQ at h;split at h
 ·simp only[AQ];split at h
  ·split at h
   ·rw[ce] at h ⊢;split at h
    ·rename_i a;have b:=h;simp only[oi,pj] at h;obtain⟨_,_,_,rfl⟩:=h;rw[Gg (c d (by simp)),if_pos a]; exact b
    grind
   omega
  omega
 ·rename_i T x;simp only[AQ,R x (by simp[Op.operands])];split at h
  ·split at h
   ·rw[ce] at h ⊢;split at h
    ·rename_i a;have b:=h;simp only[oi,pj] at h;obtain⟨_,_,_,rfl⟩:=h;rw[Gg (c d (by simp)),if_pos a]; exact b
    grind
   omega
  omega
 ·rename_i T x y;simp only[AQ,R x (by simp[Op.operands]),R y (by simp[Op.operands])];split at h
  ·split at h
   ·split at h
    ·rw[ce] at h ⊢;split at h
     ·rename_i a;have b:=h;simp only[oi,pj] at h;obtain⟨_,_,_,rfl⟩:=h;rw[Gg (c d (by simp)),if_pos a]; exact b
     grind
    ·split at h
     ·split at h
      ·rename_i P;rw[HL 24 P (fun _ h=>by cases h)];simp only;rw[ce] at h ⊢;split at h
       ·rename_i a;have b:=h;simp only[oi,pj] at h;obtain⟨_,_,_,rfl⟩:=h;rw[Gg (c d (by simp)),if_pos a]; exact b
       grind
      grind
     omega
   omega
  omega
 ·rename_i T n g;simp only[AQ];split at h
  ·split at h
   ·split at h
    ·rename_i j F;rw[h0p (e':=e') (o':=o') (fun s H=>i s (by grind[Op.operands])) F];simp only;rw[ce] at h ⊢;split at h
     ·rename_i a;have b:=h;simp only[oi,pj] at h;obtain⟨_,_,_,rfl⟩:=h;rw[Gg (c d (by simp)),if_pos a]; exact b
     grind
    grind
   omega
  omega
 ·rename_i j V;have:N9 ⟨e',o'⟩ p j.toList=N9 ⟨e,o⟩ p j.toList:=(HK (fun t Q=>i t (by grind[Op.operands,Call.operands]))).symm;simp only[AQ,this];split at h
  ·split at h
   ·rename_i E z k;split at h
    ·rename_i u W;rw[ce] at h;split at h
     ·rename_i a;have b:=h;simp only[oi,pj] at h;obtain⟨_,_,_,rfl⟩:=h;have G:=c _ List.mem_cons_self;simp only at z;rw[z] at G;have v:=k0P (o':=o') k (fun id m=>c id (by grind))
      grind
     grind
    grind
   grind
  ·split at h
   ·rename_i E k;split at h
    ·rename_i u;rw[ce] at h;split at h
     ·rename_i a;have b:=h;simp only[oi,pj] at h;obtain⟨_,_,_,rfl⟩:=h;have v:=k0P (o':=o') k (fun id m=>c id (by grind));simp only[E,v,u,Gg (c d (by simp))]
      grind
     grind
    grind
   grind
  omega
 grind
theorem s0l{Γ:p8}{p:Pa}{a:Op}{q:Prop}{w:Nat×Ob}{l:List Nat}(k:∀t,.tmp t∈a.operands.toList->b5 e t=b5 e' t)(h:Cs Γ ⟨e,o⟩ p a=some (q,w,l))(d:∀id∈l,b5 o id=b5 o' id):Cs Γ ⟨e',o'⟩ p a=some (q,w,l):=by
 have R:∀(x:Operand),x∈a.operands.toList->rd ⟨e',o'⟩ p x=rd ⟨e,o⟩ p x:=fun x m=>(Dg (fun t n=>k t (by grind))).symm;unfold Cs at h;split at h
 ·rename_i T x y;simp only[Cs,R x (by simp[Op.operands]),R y (by simp[Op.operands])];split at h
  ·grind
  ·split at h
   ·rename_i c j;split at h
    ·rename_i g;rw[ce] at h;split at h
     ·rename_i f;have i:=h;simp only[oi,pj] at h;obtain⟨_,_,rfl⟩:=h;have b:=d _ (List.mem_singleton.2 rfl);simp only at c;rw[c] at b;simp only[<- b,j,HL (o':=o') 24 g (fun _ h=>by cases h),f,cond_true]; exact i
     grind
    grind
   grind
  omega
 grind
theorem k0Y{T:List Ct}{p:Pa}{d:Nat}{a:Op}{q:Prop}{r:AV}{obs:List (Nat×Ob)}{fp:List Nat}(b:∀t,.tmp t∈a.operands.toList->b5 e t=b5 e' t)(h:Df T ⟨e,o⟩ p d a=some (q,r,obs,fp))(c:∀id∈fp,b5 o id=b5 o' id):Df T ⟨e',o'⟩ p d a=some (q,r,obs,fp):=by
 unfold Df at h
 grind[N9,HK,Op.operands,Call.operands,rd,Dg,Df,j0u]
theorem I0b{Γ:p8}{st:St}{p:Pa}{d:Nat}{a:Op}{r:Prop×AV×List (Nat×Ob)×List Nat}(h:BE Γ st p d a=some r):I3 Γ st p a=none:=by
 unfold BE at h
 grind[I3,X1]
theorem D0M{Γ:p8}{st:St}{p:Pa}{a:Op}{r:Prop×List (Nat×Ob)×List Nat}(h:Cv Γ st p a=some r):Cs Γ st p a=none:=by
 unfold Cv at h
 grind[Cs]
theorem s0t{Γ:p8}{p:Pa}{d:Nat}{a:Op}{q:Prop}{r:AV}{obs:List (Nat×Ob)}{l:List Nat}(b:∀t,.tmp t∈a.operands.toList->b5 e t=b5 e' t)(h:BE Γ ⟨e,o⟩ p d a=some (q,r,obs,l))(f:∀id∈l,b5 o id=b5 o' id):BE Γ ⟨e',o'⟩ p d a=some (q,r,obs,l):=by
 have R:∀(x:Operand),x∈a.operands.toList->rd ⟨e',o'⟩ p x=rd ⟨e,o⟩ p x:=fun x u=>(Dg (fun t j=>b t (by grind))).symm;unfold BE at h;split at h
 ·rename_i T x;simp only[BE,R x (by simp[Op.operands])];split at h
  ·rename_i w v;split at h
   ·rename_i k;rw[ce] at h;split at h
    ·rename_i g;have s:=h;simp only[oi,pj] at h;obtain⟨_,_,_,rfl⟩:=h;have c:=f _ (List.mem_cons_of_mem _ (List.mem_singleton.2 rfl));simp only at k;rw[k] at c;simp only at g;simp only[<- c,Gg (f d (by simp)),g,cond_true];exact s
    grind
   grind
  omega
 ·rename_i T x l i;have m:S5 ⟨e',o'⟩ p l=S5 ⟨e,o⟩ p l:=(Wa (fun t j=>b t (by grind[Op.operands]))).symm;have n:S5 ⟨e',o'⟩ p i=S5 ⟨e,o⟩ p i:=(Wa (fun t j=>b t (by grind[Op.operands]))).symm;simp only[BE,R x (by simp[Op.operands]),m,n]
  grind
 grind
theorem p0o{Γ:p8}{p:Pa}{a:Op}{q:Prop}{obs:List (Nat×Ob)}{l:List Nat}(b:∀t,.tmp t∈a.operands.toList->b5 e t=b5 e' t)(h:Cv Γ ⟨e,o⟩ p a=some (q,obs,l))(d:∀id∈l,b5 o id=b5 o' id):Cv Γ ⟨e',o'⟩ p a=some (q,obs,l):=by
 have R:∀(x:Operand),x∈a.operands.toList->rd ⟨e',o'⟩ p x=rd ⟨e,o⟩ p x:=fun x c=>(Dg (fun t f=>b t (by grind))).symm;unfold Cv at h;split at h
 ·rename_i T x y;simp only[Cv,R x (by simp[Op.operands]),R y (by simp[Op.operands])];split at h
  ·grind
  omega
 grind
theorem s0o{Γ:p8}{T:List Ct}{p:Pa}{x:Oper}{q:Prop}{av:Option AV}{obs:List (Nat×Ob)}{fp:List Nat}(b:∀t,.tmp t∈x.op.operands.toList->b5 e t=b5 e' t)(h:Z3 Γ T ⟨e,o⟩ p x=some (q,av,obs,fp))(c:∀id∈fp,b5 o id=b5 o' id) :
  Z3 Γ T ⟨e',o'⟩ p x=some (q,av,obs,fp):=by
 unfold Z3 at h ⊢;split at h
 ·rw[ce] at h ⊢;split at h
  ·rename_i a;rw[if_pos a]
   grind[oi,pj,s0n,s0t,I0b]
  ·rename_i a;rw[if_neg a];rw[ce] at h ⊢;split at h
   ·rename_i a;rw[if_pos a]
    grind[oi,pj,s0q]
   ·rename_i a;rw[if_neg a]
    grind[oi,pj,k0Y]
 ·rw[ce] at h ⊢;split at h
  ·rename_i a;rw[if_pos a]
   grind[oi,pj,s0l,p0o,D0M]
  ·rename_i a;rw[if_neg a]
   grind[oi,pj,k0Y]
end
structure B5 where
 o:Oper
 p:Pa
 av:Option AV
 obs:List (Nat×Ob)
 fp:List Nat
def Rt(e:List (Nat×Sl))(p:Pa)(q:Prop):Prop:=match p with
 | []=>q
 | x :: r=>Gf e (x :: r)->q
def HM(Γ:p8)(T:List Ct)(all:List Oper):List Oper->St->List B5->(St->List B5->Prop)->Prop
 | [],st,rs,K=>K st rs
 | o :: r,st,rs,K=>match Cw all st.e o with
   | some p=>match Z3 Γ T st p o with
     | some (q,av,obs,fp)=>bif De p||De obs then(Rt st.e p q/\HM Γ T all r ⟨Fc o.dst p av st.e,obs++st.o⟩ (⟨o,p,av,obs,fp⟩ :: rs) K) else False
     | none=>False
   | none=>False
def S7(n:Nat):Nat->List Nat->List Oper->Bool
 | _,_,[]=>true
 | i,seen,o :: r=>(match o.dst with
   | some d=>Nat.blt d n&&HI d seen
   | none=>true)&&(match o.guard with
   | some (j,_)=>Nat.blt j i
   | none=>true)&&S7 n (i+1) (match o.dst with
   | some d=>d :: seen
   | none=>seen) r
def H3(st:St)(R:B5):St:=⟨Fc R.o.dst R.p R.av st.e,R.obs++st.o⟩
def JN(Γ:p8)(T:List Ct)(all:List Oper):St->List B5->Prop
 | _,[]=>True
 | st,R :: r=>Cw all st.e R.o=some R.p/\(∃q,Z3 Γ T st R.p R.o=some (q,R.av,R.obs,R.fp)/\(Gf st.e R.p->q))/\(R.p=[]∨R.obs=[])/\JN Γ T all (H3 st R) r
theorem NO{Γ:p8}{T:List Ct}{all:List Oper}{K:St->List B5->Prop}:∀{ops:List Oper} {st:St} {rs:List B5},HM Γ T all ops st rs K->∃recs:List B5,recs.map (·.o)=ops/\JN Γ T all st recs/\K (recs.foldl H3 st) (recs.reverse++rs)
 | [],st,rs,h=>⟨[],rfl,trivial,h⟩
 | o :: r,st,rs,h=>by
   unfold HM at h;split at h
   ·rename_i p c;split at h
    ·rename_i q i a d e;rw[ce] at h;split at h
     ·rename_i j;obtain⟨b,k⟩:=h;obtain⟨recs,m,l,g⟩:=NO k;refine⟨⟨o,p,i,a,d⟩ :: recs,by grind,⟨c,⟨q,e,?_⟩,?_,l⟩,by simp only[List.foldl_cons,List.reverse_cons,List.append_assoc,List.singleton_append]; exact g⟩
      ·intro f;cases p with
       | nil=>exact b
       | cons x r=>exact b f
      ·rw[Bool.or_eq_true] at j
       grind[NL]
     grind
    grind
   grind
theorem n0b{a:Type}{l:List a}{j:Nat}{x:a}(h:I1 l j=some x):l[j]?=some x:=by grind[AO]
section
variable {X:Cx} {Γ:p8} {T:List Ct}
theorem Ru(u:B2 X.P Γ)(hT:∀c∈T,Ok X.P c){ops:Array Oper}{all:List Oper}(ha:ops=all.toArray){Q:Exit->Act->World->Prop}{rest:List Oper}:∀(recs:List B5) (i:Nat) (seen:List Nat) (st:St) (G:Gh) (a:Act),(∀j,j<recs.length->recs[j]?.map (·.o)=all[i+j]?)->S7 X.n i seen (recs.map (·.o))=true ->
  (∀j oj dj,j<i->all[j]?=some oj->oj.dst=some dj->dj∈seen)->(∀t s,b5 st.e t=some s->∀x∈s.p,x.1∈seen)->JN Γ T all st recs->Sat X G->G.o=st.o->EnvR X.n G st.e a ->
  (∀G' a',Sat X G'->G'.o=(recs.foldl H3 st).o->EnvR X.n G' (recs.foldl H3 st).e a'->wpList X.P ops Q rest a' G'.w)->wpList X.P ops Q (recs.map (·.o)++rest) a G.w
 | [],i,seen,st,G,a,_,_,_,_,_,S,ho,hE,hK=>hK G a S ho hE
 | R :: r,i,seen,st,G,a,hall,hreg,hseen,hpath,⟨hp,⟨q,hab,hq⟩,hg,hrun⟩,S,ho,hE,hK=>by
   simp only[List.map_cons,S7,ba] at hreg;obtain⟨⟨g,l⟩,F⟩:=hreg;have f:∀d,R.o.dst=some d->d<X.n/\d ∉ seen:=fun d k=>by
    rw[k] at g;simp only[ba] at g;exact⟨by simp_all,NM g.2⟩
   have H:∀x∈R.p,x.1∈seen:=by
    unfold Cw at hp;split at hp
    ·grind
    ·rename_i j b z;rw[z] at l;have m:j<i:=by simpa using l
     split at hp
     ·rename_i oj hj;split at hp
      ·rename_i dj aB;split at hp
       ·rename_i q' f' x' hs;simp only[oi] at hp; rw[<- hp];intro y V;rcases List.mem_cons.1 V with rfl | V
        ·grind[n0b]
        ·exact hpath dj _ hs y V
       grind
      grind
     grind
   have k:∀d,R.o.dst=some d->d<X.n/\(∀x∈R.p,x.1≠d)/\∀t s,b5 st.e t=some s->∀x∈s.p,x.1≠d:=fun d k=>⟨(f d k).1,fun x v e=>(f d k).2 (e ▸ H x v),fun t s Y x v e=>(f d k).2 (e ▸ hpath t s Y x v)⟩
   have aA:=H0q (K:=wpList X.P ops Q (r.map (·.o)++rest)) u hT ha (Q:=Q) S ho hE hp hab hq hg k (fun a' G' S' _ E W=>by
    refine Ru u hT ha r (i+1) _ (H3 st R) G' a' (fun j hj=>?_) F ?_ ?_ hrun S' E W hK
    ·have:=hall (j+1) (by grind);simp only[List.getElem?_cons_succ] at this;rw[this]; congr 1; omega
    ·intro j oj dj hj h1 h2;rcases Nat.lt_or_ge j i with h | h
     ·grind
     ·have m:j=i:=by omega
      subst m;have h0:=hall 0 (by simp)
      grind
    ·intro t s Y x v;have aC:x.1∈seen->x.1∈(match R.o.dst with | some d=>d :: seen | none=>seen):=fun h=>by
      grind
     simp only[H3,Fc] at Y
     grind[lK])
   grind[wpList,BF]
theorem C0y(l:B2 X.P Γ)(r:∀c∈T,Ok X.P c){ops:Array Oper}{all:List Oper}(v:ops=all.toArray){Q:Exit->Act->World->Prop}(recs:List B5)(i:Nat)(b:List Nat)(st:St)(G:Gh)(a:Act)(k:∀j,recs[j]?.map (·.o)=all[i+j]?)(h:S7 X.n i b (recs.map (·.o))=true)
  (d:∀j oj dj,j<i->all[j]?=some oj->oj.dst=some dj->dj∈b) (f:∀t s,b5 st.e t=some s->∀x∈s.p,x.1∈b) (g:JN Γ T all st recs) (S:Sat X G) (q:G.o=st.o) (u:EnvR X.n G st.e a)
  (m:∀G' a',Sat X G'->G'.o=(recs.foldl H3 st).o->EnvR X.n G' (recs.foldl H3 st).e a'->Q .normal a' G'.w):wpList X.P ops Q (recs.map (·.o)) a G.w:=by
 have:=Ru (rest:=[]) l r v recs i b st G a (fun j _=>k j) h d f g S q u m
 rwa [List.append_nil] at this
end
def C9(D:Nat->Bool):Nat->List B5->St->St
 | _,[],st=>st
 | i,R :: r,st=>C9 D (i+1) r (if D i=true then H3 st R else st)
def Gi(R:B5)(t:Nat):Prop:=R.o.dst=some t
def HN(R:B5)(id:Nat):Prop:=∃x∈R.obs,x.1=id
theorem Wb(st:St)(R:B5)(t:Nat)(h:¬Gi R t):b5 (H3 st R).e t=b5 st.e t:=by
 simp only[H3,Fc];split
 ·rename_i d a b _;rw[lK,if_neg (fun e=>h (by rw[<- e]; exact b))]
 ·rfl
theorem Wc(st:St)(R:B5)(id:Nat)(h:¬HN R id):b5 (H3 st R).o id=b5 st.o id:=by
 simp only[H3];exact VP (fun x a e=>h ⟨x,a,e⟩)
theorem m0H{st st':St}{R:B5}{t:Nat}(h:b5 st.e t=b5 st'.e t):b5 (H3 st R).e t=b5 (H3 st' R).e t:=by
 simp only[H3,Fc]
 grind[lK]
theorem x0K{b:Type}{l m a:List (Nat×b)}{i:Nat}(h:b5 m i=b5 a i):b5 (l++m) i=b5 (l++a) i:=by
 induction l with
 | nil=>exact h
 | cons x r c =>
   grind[lK]
theorem m0G{st st':St}{R:B5}{id:Nat}(h:b5 st.o id=b5 st'.o id):b5 (H3 st R).o id=b5 (H3 st' R).o id:=x0K h
theorem Wd{D b:Nat->Bool}{t:Nat}:∀{recs:List B5} {i:Nat} {st st':St},(∀j R,recs[j]?=some R->Gi R t->D (i+j)=b (i+j))->b5 st.e t=b5 st'.e t->b5 (C9 D i recs st).e t=b5 (C9 b i recs st').e t
 | [],_,_,_,_,h=>h
 | R :: r,i,st,st',hD,h=>by
   simp only[C9];refine Wd (fun j c d a=>by have:=hD (j+1) c (by grind) a; rwa [show i+(j+1)=i+1+j by omega] at this) ?_;by_cases a:Gi R t
   ·have:=hD 0 R rfl a;simp only[Nat.add_zero] at this
    grind[m0H]
   grind[Wb]
theorem We{D b:Nat->Bool}{id:Nat}:∀{recs:List B5} {i:Nat} {st st':St},(∀j R,recs[j]?=some R->HN R id->D (i+j)=b (i+j))->b5 st.o id=b5 st'.o id->b5 (C9 D i recs st).o id=b5 (C9 b i recs st').o id
 | [],_,_,_,_,h=>h
 | R :: r,i,st,st',hD,h=>by
   simp only[C9];refine We (fun j c d a=>by have:=hD (j+1) c (by grind) a; rwa [show i+(j+1)=i+1+j by omega] at this) ?_;by_cases a:HN R id
   ·have:=hD 0 R rfl a;simp only[Nat.add_zero] at this
    grind[m0G]
   grind[Wc]
theorem m0J{D:Nat->Bool}{t:Nat}{R:B5}:∀{recs:List B5} {i j:Nat} {st st':St},recs[j]?=some R->Gi R t->R.av≠none->D (i+j)=true->(∀k R',j<k->recs[k]?=some R'->Gi R' t->D (i+k)=false)->b5 (C9 D i recs st).e t=b5 (H3 st' R).e t
 | R0 :: r,i,0,st,st',hj,hw,hav,hD,hl=>by
   simp only[List.getElem?_cons_zero,oi] at hj; subst hj;simp only[Nat.add_zero] at hD;simp only[C9,hD,if_true];have f:b5 (C9 D (i+1) r (H3 st R0)).e t=b5 (H3 st R0).e t:=by
    have:∀{recs:List B5} {i:Nat} {st:St},(∀k R',recs[k]?=some R'->Gi R' t->D (i+k)=false)->b5 (C9 D i recs st).e t=b5 st.e t:=by
     intro recs
     induction recs with
     | nil=>intro i st _; rfl
     | cons d m l =>
       intro i st h;simp only[C9];rw[l (fun k R' c b=>by have:=h (k+1) R' (by grind) b; rwa [show i+(k+1)=i+1+k by omega] at this)];split
       ·rename_i g;refine Wb st d t (fun b=>?_);have:=h 0 d rfl b
        grind
       ·rfl
    exact this (fun k R' c b=>by have:=hl (k+1) R' (by omega) (by grind) b; rwa [show i+(k+1)=i+1+k by omega] at this)
   rw[f];unfold Gi at hw;simp only[H3,Fc,hw];cases h:R0.av with
   | none=>grind
   | some a=>simp only[lK,if_true]
 | R0 :: r,i,j+1,st,st',hj,hw,hav,hD,hl=>by
   simp only[C9];exact m0J (j:=j) (by grind) hw hav (by grind) (fun k R' n c b=>by have:=hl (k+1) R' (by omega) (by grind) b; rwa [show i+(k+1)=i+1+k by omega] at this)
theorem o0L{b:Type}{l m a:List (Nat×b)}{i:Nat}(h:∃x∈l,x.1=i):b5 (l++m) i=b5 (l++a) i:=by
 induction l with
 | nil=>grind
 | cons x r c =>
   obtain⟨d,v⟩:=x;rw[List.cons_append,List.cons_append,lK,lK]
   grind
theorem m0I{D:Nat->Bool}{id:Nat}{R:B5}:∀{recs:List B5} {i j:Nat} {st st':St},recs[j]?=some R->HN R id->D (i+j)=true->(∀k R',j<k->recs[k]?=some R'->HN R' id->D (i+k)=false)->b5 (C9 D i recs st).o id=b5 (H3 st' R).o id
 | R0 :: r,i,0,st,st',hj,hw,hD,hl=>by
   simp only[List.getElem?_cons_zero,oi] at hj; subst hj;simp only[Nat.add_zero] at hD;simp only[C9,hD,if_true];have d:b5 (C9 D (i+1) r (H3 st R0)).o id=b5 (H3 st R0).o id:=by
    have:∀{recs:List B5} {i:Nat} {st:St},(∀k R',recs[k]?=some R'->HN R' id->D (i+k)=false)->b5 (C9 D i recs st).o id=b5 st.o id:=by
     intro recs
     induction recs with
     | nil=>intro i st _; rfl
     | cons c g f =>
       intro i st h;simp only[C9];rw[f (fun k R' b a=>by have:=h (k+1) R' (by grind) a; rwa [show i+(k+1)=i+1+k by omega] at this)];split
       ·rename_i e;refine Wc st c id (fun a=>?_);have:=h 0 c rfl a
        grind
       ·rfl
    exact this (fun k R' b a=>by have:=hl (k+1) R' (by omega) (by grind) a; rwa [show i+(k+1)=i+1+k by omega] at this)
   rw[d];exact o0L hw
 | R0 :: r,i,j+1,st,st',hj,hw,hD,hl=>by
   simp only[C9];exact m0I (j:=j) (by grind) hw (by grind) (fun k R' l b a=>by have:=hl (k+1) R' (by omega) (by grind) a; rwa [show i+(k+1)=i+1+k by omega] at this)
theorem t0T{D:Nat->Bool}:∀{recs:List B5} {i:Nat} {st:St},(∀j,j<recs.length->D (i+j)=true)->C9 D i recs st=recs.foldl H3 st
 | [],_,_,_=>rfl
 | R :: r,i,st,h=>by
   have a:=h 0 (by simp);simp only[Nat.add_zero] at a;simp only[C9,a,if_true,List.foldl_cons];exact t0T (fun j b=>by have:=h (j+1) (by grind); rwa [show i+(j+1)=i+1+j by omega] at this)
theorem B0e{Γ:p8}{T:List Ct}{all:List Oper}:∀{recs:List B5} {i:Nat} {st:St} {j:Nat} {R:B5},JN Γ T all st recs->recs[j]?=some R ->
  ∃sj,sj=C9 (fun k=>decide (k<i+j)) i recs st/\Cw all sj.e R.o=some R.p/\(∃q,Z3 Γ T sj R.p R.o=some (q,R.av,R.obs,R.fp)/\(Gf sj.e R.p->q))/\(R.p=[]∨R.obs=[])
 | [],_,_,j,_,_,h=>by grind
 | R0 :: r,i,st,0,R,⟨h1,h2,h3,h4⟩,h=>by
   simp only[List.getElem?_cons_zero,oi] at h; subst h;have:∀{recs:List B5} {i j:Nat} {st:St},i<=j->C9 (fun k=>decide (k<i)) j recs st=st:=by
    intro recs
    induction recs with
    | nil=>intro i j st _; rfl
    | cons R r a =>
      intro i j st b;simp only[C9];rw[if_neg (by grind)];exact a (by omega)
   simp_all
 | R0 :: r,i,st,j+1,R,⟨h1,h2,h3,h4⟩,h=>by
   obtain⟨sj,e,d,f,c⟩:=B0e (i:=i+1) (j:=j) h4 (by simpa using h)
   grind[C9]
def Cy(o:Oper):List Nat:=o.after.toList.filterMap fun e=>bif Region.binds .any e then some e.on else none
def Gj:Nat->List Oper->Bool
 | _,[]=>true
 | i,o :: r=>(Cy o).all (fun k=>Nat.blt k i)&&Gj (i+1) r
def An:List (List Nat)->List Oper->List (List Nat)
 | acc,[]=>acc
 | acc,o :: r=>An (acc++[Cy o++(Cy o).flatMap fun k=>(I1 acc k).getD []]) r
def X2(x:Nat):List Nat->Bool
 | []=>false
 | y :: r=>Nat.beq x y||X2 x r
theorem Fe{x:Nat}:∀{l:List Nat},X2 x l=true↔x∈l
 | []=>by simp[X2]
 | y :: r=>by
   simp only[X2,Bool.or_eq_true,List.mem_cons,Fe (l:=r)]
   simp_all
theorem Rv{o:Oper}{k:Nat}:k∈Cy o↔∃e∈o.after,Region.binds .any e=true/\e.on=k:=by
 unfold Cy
 grind
def Wf(D:Nat->Bool)(all:List Oper):Prop:=∀i o,all[i]?=some o->D i=true->∀k∈Cy o,D k=true
theorem n0L{all:List Oper}:∀{rest:List Oper} {acc:List (List Nat)},(∀j:Nat,rest[j]?=all[acc.length+j]?)->Gj acc.length rest=true ->
  (∀(i:Nat) (l:List Nat),acc[i]?=some l->(∀k∈l,k<i)/\∀D,Wf D all->∀o,all[i]?=some o->(∀k∈Cy o,D k=true)->∀k∈l,D k=true) ->
  ∀(i:Nat) (l:List Nat),(An acc rest)[i]?=some l->(∀k∈l,k<i)/\∀D,Wf D all->∀o,all[i]?=some o->(∀k∈Cy o,D k=true)->∀k∈l,D k=true
 | [],acc,_,_,h=>h
 | o :: r,acc,hall,hb,h=>by
   simp only[Gj,ba,List.all_eq_true] at hb;simp only[An];refine n0L (fun j=>?_) (by grind) (fun i l hi=>?_)
   ·have:=hall (j+1);simp only[List.getElem?_cons_succ] at this;rw[this]; congr 1; simp; omega
   ·rcases Nat.lt_or_ge i acc.length with t | hge
    ·rw[List.getElem?_append_left t] at hi;exact h i l hi
    ·have s:i=acc.length:=by
      rcases Nat.eq_or_lt_of_le hge with e | e
      ·exact e.symm
      ·rw[List.getElem?_eq_none (by simp; omega)] at hi; cases hi
     subst s;simp only[List.getElem?_concat_length,oi] at hi;subst hi;have v:∀k:Nat,k∈Cy o->k<acc.length:=fun k v=>by simp_all
     refine⟨fun k a=>?_,fun D y F b n k a=>?_⟩
     ·grind[AO,List.getElem?_eq_getElem]
     ·have x:=hall 0;simp only[List.getElem?_cons_zero,Nat.add_zero] at x;rw[<- x] at b;cases b;rcases List.mem_append.1 a with z | z
      ·grind
      ·obtain⟨m,w,u⟩:=List.mem_flatMap.1 z;rw[AO] at u;have c:=v m w;rw[List.getElem?_eq_getElem c] at u;have q:=n m w;obtain⟨g,d⟩:∃g,all[m]?=some g:=by
        grind
       exact(h m acc[m] (List.getElem?_eq_getElem c)).2 D y g d (fun E f=>y m g d q E f) k u
end Go.Proofs.Xv
end
section
set_option maxHeartbeats 0
namespace Go.Proofs.Xv
open Go Go.RowKit Go.Proofs.Sv
theorem Sat.congr{X:Cx}{G:Gh}(S:Sat X G){o':List (Nat×Ob)}(h:∀i,b5 o' i=b5 G.o i):Sat X { G with o:=o' }/\GLe G { G with o:=o' }:=by
 have c:GLe G { G with o:=o' }:=⟨rfl,fun k E _=>⟨E,rfl⟩,fun i T r hi=>⟨rfl,T,r,(h i).trans hi⟩,fun i T u e t f d hi=>⟨rfl,T,u,e,t,f,d,(h i).trans hi⟩,fun i T e t f j hi=>⟨T,e,t,f,j,(h i).trans hi,Nat.le_refl _,fun _=>rfl⟩⟩;have a:∀i o,b5 o' i=some o->b5 G.o i=some o:=fun i o hi=>(h i).symm.trans hi;refine⟨⟨S.base,S.os,S.tape,S.output,S.size,S.block,fun i o hi=>?_,fun i w o s b hi l=>S.inj i w o s b (a i o hi) (a w s l),fun i o b hi=>S.imm i o b (a i o hi),fun i o b hi=>S.own i o b (a i o hi),S.klt,S.kfrom,fun i b x Q=>?_,fun i v h=>(S.pin i v h).mono c⟩,c⟩
 rotate_right
 ·obtain⟨V,P,Y,W⟩:=S.sep i b x (by grind)
  grind
 have:=S.obs i o (a i o hi);cases o with
 | box T r=>obtain⟨b,y,q,n,m,F⟩:=this; exact⟨b,y,q,n,m,F.mono c⟩
 | arr T e t f j=>exact this
 | grd T u e t f d =>
   obtain⟨z,H,q,n,m⟩:=this;exact⟨z,H,q,n.up c (fun _=>Iff.rfl) (WE.refl (g:=none) _) (fun _ _ h=>by cases h),m⟩
theorem EnvR.congr{n:Nat}{G:Gh}{e e':List (Nat×Sl)}{a:Act}(h:EnvR n G e a)(b:∀t,b5 e' t=b5 e t):EnvR n G e' a :=
 ⟨h.defers,h.size,fun t s c=>h.val t s (by grind)⟩
theorem m0X{all:List Oper}{e e':List (Nat×Sl)}{o:Oper}{p:Pa}(h:Cw all e o=some p)(a:∀x∈p,b5 e x.1=b5 e' x.1):Cw all e' o=some p:=by
 unfold Cw at h ⊢;split at h
 ·exact h
 grind[oi,b5,List.mem_cons_self]
theorem j0o{e e':List (Nat×Sl)}:∀{p:Pa},(∀x∈p,b5 e x.1=b5 e' x.1)->Gf e p->Gf e' p
 | [],_,_=>trivial
 | (s,b) :: r,h,⟨h1,h2⟩=>by
   refine⟨?_,j0o (fun x a=>h x (by grind)) h2⟩
   simp_all
def A0Z(R:B5):List Nat:=B0a R.o.op.operands.toList++R.p.map Prod.fst
def Wg(l m:List Nat):Bool:=l.all fun x=>!X2 x m
def JO(bs:List (List Nat))(i:Nat)(A:B5)(k:Nat)(B:B5):Bool :=
 (match A.o.dst with
   | some d=>(!X2 d (A0Z B)||(X2 i ((I1 bs k).getD [])||X2 k ((I1 bs i).getD [])))&&(!X2 d (B.p.map Prod.fst)||X2 i ((I1 bs k).getD []))
   | none=>true)&&(Wg (A.obs.map Prod.fst) (B.fp++B.obs.map Prod.fst)||(X2 i ((I1 bs k).getD [])||X2 k ((I1 bs i).getD [])))
def JP(f:Nat->B5->Bool):Nat->List B5->Bool
 | _,[]=>true
 | i,R :: r=>f i R&&JP f (i+1) r
theorem Rw{f:Nat->B5->Bool}:∀{recs:List B5} {i:Nat},JP f i recs=true->∀j R,recs[j]?=some R->f (i+j) R=true
 | [],_,_,j,R,h=>by grind
 | R0 :: r,i,h,0,R,hj=>by
   grind[JP]
 | R0 :: r,i,h,j+1,R,hj=>by
   simp only[JP,ba] at h;have:=Rw h.2 j R (by grind)
   grind
def B0d(A:B5):Bool:=match A.o.dst with
 | some d=>!X2 d (A.p.map Prod.fst)
 | none=>true
def Rx(bs:List (List Nat))(recs:List B5):Bool:=JP (fun i A=>B0d A&&JP (fun k B=>Nat.beq i k||JO bs i A k B) 0 recs) 0 recs
theorem Ry{a:List (List Nat)}{recs:List B5}(h:Rx a recs=true){i k:Nat}{A B:B5}(hi:recs[i]?=some A)(c:recs[k]?=some B)(d:i≠k):JO a i A k B=true:=by
 have b:=Rw h i A hi;rw[ba] at b;have e:=Rw b.2 k B c
 simp_all
theorem m0Q{n:Nat}:∀{l:List Oper} {i:Nat} {seen:List Nat},S7 n i seen l=true->(∀(j:Nat) (o:Oper) (d:Nat),l[j]?=some o->o.dst=some d->d<n/\d ∉ seen)/\(∀(j k:Nat) (o o':Oper) (d:Nat),l[j]?=some o->l[k]?=some o'->o.dst=some d->o'.dst=some d->j=k)
 | [],_,_,_=>⟨fun j o d h=>by grind,fun j k o o' d h=>by grind⟩
 | o0 :: r,i,seen,h=>by
   simp only[S7,ba] at h;obtain⟨⟨a,_⟩,c⟩:=h;obtain⟨f,m⟩:=m0Q c;have e:∀d,d∈seen->d∈(match o0.dst with | some d=>d :: seen | none=>seen):=fun d b=>by
    grind
   have g:∀d,o0.dst=some d->d<n/\d ∉ seen:=fun d b=>by
    rw[b] at a;simp only[ba] at a;exact⟨by simp_all,NM a.2⟩
   grind
theorem n0w{b:Type}{p a:b->Bool}:∀{l:List b},(∀x,a x=true->p x=true)->(∃x∈l,p x=true/\a x=false)->(l.filter a).length < (l.filter p).length
 | [],_,⟨x,hx,_⟩=>by cases hx
 | y :: r,h,⟨x,hx,h1,h2⟩=>by
   have d:∀l:List b,(l.filter a).length<=(l.filter p).length:=fun l=>by
    induction l with
    | nil=>grind
    | cons z s c =>
      grind
   rcases List.mem_cons.1 hx with rfl | hx
   ·grind
   ·have c:=n0w h ⟨x,hx,h1,h2⟩;simp only[List.filter_cons];by_cases hz:a y=true
    ·rw[if_pos hz,if_pos (h y hz)]; simp only[List.length_cons]; omega
    ·rw[if_neg hz];split
     ·simp only[List.length_cons]; omega
     ·exact c
theorem p0X{D:Nat->Bool}{t:Nat}{s:Sl}:∀{recs:List B5} {i:Nat} {st:St},b5 (C9 D i recs st).e t=some s->b5 st.e t=some s∨∃k R,recs[k]?=some R/\D (i+k)=true/\s.p=R.p
 | [],_,_,h=>.inl h
 | R :: r,i,st,h=>by
   simp only[C9] at h;rcases p0X h with a | ⟨k,R',h1,h2,h3⟩
   ·by_cases b:D i=true
    ·rw[if_pos b] at a;simp only[H3,Fc] at a;split at a
     ·rw[lK] at a;split at a
      ·cases a;exact .inr ⟨0,R,rfl,b,rfl⟩
      grind
     grind
    grind
   ·exact .inr ⟨k+1,R',by grind,by grind,h3⟩
theorem D0K{Γ:p8}{T:List Ct}{st:St}{p:Pa}{o:Oper}{d:Nat}{q:Prop}{av:Option AV}{obs:List (Nat×Ob)}{fp:List Nat}(h:Z3 Γ T st p o=some (q,av,obs,fp))(a:o.dst=some d):av≠none:=by
 grind[Z3]
section
variable {X:Cx} {Γ:p8} {T:List Ct}
theorem y0t(bI:B2 X.P Γ)(hT:∀c∈T,Ok X.P c){l:List Oper}{recs:List B5}{st:St}{Q:Exit->Act->World->Prop}(hl:recs.map (·.o)=l)(aM:JN Γ T l st recs)(aT:∀t s,b5 st.e t=some s->s.p=[])
  (aK:S7 X.n 0 [] l=true) (aA:Gj 0 l=true) (E:Rx (An [] l) recs=true) (hK:∀G' a',Sat X G'->G'.o=(recs.foldl H3 st).o->EnvR X.n G' (recs.foldl H3 st).e a'->Q .normal a' G'.w) :
  ∀(fuel:Nat) (listed:Array Bool) (G:Gh) (a:Act),((List.range l.length).filter fun i=>!listed.getD i true).length<=fuel->listed.size=l.length->Wf (fun k=>listed.getD k false) l->Sat X G->(∀id,b5 G.o id=b5 (C9 (fun k=>listed.getD k false) 0 recs st).o id) ->
   EnvR X.n G (C9 (fun k=>listed.getD k false) 0 recs st).e a->wpAny X.P .any l.toArray Q fuel listed a G.w:=by
 have bR:recs.length=l.length:=by rw[<- hl]; simp
 have bA:∀(j:Nat) (R:B5),recs[j]?=some R->l[j]?=some R.o:=fun j R h=>by rw[<- hl,List.getElem?_map,h]; rfl
 have bF:∀(j:Nat) (o:Oper),l[j]?=some o->∃R,recs[j]?=some R/\R.o=o:=fun j o h=>by
  rw[<- hl,List.getElem?_map] at h;cases hr:recs[j]? with
  | none=>rw[hr] at h; cases h
  | some R=>rw[hr] at h; cases h; exact⟨R,rfl,rfl⟩
 have aU:=n0L (all:=l) (rest:=l) (acc:=[]) (fun j=>by simp) aA (fun i m h=>by grind);have aC:=m0Q aK;have aL:∀(i:Nat) (o:Oper) (k:Nat),l[i]?=some o->k∈Cy o->k<i:=by
  have:∀{m:List Oper} {i:Nat},Gj i m=true->∀j o k,m[j]?=some o->k∈Cy o->k<i+j:=by
   intro m
   induction m with
   | nil=>grind
   | cons o0 r ih =>
     intro i h j o k hj v;simp only[Gj,ba,List.all_eq_true] at h;cases j with
     | zero=>simp only[List.getElem?_cons_zero,oi] at hj; simp_all
     | succ j=>grind
  intro i o k u h2;have:=this aA i o k u h2; omega
 -- all is done: the end
 have aF:∀(listed:Array Bool) (G:Gh) (a:Act),(∀i,i<l.length->listed.getD i false=true)->Sat X G->(∀id,b5 G.o id=b5 (C9 (fun k=>listed.getD k false) 0 recs st).o id)->EnvR X.n G (C9 (fun k=>listed.getD k false) 0 recs st).e a->Q .normal a G.w:=by
  intro listed G a aH S hO hE;rw[t0T (fun j hj=>by grind)] at hO hE;obtain⟨S',L'⟩:=S.congr (o':=(recs.foldl H3 st).o) (fun i=>(hO i).symm);exact hK ⟨G.ρ,G.γ,G.K,G.w,(recs.foldl H3 st).o,G.B,G.δ⟩ a S' rfl (hE.mono L')
 intro fuel
 induction fuel with
 | zero =>
   intro listed G a hf bC aB S hO hE;have aO:(List.range l.length).filter (fun i=>!listed.getD i true)=[]:=List.eq_nil_of_length_eq_zero (by omega);have aH:∀i,i<l.length->listed.getD i true=true:=fun i hi=>by
    cases h:listed.getD i true with
    | true=>rfl
    | false =>
      have:i∈(List.range l.length).filter (fun i=>!listed.getD i true):=List.mem_filter.2 ⟨List.mem_range.2 hi,by grind⟩;rw[aO] at this; cases this
   refine⟨?_,aF listed G a (fun i hi=>?_) S hO hE⟩
   ·grind[Region.ready,hi,mem_ready,Nat.lt_or_ge,List.getElem?_eq_none]
   grind
 | succ fuel ih =>
   intro listed G a hf bC aB S hO hE;refine⟨fun hr=>aF listed G a ?_ S hO hE,fun i hi=>?_⟩
   · -- nothing is ready: all is done
     intro i
     induction i using Nat.strongRecOn with
     | ind i aY =>
       intro hi;cases h:listed.getD i false with
       | true=>rfl
       | false =>
         have:i∈Region.ready .any l.toArray listed:=mem_ready.2 ⟨by
          grind,l[i],by grind,fun e he hb=>aY e.on (aL i l[i] e.on (List.getElem?_eq_getElem hi) (Rv.2 ⟨e,he,hb,rfl⟩)) (by have:=aL i l[i] e.on (List.getElem?_eq_getElem hi) (Rv.2 ⟨e,he,hb,rfl⟩); omega)⟩
         rw[hr] at this; cases this
   ·obtain⟨aJ,o,ho,bN⟩:=mem_ready.1 hi;rw[List.getElem?_toArray] at ho;obtain⟨R,hR,rfl⟩:=bF i o ho;have aR:i<l.length:=by
     rcases Nat.lt_or_ge i l.length with h | h
     ·exact h
     ·grind
    have bO:listed.getD i false=false:=by
     have hs:i<listed.size:=by omega
     rw[Array.getD_eq_getD_getElem?,Array.getElem?_eq_getElem hs] at aJ ⊢;exact aJ
    -- what stands ahead of i is done
    have bT:∀k∈((I1 (An [] l) i).getD []),k<i/\listed.getD k false=true:=by
     intro k v;rw[AO] at v;cases hb:(An [] l)[i]? with
     | none=>grind
     | some m =>
       grind[Rv]
    have bL:∀k,listed.getD k false=true->k<l.length->∀m∈((I1 (An [] l) k).getD []),m<k/\listed.getD m false=true:=by
     intro k v g m hm;rw[AO] at hm;cases hb:(An [] l)[k]? with
     | none=>grind
     | some b =>
       rw[hb] at hm;obtain⟨g1,g2⟩:=aU k b hb;exact⟨g1 m hm,g2 _ aB l[k] (List.getElem?_eq_getElem g) (fun k' bB=>aB k l[k] (List.getElem?_eq_getElem g) v k' bB) m hm⟩
    have bK:∀k,k<l.length->∀m∈((I1 (An [] l) k).getD []),m<k:=by
     intro k g m hm;rw[AO] at hm;cases hb:(An [] l)[k]? with
     | none=>grind
     | some b=>grind
    -- ordered with i: done exactly if earlier in the text
    have aD:∀k,k<l.length->k≠i->(X2 k ((I1 (An [] l) i).getD [])||X2 i ((I1 (An [] l) k).getD []))=true->listed.getD k false=decide (k<i):=by
     intro k g bU h;rw[Bool.or_eq_true] at h;rcases h with h | h
     ·grind[Fe]
     ·grind[Fe]
    obtain⟨sj,aG,bJ,⟨q,aQ,hq⟩,hg⟩:=B0e (i:=0) aM hR;rw[Nat.zero_add] at aG
    -- the slots and objects that i looks at are as in the text's order
    have aP:∀t,t∈A0Z R->b5 sj.e t=b5 (C9 (fun k=>listed.getD k false) 0 recs st).e t:=by
     intro t ht;rw[aG];refine Wd (fun k R' v V=>?_) rfl;rw[Nat.zero_add];by_cases f:k=i
     ·grind
     ·have F:=Ry E v hR f;have g:k<l.length:=by
       rcases Nat.lt_or_ge k l.length with h | h
       ·exact h
       ·grind
      simp only[JO,ba] at F;have V:R'.o.dst=some t:=V;rw[V] at F;simp only[ba] at F;have u:=F.1.1;rw[Bool.or_eq_true] at u;rcases u with u | u
      ·grind[Fe]
      ·exact(aD k g f (by omega)).symm
    have bH:∀id,id∈R.fp++R.obs.map Prod.fst->b5 sj.o id=b5 G.o id:=by
     intro id aS;rw[hO,aG];refine We (fun k R' v V=>?_) rfl;rw[Nat.zero_add];by_cases f:k=i
     ·grind
     ·have F:=Ry E v hR f;have g:k<l.length:=by
       rcases Nat.lt_or_ge k l.length with h | h
       ·exact h
       ·grind
      simp only[JO,ba] at F;have u:=F.2;rw[Bool.or_eq_true] at u;obtain⟨y,hy,aZ⟩:=V;rcases u with u | u
      ·grind[Wg,List.all_eq_true,List.mem_map_of_mem,Fe]
      ·exact(aD k g f (Bool.or_comm _ _ ▸ u)).symm
    have aI:∀x∈R.p,b5 sj.e x.1=b5 (C9 (fun k=>listed.getD k false) 0 recs st).e x.1:=fun x hx=>aP x.1 (List.mem_append.2 (.inr (List.mem_map_of_mem hx)));have bG:=m0X bJ aI;have aN:Z3 Γ T ⟨(C9 (fun k=>listed.getD k false) 0 recs st).e,G.o⟩ R.p R.o=some (q,R.av,R.obs,R.fp) :=
     s0o (e:=sj.e) (o:=sj.o) (fun t ht=>aP t (List.mem_append.2 (.inl (u0M ht)))) aQ (fun id aS=>bH id (List.mem_append.2 (.inl aS)))
    have hd:∀d,R.o.dst=some d->d<X.n/\(∀x∈R.p,x.1≠d)/\∀t s,b5 (C9 (fun k=>listed.getD k false) 0 recs st).e t=some s->∀x∈s.p,x.1≠d:=by
     intro d hd;refine⟨(aC.1 i R.o d ho hd).1,fun x hx e=>?_,fun t s ht x hx e=>?_⟩
     ·have u:=Rw E i R hR;rw[Nat.zero_add,ba] at u
      grind[B0d,Fe]
     ·rcases p0X ht with h | ⟨k,Rk,v,W,hsp⟩
      ·grind
      ·rw[Nat.zero_add] at W;have f:i≠k:=fun e'=>by grind
       have g:k<l.length:=by
        rcases Nat.lt_or_ge k l.length with h | h
        ·exact h
        ·grind
       have F:=Ry E hR v f;simp only[JO,ba,hd] at F;have h2:=F.1.2;rw[Bool.or_eq_true] at h2
       grind[Fe]
    have H:∀k,(listed.setIfInBounds i true).getD k false=if k=i then true else listed.getD k false:=fun k=>by
     by_cases f:k=i
     ·subst f;have hs:k<listed.size:=by omega
      simp[hs]
     ·rw[if_neg f]; exact getD_set_ne false (Ne.symm f)
    have bP:=H0q (st:=⟨(C9 (fun k=>listed.getD k false) 0 recs st).e,G.o⟩) (K:=wpAny X.P .any l.toArray Q fuel (listed.setIfInBounds i true)) bI hT (ops:=l.toArray) (all:=l) rfl (Q:=Q) S rfl hE bG aN (fun F=>hq (j0o (fun x hx=>(aI x hx).symm) F)) hg hd (fun a' G' S' _ aW bE=>by
     refine ih (listed.setIfInBounds i true) G' a' ?_ (by grind) ?_ S' ?_ ?_
     ·have:((List.range l.length).filter fun j=>!(listed.setIfInBounds i true).getD j true).length < ((List.range l.length).filter fun j=>!listed.getD j true).length:=by
       refine n0w (fun j hj=>?_) ⟨i,List.mem_range.2 aR,by grind,?_⟩
       ·by_cases bM:i=j
        ·grind
        grind
       ·grind
      omega
     ·intro k o v W m hm;simp only[H] at W ⊢;by_cases aX:m=i
      ·grind
      ·rw[if_neg aX];by_cases f:k=i
       ·subst f;rw[ho] at v;cases v;obtain⟨e,he,bS,rfl⟩:=Rv.1 hm
        grind
       ·rw[if_neg f] at W;exact aB k o v W m hm
     ·intro id;rw[aW];by_cases V:HN R id
      ·rw[m0I (D:=fun k=>(listed.setIfInBounds i true).getD k false) (st':=⟨[],G.o⟩) hR V (by grind) (fun k Rk aV v Y=>?_)]
       ·rfl
       ·rw[Nat.zero_add];simp only[H,if_neg (show k≠i by omega)];have g:k<l.length:=by
         rcases Nat.lt_or_ge k l.length with h | h
         ·exact h
         ·grind
        have F:=Ry E v hR (show k≠i by omega);simp only[JO,ba] at F;have u:=F.2;rw[Bool.or_eq_true] at u;obtain⟨y,hy,aZ⟩:=Y;obtain⟨z,hz,bQ⟩:=V;rcases u with u | u
        ·simp only[Wg,List.all_eq_true] at u
         grind[List.mem_map_of_mem,Fe]
        grind
      ·have e1:=Wc ⟨[],G.o⟩ R id V;simp only[H3] at e1;rw[e1,hO];refine We (fun k Rk v Y=>?_) rfl;rw[Nat.zero_add];simp only[H];rw[if_neg (fun e=>by grind)]
     ·refine bE.congr (fun t=>?_);by_cases V:Gi R t
      ·have bD:=D0K aQ V;rw[m0J (D:=fun k=>(listed.setIfInBounds i true).getD k false) (st':=⟨(C9 (fun k=>listed.getD k false) 0 recs st).e,G.o⟩) hR V bD (by grind) (fun k Rk aV v Y=>by
        have:=aC.2 i k R.o Rk.o t ho (bA k Rk v) V Y;omega)]
       rfl
      ·have e1:=Wb ⟨(C9 (fun k=>listed.getD k false) 0 recs st).e,G.o⟩ R t V;simp only[H3] at e1;rw[e1];refine Wd (fun k Rk v Y=>?_) rfl;rw[Nat.zero_add];simp only[H];rw[if_neg (fun e=>by grind)])
    grind[wpOp,BF]
end
end Go.Proofs.Xv
end
section
namespace Go.Proofs.Xv
open Go Go.RowKit Go.Proofs.Sv
def VX(X:Cx)(st:St)(c:Code)(Q:Exit->Act->World->Prop):Prop:=∀G a,Sat X G->G.o=st.o->EnvR X.n G st.e a->c.wp X.P Q a G.w
def FX(X:Cx)(st:St)(x:Exit)(Q:Exit->Act->World->Prop):Prop:=∀G a,Sat X G->G.o=st.o->EnvR X.n G st.e a->Q x a G.w
def NP(e:List (Nat×Sl)):List Nat->List (Nat×Sl)
 | []=>[]
 | t :: r=>match b5 e t with
   | some ⟨[],a⟩=>(t,⟨[],a⟩) :: NP e r
   | _=>NP e r
def NQ:List Nat->List (Nat×Ob)->List (Nat×Ob)
 | _,[]=>[]
 | seen,(i,b) :: r=>bif X2 i seen then NQ seen r else(i,b) :: NQ (i :: seen) r
def cut(keep:List Nat)(st:St):St:=⟨NP st.e keep,NQ [] st.o⟩
theorem Wh{e:List (Nat×Sl)}:∀{keep:List Nat} {t:Nat} {s:Sl},b5 (NP e keep) t=some s->b5 e t=some s/\s.p=[]
 | [],t,s,h=>by cases h
 | k :: r,t,s,h=>by
   unfold NP at h;split at h
   ·rename_i a b;rw[lK] at h;split at h
    ·grind
    ·exact Wh h
   ·exact Wh h
theorem Wi:∀{o:List (Nat×Ob)} {seen:List Nat} {i:Nat},i ∉ seen->b5 (NQ seen o) i=b5 o i
 | [],_,_,_=>rfl
 | (j,b) :: r,seen,i,h=>by
   unfold NQ;rw[ce,lK];split
   ·rename_i c;have:¬j=i:=fun e=>h (by grind[Fe]);rw[if_neg this];exact Wi h
   ·rw[lK];split
    ·rfl
    ·rename_i a;exact Wi (by grind)
theorem Wj{X:Cx}{st:St}{G:Gh}{a:Act}(b:List Nat)(S:Sat X G)(d:G.o=st.o)(c:EnvR X.n G st.e a):∃G',Sat X G'/\G'.o=(cut b st).o/\G'.w=G.w/\EnvR X.n G' (cut b st).e a:=by
 obtain⟨h,f⟩:=S.congr (o':=(cut b st).o) (fun i=>by rw[d]; exact Wi (by simp));refine⟨_,h,rfl,rfl,c.defers,c.size,fun t s g=>?_⟩;obtain⟨j,_⟩:=Wh g;have:=(c.mono f).val t s j;omega
def X3(e:List (Nat×Sl)):Bool:=e.all fun x=>De x.2.p
theorem HO{e:List (Nat×Sl)}(h:X3 e=true):∀t s,b5 e t=some s->s.p=[]:=by
 intro t s a;have:∃x∈e,x.2=s:=by
  induction e with
  | nil=>cases a
  | cons y r b =>
    obtain⟨d,v⟩:=y;rw[lK] at a;split at a
    ·simp_all
    grind[X3]
 obtain⟨x,c,rfl⟩:=this
 grind[X3,List.all_eq_true,NL]
section
variable {X:Cx} {st:St} {Q:Exit->Act->World->Prop}
theorem vQ{x y:Code}(h:VX X st x (Y0 X.P y Q)):VX X st (.seq x y) Q:=fun G a S c b=>wp_seq (h G a S c b)
theorem vB{id:Nat}{c:Code}(h:VX X st c (CL id Q)):VX X st (.block id c) Q:=fun G a S d b=>wp_block (h G a S d b)
theorem vK(h:FX X st .normal Q):VX X st .skip Q:=fun G a S c b=>wp_skip (h G a S c b)
theorem a8(h:FX X st .ret Q):VX X st .ret Q:=fun G a S c b=>wp_ret (h G a S c b)
theorem vE{id:Nat}(h:FX X st (.exit id) Q):VX X st (.exit id) Q:=fun G a S c b=>wp_exit (h G a S c b)
theorem Wk{c:Operand}{x y:Code}{f b:Bool}(j:rd st [] c=some (.d f .bool b))(l:b=true->VX X st x Q)(k:b=false->VX X st y Q):VX X st (.cond c x y) Q:=fun G a S i g=>by
 have e:=DX (D2 g (p:=[]) (fun _ h=>by cases h) j);exact wp_cond_split e (fun h=>l h G a S i g) (fun h=>k h G a S i g)
theorem s0S{c:Operand}{x y:Code}{f:Bool}(b:rd st [] c=some (.d f .bool true))(a:VX X st x Q):VX X st (.cond c x y) Q:=Wk b (fun _=>a) (fun h=>by cases h)
theorem s0T{c:Operand}{x y:Code}{f:Bool}(b:rd st [] c=some (.d f .bool false))(a:VX X st y Q):VX X st (.cond c x y) Q:=Wk b (fun h=>by cases h) (fun _=>a)
theorem fQ{y:Code}(h:VX X st y Q):FX X st .normal (Y0 X.P y Q):=fun G a S c b=>h G a S c b
theorem fE{y:Code}{id:Nat}(h:FX X st (.exit id) Q):FX X st (.exit id) (Y0 X.P y Q):=fun G a S c b=>h G a S c b
theorem fR{y:Code}(h:FX X st .ret Q):FX X st .ret (Y0 X.P y Q):=fun G a S c b=>h G a S c b
theorem fK{id:Nat}(h:FX X st .normal Q):FX X st .normal (CL id Q):=fun G a S c b=>h G a S c b
theorem j0{id:Nat}(h:FX X st .ret Q):FX X st .ret (CL id Q):=fun G a S c b=>h G a S c b
theorem fX{id b:Nat}(c:Nat.beq b id=true)(h:FX X st .normal Q):FX X st (.exit b) (CL id Q):=fun G a S e d=>by
 have:b=id:=by simpa using c
 show(if b=id then Q .normal a G.w else Q (.exit b) a G.w);rw[if_pos this]; exact h G a S e d
theorem y0K{Γ:p8}{T:List Ct}(k:B2 X.P Γ)(v:∀c∈T,Ok X.P c){id:Nat}{l:List Oper}(b:List Nat)(o:S7 X.n 0 [] l=true)(w:X3 st.e=true)
  (h:HM Γ T l l st [] fun st' _=>FX X (cut b st') .normal Q):VX X st (.region id l.toArray false) Q:=by
 intro G a S y F;obtain⟨d,e1,r,E⟩:=NO h;refine wp_region_lit ?_;have:=C0y k v (ops:=l.toArray) (all:=l) rfl (Q:=Q) d 0 [] st G a (fun j=>by grind) (by grind) (fun j Y dj W=>by omega) (fun t s ht x hx=>by grind[HO]) r S y F
  (fun V q z i m=>by
    obtain⟨G2,u,g,H,f⟩:=Wj b z i m;have:=E G2 q u g f
    grind)
 grind
theorem B0H{Γ:p8}{T:List Ct}(u:B2 X.P Γ)(V:∀c∈T,Ok X.P c)[hm:M1 X.P]{id:Nat}{l:List Oper}(d:List Nat)(b:(S7 X.n 0 [] l&&Gj 0 l)=true)(t:X3 st.e=true)
  (h:HM Γ T l l st [] fun st' rs=>Rx (An [] l) rs.reverse=true/\FX X (cut d st') .normal Q):VX X st (.region id l.toArray true) Q:=by
 intro G a S ho hE;rw[ba] at b;obtain⟨recs,Y,F,x,e4⟩:=NO h;rw[List.append_nil,List.reverse_reverse] at x;refine wp_region_any hm.h ?_;have f:Ext G.w { G.w with drawn:=G.w.drawn+1 }:=(Below.refl _ _).drew;obtain⟨S1,y⟩:=S.ext f;have:=y0t u V (Q:=Q) (l:=l) (recs:=recs) (st:=st) Y F (HO t) b.1 b.2 x (fun G' E W q v=>by
   obtain⟨G2,H,m,aA,g⟩:=Wj d W q v;have:=e4 G2 E H m g
   grind) l.length (Array.replicate l.length false) { G with w:={ G.w with drawn:=G.w.drawn+1 } } a
  (by grind) (by simp) (fun i o _ hD=>by
    by_cases hi:i<l.length
    ·simp_all
    grind) S1 (fun id=>by
    have:∀{recs:List B5} {i:Nat} {st:St},(∀j,(Array.replicate l.length false).getD j false=false)->C9 (fun k=>(Array.replicate l.length false).getD k false) i recs st=st:=by
     intro recs
     induction recs with
     | nil=>intro i st _; rfl
     | cons R r z=>grind[C9]
    rw[this (fun j=>by by_cases s:j<l.length <;> simp[s])]
    grind) (by
    have:∀{recs:List B5} {i:Nat} {st:St},(∀j,(Array.replicate l.length false).getD j false=false)->C9 (fun k=>(Array.replicate l.length false).getD k false) i recs st=st:=by
     intro recs
     induction recs with
     | nil=>intro i st _; rfl
     | cons R r z=>grind[C9]
    rw[this (fun j=>by by_cases s:j<l.length <;> simp[s])];exact hE.mono y)
 omega
end
def Gk:Option Ob->Nat->Prop
 | some (.arr _ _ _ _ v),ver=>v=ver
 | _,_=>False
theorem Wl{b:Option Ob}{ver:Nat}(h:Gk b ver):∃T fr t xs,b=some (.arr T fr t xs ver):=by
 unfold Gk at h
 grind
def NR:Option Ob->Prop
 | some (.box _ _)=>True
 | _=>False
theorem q0J{b:Option Ob}(h:NR b):∃T cs,b=some (.box T cs):=by
 unfold NR at h
 grind
def Rz:Option Ob->Prop
 | none=>True
 | _=>False
theorem v0b{b:Option Ob}(h:Rz b):b=none:=by
 grind[Rz]
def HP:Value->Prop
 | .slice none 0 0=>True
 | _=>False
theorem Wm{u:Value}(h:HP u):u=.slice none 0 0:=by
 grind[HP]
def Wn:(t:Ty)->c9 t->Prop
 | .sl _,x=>x=[]
 | _,_=>False
theorem C0H{K:Nat->Prop}{w:World}:∀{t:Ty} {x:c9 t},Wn t x->RT K w t [.slice none 0 0] x
 | .sl _,x,h=>by
   have h:x=[]:=h;subst h;exact⟨none,0,rfl,Nat.le_refl _,by omega,.inl rfl⟩
def Wo:Option Ob->Prop
 | some (.grd ..)=>True
 | _=>False
theorem u0Z{b:Option Ob}(h:Wo b):∃T Te fr t xs hole,b=some (.grd T Te fr t xs hole):=by
 unfold Wo at h
 grind
def Wp:Option Nat->Prop
 | none=>True
 | some _=>False
theorem n0c{h:Option Nat}(k:Wp h):h=none:=by
 cases h with
 | none=>rfl
 | some _=>exact k.elim
/- The first value may be taken for the second one. -/
mutual
def O1(o o':List (Nat×Ob)):AV->AV->Prop
 | .d fr t x,b=>match b with
   | .d fr' t' y=>(fr'=true->fr=true)/\X0 t t' x=some y
   | _=>False
 | .v x,b=>match b with
   | .v y=>x=y
   | .os id ver=>HP x/\Rz (b5 o id)/\Gk (b5 o' id) ver
   | .d _ t y=>HP x/\Wn t y
   | _=>False
 | .os id ver,b=>match b with
   | .os id' ver'=>id=id'/\Gk (b5 o id) ver/\Gk (b5 o' id) ver'
   | _=>False
 | .ptr id off,b=>match b with
   | .ptr id' off'=>id=id'/\off=off'/\NR (b5 o' id)
   | _=>False
 | .agg xs,b=>match b with
   | .agg ys=>Cz o o' xs ys
   | _=>False
 | .tup xs,b=>match b with
   | .tup ys=>Cz o o' xs ys
   | _=>False
 | .fn f xs,b=>match b with
   | .fn g ys=>f=g/\Cz o o' xs ys
   | _=>False
 | .og id,b=>match b with
   | .og id'=>id=id'/\Wo (b5 o' id)
   | _=>False
 | _,_=>False
def Cz(o o':List (Nat×Ob)):List AV->List AV->Prop
 | [],ys=>match ys with
   | []=>True
   | _=>False
 | a :: r,ys=>match ys with
   | b :: s=>O1 o o' a b/\Cz o o' r s
   | _=>False
end
def Wq(o o':List (Nat×Ob)):Option Ob->Ob->Prop
 | some (.box T cs),.box T' cs'=>T=T'/\Cz o o' cs cs'
 | some (.arr T fr t xs _),.arr T' fr' t' ys _=>T=T'/\(fr'=true->fr=true)/\X0 (.sl t) (.sl t') xs=some ys
 | none,.arr _ _ _ ys _=>ys=[]
 | some (.grd T Te fr t xs h),.grd T' Te' fr' t' ys h'=>T=T'/\Te=Te'/\Wp h/\Wp h'/\(fr'=true->fr=true)/\X0 (.sl (.sl t)) (.sl (.sl t')) xs=some ys
 | _,_=>False
def Ws(o o':List (Nat×Ob))(b:AV):Option Sl->Prop
 | some ⟨[],a⟩=>O1 o o' a b
 | _=>False
def Wt:Pa->Prop
 | []=>True
 | _=>False
theorem H0J{q:Pa}(h:Wt q):q=[]:=by
 grind[Wt]
def RA(o o':List (Nat×Ob))(e:List (Nat×Sl)):List (Nat×Sl)->Prop
 | []=>True
 | (t,s) :: r=>Wt s.p/\Ws o o' s.a (b5 e t)/\RA o o' e r
def NS(o o':List (Nat×Ob)):List (Nat×Ob)->Prop
 | []=>True
 | (i,b) :: r=>Wq o o' (b5 o i) b/\NS o o' r
def O6(o':List (Nat×Ob)):List (Nat×Ob)->Prop
 | []=>True
 | (i,.box _ _) :: r=>(bif Nat.ble 500000 i then NR (b5 o' i) else True)/\O6 o' r
 | (_,.arr ..) :: r=>O6 o' r
 | (_,.grd ..) :: r=>O6 o' r
def NT(st st':St):Prop:=RA st.o st'.o st.e st'.e/\NS st.o st'.o st'.o/\O6 st'.o st.o
def Z2(G:Gh)(o':List (Nat×Ob)):Gh :=
 ⟨fun i=>match b5 G.o i with | some _=>G.ρ i | none=>.slice none 0 0,fun i=>match b5 G.o i with | some _=>G.γ i | none=>none,G.K,G.w,o',G.B,G.δ⟩
theorem HQ{G:Gh}{o':List (Nat×Ob)}{i:Nat}{b:Ob}(h:b5 G.o i=some b):(Z2 G o').ρ i=G.ρ i:=by grind[Z2]
theorem RC{G:Gh}{o':List (Nat×Ob)}{i:Nat}{b:Ob}(h:b5 G.o i=some b):(Z2 G o').γ i=G.γ i:=by grind[Z2]
theorem q0K{G:Gh}{o':List (Nat×Ob)}{i:Nat}(h:b5 G.o i=none):(Z2 G o').ρ i=.slice none 0 0:=by grind[Z2]
theorem q0L{G:Gh}{o':List (Nat×Ob)}{i:Nat}(h:b5 G.o i=none):(Z2 G o').γ i=none:=by grind[Z2]
mutual
theorem n0E{G:Gh}{o':List (Nat×Ob)}:∀{a b:AV} {u:Value},O1 G.o o' a b->AVR G a u->AVR (Z2 G o') b u
 | .d m t x,b,u,h,c=>by
   unfold O1 at h;split at h
   ·obtain⟨i,g⟩:=h;obtain⟨e,rfl⟩:=DU g;subst e;exact RT.up c (fun k n=>⟨n.1,fun e=>n.2 (i e)⟩)
   grind
 | .v x,b,u,h,c=>by
   have c:u=x:=c;unfold O1 at h;split at h
   ·exact c.trans h
   ·obtain⟨j,i,g⟩:=h;have j:=Wm j;have i:=v0b i;obtain⟨T,m,t,l,g⟩:=Wl g;subst c;subst j;exact⟨rfl,T,m,t,l,_,g,Nat.le_refl _,fun _=>(q0K i).symm⟩
   ·obtain⟨j,i⟩:=h;have j:=Wm j;subst c;subst j;exact C0H i
   grind
 | .os id ver,b,u,h,⟨j,T,m,t,l,ver',k1,k2,k3⟩=>by
   unfold O1 at h;split at h
   ·obtain⟨rfl,i,g⟩:=h;obtain⟨F,r,z,w,i⟩:=Wl i;obtain⟨E,q,y,s,g⟩:=Wl g;rw[k1] at i;cases i;exact⟨j,_,_,_,_,_,g,Nat.le_refl _,fun _=>(k3 rfl).trans (HQ k1).symm⟩
   grind
 | .ptr id off,b,u,h,⟨⟨T,cs,k1⟩,b',k2,k3⟩=>by
   unfold O1 at h;split at h
   ·obtain⟨rfl,rfl,g⟩:=h;exact⟨q0J g,b',(HQ k1).trans k2,k3⟩
   grind
 | .agg l,b,u,h,⟨us,e,c⟩=>by
   unfold O1 at h;split at h
   ·exact⟨us,e,NU h c⟩
   grind
 | .tup l,b,u,h,⟨us,e,c⟩=>by
   unfold O1 at h;split at h
   ·exact⟨us,e,NU h c⟩
   grind
 | .fn f l,b,u,h,⟨us,e,c⟩=>by
   unfold O1 at h;split at h
   ·obtain⟨rfl,h⟩:=h;exact⟨us,e,NU h c⟩
   grind
 | .pel _ _ _ _ _,b,u,h,c=>by grind[O1]
 | .gel _ _,b,u,h,c=>by grind[O1]
 | .og id,b,u,h,⟨j,⟨T,Te,m,t,l,hole,k1⟩,k2⟩=>by
   unfold O1 at h;split at h
   ·obtain⟨rfl,g⟩:=h;exact⟨j,u0Z g,k2.trans (HQ k1).symm⟩
   grind
 | .ow _ _ _ _,b,u,h,c=>c.elim
 | .ob _ _,b,u,h,c=>c.elim
theorem NU{G:Gh}{o':List (Nat×Ob)}:∀{as' bs:List AV} {us:List Value},Cz G.o o' as' bs->AVRs G as' us->AVRs (Z2 G o') bs us
 | [],bs,us,h,hu=>by
   unfold Cz at h;split at h
   ·exact hu
   grind
 | a :: r,bs,us,h,⟨u,us',e,k1,k2⟩=>by
   unfold Cz at h;split at h
   ·exact⟨u,us',e,n0E h.1 k1,NU h.2 k2⟩
   grind
end
theorem Wu{o o':List (Nat×Ob)}:∀{l:List (Nat×Ob)} {i:Nat} {b:Ob},NS o o' l->b5 l i=some b->Wq o o' (b5 o i) b
 | [],_,_,_,h=>by cases h
 | (j,c) :: r,i,b,h,hl=>by
   rw[lK] at hl;split at hl
   ·rename_i e; subst e; cases hl; exact h.1
   ·exact Wu h.2 hl
theorem v0x{o o':List (Nat×Ob)}{e:List (Nat×Sl)}:∀{l:List (Nat×Sl)} {t:Nat} {s:Sl},RA o o' e l->b5 l t=some s->s.p=[]/\Ws o o' s.a (b5 e t)
 | [],_,_,_,h=>by cases h
 | (j,c) :: r,t,s,h,hl=>by
   rw[lK] at hl;split at hl
   ·rename_i e; subst e; cases hl; exact⟨H0J h.1,h.2.1⟩
   ·exact v0x h.2.2 hl
theorem RD{o':List (Nat×Ob)}:∀{l:List (Nat×Ob)} {i:Nat} {T:TypeId} {cs:List AV},O6 o' l->b5 l (500000+i)=some (.box T cs)->NR (b5 o' (500000+i))
 | [],_,_,_,_,h=>by cases h
 | (j,.arr ..) :: r,i,_,_,h,hl=>by
   rw[lK] at hl;split at hl
   ·cases hl
   ·exact RD (l:=r) h hl
 | (j,.grd ..) :: r,i,_,_,h,hl=>by
   rw[lK] at hl;split at hl
   ·cases hl
   ·exact RD (l:=r) h hl
 | (j,.box ..) :: r,i,_,_,h,hl=>by
   rw[lK] at hl;split at hl
   ·rename_i e; subst e;have:=h.1
    simp_all
   ·exact RD h.2 hl
theorem y0f{X:Cx}{G:Gh}{o':List (Nat×Ob)}(S:Sat X G)(h:NS G.o o' o')(F:O6 o' G.o):Sat X (Z2 G o'):=by
 have g:∀{i:Nat} {b:Nat},(Z2 G o').γ i=some b->(∃c,b5 G.o i=some c)/\G.γ i=some b:=fun {i b} q=>by
  cases hl:b5 G.o i with
  | none=>grind[q0L]
  | some c=>grind[RC]
 have W:∀i,I2 (b5 o' i)=true->I2 (b5 G.o i)=true:=fun i hg=>by
  obtain⟨T,V,n,t,m,d,e⟩:=NG hg;have a:=Wu h e;cases hl:b5 G.o i with
  | none=>rw[hl] at a; exact a.elim
  | some c =>
    rw[hl] at a;cases c with
    | box T s=>exact a.elim
    | arr T n t m w=>exact a.elim
    | grd T V n t m d=>rfl
 refine⟨S.base,S.os,S.tape,S.output,S.size,S.block,?_,?_,?_,?_,S.klt,S.kfrom,fun i b q hg=>?_,fun i v hv=>?_⟩
 rotate_right
 rotate_right
 ·obtain⟨s1,s2,s3,s4⟩:=S.sep i b q (W i hg);exact⟨s1,s2,fun j o ho hj=>by grind,fun j hj aB=>s4 j hj (W j aB)⟩
 ·obtain⟨⟨T,s,l⟩,b,f,y⟩:=S.pin i v hv;exact⟨q0J (RD F l),b,(HQ l).trans f,y⟩
 ·intro id o ho;have a:=Wu h ho;cases hl:b5 G.o id with
  | none =>
    rw[hl] at a;cases o with
    | box T s=>exact a.elim
    | grd T V n t m d=>exact a.elim
    | arr T n t m w =>
      have hx:m=[]:=a;subst hx;refine⟨[],?_,rfl,fun b q=>by grind⟩;rw[q0L hl,q0K hl];exact .inl ⟨rfl,rfl,rfl,none,rfl⟩
  | some c =>
    rw[hl] at a;have:=S.obs id c hl;cases c with
    | box T s =>
      cases o with
      | arr z n t m w=>exact a.elim
      | grd T V n t m d=>exact a.elim
      | box z E =>
        obtain⟨rfl,a⟩:=a;obtain⟨b,us,l,f,y,H⟩:=this;exact⟨b,us,(RC hl).trans l,(HQ hl).trans f,y,NU a H⟩
    | arr T n t m w =>
      cases o with
      | box z E=>exact a.elim
      | arr z P t' ys Q =>
        obtain⟨rfl,l,f⟩:=a;obtain⟨e,rfl⟩:=DU f;cases e;obtain⟨s,k1,u,k3⟩:=this;refine⟨s,?_,u.mapR (fun c x hr=>RT.up hr (fun k r=>⟨r.1,fun e=>r.2 (l e)⟩)),fun b q=>k3 b (g q).2⟩;rw[RC hl,HQ hl];exact k1
      | grd T V n t m d=>exact a.elim
    | grd T V n t m d =>
      cases o with
      | box z E=>exact a.elim
      | arr z P t' ys Q=>exact a.elim
      | grd z Te' P t' ys aC =>
        obtain⟨rfl,rfl,e1,Y,l,f⟩:=a;have e1:=n0c e1;have Y:=n0c Y;subst e1; subst Y;obtain⟨e,rfl⟩:=DU f;cases e;obtain⟨vs,bs,k1,u,k3⟩:=this;refine⟨vs,bs,by rw[RC hl,HQ hl]; exact k1,⟨u.len,u.blk,u.inj,fun k r hh=>?_,u.one⟩,fun b q=>k3 b (g q).2⟩;obtain⟨s,r1,r2,r3⟩:=u.row k r hh;exact⟨s,r1,r2.mapR (fun c x hr=>RT.up hr (fun k r=>⟨r.1,fun e=>r.2 (l e)⟩)),r3⟩
 ·intro i i' o1 o2 b l f y H;obtain⟨⟨c,a⟩,y⟩:=g y;obtain⟨⟨c',aA⟩,H⟩:=g H;exact S.inj i i' c c' b a aA y H
 ·intro i o1 b l f;obtain⟨⟨c,a⟩,f⟩:=g f;exact S.imm i c b a f
 ·intro i o1 b l f;obtain⟨⟨c,a⟩,f⟩:=g f;exact S.own i c b a f
theorem Wv{X:Cx}{G:Gh}{st st':St}{a:Act}(h:NT st st')(S:Sat X G)(k:G.o=st.o)(c:EnvR X.n G st.e a):∃G',Sat X G'/\G'.o=st'.o/\G'.w=G.w/\EnvR X.n G' st'.e a:=by
 obtain⟨g,f,d⟩:=h;rw[<- k] at g f d;refine⟨Z2 G st'.o,y0f S f d,rfl,rfl,c.defers,c.size,fun t s l=>?_⟩;obtain⟨i,b⟩:=v0x g l;rw[i];refine⟨fun _=>?_,fun j=>(j (fun _ h=>by cases h)).elim⟩;unfold Ws at b;split at b
 ·rename_i q m;exact n0E b ((c.val t _ m).1 (fun _ h=>by cases h))
 grind
section
variable {X:Cx} {st:St} {Q:Exit->Act->World->Prop}
def RE(X:Cx){σ:Type}(E:σ->St)(J:σ->Prop)(μ:σ->Nat)(s:σ)(Q:Exit->Act->World->Prop):Exit->Act->World->Prop
 | .normal,a,w=>∃s',μ s'<μ s/\J s'/\∃G,Sat X G/\G.o=(E s').o/\G.w=w/\EnvR X.n G (E s').e a
 | e,a,w=>Q e a w
theorem B0F{c:Code}(st':St)(h:NT st st')(k:VX X st' c Q):VX X st c Q:=fun G a S f i=>by
 obtain⟨e,j,d,g,b⟩:=Wv h S f i;have:=k e a j d b
 grind
theorem B0E{b:Code}{d:Type}(E:d->St)(J:d->Prop)(f:d->Nat)(g:d)(y:J g)(q:NT st (E g))
  (c:∀s,J s->VX X (E s) b (RE X E J f s Q)):VX X st (.loop b) Q:=by
 intro G a S l j;obtain⟨v,u,h,i,k⟩:=Wv q S l j;refine wp_loop_ghost (fun m a w=>∃s,f s=m/\J s/\∃G,Sat X G/\G.o=(E s).o/\G.w=w/\EnvR X.n G (E s).e a) (f g) ⟨g,rfl,y,v,u,h,i,k⟩ ?_;rintro m a w ⟨s,rfl,z,G,S,l,rfl,j⟩;refine wp_mono (c s z G a S l j) ?_;intro x V T t;cases x with
 | normal =>
   obtain⟨r,P,H,F⟩:=t;exact⟨f r,P,r,rfl,H,F⟩
 | _=>exact t
theorem D0h{b:Type}{E:b->St}{J:b->Prop}{h:b->Nat}{s:b}(c:b)(l:J c)(g:h c<h s)(n:NT st (E c)):FX X st .normal (RE X E J h s Q):=fun G a S j m=>by
 obtain⟨i,k,f,e,d⟩:=Wv n S j m;exact⟨c,g,l,i,k,f,e,d⟩
theorem n0t{b:Type}{E:b->St}{J:b->Prop}{e:b->Nat}{s:b}{id:Nat}(h:FX X st (.exit id) Q):FX X st (.exit id) (RE X E J e s Q):=fun G a S d c=>h G a S d c
theorem o0U{b:Type}{E:b->St}{J:b->Prop}{e:b->Nat}{s:b}(h:FX X st .ret Q):FX X st .ret (RE X E J e s Q):=fun G a S d c=>h G a S d c
end
def Q6:Nat->(ps:List q9)->C8 ps->List (Nat×Sl)
 | _,[],_=>[]
 | i,.dat t :: r,x=>(i,⟨[],.d false t x.1⟩) :: Q6 (i+1) r x.2
 | i,.agg t :: r,x=>(i,⟨[],.agg (F2 false t x.1)⟩) :: Q6 (i+1) r x.2
 | i,.fn f c :: r,x=>(i,⟨[],.fn f (F2 false c x.1)⟩) :: Q6 (i+1) r x.2
 | i,.nof f :: r,x=>(i,⟨[],.fn f []⟩) :: Q6 (i+1) r x.2
 | i,.nil :: r,x=>(i,⟨[],.v (.pointer none)⟩) :: Q6 (i+1) r x.2
 | i,.io _ _ :: r,x=>(i,⟨[],.ptr (500000+i) 0⟩) :: Q6 (i+1) r x.2
 | i,.os _ _ :: r,x=>(i,⟨[],.os (500000+i) 0⟩) :: Q6 (i+1) r x.2
def J9:Nat->(ps:List q9)->C8 ps->List (Nat×Ob)
 | _,[],_=>[]
 | i,.io T t :: _,x=>[(500000+i,.box T (F2 false t x.1))]
 | i,.os E t :: _,x=>[(500000+i,.arr E true t x.1 0)]
 | i,.dat _ :: r,x=>J9 (i+1) r x.2
 | i,.agg _ :: r,x=>J9 (i+1) r x.2
 | i,.fn _ _ :: r,x=>J9 (i+1) r x.2
 | i,.nof _ :: r,x=>J9 (i+1) r x.2
 | i,.nil :: r,x=>J9 (i+1) r x.2
def q7:Nat->List q9->Option Nat->Option (Nat×Value)
 | _,[],_=>none
 | i,.io _ _ :: _,some b=>some (i,.pointer (some ⟨b,0,none⟩))
 | _,.os _ _ :: _,_=>none
 | i,_ :: r,go=>q7 (i+1) r go
def CA:List q9->Bool
 | []=>true
 | .io _ _ :: _=>false
 | .os _ _ :: _=>false
 | .dat _ :: r=>CA r
 | .agg _ :: r=>CA r
 | .fn _ _ :: r=>CA r
 | .nof _ :: r=>CA r
 | .nil :: r=>CA r
def AT:List q9->Bool
 | []=>true
 | .io _ _ :: r=>CA r
 | .os _ _ :: r=>CA r
 | .dat _ :: r=>AT r
 | .agg _ :: r=>AT r
 | .fn _ _ :: r=>AT r
 | .nof _ :: r=>AT r
 | .nil :: r=>AT r
theorem HR:∀{ps:List q9} {i:Nat} {x:C8 ps},CA ps=true->J9 i ps x=[]
 | [],_,_,_=>rfl
 | .io _ _ :: _,_,_,h=>by cases h
 | .os _ _ :: _,_,_,h=>by cases h
 | .dat _ :: r,i,x,h=>HR (ps:=r) (i:=i+1) h
 | .agg _ :: r,i,x,h=>HR (ps:=r) (i:=i+1) h
 | .fn _ _ :: r,i,x,h=>HR (ps:=r) (i:=i+1) h
 | .nof _ :: r,i,x,h=>HR (ps:=r) (i:=i+1) h
 | .nil :: r,i,x,h=>HR (ps:=r) (i:=i+1) h
theorem JQ{K:Nat->Prop}{w:World}{go:Option Nat}:∀{ps:List q9} {z:D4 ps},CA ps=true->IOR K w go ps z
 | [],_,_=>trivial
 | .io _ _ :: _,_,h=>by cases h
 | .os _ _ :: _,_,h=>by cases h
 | .dat _ :: r,z,h=>JQ (ps:=r) h
 | .agg _ :: r,z,h=>JQ (ps:=r) h
 | .fn _ _ :: r,z,h=>JQ (ps:=r) h
 | .nof _ :: r,z,h=>JQ (ps:=r) h
 | .nil :: r,z,h=>JQ (ps:=r) h
theorem JR:∀{ps:List q9},CA ps=true->¬H2 ps=true
 | [],_=>fun e=>by cases e
 | .io _ _ :: _,h=>by cases h
 | .os _ _ :: _,h=>by cases h
 | .dat _ :: r,h=>JR (ps:=r) h
 | .agg _ :: r,h=>JR (ps:=r) h
 | .fn _ _ :: r,h=>JR (ps:=r) h
 | .nof _ :: r,h=>JR (ps:=r) h
 | .nil :: r,h=>JR (ps:=r) h
theorem JS{K:Nat->Prop}{w:World}{go:Option Nat}:∀{ps:List q9} {z:D4 ps},AT ps=true->H2 ps=true->IOR K w go ps z
 | [],_,_,_=>trivial
 | .io _ _ :: r,_,h,g=>(JR (ps:=r) h g).elim
 | .os _ _ :: r,_z,h,_=>JQ (ps:=r) h
 | .dat _ :: r,_z,h,g=>JS (ps:=r) h g
 | .agg _ :: r,_z,h,g=>JS (ps:=r) h g
 | .fn _ _ :: r,_z,h,g=>JS (ps:=r) h g
 | .nof _ :: r,_z,h,g=>JS (ps:=r) h g
 | .nil :: r,_z,h,g=>JS (ps:=r) h g
theorem HS:∀{ps:List q9},CA ps=true->AT ps=true
 | [],_=>rfl
 | .io _ _ :: _,h=>by cases h
 | .os _ _ :: _,h=>by cases h
 | .dat _ :: r,h=>HS (ps:=r) h
 | .agg _ :: r,h=>HS (ps:=r) h
 | .fn _ _ :: r,h=>HS (ps:=r) h
 | .nof _ :: r,h=>HS (ps:=r) h
 | .nil :: r,h=>HS (ps:=r) h
def NV(o:Option (Nat×Value)):Nat->Value->Prop:=fun i v=>o=some (i,v)
def BG:List q9->List Value->Value
 | .io _ _ :: _,v :: _=>v
 | .os _ _ :: _,v :: _=>v
 | _ :: r,_ :: us=>BG r us
 | _,_=>undef
def Ff(K:Nat->Prop)(w:World)(go:Option Nat)(r0:Value)(B:Nat)(o:List (Nat×Ob)):Gh:=⟨fun _=>r0,fun _=>go,K,w,o,B,fun _ _=>False⟩
@[reducible] def cx (P:Program) (n:Nat) (y:World×(Nat->Prop)×(Nat->Prop)×(Nat->Value->Prop)×Nat):Cx:=⟨P,n,y.1,y.2.1,y.2.2.1,y.2.2.2.1,y.2.2.2.2⟩
def P9(ps:List q9)(w:World):Nat:=bif H2 ps then 0 else w.heap.size
theorem n0M{ps:List q9}{w:World}(h:¬H2 ps=true):P9 ps w=w.heap.size:=by
 grind[P9]
theorem k0V{ps:List q9}{w:World}(h:H2 ps=true):P9 ps w=0:=by
 grind[P9]
theorem v0M(ps:List q9)(w:World):P9 ps w<=w.heap.size:=by
 by_cases h:H2 ps=true
 ·rw[k0V h]; exact Nat.zero_le _
 ·rw[n0M h]; exact Nat.le_refl _
theorem RF{K:Nat->Prop}{w:World}{go:Option Nat}{r0:Value}{B:Nat}{o:List (Nat×Ob)}{t:Ty}{us:List Value}{x:c9 t}(h:RT K w t us x):RT (rg (Ff K w go r0 B o) false) (Ff K w go r0 B o).w t us x :=
 RT.up h (fun _ a=>⟨a,fun e=>by cases e⟩)
theorem HU{K:Nat->Prop}{w:World}:∀{ps:List q9} {i:Nat} {x:C8 ps} {vs:List Value} {go:Option Nat},ArgsR K w go ps x vs ->
  (J9 i ps x=[]/\go=none/\q7 i ps go=none/\¬H2 ps=true)∨(∃j b T t z cs,J9 i ps x=[(500000+j,.box T (F2 false t z))]/\go=some b/\q7 i ps go=some (j,.pointer (some ⟨b,0,none⟩))/\BG ps vs=.pointer (some ⟨b,0,none⟩)/\Blk w b cs T/\RT K w t cs z/\¬K b) ∨
    ∃j E t,∃xs:List (c9 t),∃cs,J9 i ps x=[(500000+j,.arr E true t xs 0)]/\q7 i ps go=none/\(BG ps vs).oneCell'=true/\Own w E (sz t) go (BG ps vs) xs.length cs/\AllR (RT K w t) cs xs/\(∀b,go=some b->¬K b)/\H2 ps=true
 | [],i,x,vs,go,h=>.inl ⟨rfl,h.2,rfl,fun e=>by cases e⟩
 | .dat t :: r,i,x,vs,go,⟨v,us,e,_,h⟩=>by
   subst e;have:=HU (i:=i+1) h;cases go <;> exact this
 | .agg t :: r,i,x,vs,go,⟨v,us,e,_,h⟩=>by
   subst e;have:=HU (i:=i+1) h;cases go <;> exact this
 | .fn f t :: r,i,x,vs,go,⟨v,us,e,_,h⟩=>by
   subst e;have:=HU (i:=i+1) h;cases go <;> exact this
 | .nof f :: r,i,x,vs,go,⟨us,e,h⟩=>by
   subst e;have:=HU (i:=i+1) h;cases go <;> exact this
 | .nil :: r,i,x,vs,go,⟨us,e,h⟩=>by
   subst e;have:=HU (i:=i+1) h;cases go <;> exact this
 | .io T t :: r,i,x,vs,go,⟨b,cs,us,e,hgo,h1,h2,h3,h⟩=>by
   subst hgo;subst e;exact .inr (.inl ⟨i,b,T,t,x.1,cs,rfl,rfl,rfl,rfl,h2,h3,h1⟩)
 | .os E t :: r,i,x,vs,go,⟨v,cs,us,e,h1,h2,h3,h4,h⟩=>by
   subst e;exact .inr (.inr ⟨i,E,t,x.1,cs,rfl,(by cases go <;> rfl),h2,h3,h4,h1,rfl⟩)
theorem Gl{K:Nat->Prop}{w:World}{o:List (Nat×Ob)}{g0:Option Nat}{r0:Value}{B:Nat}:∀{ps:List q9} {i:Nat} {x:C8 ps} {vs:List Value} {go:Option Nat},AT ps=true->ArgsR K w go ps x vs->(J9 i ps x≠[]->BG ps vs=r0)->(∀z∈J9 i ps x,b5 o z.1=some z.2) ->
  ∀t s,b5 (Q6 i ps x) t=some s->i<=t/\s.p=[]/\∃u,vs[t-i]?=some u/\AVR (Ff K w g0 r0 B o) s.a u
 | [],i,x,vs,go,_,h,_,_,t,s,ht=>by cases ht
 | .dat ty :: r,i,x,vs,go,hn,⟨v,us,e,h1,h⟩,hg,hz,t,s,ht=>by
   subst e;unfold Q6 at ht;rw[lK] at ht;split at ht
   ·rename_i e; subst e; cases ht; exact⟨Nat.le_refl _,rfl,v,by simp,RF h1⟩
   ·obtain⟨m,d,u,l,c⟩:=Gl (ps:=r) (i:=i+1) hn h hg hz t s ht;exact⟨by omega,d,u,by grind,c⟩
 | .agg ty :: r,i,x,vs,go,hn,⟨v,us,e,h1,h⟩,hg,hz,t,s,ht=>by
   subst e;unfold Q6 at ht;rw[lK] at ht;split at ht
   ·rename_i e; subst e; cases ht; exact⟨Nat.le_refl _,rfl,_,by simp,v,rfl,DV (RF h1)⟩
   ·obtain⟨m,d,u,l,c⟩:=Gl (ps:=r) (i:=i+1) hn h hg hz t s ht;exact⟨by omega,d,u,by grind,c⟩
 | .fn f ty :: r,i,x,vs,go,hn,⟨v,us,e,h1,h⟩,hg,hz,t,s,ht=>by
   subst e;unfold Q6 at ht;rw[lK] at ht;split at ht
   ·rename_i e; subst e; cases ht; exact⟨Nat.le_refl _,rfl,_,by simp,v,rfl,DV (RF h1)⟩
   ·obtain⟨m,d,u,l,c⟩:=Gl (ps:=r) (i:=i+1) hn h hg hz t s ht;exact⟨by omega,d,u,by grind,c⟩
 | .nof f :: r,i,x,vs,go,hn,⟨us,e,h⟩,hg,hz,t,s,ht=>by
   subst e;unfold Q6 at ht;rw[lK] at ht;split at ht
   ·rename_i e; subst e; cases ht; exact⟨Nat.le_refl _,rfl,_,by simp,[],rfl,rfl⟩
   ·obtain⟨m,d,u,l,c⟩:=Gl (ps:=r) (i:=i+1) hn h hg hz t s ht;exact⟨by omega,d,u,by grind,c⟩
 | .nil :: r,i,x,vs,go,hn,⟨us,e,h⟩,hg,hz,t,s,ht=>by
   subst e;unfold Q6 at ht;rw[lK] at ht;split at ht
   ·rename_i e; subst e; cases ht; exact⟨Nat.le_refl _,rfl,_,by simp,rfl⟩
   ·obtain⟨m,d,u,l,c⟩:=Gl (ps:=r) (i:=i+1) hn h hg hz t s ht;exact⟨by omega,d,u,by grind,c⟩
 | .io T ty :: r,i,x,vs,go,hn,⟨b,cs,us,e,hgo,h1,h2,h3,h⟩,hg,hz,t,s,ht=>by
   subst e;have k:Value.pointer (some ⟨b,0,none⟩)=r0:=hg (fun e=>by cases e);unfold Q6 at ht;rw[lK] at ht;split at ht
   ·rename_i e; subst e; cases ht;exact⟨Nat.le_refl _,rfl,_,by simp,⟨_,_,hz _ (List.mem_singleton.2 rfl)⟩,b,k.symm,rfl⟩
   ·have g:J9 (i+1) r x.2=[]:=HR hn;obtain⟨m,d,u,l,c⟩:=Gl (ps:=r) (i:=i+1) (HS hn) h (fun e=>(e g).elim) (fun z j=>by rw[g] at j; cases j) t s ht;exact⟨by omega,d,u,by grind,c⟩
 | .os E ty :: r,i,x,vs,go,hn,⟨v,cs,us,e,h1,h2,h3,h4,h⟩,hg,hz,t,s,ht=>by
   subst e;have k:v=r0:=hg (fun e=>by cases e);unfold Q6 at ht;rw[lK] at ht;split at ht
   ·rename_i e; subst e; cases ht;exact⟨Nat.le_refl _,rfl,_,by simp,h2,_,_,_,_,_,hz _ (List.mem_singleton.2 rfl),Nat.le_refl _,fun _=>k⟩
   ·have g:J9 (i+1) r x.2=[]:=HR hn;obtain⟨m,d,u,l,c⟩:=Gl (ps:=r) (i:=i+1) (HS hn) h (fun e=>(e g).elim) (fun z j=>by rw[g] at j; cases j) t s ht;exact⟨by omega,d,u,by grind,c⟩
theorem ArgsR.len{K:Nat->Prop}{w:World}:∀{ps:List q9} {x:C8 ps} {vs:List Value} {go:Option Nat},ArgsR K w go ps x vs->vs.length=ps.length
 | [],x,vs,go,h=>by rw[h.1]; rfl
 | .dat t :: r,x,vs,go,⟨v,us,e,_,h⟩=>by rw[e,List.length_cons,h.len]; rfl
 | .agg t :: r,x,vs,go,⟨v,us,e,_,h⟩=>by rw[e,List.length_cons,h.len]; rfl
 | .fn f t :: r,x,vs,go,⟨v,us,e,_,h⟩=>by rw[e,List.length_cons,h.len]; rfl
 | .nof f :: r,x,vs,go,⟨us,e,h⟩=>by rw[e,List.length_cons,h.len]; rfl
 | .nil :: r,x,vs,go,⟨us,e,h⟩=>by rw[e,List.length_cons,h.len]; rfl
 | .io T t :: r,x,vs,go,⟨b,cs,us,e,_,_,_,_,h⟩=>by rw[e,List.length_cons,h.len]; rfl
 | .os E t :: r,x,vs,go,⟨v,cs,us,e,_,_,_,_,h⟩=>by rw[e,List.length_cons,h.len]; rfl
theorem t0S{P:Program}{n:Nat}{K:Nat->Prop}{w:World}{ps:List q9}{x:C8 ps}{vs:List Value}{go:Option Nat}(q:KW P w go K)(h:ArgsR K w go ps x vs) :
  Sat (cx P n ⟨w,fun k=>go=some k,K,NV (q7 0 ps go),P9 ps w⟩) (Ff K w go (BG ps vs) (P9 ps w) (J9 0 ps x)):=by
 have y:=q.2;have l:=q.1;have l:∀k,K k->UFg w w.heap.size k:=fun k d=>⟨l k d,fun h=>absurd (l k d) (Nat.not_lt.2 h)⟩;have r:∀i,(Ff K w go (BG ps vs) (P9 ps w) (J9 0 ps x)).γ i=go:=fun _=>rfl;have g:=v0M ps w;rcases HU (i:=0) h with ⟨m,H,s,_⟩ | ⟨j,b,T,t,z,cs,m,H,s,hr,h1,h2,h3⟩ | ⟨j,E,t,xs,cs,m,s,h1,h2,h3,h4,hv⟩
 ·have a:∀i o,b5 (Ff K w go (BG ps vs) (P9 ps w) (J9 0 ps x)).o i=some o->False:=fun i o e=>by
   have:b5 (J9 0 ps x) i=some o:=e;rw[m] at this; cases this
  refine⟨⟨rfl,g,y⟩,rfl,rfl,rfl,Nat.le_refl _,fun _ _ _=>rfl,fun i o e=>(a i o e).elim,fun i _ o _ _ e=>(a i o e).elim,fun i o _ e=>(a i o e).elim,fun i o _ e=>(a i o e).elim,l,fun k d=>.inl d,fun _ _ h=>h.elim,fun i v e=>?_⟩;have:q7 0 ps go=some (i,v):=e
  grind
 ·subst H;have a:∀i o,b5 (Ff K w (some b) (BG ps vs) (P9 ps w) (J9 0 ps x)).o i=some o->i=500000+j/\o=.box T (F2 false t z):=fun i o e=>by
   have:b5 (J9 0 ps x) i=some o:=e;rw[m,lK] at this;split at this
   ·grind
   ·cases this
  refine⟨⟨rfl,g,y⟩,rfl,rfl,rfl,Nat.le_refl _,fun _ _ _=>rfl,fun i o e=>?_,fun i G o F _ e f _ _=>(a i o e).1.trans (a G F f).1.symm,fun i o u e f d=>?_,fun i o u e f=>.inr (by grind),l,fun k d=>.inl d,fun _ _ h=>h.elim,fun i v e=>?_⟩
  ·obtain⟨rfl,rfl⟩:=a i o e;exact⟨b,cs,rfl,hr,h1,DV (RF h2)⟩
  ·rw[r] at f; cases f; exact h3 d
  ·have:q7 0 ps (some b)=some (i,v):=e;rw[s] at this;cases this;refine⟨⟨T,F2 false t z,?_⟩,b,hr,rfl⟩;show b5 (J9 0 ps x) _=_;rw[m,lK,if_pos rfl]
 ·have a:∀i o,b5 (Ff K w go (BG ps vs) (P9 ps w) (J9 0 ps x)).o i=some o->i=500000+j/\o=.arr E true t xs 0:=fun i o e=>by
   have:b5 (J9 0 ps x) i=some o:=e;rw[m,lK] at this;split at this
   ·grind
   ·cases this
  have V:=k0V (w:=w) hv;refine⟨⟨rfl,g,y⟩,rfl,rfl,rfl,Nat.le_refl _,fun _ _ _=>rfl,fun i o e=>?_,fun i G o F _ e f _ _=>(a i o e).1.trans (a G F f).1.symm,fun i o u e f d=>?_,fun i o u e f=>.inr (by grind),l,fun k d=>.inl d,fun _ _ h=>h.elim,fun i v e=>?_⟩
  ·obtain⟨rfl,rfl⟩:=a i o e;exact⟨cs,h2,h3.mapR (fun c x Q=>RT.up Q (fun k d=>⟨d,fun _=>by show P9 ps w<=k; omega⟩)),fun b _=>by show P9 ps w<=b; omega⟩
  ·rw[r] at f; exact h4 u f d
  ·have:q7 0 ps go=some (i,v):=e;rw[s] at this;cases this
/- A value as the wanted result: on what condition, the rows handed over, the objects that become data. -/
mutual
def O2(o:List (Nat×Ob)):AV->AV->Option (Prop×List (Option Nat)×List Nat)
 | a,.ow T fr t xs=>match a with
   | .os id ver=>match b5 o id with
     | some (.arr T' fr' t' ys ver')=>bif Nat.beq ver ver'&&Nat.beq T' T then some ((fr=true->fr'=true)/\X0 (.sl t') (.sl t) ys=some xs,[some id],[]) else none
     | _=>none
   | .v x=>some (HP x/\xs=[],[none],[])
   | _=>none
 | a,.d fr t x=>match H8 o 24 t [a] with
   | some (y,l,fl)=>some ((fr=true->fl=true)/\y=x,[],l)
   | none=>none
 | a,.ob T rs=>match a with
   | .ptr id 0=>match b5 o id with
     | some (.box T' cs)=>bif Nat.beq T' T then(match Dh o cs rs with
       | some (q,m,f)=>some (q,some id :: m,f)
       | none=>none) else none
     | _=>none
   | _=>none
 | a,.v x=>match a with
   | .v y=>some (y=x,[],[])
   | _=>none
 | a,.agg rs=>match a with
   | .agg as'=>Dh o as' rs
   | _=>none
 | a,.tup rs=>match a with
   | .tup as'=>Dh o as' rs
   | _=>none
 | _,_=>none
def Dh(o:List (Nat×Ob)):List AV->List AV->Option (Prop×List (Option Nat)×List Nat)
 | as',[]=>match as' with
   | []=>some (True,[],[])
   | _=>none
 | as',r :: rs=>match as' with
   | a :: t=>match O2 o a r with
     | some (q,m,f)=>match Dh o t rs with
       | some (q',m',f')=>some (q/\q',m++m',f++f')
       | none=>none
     | none=>none
   | []=>none
end
def X4(G:Gh)(mv:List (Option Nat)):List (Option Nat):=mv.map fun o=>o.bind G.γ
def Ww(G:Gh)(mv:List (Option Nat)):Prop:=∀id,some id∈mv->∃o,b5 G.o id=some o
mutual
theorem RG{X:Cx}{G:Gh}(S:Sat X G){K':Nat->Prop}(j:∀k,G.K k->K' k){Kf:Bool->Nat->Prop}(s:∀fr k,rk G K' fr k->Kf fr k):∀{a r:AV} {u:Value} {q:Prop} {mv:List (Option Nat)} {fz:List Nat},O2 G.o a r=some (q,mv,fz)->q->(∀id∈fz,(∃o,b5 G.o id=some o)->∀b,G.γ id=some b->K' b)->AVR G a u ->
  ResR Kf G.w r u (X4 G mv)/\Ww G mv
 | a,.ow T fr t xs,u,q,mv,fz,h,hq,hz,f=>by
   unfold O2 at h;split at h
   ·rename_i id aD;split at h
    ·rename_i T' aC t' ys aB H;rw[ce] at h;split at h
     ·rename_i P;simp only[ba] at P;have Q:=nb P.1;have W:=nb P.2;subst Q; subst W;simp only[oi,pj] at h;obtain⟨rfl,rfl,rfl⟩:=h;obtain⟨g,E⟩:=hq;obtain⟨e,rfl⟩:=DU E;cases e;obtain⟨h0,T1,aF,t1,aG,aA,k1,k2,k3⟩:=f;rw[H] at k1;cases k1;have f:=k3 rfl;subst f;obtain⟨cs,g1,F,Y⟩:=S.obs id _ H;exact⟨⟨G.γ id,cs,rfl,h0,g1,F.mapR (fun c x hr=>RT.up hr (fun k n=>s fr k ⟨j k n.1,fun e=>n.2 (g e)⟩))⟩,fun i hi=>by
       grind⟩
     grind
    grind
   ·rename_i x;simp only[oi,pj] at h;obtain⟨rfl,rfl,rfl⟩:=h;obtain⟨g,rfl⟩:=hq;have g:=Wm g;have f:u=x:=f;subst f;subst g;exact⟨⟨none,[],rfl,rfl,.inl ⟨rfl,rfl,rfl,none,rfl⟩,rfl⟩,fun i hi=>by grind⟩
   grind
 | a,.d fr t x,u,q,mv,fz,h,hq,hz,f=>by
   unfold O2 at h;split at h
   ·rename_i y l fl hd;simp only[oi,pj] at h;obtain⟨rfl,rfl,rfl⟩:=h;obtain⟨g,rfl⟩:=hq;exact⟨⟨RT.up (Ga S j 24 hd (fun id z=>hz id z (Gd 24 hd id z)) ⟨u,[],rfl,f,rfl⟩) (fun k n=>s fr k ⟨n.1,fun e=>n.2 (g e)⟩),rfl⟩,fun i hi=>by cases hi⟩
   grind
 | a,.ob T rs,u,q,mv,fz,h,hq,hz,f=>by
   unfold O2 at h;split at h
   ·rename_i id;split at h
    ·rename_i T' cs H;rw[ce] at h;split at h
     ·rename_i V;have V:=nb V;subst V;split at h
      ·rename_i q1 m1 f1 g;simp only[oi,pj] at h;obtain⟨rfl,rfl,rfl⟩:=h;obtain⟨_,b,hb,rfl⟩:=f;obtain⟨b',m,g1,F,Y,g4⟩:=S.obs id _ H;rw[hb] at F;cases F;obtain⟨a1,a2⟩:=RH S j s g hq hz g4;refine⟨⟨b,m,X4 G m1,by grind[X4],rfl,Y,a1⟩,fun i hi=>?_⟩;rcases List.mem_cons.1 hi with e | hi
       ·grind
       ·exact a2 i hi
      grind
     grind
    grind
   grind
 | a,.v x,u,q,mv,fz,h,hq,hz,f=>by
   unfold O2 at h;split at h
   ·simp only[oi,pj] at h;obtain⟨rfl,rfl,rfl⟩:=h;exact⟨⟨(show u=_ from f).trans hq,rfl⟩,fun i hi=>by cases hi⟩
   grind
 | a,.agg rs,u,q,mv,fz,h,hq,hz,f=>by
   unfold O2 at h;split at h
   ·obtain⟨m,e,f⟩:=f;obtain⟨g,E⟩:=RH S j s h hq hz f;exact⟨⟨m,e,g⟩,E⟩
   grind
 | a,.tup rs,u,q,mv,fz,h,hq,hz,f=>by
   unfold O2 at h;split at h
   ·obtain⟨m,e,f⟩:=f;obtain⟨g,E⟩:=RH S j s h hq hz f;exact⟨⟨m,e,g⟩,E⟩
   grind
 | a,.ptr _ _,u,q,mv,fz,h,hq,hz,f=>by grind[O2]
 | a,.pel _ _ _ _ _,u,q,mv,fz,h,hq,hz,f=>by grind[O2]
 | a,.os _ _,u,q,mv,fz,h,hq,hz,f=>by grind[O2]
 | a,.fn _ _,u,q,mv,fz,h,hq,hz,f=>by grind[O2]
 | a,.gel _ _,u,q,mv,fz,h,hq,hz,f=>by grind[O2]
 | a,.og _,u,q,mv,fz,h,hq,hz,f=>by grind[O2]
theorem RH{X:Cx}{G:Gh}(S:Sat X G){K':Nat->Prop}(j:∀k,G.K k->K' k){Kf:Bool->Nat->Prop}(l:∀fr k,rk G K' fr k->Kf fr k):∀{as' rs:List AV} {us:List Value} {q:Prop} {mv:List (Option Nat)} {fz:List Nat},Dh G.o as' rs=some (q,mv,fz)->q->(∀id∈fz,(∃o,b5 G.o id=some o)->∀b,G.γ id=some b->K' b)->AVRs G as' us ->
  ResRs Kf G.w rs us (X4 G mv)/\Ww G mv
 | as',[],us,q,mv,fz,h,hq,hz,hu=>by
   unfold Dh at h;split at h
   ·simp only[oi,pj] at h;obtain⟨rfl,rfl,rfl⟩:=h;exact⟨⟨hu,rfl⟩,fun i hi=>by cases hi⟩
   grind
 | as',r :: rs,us,q,mv,fz,h,hq,hz,hu=>by
   unfold Dh at h;split at h
   ·rename_i a t;split at h
    ·rename_i P m Q z;split at h
     ·rename_i F n H x;simp only[oi,pj] at h;obtain⟨rfl,rfl,rfl⟩:=h;obtain⟨u,f,e,c,g⟩:=hu;obtain⟨s,y⟩:=RG S j l z hq.1 (fun id d=>hz id (by grind)) c;obtain⟨v,E⟩:=RH S j l x hq.2 (fun id d=>hz id (by grind)) g;refine⟨⟨u,f,X4 G m,X4 G n,e,by simp[X4],s,v⟩,fun i hi=>?_⟩;rcases List.mem_append.1 hi with h | h
      ·exact y i h
      ·exact E i h
     grind
    grind
   grind
end
def Z4(o:List (Nat×Ob)):Nat->(ps:List q9)->D4 ps->Option (Prop×List Nat×Option Nat)
 | _,[],_=>some (True,[],none)
 | i,.io T t :: _,z=>match b5 o (500000+i) with
   | some (.box T' cs)=>bif Nat.beq T' T then(match H8 o 24 t cs with
     | some (y,l,_)=>some (y=z,l,some (500000+i))
     | none=>none) else none
   | _=>none
 | i,.dat _ :: r,z=>Z4 o (i+1) r z
 | i,.agg _ :: r,z=>Z4 o (i+1) r z
 | i,.fn _ _ :: r,z=>Z4 o (i+1) r z
 | i,.nof _ :: r,z=>Z4 o (i+1) r z
 | i,.nil :: r,z=>Z4 o (i+1) r z
 | i,.os _ _ :: r,z=>Z4 o (i+1) r z
def NW(Γ:p8)(st:St):ResultVar->Option (Prop×AV)
 | .tmp t=>match b5 st.e t with
   | some ⟨[],a⟩=>some (True,a)
   | _=>none
 | .cell t ty=>match b5 st.e t with
   | some ⟨[],p⟩=>match X1 st.o p with
     | some (cs,_)=>match b5 Γ ty with
       | some ti=>match JG ti cs with
         | some a=>some (Cr st.o p,a)
         | none=>none
       | none=>none
     | none=>none
   | _=>none
def HV(Γ:p8)(st:St):List ResultVar->Option (Prop×List AV)
 | []=>some (True,[])
 | r :: rs=>match NW Γ st r with
   | some (q,a)=>match HV Γ st rs with
     | some (q',l)=>some (q/\q',a :: l)
     | none=>none
   | none=>none
def HW(tmps:Array Value):ResultVar->Sem Value
 | .tmp t=>pure (tmps.getD t undef)
 | .cell a t=>do loadVar t (<- asAddr (tmps.getD a undef))
theorem r0K{X:Cx}{Γ:p8}(x:B2 X.P Γ){G:Gh}{st:St}{a:Act}(S:Sat X G)(ho:G.o=st.o)(T:EnvR X.n G st.e a){r:ResultVar}{q:Prop}{b:AV}(h:NW Γ st r=some (q,b))(Q:q) :
  ∃v,(HW a.tmps r).run X.P G.w=.ok v G.w/\AVR G b v:=by
 unfold NW at h;split at h
 ·rename_i t;split at h
  ·rename_i a0 z;simp only[oi,pj] at h;obtain⟨rfl,rfl⟩:=h;exact⟨_,rfl,(T.val t _ z).1 (fun _ h=>by cases h)⟩
  grind
 ·rename_i t k;split at h
  ·rename_i p z;split at h
   ·rename_i cs l H;split at h
    ·rename_i i y;split at h
     ·rename_i av d;simp only[oi,pj] at h;obtain⟨rfl,rfl⟩:=h;rw[<- ho] at H Q;obtain⟨bk,o,V,hp,j,s⟩:=VB S H Q ((T.val t _ z).1 (fun _ h=>by cases h));obtain⟨hi,W,_,_,m⟩:=x _ _ y;have m:=B0r m;have g:∀v,(loadVar k ⟨bk,o,none⟩).run X.P G.w=.ok v G.w->(HW a.tmps (.cell t k)).run X.P G.w=.ok v G.w:=fun v hv=>by
       grind[undef,Array.getD_eq_getD_getElem?,HW,asAddr]
      unfold JG at d;rw[ce] at d;split at d
      ·rename_i F;rw[ce] at d;split at d
       ·rename_i f;simp only[oi] at d; subst d;have f:=Nat.le_of_ble_eq_true f
        haveI:L5 X.P k:=⟨m.1 F⟩
        haveI:Info X.P k i.size i.bytes i.zero:=⟨hi⟩
        have E:=s.len;exact⟨_,g _ (QQ (by grind) (Vy j i.size)),V.take i.size,rfl,(s.take _).1⟩
       grind
      ·rename_i F;split at d
       ·rename_i c r;simp only[oi] at d; subst d
        haveI:K2 X.P k:=⟨m.2 (by grind)⟩
        obtain⟨u,Y,rfl,hu,_⟩:=s;exact⟨u,g _ (i0X (by simpa using j 0 u rfl)),hu⟩
       grind
     grind
    grind
   grind
  grind
theorem i0J{X:Cx}{Γ:p8}(c:B2 X.P Γ){G:Gh}{st:St}{a:Act}(S:Sat X G)(f:G.o=st.o)(g:EnvR X.n G st.e a):∀{rs:List ResultVar} {q:Prop} {bs:List AV},HV Γ st rs=some (q,bs)->q ->
  ∃vs,(rs.mapM (HW a.tmps)).run X.P G.w=.ok vs G.w/\AVRs G bs vs/\vs.length=rs.length
 | [],q,bs,h,hq=>by
   simp only[HV,oi,pj] at h;obtain⟨rfl,rfl⟩:=h;exact⟨[],rfl,rfl,rfl⟩
 | r :: rs,q,bs,h,hq=>by
   unfold HV at h;split at h
   ·rename_i u b k;split at h
    ·rename_i t l j;simp only[oi,pj] at h;obtain⟨rfl,rfl⟩:=h;obtain⟨v,m,i⟩:=r0K c S f g k hq.1;obtain⟨vs,s,d,x⟩:=i0J c S f g j hq.2;exact⟨v :: vs,by simp_all,⟨v,vs,rfl,i,d⟩,by grind⟩
    grind
   grind
def Wx:List AV->AV
 | [a]=>a
 | as'=>.tup as'
def L0s:List Value->Value
 | [v]=>v
 | vs=>.tuple vs.toArray
theorem Wy{G:Gh}{c:List AV}{vs:List Value}(h:AVRs G c vs):AVR G (Wx c) (L0s vs):=by
 match c,vs,h with
 | [],vs,h=>have h:vs=[]:=h; subst h; exact⟨[],rfl,rfl⟩
 | [a],vs,⟨u,us,e,h1,d⟩=>have d:us=[]:=d; subst d; subst e; exact h1
 | a :: b :: r,vs,⟨u,us,e,h1,u2,us2,e2,d,h3⟩=>subst e2; subst e; exact⟨u :: u2 :: us2,rfl,u,_,rfl,h1,u2,us2,rfl,d,h3⟩
theorem i0I{b:Func}{rs:List ResultVar}(c:b.results=rs.toArray){P:Program}{a:Array Value}{w:World}{vs:List Value}(h:(rs.mapM (HW a)).run P w=.ok vs w):(results b a).run P w=.ok (L0s vs) w:=by
 have d:results b a=(do
   let vs <- Array.mapM (HW a) rs.toArray
   pure (if h:vs.size=1 then vs[0] else .tuple vs)):=by
  unfold results;rw[c];congr 1
 have:(Array.mapM (HW a) rs.toArray).run P w=.ok vs.toArray w:=by
  rw[List.mapM_toArray];simp[h,Result.andThen]
 rw[d];simp only[Sem.run_bind,this,Result.andThen]
 match vs with
 | []=>rfl
 | [v]=>rfl
 | v :: u :: r=>rfl
def onceN:List (Option Nat)->Bool
 | []=>true
 | none :: r=>onceN r
 | some i :: r=>notInS i r&&onceN r
where notInS (i:Nat):List (Option Nat)->Bool
 | []=>true
 | none :: r=>notInS i r
 | some j :: r=>!(Nat.beq i j)&&notInS i r
def NX(mv:List (Option Nat)):List Nat->Bool
 | []=>true
 | i :: r=>onceN.notInS i mv&&NX mv r
theorem NY{i:Nat}:∀{l:List (Option Nat)},onceN.notInS i l=true->some i ∉ l
 | [],_=>by simp
 | none :: r,h=>by
   have:=NY (l:=r) h;simpa using this
 | some j :: r,h=>by
   simp only[onceN.notInS,ba,Bool.not_eq_true'] at h;have:=NY h.2;simp only[List.mem_cons,oi,not_or];exact⟨fun e=>by simp_all,this⟩
theorem r0n{mv:List (Option Nat)}:∀{l:List Nat},NX mv l=true->∀i∈l,some i ∉ mv
 | j :: r,h,i,hi=>by
   simp only[NX,ba] at h;rcases List.mem_cons.1 hi with rfl | hi
   ·grind[NY]
   ·exact r0n h.2 i hi
theorem RJ{X:Cx}{G:Gh}(S:Sat X G):∀{mv:List (Option Nat)},onceN mv=true->Ww G mv->Dc (X4 G mv)
 | [],_,_=>trivial
 | none :: r,h,ha=>⟨(fun b e=>by cases e),RJ S (mv:=r) h (fun i hi=>ha i (List.mem_cons_of_mem _ hi))⟩
 | some i :: r,h,ha=>by
   simp only[onceN,ba] at h;refine⟨fun b e d=>?_,RJ S h.2 (fun i hi=>ha i (List.mem_cons_of_mem _ hi))⟩;have e:G.γ i=some b:=e;obtain⟨o,c,a⟩:=List.mem_map.1 d;cases o with
   | none=>grind
   | some j =>
     have a:G.γ j=some b:=a;obtain⟨_,g⟩:=ha i (by simp);obtain⟨_,f⟩:=ha j (List.mem_cons_of_mem _ c);have:=S.inj i j _ _ b g f e a
     grind[NY]
def RL(f:Nat->Bool):Option Nat->Bool
 | none=>true
 | some i=>f i
/- Data that lead nowhere. -/
mutual
def Fg:AV->Bool
 | .d _ t _=>H7 t
 | .ow _ _ t _=>H7 t
 | .ob _ xs=>JT xs
 | .agg xs=>JT xs
 | .tup xs=>JT xs
 | _=>true
def JT:List AV->Bool
 | []=>true
 | a :: r=>Fg a&&JT r
end
mutual
theorem ResR.kf{K K':Bool->Nat->Prop}{w:World}:∀{a:AV} {u:Value} {gs:List (Option Nat)},Fg a=true->ResR K w a u gs->ResR K' w a u gs
 | .v _,_,_,_,h=>h
 | .d fr t x,u,gs,hf,⟨h,e⟩=>⟨RT.free (by grind[Fg]) h,e⟩
 | .ow T fr t xs,u,gs,hf,⟨g,cs,h1,h2,h3,h4⟩=>⟨g,cs,h1,h2,h3,h4.mapR (fun c x h=>RT.free (by grind[Fg]) h)⟩
 | .agg xs,u,gs,hf,⟨us,e,h⟩=>⟨us,e,ResRs.kf (by grind[Fg]) h⟩
 | .ob T xs,u,gs,hf,⟨b,us,gs',e1,e2,h1,h⟩=>⟨b,us,gs',e1,e2,h1,ResRs.kf (by grind[Fg]) h⟩
 | .tup xs,u,gs,hf,⟨us,e,h⟩=>⟨us,e,ResRs.kf (by grind[Fg]) h⟩
theorem ResRs.kf{K K':Bool->Nat->Prop}{w:World}:∀{as':List AV} {us:List Value} {gs:List (Option Nat)},JT as'=true->ResRs K w as' us gs->ResRs K' w as' us gs
 | [],_,_,_,h=>h
 | a :: r,us,gs,hf,⟨u,us',g1,g2,e1,e2,h1,h2⟩=>by
   simp only[JT,ba] at hf;exact⟨u,us',g1,g2,e1,e2,ResR.kf hf.1 h1,ResRs.kf hf.2 h2⟩
end
def HX(Γ:p8)(st:St)(rs:List ResultVar)(r:AV)(ps:List q9)(z:D4 ps):Prop :=
 match HV Γ st rs with
 | some (q0,as')=>match O2 st.o (Wx as') r with
   | some (q,mv,fz)=>match Z4 st.o 0 ps z with
     | some (q',fz',pin)=>bif onceN mv&&NX mv (fz++fz')&&RL (fun i=>HI i (fz++fz')) pin&&(!H2 ps||Fg r)&&RL (fun i=>onceN.notInS i mv) pin then q0/\q/\q' else False
     | none=>False
   | none=>False
 | none=>False
def I0d(c:Ct)(x:C8 c.ps)(w:World)(go:Option Nat)(K:Nat->Prop)(en:Ending)(w':World):Prop :=
 ∃v gs,en=.returned v/\WE go w w'/\Dc gs/\(∀b,some b∈gs->w.heap.size<=b∨(H2 c.ps=true/\go=some b))/\ResR (fun fr=>JJ fr K w w' gs) w' (c.res x).r v gs /\
  IOR (fun k=>(K k∨w.heap.size<=k)/\UFg w' w.heap.size k/\some k ∉ gs/\go≠some k) w' go c.ps (c.res x).z
theorem HY{X:Cx}{G:Gh}(S:Sat X G){K' Kf:Nat->Prop}(a:∀k,G.K k->K' k)(c:∀k,K' k->Kf k){go:Option Nat}:∀{ps:List q9} {i:Nat} {z:D4 ps} {q:Prop} {fz:List Nat} {pin:Option Nat},¬H2 ps=true->Z4 G.o i ps z=some (q,fz,pin)->q->X.pin=NV (q7 i ps go)->((∃b,go=some b)∨pin=none) ->
  (∀id∈fz,(∃o,b5 G.o id=some o)->∀b,G.γ id=some b->K' b)->IOR Kf G.w go ps z/\∀id,pin=some id->∃T cs,b5 G.o id=some (.box T cs)/\G.γ id=go
 | .os _ _ :: _,_,_,_,_,_,hv,_,_,_,_,_=>(hv rfl).elim
 | [],i,z,q,fz,pin,_,h,hq,_,_,_=>by
   simp only[Z4,oi,pj] at h;obtain⟨_,_,rfl⟩:=h;exact⟨trivial,fun _ e=>by cases e⟩
 | .io T t :: r,i,z,q,fz,pin,_,h,hq,hp,hg,hz=>by
   unfold Z4 at h;split at h
   ·rename_i P cs s;rw[ce] at h;split at h
    ·rename_i g;have g:=nb g;subst g;split at h
     ·rename_i y l W m;simp only[oi,pj] at h;obtain⟨rfl,rfl,rfl⟩:=h;obtain rfl:=hq;rcases hg with ⟨b,rfl⟩ | hg
      ·obtain⟨_,Q,E,u⟩:=S.pin i (.pointer (some ⟨b,0,none⟩)) (by rw[hp]; rfl);cases u;obtain⟨V,v,H,j,F,x⟩:=S.obs _ _ s;rw[E] at j;cases j;exact⟨⟨b,v,rfl,F,RT.up (Ga S a 24 m (fun id d=>hz id d (Gd 24 m id d)) x) (fun k n=>c k n.1)⟩,fun id e=>by grind⟩
      grind
     grind
    grind
   grind
 | .dat t :: r,i,z,q,fz,pin,hv,h,hq,hp,hg,hz=>HY (ps:=r) (i:=i+1) S a c hv h hq (by cases go <;> exact hp) hg hz
 | .agg t :: r,i,z,q,fz,pin,hv,h,hq,hp,hg,hz=>HY (ps:=r) (i:=i+1) S a c hv h hq (by cases go <;> exact hp) hg hz
 | .fn f t :: r,i,z,q,fz,pin,hv,h,hq,hp,hg,hz=>HY (ps:=r) (i:=i+1) S a c hv h hq (by cases go <;> exact hp) hg hz
 | .nof f :: r,i,z,q,fz,pin,hv,h,hq,hp,hg,hz=>HY (ps:=r) (i:=i+1) S a c hv h hq (by cases go <;> exact hp) hg hz
 | .nil :: r,i,z,q,fz,pin,hv,h,hq,hp,hg,hz=>HY (ps:=r) (i:=i+1) S a c hv h hq (by cases go <;> exact hp) hg hz
theorem JU{K:Nat->Prop}{w:World}{o:List (Nat×Ob)}:∀{ps:List q9} {i:Nat} {x:C8 ps} {vs:List Value} {go:Option Nat} {z:D4 ps} {q:Prop} {fz:List Nat} {pin:Option Nat},¬H2 ps=true->ArgsR K w go ps x vs->Z4 o i ps z=some (q,fz,pin)->(go=none/\pin=none)∨∃b j,go=some b/\pin=some j
 | .os _ _ :: _,_,_,_,_,_,_,_,_,hv,_,_=>(hv rfl).elim
 | [],i,x,vs,go,z,q,fz,pin,_,ha,h=>by
   simp only[Z4,oi,pj] at h;exact .inl ⟨ha.2,h.2.2.symm⟩
 | .io T t :: r,i,x,vs,go,z,q,fz,pin,_,⟨b,_,_,_,hg,_⟩,h=>by
   grind[Z4]
 | .dat t :: r,i,x,vs,go,z,q,fz,pin,hv,⟨_,_,_,_,ha⟩,h=>JU (ps:=r) (i:=i+1) hv ha h
 | .agg t :: r,i,x,vs,go,z,q,fz,pin,hv,⟨_,_,_,_,ha⟩,h=>JU (ps:=r) (i:=i+1) hv ha h
 | .fn f t :: r,i,x,vs,go,z,q,fz,pin,hv,⟨_,_,_,_,ha⟩,h=>JU (ps:=r) (i:=i+1) hv ha h
 | .nof f :: r,i,x,vs,go,z,q,fz,pin,hv,⟨_,_,ha⟩,h=>JU (ps:=r) (i:=i+1) hv ha h
 | .nil :: r,i,x,vs,go,z,q,fz,pin,hv,⟨_,_,ha⟩,h=>JU (ps:=r) (i:=i+1) hv ha h
theorem B0x{P:Program}{n:Nat}{Γ:p8}(aN:B2 P Γ){c:Ct}{x:C8 c.ps}{w:World}{K:Nat->Prop}{go:Option Nat}{vs:List Value}(aJ:AT c.ps=true)(ha:ArgsR K w go c.ps x vs)
  {fn:Func} {rs:List ResultVar} (hr:fn.results=rs.toArray) {st:St} (h:HX Γ st rs (c.res x).r c.ps (c.res x).z) :
  ∀G a,Sat (cx P n ⟨w,fun k=>go=some k,K,NV (q7 0 c.ps go),P9 c.ps w⟩) G->G.o=st.o->EnvR n G st.e a->a.defers=[]/\∃v,(results fn a.tmps).run P G.w=.ok v G.w/\I0d c x w go K (.returned v) G.w:=by
 intro G a S ho hE;unfold HX at h;split at h
 ·rename_i q0 aU h0;split at h
  ·rename_i q E fz i;split at h
   ·rename_i q' aB aR W;rw[ce] at h;split at h
    ·rename_i u;simp only[ba] at u;obtain⟨⟨⟨⟨aC,aM⟩,aG⟩,aD⟩,aF⟩:=u;obtain⟨aI,hq,aH⟩:=h;obtain⟨us,e1,hu,_⟩:=i0J (X:=cx P n ⟨w,fun k=>go=some k,K,NV (q7 0 c.ps go),P9 c.ps w⟩) aN S ho hE h0 aI;rw[<- ho] at i W;have aT:=r0n aM;obtain⟨_,l⟩:=RG (K':=fun _=>True) (Kf:=fun _ _=>True) S (fun _ _=>trivial) (fun _ _ _=>trivial) i hq (fun _ _ _ _ _=>trivial) (Wy hu);have y:∀k,some k∈X4 G E->∃id,some id∈E/\G.γ id=some k:=fun k d=>by
      obtain⟨o,i,W⟩:=List.mem_map.1 d;cases o with
      | none=>cases W
      | some id=>grind
     by_cases m:H2 c.ps=true
     ·obtain⟨hR,_⟩:=RG (K':=fun _=>True) (Kf:=fun _ _=>True) S (fun _ _=>trivial) (fun _ _ _=>trivial) i hq (fun _ _ _ _ _=>trivial) (Wy hu);rw[m,Bool.not_true,Bool.false_or] at aD;refine⟨hE.defers,_,i0I hr e1,_,X4 G E,rfl,⟨S.os,S.tape,S.output,S.size,fun k d hg=>S.block k d hg⟩,RJ S aC l,fun b u=>?_,ResR.kf aD hR,JS aJ m⟩;obtain⟨j,H,F⟩:=y b u;obtain⟨_,Q⟩:=l j H;rcases S.own j _ b Q F with h | h
      ·grind
      grind
     have aK:=n0M (w:=w) m;have Y:=JU m ha W;obtain⟨_,s⟩:=HY (K':=fun _=>True) (Kf:=fun _=>True) (go:=go) S (fun _ _=>trivial) (fun _ _=>trivial) m W aH rfl (by
      grind) (fun _ _ _ _ _=>trivial)
     have aQ:∀id∈fz++aB,∀o,b5 G.o id=some o->∀k,G.γ id=some k->w.heap.size<=k/\UFg G.w w.heap.size k/\some k ∉ X4 G E/\go≠some k:=fun id aA o f k d=>by
      have aL:go≠some k:=fun e=>by
       rcases Y with ⟨h,_⟩ | ⟨b,j,h,hj⟩
       ·grind
       ·obtain⟨T,cs,k1,k2⟩:=s j hj;have:=S.inj id j _ _ k f k1 d (k2.trans e);subst this;rw[hj] at aG;exact NM aG aA
      refine⟨?_,?_,?_,aL⟩
      ·rcases S.own id o k f d with h | h
       ·exact h
       grind
      ·have:=S.obs id o f;cases o with
       | box T cs=>obtain⟨b',us,i,W,h3,h4⟩:=this; rw[d] at i; cases i; exact(Vs h3).g
       | arr T fr t xs aS=>obtain⟨cs,i,W,_⟩:=this; rw[d] at i; exact(FZ i).g
       | grd T Te fr t xs aO=>obtain⟨vs,bs,i,_⟩:=this; rw[d] at i; exact(FZ i).g
      ·intro hm;obtain⟨j,H,F⟩:=y k hm;obtain⟨_,Q⟩:=l j H;have:=S.inj id j _ _ k f Q d F
       grind
     have aP:∀k,G.K k->(K k∨w.heap.size<=k)/\UFg G.w w.heap.size k/\some k ∉ X4 G E/\go≠some k:=fun k d=>by
      refine⟨by
       have h:K k∨P9 c.ps w<=k:=S.kfrom k d
       rwa [aK] at h,S.klt k d,fun hm=>?_,fun e=>?_⟩
      ·obtain⟨j,H,F⟩:=y k hm;obtain⟨_,Q⟩:=l j H;exact S.imm j _ k Q F d
      ·rcases Y with ⟨h,_⟩ | ⟨b,j,h,hj⟩
       ·grind
       ·obtain⟨T,cs,k1,k2⟩:=s j hj;exact S.imm j _ k k1 (k2.trans e) d
     let K':Nat->Prop:=fun k=>G.K k∨∃id∈fz++aB,G.γ id=some k/\∃o,b5 G.o id=some o
     have V:∀k,K' k->(K k∨w.heap.size<=k)/\UFg G.w w.heap.size k/\some k ∉ X4 G E/\go≠some k:=fun k d=>by
      grind
     obtain⟨hR,_⟩:=RG (K':=K') (Kf:=fun fr=>JJ fr K w G.w (X4 G E)) S (fun _ h=>.inl h) (fun fr k d=>by
      obtain⟨a1,a2,a3,_⟩:=V k d.1;refine⟨?_,a2,a3⟩;cases fr with
      | false =>
        grind
      | true=>exact .inr (by
        have h:G.B<=k:=d.2 rfl;have e:G.B=P9 c.ps w:=S.base.1;omega)) i hq (fun id aA ⟨o,f⟩ b u=>.inr ⟨id,by grind,u,o,f⟩) (Wy hu)
     obtain⟨hI,_⟩:=HY (K':=K') (Kf:=fun k=>(K k∨w.heap.size<=k)/\UFg G.w w.heap.size k/\some k ∉ X4 G E/\go≠some k) (go:=go) S (fun _ h=>.inl h) V m W aH rfl (by
      grind) (fun id aA ⟨o,f⟩ b u=>.inr ⟨id,by grind,u,o,f⟩)
     refine⟨hE.defers,_,i0I hr e1,_,X4 G E,rfl,⟨S.os,S.tape,S.output,S.size,fun k d hg=>S.block k d hg⟩,RJ S aC l,fun b u=>?_,hR,hI⟩;obtain⟨j,H,F⟩:=y b u;obtain⟨_,Q⟩:=l j H;rcases S.own j _ b Q F with h | h
     ·grind
     ·have h:go=some b:=h;rcases Y with ⟨h',_⟩ | ⟨b',i',h',hj⟩
      ·grind
      ·obtain⟨T,cs,k1,k2⟩:=s i' hj;have:=S.inj i' j _ _ b k1 Q (k2.trans h) F;subst this;rw[hj] at aF;exact(NY aF H).elim
    grind
   grind
  grind
 grind
def wfs:(ps:List q9)->C8 ps->Prop
 | [],_=>True
 | .dat t :: r,x=>wf t x.1/\wfs r x.2
 | .agg t :: r,x=>wf t x.1/\wfs r x.2
 | .fn _ c :: r,x=>wf c x.1/\wfs r x.2
 | .nof _ :: r,x=>wfs r x.2
 | .nil :: r,x=>wfs r x.2
 | .io _ t :: r,x=>wf t x.1/\wfs r x.2
 | .os _ t :: r,x=>wf (.sl t) x.1/\wfs r x.2
theorem B0h{K:Nat->Prop}{w:World}{E s:Nat}{t:Ty}{g:Option Nat}{v:Value}{cs:List Value}{xs:List (c9 t)}(h:Own w E s g v xs.length cs)(a:AllR (RT K w t) cs xs):wf (.sl t) xs:=by
 refine⟨?_,fun x d=>?_⟩
 ·rcases h with ⟨_,h,_⟩ | ⟨b,o,cap,cur,_,_,_,h1,h2,_⟩
  ·omega
  grind[maxLen,Nat.le_trans]
 ·obtain⟨c,e⟩:=a.mem x d;exact RT.wf e
theorem ArgsR.wfs{K:Nat->Prop}{w:World}:∀{ps:List q9} {x:C8 ps} {vs:List Value} {go:Option Nat},ArgsR K w go ps x vs->Xv.wfs ps x
 | [],_x,_vs,_go,_=>trivial
 | .dat _t :: _r,_x,_vs,_go,⟨_v,_us,_e,h1,h⟩=>⟨RT.wf h1,ArgsR.wfs h⟩
 | .agg _t :: _r,_x,_vs,_go,⟨_v,_us,_e,h1,h⟩=>⟨RT.wf h1,ArgsR.wfs h⟩
 | .fn _f _t :: _r,_x,_vs,_go,⟨_v,_us,_e,h1,h⟩=>⟨RT.wf h1,ArgsR.wfs h⟩
 | .nof _f :: r,_x,_vs,_go,⟨_us,_e,h⟩=>ArgsR.wfs (ps:=r) h
 | .nil :: r,_x,_vs,_go,⟨_us,_e,h⟩=>ArgsR.wfs (ps:=r) h
 | .io _ _t :: _r,_x,_vs,_go,⟨_,_cs,_us,_e,_,_,_,h1,h⟩=>⟨RT.wf h1,ArgsR.wfs h⟩
 | .os _ _t :: _r,_x,_vs,_go,⟨_v,_cs,_us,_e,_,_,h1,h2,h⟩=>⟨B0h h1 h2,ArgsR.wfs h⟩
theorem J0Z{P:Program}{Γ:p8}(V:B2 P Γ){c:Ct}{v:Func}{e:Code}{n:Nat}(rs:List ResultVar)(hf:P.funcs[c.f]?=some v)(hn:v.ntmps=n)(hb:v.body=some e)(hr:v.results=rs.toArray)(he:CY P c.f=true)(d:(Nat.ble c.ps.length n&&AT c.ps)=true)
  (h:∀y x,(c.res x).q->Xv.wfs c.ps x->∀Q,(∀st,HX Γ st rs (c.res x).r c.ps (c.res x).z->FX (cx P n y) st .normal Q/\FX (cx P n y) st .ret Q)->VX (cx P n y) ⟨Q6 0 c.ps x,J9 0 c.ps x⟩ e Q):Ok P c:=by
 refine⟨he,fun x hq w m F K hK l=>?_⟩;rw[ba] at d;obtain⟨d,g⟩:=d;have d:=Nat.le_of_ble_eq_true d;have aA:=l.len;refine calls_of_wp hf hb ?_;have:=h ⟨w,fun k=>F=some k,K,NV (q7 0 c.ps F),P9 c.ps w⟩ x hq l.wfs (bodyPost P v (I0d c x w F K)) (fun st H=>?_) (Ff K w F (BG c.ps m) (P9 c.ps w) (J9 0 c.ps x)) { tmps:=m.toArray++Array.replicate (v.ntmps-m.toArray.size) undef,defers:=[] } (t0S hK l) rfl ⟨rfl,by grind,fun t s ht=>?_⟩
 ·exact this
 ·exact⟨fun G a S X Y=>B0x V g l hr H G a S X Y,fun G a S X Y=>B0x V g l hr H G a S X Y⟩
 ·obtain⟨_,a2,u,a3,a4⟩:=Gl (i:=0) (o:=J9 0 c.ps x) (r0:=BG c.ps m) (B:=P9 c.ps w) (g0:=F) g l (fun _=>rfl) (fun z hz=>by
   rcases HU (i:=0) l with ⟨W,_⟩ | ⟨j,b,T,t,z',cs,W,_⟩ | ⟨j,E,t,xs,cs,W,_⟩
   ·grind
   ·rw[W] at hz ⊢;cases List.mem_singleton.1 hz;rw[lK,if_pos rfl]
   ·rw[W] at hz ⊢;cases List.mem_singleton.1 hz;rw[lK,if_pos rfl]) t s ht
  rw[a2];refine⟨fun _=>?_,fun hn=>(hn (fun _ h=>by cases h)).elim⟩;have aB:t<m.length:=by
   rcases Nat.lt_or_ge t m.length with h' | h'
   ·exact h'
   ·grind
  rw[Array.getD_eq_getD_getElem?,Array.getElem?_append_left (by omega)]
  grind
def JV:Option AV->Bool
 | some (.pel ..)=>false
 | some (.gel ..)=>false
 | _=>true
theorem Wz{o:List (Nat×Ob)}{v:AV}(h:JV (some v)=true):Cr o v:=by
 cases v <;> first | trivial | cases h
def AU(st:St)(p:Pa):Op->Bool
 | .move _ | .assign _ | .pick .. | .unOp .not .. | .fieldAddr .. | .field .. | .extract .. | .makeFunc .. | .build .. | .alloc _ | .box .. | .buildSlice ..=>true
 | .call ⟨.builtin .len,_,_⟩ | .call ⟨.builtin .min,_,_⟩ | .call ⟨.builtin .max,_,_⟩=>true
 | .load _ x | .nilCheck x | .store _ x _=>JV (rd st p x)
 | .binOp .eql .. | .binOp .neq .. | .binOp .lss .. | .binOp .leq .. | .binOp .gtr .. | .binOp .geq ..=>true
 | _=>false
theorem H0O{k a:IntKind}{b:Bool}{q:Prop}{r:AV}(h:CZ k a b=some (q,r)):q:=by
 grind[CZ]
theorem H0S{b:Option TI}{a:BinOp}{u v r:AV}{q:Prop}(c:(match a with | .eql | .neq | .lss | .leq | .gtr | .geq=>true | _=>false)=true)(h:NJ b a u v=some (q,r)):q:=by
 unfold NJ at h
 grind[H0O,oi,pj,absurd]
theorem H0X{Γ:p8}{st:St}{p:Pa}{c:Op}{q:Prop}{r:AV}{l:List Nat}(a:AU st p c=true)(h:I3 Γ st p c=some (q,r,l)):q:=by
 unfold I3 at h;split at h
 case h_5 op' T x y n =>
  split at h
  ·split at h
   ·rename_i d;simp only[oi,pj] at h;obtain⟨rfl,_⟩:=h;refine H0S ?_ d;cases op' <;> first | rfl | exact a
   grind
  grind
 case h_3 x =>
  split at h
  ·rename_i v b;split at h
   ·simp only[oi,pj] at h;obtain⟨rfl,_⟩:=h;exact Wz (by rw[<- b]; exact a)
   grind
  grind
 all_goals try (simp[AU] at a; done)
 case h_10 T x =>
  split at h
  ·rename_i v f b e;split at h
   ·split at h
    ·simp only[oi,pj] at h;obtain⟨rfl,_⟩:=h;exact Wz (by rw[<- b]; exact a)
    grind
   grind
  grind
 all_goals (repeat' (split at h))
 all_goals first
  | cases h; done
  | (simp only[oi,pj] at h; rw[<- h.1]; trivial)
  | (rw[ce] at h
     split at h
     ·grind
     ·cases h)
theorem H0Z{Γ:p8}{st:St}{p:Pa}{d:Nat}{a:Op}{q:Prop}{r:AV}{w:Nat×Ob}{l:List Nat}(b:AU st p a=true)(h:AQ Γ st p d a=some (q,r,w,l)):q:=by
 unfold AQ at h
 grind[AU]
theorem H0W{Γ:p8}{st:St}{p:Pa}{a:Op}{q:Prop}{w:Nat×Ob}{l:List Nat}(b:AU st p a=true)(h:Cs Γ st p a=some (q,w,l)):q:=by
 unfold Cs at h
 grind[AU,JV]
theorem I0a{Γ:p8}{st:St}{p:Pa}{d:Nat}{a:Op}{r:Prop×AV×List (Nat×Ob)×List Nat}(b:AU st p a=true)(h:BE Γ st p d a=some r):False:=by
 unfold BE at h
 grind[AU,JV]
theorem D0L{Γ:p8}{st:St}{p:Pa}{a:Op}{r:Prop×List (Nat×Ob)×List Nat}(b:AU st p a=true)(h:Cv Γ st p a=some r):False:=by
 unfold Cv at h
 grind[AU,JV]
theorem H0Y{Γ:p8}{T:List Ct}{st:St}{p:Pa}{o:Oper}{q:Prop}{av:Option AV}{obs:List (Nat×Ob)}{l:List Nat}(b:AU st p o.op=true)(h:Z3 Γ T st p o=some (q,av,obs,l)):q:=by
 have a:∀d q r obs l,Df T st p d o.op≠some (q,r,obs,l):=fun d q r obs l a=>by
  unfold Df at a
  grind[AU]
 unfold Z3 at h;split at h
 ·rw[ce] at h;split at h
  ·grind[oi,pj,H0X,I0a]
  ·rw[ce] at h
   grind[oi,pj,H0Z]
 ·rw[ce] at h
  grind[oi,pj,H0W,D0L]
def Di(Γ:p8)(T:List Ct)(all:List Oper):List Oper->St->List B5->Option (Prop×St×List B5)
 | [],st,rs=>some (True,st,rs)
 | o :: r,st,rs=>match Cw all st.e o with
   | some p=>match Z3 Γ T st p o with
     | some (q,av,obs,fp)=>bif De p||De obs then(match Di Γ T all r ⟨Fc o.dst p av st.e,obs++st.o⟩ (⟨o,p,av,obs,fp⟩ :: rs) with
       | some (V,st',rs')=>some (bif AU st p o.op then V else(Rt st.e p q/\V),st',rs')
       | none=>none) else none
     | none=>none
   | none=>none
theorem E0F{e:List (Nat×Sl)}{p:Pa}{q:Prop}(h:q):Rt e p q:=by
 unfold Rt
 grind
theorem HZ{Γ:p8}{T:List Ct}{all:List Oper}{K:St->List B5->Prop}:∀{ops:List Oper} {st:St} {rs:List B5} {V:Prop} {st':St} {rs':List B5},Di Γ T all ops st rs=some (V,st',rs')->V->K st' rs'->HM Γ T all ops st rs K
 | [],st,rs,V,st',rs',h,hV,hK=>by
   simp only[Di,oi,pj] at h;obtain⟨_,rfl,rfl⟩:=h;exact hK
 | o :: r,st,rs,V,st',rs',h,hV,hK=>by
   unfold Di at h;unfold HM;split at h
   ·rename_i p d
    try (rw[d]; simp only)
    split at h
    ·rename_i q m e k b
     try (rw[b]; simp only)
     rw[ce] at h ⊢;split at h
     ·rename_i f;rw[if_pos f];split at h
      ·rename_i l i g c;simp only[oi,pj] at h;obtain⟨a,rfl,rfl⟩:=h;rw[ce] at a;split at a
       ·rename_i j;subst a;exact⟨E0F (H0Y j b),HZ c hV hK⟩
       ·subst a;exact⟨hV.1,HZ c hV.2 hK⟩
      grind
     grind
    grind
   grind
def NZ(n:Nat)(Γ:p8)(T:List Ct)(l:List Oper)(keep:List Nat)(st:St):Option (Prop×St) :=
 bif S7 n 0 [] l&&X3 st.e then(match Di Γ T l l st [] with
  | some (V,st',_)=>some (V,cut keep st')
  | none=>none) else none
def RM(n:Nat)(Γ:p8)(T:List Ct)(l:List Oper)(keep:List Nat)(st:St):Option (Prop×St) :=
 bif S7 n 0 [] l&&Gj 0 l&&X3 st.e then(match Di Γ T l l st [] with
  | some (V,st',rs)=>bif Rx (An [] l) rs.reverse then some (V,cut keep st') else none
  | none=>none) else none
section
variable {P:Program} {n:Nat} {y:World×(Nat->Prop)×(Nat->Prop)×(Nat->Value->Prop)×Nat} {st:St} {Q:Exit->Act->World->Prop} {Γ:p8} {T:List Ct}
theorem rs(d:B2 P Γ)(f:∀c∈T,Ok P c)(a:List Nat)(st':St)(V:Prop){id:Nat}{l:List Oper}{c:Code}(h:NZ n Γ T l a st=some (V,st'))(k:V)(e:VX (cx P n y) st' c Q):VX (cx P n y) st (.seq (.region id l.toArray false) c) Q:=by
 unfold NZ at h;rw[ce] at h;split at h
 ·rename_i b;rw[ba] at b;split at h
  ·rename_i m i g j;simp only[oi,pj] at h;obtain⟨rfl,rfl⟩:=h;exact vQ (y0K (X:=cx P n y) d f a b.1 b.2 (HZ j k (fQ e)))
  grind
 grind
theorem re(d:B2 P Γ)(f:∀c∈T,Ok P c)(a:List Nat)(st':St)(V:Prop){id:Nat}{l:List Oper}(h:NZ n Γ T l a st=some (V,st'))(k:V)(e:FX (cx P n y) st' .normal Q):VX (cx P n y) st (.region id l.toArray false) Q:=by
 unfold NZ at h;rw[ce] at h;split at h
 ·rename_i b;rw[ba] at b;split at h
  ·rename_i m i g j;simp only[oi,pj] at h;obtain⟨rfl,rfl⟩:=h;exact y0K (X:=cx P n y) d f a b.1 b.2 (HZ j k e)
  grind
 grind
theorem de(d:B2 P Γ)(g:∀c∈T,Ok P c)[o:M1 P](a:List Nat)(st':St)(V:Prop){id:Nat}{l:List Oper}(h:RM n Γ T l a st=some (V,st'))(m:V)(f:FX (cx P n y) st' .normal Q):VX (cx P n y) st (.region id l.toArray true) Q:=by
 unfold RM at h;rw[ce] at h;split at h
 ·rename_i b;rw[ba] at b;split at h
  ·rename_i q j i k;rw[ce] at h;split at h
   ·rename_i e;simp only[oi,pj] at h;obtain⟨rfl,rfl⟩:=h;exact B0H (X:=cx P n y) d g a b.1 b.2 (HZ k m ⟨e,f⟩)
   grind
  grind
 grind
theorem ds(b:B2 P Γ)(e:∀c∈T,Ok P c)[g:M1 P](a:List Nat)(st':St)(V:Prop){id:Nat}{l:List Oper}{c:Code}(h:RM n Γ T l a st=some (V,st'))(f:V)(d:VX (cx P n y) st' c Q):VX (cx P n y) st (.seq (.region id l.toArray true) c) Q :=
 vQ (de b e a st' V h f (fQ d))
end
theorem C0n{P:Program}:B2 P []:=fun _ _ h=>by cases h
theorem tK{P:Program}{T:TypeId}{c:TI}{Γ:p8}(h:HC P T c)(e:B2 P Γ):B2 P ((T,c) :: Γ):=fun d b a=>by
 rw[lK] at a;split at a
 ·grind
 ·exact e d b a
abbrev i64:Ty:=.int .i64
abbrev p(t:Nat)(a:AV):Nat×Sl:=(t,⟨[],a⟩)
abbrev I(x:Int):AV:=.d true (.int .i64) x
abbrev J(x:Int):AV:=.d false (.int .i64) x
abbrev B(x:Bool):AV:=.d true .bool x
abbrev C(x:Bool):AV:=.d false .bool x
abbrev S(x:ByteArray):AV:=.d true .str x
abbrev U(x:ByteArray):AV:=.d false .str x
abbrev D(t:Ty)(x:c9 t):AV:=.d false t x
abbrev N(t:Ty)(x:c9 t):AV:=.d true t x
abbrev L(t:Ty)(x:List (c9 t)):AV:=.d false (.sl t) x
abbrev M(t:Ty)(x:List (c9 t)):AV:=.d true (.sl t) x
abbrev nil:AV:=.v (.slice none 0 0)
theorem ev{Γ:p8}{st:St}{rs:List ResultVar}{r:AV}{ps:List q9}{z:D4 ps}(V:Prop)(h:HX Γ st rs r ps z=V)(a:V):HX Γ st rs r ps z:=h ▸ a
theorem tn{P:Program}:∀c∈([]:List Ct),Ok P c:=fun _ h=>by cases h
theorem tc{P:Program}{c:Ct}{T:List Ct}(h:Ok P c)(b:∀c∈T,Ok P c):∀c'∈c :: T,Ok P c':=fun c' a=>by
 grind
end Go.Proofs.Xv
end
section
namespace Go.Proofs.Xd
open Go Go.Proofs.Xv
theorem v0n{b:Type}(a:List b)(z d:b)(s:Nat)(h:s<a.length):(a.take s++List.replicate (a.length-s) z).set s (a.getD s d)=a.take (s+1)++List.replicate (a.length-(s+1)) z:=by
 apply List.ext_getElem?
 grind
theorem y0p{b:Type}(a:List b)(z:b)(s:Nat)(h:a.length<=s):a.take s++List.replicate (a.length-s) z=a:=by
 grind[List.take_of_length_le,Nat.sub_eq_zero_of_le]
theorem C0Z{c:Type}{a b:List c}(d:c)(e:a.length=b.length)(h:∀i,i<a.length->a.getD i d=b.getD i d):a=b:=by
 apply List.ext_getElem?
 grind
def r7(n:Nat)(l:Int):Int:=if l-(n:Int)<0 then -1 else l-(n:Int)
theorem G0X{n:Nat}{l:Int}(h:0<=l) : -1<=r7 n l/\r7 n l<=l:=by grind[r7]
theorem t0N{m n:Nat}{l:Int}(h:r7 m l<0):r7 (m+n) l = -1:=by
 grind[r7]
theorem t0M{m n:Nat}{l:Int}(h:0<=r7 m l):r7 (m+n) l=r7 n (r7 m l):=by
 grind[r7]
def h9:(t:Ty)->c9 t->Nat
 | .int _,_=>0
 | .bool,_=>0
 | .str,s=>s.size
 | .sl e,xs=>xs.length+(xs.map (h9 e)).sum
 | .pt e,x=>h9 e x
 | .pr a b,x=>h9 a x.1+h9 b x.2
theorem H0N{t:Ty}{a:List (c9 t)}{i:Nat}{d:c9 t}(h:i<a.length):h9 t (a.getD i d)<=(a.map (h9 t)).sum:=by
 rw[gq,List.getElem?_eq_getElem h];have c:∀(l:List (c9 t)) (x:c9 t),x∈l->h9 t x<=(l.map (h9 t)).sum:=by
  intro l
  induction l with
  | nil=>grind
  | cons y r b =>
    grind
 simp_all
theorem A0W{n:Nat}{l:Int}(h:l-(n:Int)<0):r7 n l = -1:=if_pos h
theorem WA{n:Nat}{l:Int}(h:0<=l-(n:Int)):r7 n l=l-(n:Int):=if_neg (by omega)
theorem C0p{m n:Nat}{l:Int}(h:l-(m:Int)<0):r7 (m+n) l = -1:=t0N (by grind[A0W])
theorem C0o{m n:Nat}{l:Int}(h:0<=l-(m:Int)):r7 (m+n) l=r7 n (l-(m:Int)):=by
 grind[t0M,WA]
theorem w0X{l:Int}(h:0<=l):r7 0 l=l:=by grind[WA]
theorem Ac{a b:Ty}{x:c9 (.pr a b)}:h9 (.pr a b) x=h9 a x.1+h9 b x.2:=by grind[h9]
theorem Bi{k:IntKind}{x:Int}:h9 (.int k) x=0:=by grind[h9]
theorem Bj{x:Bool}:h9 .bool x=0:=by grind[h9]
theorem Ax{x:ByteArray}:h9 .str x=x.size:=by grind[h9]
theorem BZ{e:Ty}{x:List (c9 e)}:h9 (.sl e) x=x.length+(x.map (h9 e)).sum:=by grind[h9]
theorem q0Y{k:IntKind}{x:List Int}:h9 (.sl (.int k)) x=x.length:=by
 have:∀l:List Int,(l.map (h9 (.int k))).sum=0:=by
  intro l
  induction l with
  | nil=>rfl
  | cons a r b=>grind[h9]
 grind[BZ]
end Go.Proofs.Xd
end
section
namespace Go.Proofs.Xl
def gd{ρ:Type}(V:Prop)[Decidable V](e:Option ρ):Option ρ:=if V then e else none
def lt{α β:Type}(x:α)(f:α->β):β:=f x
def vl{α:Type}[Inhabited α](o:Option α):α:=o.getD default
def b9(x:Int):Prop := -9223372036854775808<=x/\x<=9223372036854775807
instance (x:Int):Decidable (b9 x):=inferInstanceAs (Decidable (_/\_))
def ix(i:Int)(n:Nat):Prop:=0<=i/\i < (n:Int)
instance (i:Int)(n:Nat):Decidable (ix i n):=inferInstanceAs (Decidable (_/\_))
def O9:Nat:=36893488147419103232
def I0{σ ρ:Type}(F:(σ->Option ρ)->σ->Option ρ):Nat->σ->Option ρ
 | 0,_=>none
 | n+1,s=>F (I0 F n) s
def lp{σ ρ:Type}(F:(σ->Option ρ)->σ->Option ρ)(s:σ):Option ρ:=I0 F O9 s
theorem Oa{a:Type}{V:Prop}[Decidable V]{e:Option a}{r:a}(h:gd V e=some r):V/\e=some r:=by
 grind[gd]
theorem gP{a:Type}{V:Prop}[Decidable V]{e:Option a}(h:V):gd V e=e:=if_pos h
theorem vS{a:Type}[Inhabited a](x:a):vl (some x)=x:=rfl
theorem t0Y{a:Type}[Inhabited a]{o:Option a}(h:o.isSome=true):o=some (vl o):=by cases o with
 | none=>cases h
 | some x=>rfl
end Go.Proofs.Xl
namespace Go.Proofs.Xv
open Go Go.RowKit Go.Proofs.Sv Go.Proofs.Xl
def Q7{α β:Type}(f:α->β):Option α->Option β
 | some x=>some (f x)
 | none=>none
theorem S8{a b:Type}{f:a->b}{o:Option a}{y:b}(h:Q7 f o=some y):∃x,o=some x/\f x=y:=by
 cases o with
 | none=>cases h
 | some x=>exact⟨x,rfl,by cases h; rfl⟩
def WB(o o':List (Nat×Ob))(x:Value)(id ver:Nat):Option AV:=match x with
 | .slice none 0 0=>match b5 o id with
   | none=>match b5 o' id with
     | some (.arr _ _ _ _ v)=>bif Nat.beq v ver then some (.os id ver) else none
     | _=>none
   | _=>none
 | _=>none
def WC(x:Value)(fr:Bool)(e:Ty):Option AV:=match x with
 | .slice none 0 0=>some (.d fr (.sl e) [])
 | _=>none
def WD(o o':List (Nat×Ob))(id ver id' ver':Nat):Option AV:=bif Nat.beq id id' then(match b5 o id with
    | some (.arr _ _ _ _ v)=>match b5 o' id with
      | some (.arr _ _ _ _ v')=>bif Nat.beq v ver&&Nat.beq v' ver' then some (.os id' ver') else none
      | _=>none
    | _=>none) else none
def wkP(o':List (Nat×Ob))(id off:Nat):Option AV:=match b5 o' id with
 | some (.box _ _)=>some (.ptr id off)
 | _=>none
def wkG(o':List (Nat×Ob))(id:Nat):Option AV:=match b5 o' id with
 | some (.grd ..)=>some (.og id)
 | _=>none
mutual
def Z5(o o':List (Nat×Ob)):AV->AV->Option AV
 | .d fr t x,b=>match b with
   | .d fr' t' _=>bif !fr'||fr then Q7 (.d fr' t') (X0 t t' x) else none
   | _=>none
 | .v x,b=>match b with
   | .v _=>some (.v x)
   | .os id ver=>WB o o' x id ver
   | .d fr (.sl e) _=>WC x fr e
   | _=>none
 | .os id ver,b=>match b with
   | .os id' ver'=>WD o o' id ver id' ver'
   | _=>none
 | .ptr id off,b=>match b with
   | .ptr _ _=>wkP o' id off
   | _=>none
 | .agg xs,b=>match b with
   | .agg ys=>Q7 .agg (Gm o o' xs ys)
   | _=>none
 | .tup xs,b=>match b with
   | .tup ys=>Q7 .tup (Gm o o' xs ys)
   | _=>none
 | .fn f xs,b=>match b with
   | .fn _ ys=>Q7 (.fn f) (Gm o o' xs ys)
   | _=>none
 | .og id,b=>match b with
   | .og _=>wkG o' id
   | _=>none
 | _,_=>none
def Gm(o o':List (Nat×Ob)):List AV->List AV->Option (List AV)
 | [],ys=>match ys with
   | []=>some []
   | _=>none
 | a :: r,ys=>match ys with
   | b :: s=>match Z5 o o' a b with
     | some x=>Q7 (x :: ·) (Gm o o' r s)
     | none=>none
   | _=>none
end
def WG(o o':List (Nat×Ob)):Option Ob->Ob->Option Ob
 | some (.box T cs),.box _ cs'=>Q7 (.box T) (Gm o o' cs cs')
 | some (.arr T fr t xs _),.arr _ fr' t' _ v'=>bif !fr'||fr then Q7 (fun z=>.arr T fr' t' z v') (X0 (.sl t) (.sl t') xs) else none
 | none,.arr T fr t _ v=>some (.arr T fr t [] v)
 | some (.grd T Te fr t xs none),.grd _ _ fr' t' _ none=>bif !fr'||fr then Q7 (fun z=>.grd T Te fr' t' z none) (X0 (.sl (.sl t)) (.sl (.sl t')) xs) else none
 | _,_=>none
def RN(o o':List (Nat×Ob))(e:List (Nat×Sl)):List (Nat×Sl)->Option (List (Nat×Sl))
 | []=>some []
 | (t,s) :: r=>match s.p,b5 e t with
   | [],some ⟨[],a⟩=>match Z5 o o' a s.a with
     | some x=>Q7 ((t,⟨[],x⟩) :: ·) (RN o o' e r)
     | none=>none
   | _,_=>none
def RO(o o':List (Nat×Ob)):List (Nat×Ob)->Option (List (Nat×Ob))
 | []=>some []
 | (i,b) :: r=>match WG o o' (b5 o i) b with
   | some x=>Q7 ((i,x) :: ·) (RO o o' r)
   | none=>none
def JW(o':List (Nat×Ob)):List (Nat×Ob)->Bool
 | []=>true
 | (i,.box _ _) :: r=>(bif Nat.ble 500000 i then(match b5 o' i with | some (.box _ _)=>true | _=>false) else true)&&JW o' r
 | (_,.arr ..) :: r=>JW o' r
 | (_,.grd ..) :: r=>JW o' r
def Gn(a b:St):Option St:=match RN a.o b.o a.e b.e with
 | some e=>match RO a.o b.o b.o with
   | some o=>bif JW b.o a.o then some ⟨e,o⟩ else none
   | none=>none
 | none=>none
theorem E0D{o o':List (Nat×Ob)}{x:Value}{id ver:Nat}(h:WB o o' x id ver=some (.os id ver)):HP x/\Rz (b5 o id)/\Gk (b5 o' id) ver:=by
 unfold WB at h;split at h
 ·split at h
  ·rename_i c;split at h
   ·rename_i a;rw[ce] at h;split at h
    ·rename_i b;have:=nb b;subst this;rw[c,a];exact⟨trivial,trivial,rfl⟩
    grind
   grind
  grind
 grind
theorem E0B{o o':List (Nat×Ob)}{id ver b a:Nat}(h:WD o o' id ver b a=some (.os b a)):id=b/\Gk (b5 o id) ver/\Gk (b5 o' id) a:=by
 unfold WD at h;rw[ce] at h;split at h
 ·rename_i d;split at h
  ·rename_i i;split at h
   ·rename_i g;rw[ce] at h;split at h
    ·rename_i c;rw[ba] at c;have e:=nb c.1;have f:=nb c.2;subst e; subst f;rw[i,g];exact⟨nb d,rfl,rfl⟩
    grind
   grind
  grind
 grind
theorem E0E{x:Value}{fr:Bool}{e:Ty}{y:c9 (.sl e)}(h:WC x fr e=some (.d fr (.sl e) y)):HP x/\Wn (.sl e) y:=by
 unfold WC at h;split at h
 ·simp only[oi,AV.d.injEq,heq_eq_eq,true_and] at h;exact⟨trivial,h.symm⟩
 grind
theorem WH{a b:Bool}(h:(!a||b)=true):a=true->b=true:=by
 grind
mutual
theorem y0I{o o':List (Nat×Ob)}:∀{a b:AV},Z5 o o' a b=some b->O1 o o' a b
 | .d fr t x,b,h=>by
   unfold Z5 at h;unfold O1;split at h
   ·rename_i g i y;rw[ce] at h;split at h
    ·rename_i j;obtain⟨z,c,e⟩:=S8 h
     grind
    grind
   grind
 | .v x,b,h=>by
   unfold Z5 at h
   grind[O1,E0D,E0E]
 | .os id ver,b,h=>by
   unfold Z5 at h
   grind[O1,E0B]
 | .ptr id off,b,h=>by
   unfold Z5 at h;unfold O1;split at h
   ·unfold wkP at h;split at h
    ·rename_i c;simp only[oi,AV.ptr.injEq] at h;obtain⟨rfl,rfl⟩:=h;exact⟨rfl,rfl,by rw[c]; trivial⟩
    grind
   grind
 | .agg xs,b,h=>by
   unfold Z5 at h;unfold O1;split at h
   ·obtain⟨z,c,e⟩:=S8 h;simp only[AV.agg.injEq] at e;subst e;exact Oc c
   grind
 | .tup xs,b,h=>by
   unfold Z5 at h;unfold O1;split at h
   ·obtain⟨z,c,e⟩:=S8 h;simp only[AV.tup.injEq] at e;subst e;exact Oc c
   grind
 | .fn f xs,b,h=>by
   unfold Z5 at h;unfold O1;split at h
   ·obtain⟨z,c,e⟩:=S8 h;simp only[AV.fn.injEq] at e;obtain⟨rfl,rfl⟩:=e;exact⟨rfl,Oc c⟩
   grind
 | .pel ..,b,h=>by grind[Z5]
 | .gel ..,b,h=>by grind[Z5]
 | .og id,b,h=>by
   unfold Z5 at h;unfold O1;split at h
   ·unfold wkG at h;split at h
    ·rename_i c;simp only[oi,AV.og.injEq] at h;subst h;exact⟨rfl,by rw[c]; trivial⟩
    grind
   grind
 | .ow ..,b,h=>by grind[Z5]
 | .ob ..,b,h=>by grind[Z5]
theorem Oc{o o':List (Nat×Ob)}:∀{as' bs:List AV},Gm o o' as' bs=some bs->Cz o o' as' bs
 | [],bs,h=>by
   grind[Gm,Cz]
 | a :: r,bs,h=>by
   unfold Gm at h;unfold Cz;split at h
   ·split at h
    ·rename_i x d;obtain⟨z,c,b⟩:=S8 h;simp only[List.cons.injEq] at b;obtain⟨rfl,rfl⟩:=b;exact⟨y0I d,Oc c⟩
    grind
   grind
end
theorem E0C{o o':List (Nat×Ob)}{a:Option Ob}{b:Ob}(h:WG o o' a b=some b):Wq o o' a b:=by
 unfold WG at h;split at h
 ·obtain⟨z,d,c⟩:=S8 h;simp only[Ob.box.injEq] at c;obtain⟨rfl,rfl⟩:=c;exact⟨rfl,Oc d⟩
 ·rw[ce] at h;split at h
  ·rename_i e;obtain⟨z,d,c⟩:=S8 h;simp only[Ob.arr.injEq,heq_eq_eq,true_and,and_true] at c;obtain⟨rfl,rfl⟩:=c;exact⟨rfl,WH e,d⟩
  grind
 ·simp only[oi,Ob.arr.injEq,heq_eq_eq,true_and,and_true] at h;exact h.symm
 ·rw[ce] at h;split at h
  ·rename_i e;obtain⟨z,d,c⟩:=S8 h;simp only[Ob.grd.injEq,heq_eq_eq,true_and,and_true] at c;obtain⟨rfl,rfl,rfl⟩:=c;exact⟨rfl,rfl,trivial,trivial,WH e,d⟩
  grind
 grind
theorem s0Q{o o':List (Nat×Ob)}{e:List (Nat×Sl)}:∀{l:List (Nat×Sl)},RN o o' e l=some l->RA o o' e l
 | [],_=>trivial
 | (t,s) :: r,h=>by
   unfold RN at h;split at h
   ·rename_i g c;split at h
    ·rename_i x b;obtain⟨z,f,a⟩:=S8 h;simp only[List.cons.injEq,pj,true_and] at a;obtain⟨d,rfl⟩:=a;subst d;exact⟨trivial,by rw[c]; exact y0I b,s0Q f⟩
    grind
   grind
theorem s0P{o o':List (Nat×Ob)}:∀{l:List (Nat×Ob)},RO o o' l=some l->NS o o' l
 | [],_=>trivial
 | (t,s) :: r,h=>by
   unfold RO at h;split at h
   ·rename_i x c;obtain⟨z,b,a⟩:=S8 h;simp only[List.cons.injEq,pj,true_and] at a;obtain⟨rfl,rfl⟩:=a;exact⟨E0C c,s0P b⟩
   grind
theorem RP{o':List (Nat×Ob)}:∀{l:List (Nat×Ob)},JW o' l=true->O6 o' l
 | [],_=>trivial
 | (_,.arr ..) :: r,h=>RP (l:=r) h
 | (_,.grd ..) :: r,h=>RP (l:=r) h
 | (i,.box _ _) :: r,h=>by
   simp only[JW,ba] at h;refine⟨?_,RP h.2⟩;have a:=h.1;rw[ce] at a ⊢;split
   ·rename_i hi;rw[if_pos hi] at a;split at a
    ·rename_i b; rw[b]; trivial
    grind
   grind
theorem WI{a b:St}(h:Gn a b=some b):NT a b:=by
 unfold Gn at h;split at h
 ·rename_i e f;split at h
  ·rename_i o d;rw[ce] at h;split at h
   ·rename_i c;cases h;exact⟨s0Q f,s0P d,RP c⟩
   grind
  grind
 grind
mutual
def Z6(o:List (Nat×Ob)):AV->AV->Option (AV×List (Option Nat)×List Nat)
 | a,.ow T fr t _=>match a with
   | .os id ver=>match b5 o id with
     | some (.arr T' fr' t' ys ver')=>bif Nat.beq ver ver'&&Nat.beq T' T&&(!fr||fr') then Q7 (fun z=>(.ow T fr t z,[some id],[])) (X0 (.sl t') (.sl t) ys) else none
     | _=>none
   | .v x=>match x with
     | .slice none 0 0=>some (.ow T fr t [],[none],[])
     | _=>none
   | _=>none
 | a,.d fr t _=>match H8 o 24 t [a] with
   | some (y,l,fl)=>bif !fr||fl then some (.d fr t y,[],l) else none
   | none=>none
 | a,.ob T rs=>match a with
   | .ptr id 0=>match b5 o id with
     | some (.box T' cs)=>bif Nat.beq T' T then(match Ia o cs rs with
       | some (x,l,m)=>some (.ob T x,some id :: l,m)
       | none=>none) else none
     | _=>none
   | _=>none
 | a,.v _=>match a with
   | .v y=>some (.v y,[],[])
   | _=>none
 | a,.agg rs=>match a with
   | .agg as'=>match Ia o as' rs with
     | some (x,l,m)=>some (.agg x,l,m)
     | none=>none
   | _=>none
 | a,.tup rs=>match a with
   | .tup as'=>match Ia o as' rs with
     | some (x,l,m)=>some (.tup x,l,m)
     | none=>none
   | _=>none
 | _,_=>none
def Ia(o:List (Nat×Ob)):List AV->List AV->Option (List AV×List (Option Nat)×List Nat)
 | as',[]=>match as' with
   | []=>some ([],[],[])
   | _=>none
 | as',r :: rs=>match as' with
   | a :: t=>match Z6 o a r with
     | some (x,m,f)=>match Ia o t rs with
       | some (xs,m',f')=>some (x :: xs,m++m',f++f')
       | none=>none
     | none=>none
   | []=>none
end
def Dj(o:List (Nat×Ob)):Nat->(ps:List q9)->D4 ps->Option (D4 ps×List Nat×Option Nat)
 | _,[],z=>some (z,[],none)
 | i,.io T t :: _,_=>match b5 o (500000+i) with
   | some (.box T' cs)=>bif Nat.beq T' T then(match H8 o 24 t cs with
     | some (y,l,_)=>some (y,l,some (500000+i))
     | none=>none) else none
   | _=>none
 | i,.dat _ :: r,z=>Dj o (i+1) r z
 | i,.agg _ :: r,z=>Dj o (i+1) r z
 | i,.fn _ _ :: r,z=>Dj o (i+1) r z
 | i,.nof _ :: r,z=>Dj o (i+1) r z
 | i,.nil :: r,z=>Dj o (i+1) r z
 | i,.os _ _ :: r,z=>Dj o (i+1) r z
def u0x(Γ:p8)(st:St):ResultVar->Option AV
 | .tmp t=>match b5 st.e t with
   | some ⟨[],a⟩=>some a
   | _=>none
 | .cell t ty=>match b5 st.e t with
   | some ⟨[],p⟩=>bif JV (some p) then(match X1 st.o p with
     | some (cs,_)=>match b5 Γ ty with
       | some ti=>JG ti cs
       | none=>none
     | none=>none) else none
   | _=>none
def Od(Γ:p8)(st:St):List ResultVar->Option (List AV)
 | []=>some []
 | r :: rs=>match u0x Γ st r with
   | some a=>Q7 (a :: ·) (Od Γ st rs)
   | none=>none
def RQ(Γ:p8)(st:St)(rs:List ResultVar)(ps:List q9)(r:AV)(z:D4 ps):Option (AV×D4 ps) :=
 match Od Γ st rs with
 | some as'=>match Z6 st.o (Wx as') r with
   | some (r',mv,fz)=>match Dj st.o 0 ps z with
     | some (z',fz',pin)=>bif onceN mv&&NX mv (fz++fz')&&RL (fun i=>HI i (fz++fz')) pin&&(!H2 ps||Fg r')&&RL (fun i=>onceN.notInS i mv) pin then some (r',z') else none
     | none=>none
   | none=>none
 | none=>none
mutual
theorem B0i{o:List (Nat×Ob)}:∀{a r:AV} {mv:List (Option Nat)} {fz:List Nat},Z6 o a r=some (r,mv,fz)->∃q:Prop,q/\O2 o a r=some (q,mv,fz)
 | a,.ow T fr t xs,mv,fz,h=>by
   unfold Z6 at h;unfold O2;split at h
   ·split at h
    ·rename_i j c k n f s;rw[ce] at h;split at h
     ·rename_i g;simp only[ba] at g;obtain⟨z,E,i⟩:=S8 h;simp only[pj,AV.ow.injEq,heq_eq_eq,true_and] at i;obtain⟨rfl,rfl,rfl⟩:=i;refine⟨(fr=true->c=true)/\X0 (.sl k) (.sl t) n=some z,⟨WH g.2,E⟩,?_⟩
      grind
     grind
    grind
   ·split at h
    ·simp only[oi,pj,AV.ow.injEq,heq_eq_eq,true_and] at h;obtain⟨rfl,rfl,rfl⟩:=h;exact⟨_,⟨trivial,rfl⟩,rfl⟩
    grind
   grind
 | a,.d fr t x,mv,fz,h=>by
   unfold Z6 at h;unfold O2;split at h
   ·rename_i y l P u;rw[ce] at h;split at h
    ·rename_i G;simp only[oi,pj,AV.d.injEq,heq_eq_eq,true_and] at h;obtain⟨rfl,rfl,rfl⟩:=h
     try rw[u]
     grind
    grind
   grind
 | a,.ob T rs,mv,fz,h=>by
   unfold Z6 at h;unfold O2;split at h
   ·split at h
    ·rename_i j F s;rw[ce] at h;split at h
     ·rename_i H;split at h
      ·rename_i x l m b;simp only[oi,pj,AV.ob.injEq,true_and] at h;obtain⟨rfl,rfl,rfl⟩:=h;obtain⟨q,w,e⟩:=RR b;refine⟨q,w,?_⟩
       grind
      grind
     grind
    grind
   grind
 | a,.v x,mv,fz,h=>by
   unfold Z6 at h;unfold O2;split at h
   ·simp only[oi,pj,AV.v.injEq] at h;obtain⟨rfl,rfl,rfl⟩:=h
    grind
   grind
 | a,.agg rs,mv,fz,h=>by
   unfold Z6 at h;unfold O2;split at h
   ·split at h
    ·rename_i x l m b;simp only[oi,pj,AV.agg.injEq] at h;obtain⟨rfl,rfl,rfl⟩:=h;exact RR b
    grind
   grind
 | a,.tup rs,mv,fz,h=>by
   unfold Z6 at h;unfold O2;split at h
   ·split at h
    ·rename_i x l m b;simp only[oi,pj,AV.tup.injEq] at h;obtain⟨rfl,rfl,rfl⟩:=h;exact RR b
    grind
   grind
 | a,.ptr _ _,mv,fz,h=>by grind[Z6]
 | a,.pel ..,mv,fz,h=>by grind[Z6]
 | a,.os _ _,mv,fz,h=>by grind[Z6]
 | a,.fn _ _,mv,fz,h=>by grind[Z6]
 | a,.gel _ _,mv,fz,h=>by grind[Z6]
 | a,.og _,mv,fz,h=>by grind[Z6]
theorem RR{o:List (Nat×Ob)}:∀{as' rs:List AV} {mv:List (Option Nat)} {fz:List Nat},Ia o as' rs=some (rs,mv,fz)->∃q:Prop,q/\Dh o as' rs=some (q,mv,fz)
 | as',[],mv,fz,h=>by
   unfold Ia at h;unfold Dh;split at h
   ·simp only[oi,pj,true_and] at h;obtain⟨rfl,rfl⟩:=h
    grind
   grind
 | as',r :: rs,mv,fz,h=>by
   unfold Ia at h;unfold Dh;split at h
   ·split at h
    ·rename_i x m f d;split at h
     ·rename_i g i j a;simp only[oi,pj,List.cons.injEq] at h;obtain⟨⟨rfl,rfl⟩,rfl,rfl⟩:=h;obtain⟨q,e,l⟩:=B0i d;obtain⟨c,b,k⟩:=RR a;refine⟨q/\c,⟨e,b⟩,?_⟩
      grind
     grind
    grind
   grind
end
theorem Ib{o:List (Nat×Ob)}:∀{ps:List q9} {i:Nat} {z:D4 ps} {fz:List Nat} {pin:Option Nat},Dj o i ps z=some (z,fz,pin)->∃q:Prop,q/\Z4 o i ps z=some (q,fz,pin)
 | [],i,z,fz,pin,h=>by
   simp only[Dj,oi,pj,true_and] at h;obtain⟨rfl,rfl⟩:=h;exact⟨_,trivial,rfl⟩
 | .io T t :: r,i,z',fz,pin,h=>by
   unfold Dj at h;unfold Z4;split at h
   ·rename_i a b c;rw[ce] at h;split at h
    ·rename_i e;split at h
     ·rename_i y l f d;simp only[oi,pj] at h;obtain⟨rfl,rfl,rfl⟩:=h;refine⟨y=y,rfl,?_⟩
      grind
     grind
    grind
   grind
 | .dat _ :: r,i,z,fz,pin,h=>Ib (ps:=r) (i:=i+1) h
 | .agg _ :: r,i,z,fz,pin,h=>Ib (ps:=r) (i:=i+1) h
 | .fn _ _ :: r,i,z,fz,pin,h=>Ib (ps:=r) (i:=i+1) h
 | .nof _ :: r,i,z,fz,pin,h=>Ib (ps:=r) (i:=i+1) h
 | .nil :: r,i,z,fz,pin,h=>Ib (ps:=r) (i:=i+1) h
 | .os _ _ :: r,i,z,fz,pin,h=>Ib (ps:=r) (i:=i+1) h
theorem u0j{Γ:p8}{st:St}:∀{rs:List ResultVar} {as':List AV},Od Γ st rs=some as'->∃q:Prop,q/\HV Γ st rs=some (q,as')
 | [],as',h=>by
   simp only[Od,oi] at h;subst h;exact⟨_,trivial,rfl⟩
 | r :: rs,as',h=>by
   unfold Od at h;unfold HV;split at h
   ·rename_i a b;obtain⟨l,k,j⟩:=S8 h;subst j;obtain⟨q,s,i⟩:=u0j k;have:∃c:Prop,c/\NW Γ st r=some (c,a):=by
     unfold u0x at b;unfold NW;split at b
     ·split at b
      ·rename_i g;cases b;refine⟨True,trivial,?_⟩
       grind
      grind
     ·split at b
      ·rename_i g;rw[ce] at b;split at b
       ·rename_i d;split at b
        ·rename_i n;split at b
         ·rename_i m;refine⟨Cr st.o _,Wz d,?_⟩
          grind
         grind
        grind
       grind
      grind
    obtain⟨c,f,e⟩:=this;rw[e,i]
    grind
   grind
theorem v0s{Γ:p8}{st:St}{rs:List ResultVar}{ps:List q9}{r:AV}{z:D4 ps}(h:RQ Γ st rs ps r z=some (r,z)):HX Γ st rs r ps z:=by
 unfold RQ at h;split at h
 ·rename_i c f;split at h
  ·rename_i o q fz e;split at h
   ·rename_i l a b d;rw[ce] at h;split at h
    ·rename_i j;simp only[oi,pj] at h;obtain⟨rfl,rfl⟩:=h;obtain⟨g,i,k⟩:=u0j f;obtain⟨n,v,t⟩:=B0i e;obtain⟨u,s,m⟩:=Ib d
     grind[HX]
    grind
   grind
  grind
 grind
end Go.Proofs.Xv
end
section
namespace Go.Proofs.Xv
open Go Go.RowKit Go.Proofs.Sv Go.Proofs.Xl
def I5(b:Bool)(n:Nat)(Γ:p8)(T:List Ct)(l:List Oper)(keep:List Nat)(st:St):Option (Prop×St):=bif b then RM n Γ T l keep st else NZ n Γ T l keep st
def JX(st:St)(c:Operand):Option Bool:=match rd st [] c with
 | some (.d _ .bool b)=>some b
 | _=>none
theorem WJ{st:St}{c:Operand}{b:Bool}(h:JX st c=some b):∃f,rd st [] c=some (.d f .bool b):=by
 grind[JX]
theorem ct{X:Cx}{st:St}{Q:Exit->Act->World->Prop}{c:Operand}{a d:Code}(b:JX st c=some true)(h:VX X st a Q):VX X st (.cond c a d) Q:=(WJ b).elim fun _ b=>s0S b h
theorem cf{X:Cx}{st:St}{Q:Exit->Act->World->Prop}{c:Operand}{a d:Code}(b:JX st c=some false)(h:VX X st d Q):VX X st (.cond c a d) Q:=(WJ b).elim fun _ b=>s0T b h
section
variable {P:Program} {n:Nat} {y:World×(Nat->Prop)×(Nat->Prop)×(Nat->Value->Prop)×Nat} {st:St} {Q:Exit->Act->World->Prop} {Γ:p8} {T:List Ct} {ρ α:Type} {r:ρ}
theorem RS(d:B2 P Γ)(f:∀c∈T,Ok P c)[i:M1 P]{a:List Nat}{st':St}{V:Prop}{id:Nat}{l:List Oper}{b:Bool}(h:I5 b n Γ T l a st=some (V,st'))(g:V)(e:FX (cx P n y) st' .normal Q):VX (cx P n y) st (.region id l.toArray b) Q:=by
 cases b with
 | true=>exact de d f a st' V h g e
 | false=>exact re d f a st' V h g e
theorem za(d:B2 P Γ)(f:∀c∈T,Ok P c)[g:M1 P](a:List Nat)(st':St){id:Nat}{l:List Oper}{b:Bool}(h:I5 b n Γ T l a st=some (True,st'))(e:FX (cx P n y) st' .normal Q):VX (cx P n y) st (.region id l.toArray b) Q :=
 RS d f h trivial e
theorem zb(d:B2 P Γ)(g:∀c∈T,Ok P c)[i:M1 P](a:List Nat)(st':St){V:Prop}[Decidable V]{e:Option ρ}{id:Nat}{l:List Oper}{b:Bool}(H:gd V e=some r)(h:I5 b n Γ T l a st=some (V,st'))(f:e=some r->FX (cx P n y) st' .normal Q):VX (cx P n y) st (.region id l.toArray b) Q :=
 RS d g h (Oa H).1 (f (Oa H).2)
theorem zc(d:B2 P Γ)(g:∀c∈T,Ok P c)[i:M1 P](a:List Nat)(S:α->St){x:α}{f:α->Option ρ}{id:Nat}{l:List Oper}{b:Bool}(H:lt x f=some r)(h:I5 b n Γ T l a st=some (True,S x))(e:∀v,f v=some r->FX (cx P n y) (S v) .normal Q):VX (cx P n y) st (.region id l.toArray b) Q :=
 RS d g h trivial (e x H)
theorem zd(d:B2 P Γ)(g:∀c∈T,Ok P c)[i:M1 P](a:List Nat)(S:α->St){V:Prop}[Decidable V]{x:α}{f:α->Option ρ}{id:Nat}{l:List Oper}{b:Bool}(H:gd V (lt x f)=some r)(h:I5 b n Γ T l a st=some (V,S x))(e:∀v,f v=some r->FX (cx P n y) (S v) .normal Q):VX (cx P n y) st (.region id l.toArray b) Q :=
 RS d g h (Oa H).1 (e x (Oa H).2)
theorem qa(d:B2 P Γ)(f:∀c∈T,Ok P c)[g:M1 P](a:List Nat)(st':St){id:Nat}{l:List Oper}{b:Bool}{c:Code}(h:I5 b n Γ T l a st=some (True,st'))(e:VX (cx P n y) st' c Q):VX (cx P n y) st (.seq (.region id l.toArray b) c) Q :=
 vQ (za d f a st' h (fQ e))
theorem qb(d:B2 P Γ)(g:∀c∈T,Ok P c)[i:M1 P](a:List Nat)(st':St){V:Prop}[Decidable V]{e:Option ρ}{id:Nat}{l:List Oper}{b:Bool}{c:Code}(H:gd V e=some r)(h:I5 b n Γ T l a st=some (V,st'))(f:e=some r->VX (cx P n y) st' c Q):VX (cx P n y) st (.seq (.region id l.toArray b) c) Q :=
 vQ (zb d g a st' H h fun H=>fQ (f H))
theorem qc(d:B2 P Γ)(g:∀c∈T,Ok P c)[i:M1 P](a:List Nat)(S:α->St){x:α}{f:α->Option ρ}{id:Nat}{l:List Oper}{b:Bool}{c:Code}(H:lt x f=some r)(h:I5 b n Γ T l a st=some (True,S x))(e:∀v,f v=some r->VX (cx P n y) (S v) c Q):VX (cx P n y) st (.seq (.region id l.toArray b) c) Q :=
 vQ (zc d g a S H h fun v H=>fQ (e v H))
theorem qd(d:B2 P Γ)(g:∀c∈T,Ok P c)[i:M1 P](a:List Nat)(S:α->St){V:Prop}[Decidable V]{x:α}{f:α->Option ρ}{id:Nat}{l:List Oper}{b:Bool}{c:Code}(H:gd V (lt x f)=some r)(h:I5 b n Γ T l a st=some (V,S x))(e:∀v,f v=some r->VX (cx P n y) (S v) c Q):VX (cx P n y) st (.seq (.region id l.toArray b) c) Q :=
 vQ (zd d g a S H h fun v H=>fQ (e v H))
theorem cd{X:Cx}{c:Operand}{a d:Code}{b:Bool}{f g:Option ρ}(H:(if b=true then f else g)=some r)(e:JX st c=some b)(k:f=some r->VX X st a Q)(j:g=some r->VX X st d Q):VX X st (.cond c a d) Q :=
 (WJ e).elim fun _ i=>Wk i (fun h=>k (by grind)) (fun h=>j (by grind))
theorem jn{X:Cx}{b:Type}(r:ρ)(E:b->St)(J:b->Option ρ){a d:Code}(h:∀s,J s=some r->VX X (E s) d Q)(k:∀Q',(∀{s st'},J s=some r->Gn st' (E s)=some (E s)->FX X st' .normal Q')->(∀{st' id},FX X st' (.exit id) Q->FX X st' (.exit id) Q')->(∀{st'},FX X st' .ret Q->FX X st' .ret Q')->VX X st a Q'):VX X st (.seq a d) Q :=
 vQ (k _ (fun H c=>fQ (B0F _ (WI c) (h _ H))) fE fR)
theorem lx{X:Cx}{c:Type}(E:c->St)(d:c){F:(c->Option ρ)->c->Option ρ}{a:Code}(H:lp F d=some r)(f:Gn st (E d)=some (E d))
  (b:∀Q' (g:c->Option ρ),(∀{s st'},g s=some r->Gn st' (E s)=some (E s)->FX X st' .normal Q')->(∀{st' id},FX X st' (.exit id) Q->FX X st' (.exit id) Q')->(∀{st'},FX X st' .ret Q->FX X st' .ret Q')->∀s,F g s=some r->VX X (E s) a Q'):VX X st (.loop a) Q:=by
 refine B0E (fun z:Nat×c=>E z.2) (fun z=>I0 F z.1 z.2=some r) (fun z=>z.1) (O9,d) H (WI f) ?_;rintro⟨m,s⟩ hz;cases m with
 | zero=>cases hz
 | succ m=>exact b _ (I0 F m) (fun {h st'} i e=>D0h (m,h) i (Nat.lt_succ_self m) (WI e)) n0t o0U s hz
end
def c7(f:FuncId)(ps:List q9){ρ:Type}[Inhabited ρ](F:C8 ps->Option ρ)(R:ρ->AV)(Z:ρ->D4 ps):Ct:=⟨f,ps,fun x=>⟨(F x).isSome=true,R (vl (F x)),Z (vl (F x))⟩⟩
def M0K(X:Cx)(Γ:p8)(rs:List ResultVar)(ps:List q9){ρ:Type}(R:ρ->AV)(Z:ρ->D4 ps)(r:ρ)(x:Exit)(Q:Exit->Act->World->Prop):Prop :=
 ∀{st:St} {e:ρ},some e=some r->RQ Γ st rs ps (R e) (Z e)=some (R e,Z e)->FX X st x Q
theorem okl{P:Program}{Γ:p8}(l:B2 P Γ){f:FuncId}{ps:List q9}{g:Type}[Inhabited g]{F:C8 ps->Option g}{R:g->AV}{Z:g->D4 ps}{i:Func}{a:Code}{n:Nat}(rs:List ResultVar)
  (q:P.funcs[f]?=some i) (o:i.ntmps=n) (s:i.body=some a) (v:i.results=rs.toArray) (b:CY P f=true) (j:(Nat.ble ps.length n&&AT ps)=true)
  (h:∀y x r,F x=some r->∀Q,M0K (cx P n y) Γ rs ps R Z r .normal Q->M0K (cx P n y) Γ rs ps R Z r .ret Q->VX (cx P n y) ⟨Q6 0 ps x,J9 0 ps x⟩ a Q):Ok P (c7 f ps F R Z):=by
 refine J0Z (c:=c7 f ps F R Z) l rs q o s v b j (fun y x t d Q m=>?_);have u:=t0Y t;refine h y x _ u Q ?_ ?_
 ·intro k e b d;cases b;exact(m k (v0s d)).1
 ·intro k e b d;cases b;exact(m k (v0s d)).2
mutual
def frz:AV->AV
 | .ow _ fr t xs=>.d (fr||H7 t) (.sl t) xs
 | .agg xs=>.agg (frzs xs)
 | .tup xs=>.tup (frzs xs)
 | a=>a
def frzs:List AV->List AV
 | []=>[]
 | a :: r=>frz a :: frzs r
end
mutual
def Fh:AV->Bool
 | .ob ..=>false
 | .agg xs=>Oe xs
 | .tup xs=>Oe xs
 | _=>true
def Oe:List AV->Bool
 | []=>true
 | a :: r=>Fh a&&Oe r
end
theorem RU{w:World}{T:TypeId}{t:Ty}{g:Option Nat}{u:Value}{xs:List (c9 t)}{cs:List Value}{K:Nat->Prop}(a:Own w T (sz t) g u xs.length cs)(e:AllR (RT K w t) cs xs)(i:∀b,g=some b->K b):RT K w (.sl t) [u] xs:=by
 cases g with
 | none =>
   rcases a with ⟨_,f,_,p,l⟩ | ⟨b,_,_,_,hb,_⟩
   ·have:xs=[]:=List.eq_nil_of_length_eq_zero f;subst this;exact⟨p,0,by grind,Nat.le_refl _,by omega,.inl rfl⟩
   grind
 | some b =>
   obtain⟨j,k,d,c⟩:=a.at;rcases a with ⟨h,_⟩ | ⟨b',o1,cap,cur,hb,hv2,k1,k2,k3,k4,k5⟩
   ·cases h
   ·cases hb;rw[hv2] at d; cases d;exact⟨_,k,by rw[hv2],k2,(by grind[maxLen]),.inr ⟨b,j,cs,rfl,i b rfl,c,e⟩⟩
mutual
theorem ResR.frz{K K':Bool->Nat->Prop}{w:World}(f:∀fr k,K fr k->K' fr k):∀{a:AV} {u:Value} {gs:List (Option Nat)},Fh a=true->(∀b,some b∈gs->∀fr,K' fr b)->ResR K w a u gs->ResR K' w (Xv.frz a) u []
 | .v _,_,_,_,_,h=>⟨h.1,rfl⟩
 | .d fr t x,u,gs,_,_,⟨h,_⟩=>⟨RT.up h (f fr),rfl⟩
 | .agg xs,u,gs,hn,hg,⟨us,e,h⟩=>⟨us,e,ResRs.frz f (by grind[Fh]) hg h⟩
 | .ob _ _,_,_,hn,_,_=>by grind[Fh]
 | .tup xs,u,gs,hn,hg,⟨us,e,h⟩=>⟨us,e,ResRs.frz f (by grind[Fh]) hg h⟩
 | .ow T fr t xs,u,gs,_,hg,⟨g,cs,e,_,hO,hA⟩=>by
   refine⟨RU hO (hA.mapR (fun c x i=>?_)) (fun b j=>hg b (by grind) _),rfl⟩
   grind[H7,RT.free,RT.up]
theorem ResRs.frz{K K':Bool->Nat->Prop}{w:World}(c:∀fr k,K fr k->K' fr k):∀{as':List AV} {us:List Value} {gs:List (Option Nat)},Oe as'=true->(∀b,some b∈gs->∀fr,K' fr b)->ResRs K w as' us gs->ResRs K' w (Xv.frzs as') us []
 | [],us,gs,_,_,h=>⟨h.1,rfl⟩
 | a :: r,us,gs,hn,hg,⟨u,us',g1,g2,e1,e2,h1,h2⟩=>by
   simp only[Oe,ba] at hn;exact⟨u,us',[],[],e1,rfl,ResR.frz c hn.1 (fun b d=>hg b (by grind)) h1,ResRs.frz c hn.2 (fun b d=>hg b (by grind)) h2⟩
end
theorem IOR.up{K K':Nat->Prop}{w:World}{go:Option Nat}(a:∀k,K k->K' k):∀{ps:List q9} {z:D4 ps},IOR K w go ps z->IOR K' w go ps z
 | [],_,_=>trivial
 | .io _ _ :: _,_,⟨b,cs,h1,h2,h3⟩=>⟨b,cs,h1,h2,RT.up h3 a⟩
 | .dat _ :: r,_z,h=>IOR.up (ps:=r) a h
 | .agg _ :: r,_z,h=>IOR.up (ps:=r) a h
 | .fn _ _ :: r,_z,h=>IOR.up (ps:=r) a h
 | .nof _ :: r,_z,h=>IOR.up (ps:=r) a h
 | .nil :: r,_z,h=>IOR.up (ps:=r) a h
 | .os _ _ :: r,_z,h=>IOR.up (ps:=r) a h
theorem ResR.lt{K:Bool->Nat->Prop}{w:World}:∀{a:AV} {u:Value} {gs:List (Option Nat)},ResR K w a u gs->∀b,some b∈gs->UF w b:=by
 suffices H:(∀(a:AV) {u:Value} {gs:List (Option Nat)},ResR K w a u gs->∀b,some b∈gs->UF w b) from fun {a}=>H a
 intro a;refine AV.rec (motive_1:=fun a=>∀{u:Value} {gs:List (Option Nat)},ResR K w a u gs->∀b,some b∈gs->UF w b) (motive_2:=fun l=>∀{d:List Value} {gs:List (Option Nat)},ResRs K w l d gs->∀b,some b∈gs->UF w b) ?_ ?_ ?_ ?_ ?_ ?_ ?_ ?_ ?_ ?_ ?_ ?_ ?_ ?_ a
 ·intro x u gs h b c; rw[h.2] at c; cases c
 ·intro k t x u gs h b c; rw[h.2] at c; cases c
 ·intro f i u gs h b c; obtain⟨d,_,h⟩:=h; grind
 ·intro f i u gs h b c; obtain⟨d,_,h⟩:=h; grind
 ·intro _ _ u gs h; exact h.elim
 ·intro _ _ _ _ _ u gs h; exact h.elim
 ·intro _ _ u gs h; exact h.elim
 ·intro _ _ _ u gs h; exact h.elim
 ·intro T k t f u gs h b c;obtain⟨g,s,e,_,y,_⟩:=h
  grind[List.mem_singleton,FZ]
 ·intro _ _ u gs h; exact h.elim
 ·intro _ u gs h; exact h.elim
 ·intro T f i u gs h b c;obtain⟨P,d,o,e,_,F,h⟩:=h
  grind[Vs]
 ·intro d gs h b c; rw[h.2] at c; cases c
 ·intro a r n j d gs h b c;obtain⟨u,m,q,z,_,G,v,E⟩:=h
  grind
theorem Is{P:Program}{f:FuncId}{ps:List q9}{d:Type}[Inhabited d]{F:C8 ps->Option d}{R:d->AV}{Z:d->D4 ps}(h:Ok P (c7 f ps F R Z))(o:H2 ps=false:=by rfl)(j:∀r,Fh (R r)=true:=by intro _; rfl):Ok P (c7 f ps F (fun r=>frz (R r)) Z):=by
 refine⟨h.1,fun x H w u y K q E=>?_⟩;refine Calls.mono (h.2 x H w u y K q E) ?_;rintro T Q ⟨v,z,e,s,V,l,m,G⟩;have i:=ResR.lt m;have l:∀b,some b∈z->w.heap.size<=b:=fun b a=>(l b a).resolve_right (fun h=>by have n:H2 ps=true:=h.1; rw[o] at n; cases n);refine⟨v,[],e,s,trivial,(fun b a=>nomatch a),ResR.frz (fun t k c=>⟨c.1,c.2.1,by simp⟩) (j _) (fun b a t=>⟨.inr (l b a),(i b a).g,by simp⟩) m,IOR.up (fun k c=>⟨c.1,c.2.1,by simp,c.2.2.2⟩) G⟩
mutual
def Ao(id ver:Nat)(fr:Bool)(t:Ty)(xs:List (c9 t)):AV->Option AV
 | .os i v=>bif Nat.beq i id then(bif Nat.beq v ver then some (.d fr (.sl t) xs) else none) else some (.os i v)
 | .pel i v k s off=>bif Nat.beq i id then none else some (.pel i v k s off)
 | .agg l=>Q7 .agg (Fi id ver fr t xs l)
 | .tup l=>Q7 .tup (Fi id ver fr t xs l)
 | .fn f l=>Q7 (.fn f) (Fi id ver fr t xs l)
 | .ptr i off=>bif Nat.beq i id then none else some (.ptr i off)
 | .v x=>some (.v x)
 | .d fr t x=>some (.d fr t x)
 | .ow T fr t x=>some (.ow T fr t x)
 | .ob T l=>some (.ob T l)
 | .og i=>bif Nat.beq i id then some (.d fr (.sl t) xs) else some (.og i)
 | .gel i k=>bif Nat.beq i id then none else some (.gel i k)
def Fi(id ver:Nat)(fr:Bool)(t:Ty)(xs:List (c9 t)):List AV->Option (List AV)
 | []=>some []
 | a :: r=>match Ao id ver fr t xs a with
   | some b=>Q7 (b :: ·) (Fi id ver fr t xs r)
   | none=>none
end
def Fj(id ver:Nat)(fr:Bool)(t:Ty)(xs:List (c9 t)):List (Nat×Sl)->List (Nat×Sl)
 | []=>[]
 | (k,s) :: r=>match Ao id ver fr t xs s.a with
   | some b=>(k,⟨s.p,b⟩) :: Fj id ver fr t xs r
   | none=>Fj id ver fr t xs r
def Ap(id ver:Nat)(fr:Bool)(t:Ty)(xs:List (c9 t)):List (Nat×Ob)->Option (List (Nat×Ob))
 | []=>some []
 | (k,o) :: r=>bif Nat.beq k id then Ap id ver fr t xs r else(match o with
   | .box T cs=>match Fi id ver fr t xs cs with
     | some cs'=>Q7 ((k,.box T cs') :: ·) (Ap id ver fr t xs r)
     | none=>none
   | o=>Q7 ((k,o) :: ·) (Ap id ver fr t xs r))
def Ic:List (Nat×Sl)->Bool
 | []=>true
 | (k,_) :: r=>(r.all fun x=>!Nat.beq x.1 k)&&Ic r
def Of(id:Nat)(st:St):Option St:=match b5 st.o id with
 | some (.arr _ fr t xs ver)=>bif Ic st.e then(match Ap id ver (fr||H7 t) t xs st.o with
   | some o=>some ⟨Fj id ver (fr||H7 t) t xs st.e,o⟩
   | none=>none) else none
 | some (.grd _ _ fr t xs none)=>bif Ic st.e then(match Ap id 0 (fr||H7 t) (.sl t) xs st.o with
   | some o=>some ⟨Fj id 0 (fr||H7 t) (.sl t) xs st.e,o⟩
   | none=>none) else none
 | _=>none
section
variable {X:Cx} {G:Gh} {id ver:Nat} {fr:Bool} {t:Ty} {xs:List (c9 t)}
def Fk(G:Gh)(id:Nat)(o:List (Nat×Ob)):Gh:=⟨G.ρ,G.γ,fun k=>G.K k∨G.γ id=some k∨(I2 (b5 G.o id)=true/\G.δ id k),G.w,o,G.B,G.δ⟩
theorem Fl{o:List (Nat×Ob)}:∀{l r:List (Nat×Ob)},Ap id ver fr t xs l=some r->∀i,(i=id->b5 r i=none)/\(i≠id->match b5 l i with
  | some (.box T cs)=>∃cs',Fi id ver fr t xs cs=some cs'/\b5 r i=some (.box T cs')
  | some o=>b5 r i=some o
  | none=>b5 r i=none)
 | [],r,h,i=>by
   simp only[Ap,oi] at h;subst h;exact⟨fun _=>rfl,fun _=>rfl⟩
 | (k,ob) :: l,r,h,i=>by
   unfold Ap at h;rw[ce] at h;split at h
   ·rename_i a;have a:=nb a;obtain⟨b,c⟩:=Fl (o:=o) h i;refine⟨b,fun hi=>?_⟩;rw[lK,if_neg (by omega)]
    grind
   ·rename_i a;have a:k≠id:=fun e=>a (by simp_all);split at h
    ·rename_i T cs;split at h
     ·rename_i cs' g;obtain⟨z,hz,rfl⟩:=S8 h;obtain⟨b,c⟩:=Fl (o:=o) hz i;refine⟨fun hi=>?_,fun hi=>?_⟩
      ·rw[lK,if_neg (by rw[hi]; exact a)]; exact b hi
      ·rw[lK,lK];by_cases e:k=i
       ·rw[if_pos e,if_pos e]; exact⟨cs',g,rfl⟩
       ·rw[if_neg e,if_neg e]; exact c hi
     ·cases h
    ·rename_i d;obtain⟨z,hz,rfl⟩:=S8 h;obtain⟨b,c⟩:=Fl (o:=o) hz i;refine⟨fun hi=>?_,fun hi=>?_⟩
     ·rw[lK,if_neg (by rw[hi]; exact a)]; exact b hi
     ·rw[lK,lK];by_cases e:k=i
      ·rw[if_pos e,if_pos e];cases ob with
       | box T cs=>exact(d T cs rfl).elim
       | arr T f j x v=>rfl
       | grd T m f j x h=>rfl
      ·rw[if_neg e,if_neg e]; exact c hi
def JY(G:Gh)(id ver:Nat)(fr:Bool)(t:Ty)(xs:List (c9 t))(o':List (Nat×Ob)):Prop:=∀u,AVR G (.os id ver) u∨AVR G (.og id) u->AVR (Fk G id o') (.d fr (.sl t) xs) u
mutual
theorem RV{o':List (Nat×Ob)}(g:JY G id ver fr t xs o')(hz:Ap id ver fr t xs G.o=some o'):∀{a b:AV} {u:Value},Ao id ver fr t xs a=some b->AVR G a u->AVR (Fk G id o') b u
 | .os i v,b,u,h,c=>by
   unfold Ao at h;rw[ce] at h;have E:=c;obtain⟨H,r,m,y,j,q,n,w,Q⟩:=c;split at h
   ·rename_i hi;have hi:=nb hi;subst hi;rw[ce] at h;split at h
    ·rename_i T;have T:=nb T;subst T;cases h;exact g u (.inl E)
    grind
   ·rename_i hi;cases h;have hi:i≠id:=fun e=>hi (by simp_all);have:=(Fl (o:=G.o) hz i).2 hi;rw[n] at this;exact⟨H,r,m,y,j,q,this,w,Q⟩
 | .og i,b,u,h,c=>by
   unfold Ao at h;rw[ce] at h;have E:=c;obtain⟨H,⟨r,Te1,m,y,j,F,n⟩,w⟩:=c;split at h
   ·rename_i hi;have hi:=nb hi;subst hi;cases h;exact g u (.inr E)
   ·rename_i hi;cases h;have hi:i≠id:=fun e=>hi (by simp_all);have:=(Fl (o:=G.o) hz i).2 hi;rw[n] at this;exact⟨H,⟨r,Te1,m,y,j,F,this⟩,w⟩
 | .gel i k,b,u,h,c=>by
   unfold Ao at h;rw[ce] at h;obtain⟨⟨r,Te1,m,y,j,F,n⟩,w⟩:=c;split at h
   ·cases h
   ·rename_i hi;cases h;have hi:i≠id:=fun e=>hi (by simp_all);have:=(Fl (o:=G.o) hz i).2 hi;rw[n] at this;exact⟨⟨r,Te1,m,y,j,F,this⟩,w⟩
 | .pel i v k s off,b,u,h,c=>by
   unfold Ao at h;rw[ce] at h;obtain⟨H,r,m,y,j,q,n,w,Q⟩:=c;split at h
   ·cases h
   ·rename_i hi;cases h;have hi:i≠id:=fun e=>hi (by simp_all);have:=(Fl (o:=G.o) hz i).2 hi;rw[n] at this;exact⟨H,r,m,y,j,q,this,w,Q⟩
 | .ptr i off,b,u,h,c=>by
   unfold Ao at h;rw[ce] at h;obtain⟨⟨r,X,n⟩,w⟩:=c;split at h
   ·cases h
   ·rename_i hi;cases h;have hi:i≠id:=fun e=>hi (by simp_all);have:=(Fl (o:=G.o) hz i).2 hi;rw[n] at this;obtain⟨V,_,Q⟩:=this;exact⟨⟨r,V,Q⟩,w⟩
 | .agg l,b,u,h,c=>by
   unfold Ao at h;obtain⟨z,n,rfl⟩:=S8 h;obtain⟨P,e,c⟩:=c;exact⟨P,e,Og g hz n c⟩
 | .tup l,b,u,h,c=>by
   unfold Ao at h;obtain⟨z,n,rfl⟩:=S8 h;obtain⟨P,e,c⟩:=c;exact⟨P,e,Og g hz n c⟩
 | .fn f l,b,u,h,c=>by
   unfold Ao at h;obtain⟨z,n,rfl⟩:=S8 h;obtain⟨P,e,c⟩:=c;exact⟨P,e,Og g hz n c⟩
 | .v x,b,u,h,c=>by unfold Ao at h; cases h; exact c
 | .d f t' x,b,u,h,c=>by
   unfold Ao at h; cases h;exact RT.up c (fun k W=>⟨.inl W.1,W.2⟩)
 | .ow ..,b,u,h,c=>c.elim
 | .ob ..,b,u,h,c=>c.elim
theorem Og{o':List (Nat×Ob)}(c:JY G id ver fr t xs o')(hz:Ap id ver fr t xs G.o=some o'):∀{as' bs:List AV} {us:List Value},Fi id ver fr t xs as'=some bs->AVRs G as' us->AVRs (Fk G id o') bs us
 | [],bs,us,h,hu=>by
   simp only[Fi,oi] at h;subst h; exact hu
 | a :: r,bs,us,h,⟨u,us',e,h1,h2⟩=>by
   unfold Fi at h;split at h
   ·rename_i b f;obtain⟨z,d,rfl⟩:=S8 h;exact⟨u,us',e,RV c hz f h1,Og c hz d h2⟩
   grind
end
theorem x0s{T:TypeId}{i:Bool}(S:Sat X G)(h:b5 G.o id=some (.arr T i t xs ver))(n:fr=(i||H7 t))(o':List (Nat×Ob)):JY G id ver fr t xs o':=fun u v=>by
 rcases v with ⟨H,z,r,y,w,g,d,P,s⟩ | ⟨_,⟨_,_,_,_,_,_,d⟩,_⟩
 ·rw[h] at d;cases d;rw[s rfl];obtain⟨E,j,m,l⟩:=S.obs id _ h;refine RU j (m.mapR (fun c x q=>?_)) (fun b f=>⟨.inr (.inl f),fun _=>l b f⟩);subst n;by_cases F:H7 t=true
  ·grind[RT.free]
  ·exact RT.up q (fun k a=>⟨.inl a.1,fun e=>a.2 (by grind)⟩)
 grind
theorem v0R{a:Type}{R:List Value->a->Prop}:∀{vs:List Value} {xs:List a},vs.length=xs.length->(∀(k:Nat) v x,vs[k]?=some v->xs[k]?=some x->R [v] x)->AllR R vs xs
 | [],[],_,_=>rfl
 | v :: vs,x :: xs,hl,h=>⟨[v],vs,rfl,h 0 v x rfl rfl,v0R (by grind) (fun k c b e d=>h (k+1) c b e d)⟩
 | [],_ :: _,hl,_=>by grind
 | _ :: _,[],hl,_=>by grind
theorem x0r{T Te:TypeId}{r:Bool}{xs:List (List (c9 t))}(S:Sat X G)(q:b5 G.o id=some (.grd T Te r t xs none))(F:fr=(r||H7 t))(o':List (Nat×Ob)):JY G id ver fr (.sl t) xs o':=fun u V=>by
 rcases V with ⟨h0,T1,P,Y,W,m,h1,h2,s⟩ | ⟨_,_,s⟩
 ·grind
 ·rw[s];obtain⟨z,bs,y,i,E⟩:=S.obs id _ q;refine RU (t:=.sl t) y (v0R i.len (fun k v x w g=>?_)) (fun b d=>⟨.inr (.inl d),fun _=>E b d⟩);have f:k<xs.length:=by
   rcases Nat.lt_or_ge k xs.length with h | h
   ·exact h
   ·rw[List.getElem?_eq_none h] at g; cases g
  obtain⟨cs,l,n,Q⟩:=i.row k f (fun h=>by cases h);have ev:z.getD k (.bool false)=v:=by rw[gq,w]; rfl
  have j:xs.getD k []=x:=by rw[gq,g]; rfl
  rw[ev,j] at l;rw[j] at n;refine RU l (n.mapR (fun c x H=>?_)) (fun b d=>⟨.inr (.inr ⟨by rw[q]; rfl,(i.blk b).2 ⟨k,f,(fun h=>by cases h),d⟩⟩),fun _=>Q b d⟩);subst F;by_cases f:H7 t=true
  ·grind[RT.free]
  ·exact RT.up H (fun k a=>⟨.inl a.1,fun e=>a.2 (by grind)⟩)
theorem WL{aA:Ob}{o':List (Nat×Ob)}(S:Sat X G)(ho:b5 G.o id=some aA)(Q:∀k,G.γ id=some k->UF G.w k/\G.B<=k)(W:JY G id ver fr t xs o')(hz:Ap id ver fr t xs G.o=some o')(aG:Nat.blt id 500000=true):Sat X (Fk G id o'):=by
 have P:=Fl (o:=G.o) hz;have d:∀i m,b5 o' i=some m->i≠id/\∃n,b5 G.o i=some n:=fun i m h=>by
  grind
 have V:∀i,I2 (b5 o' i)=true->i≠id/\I2 (b5 G.o i)=true:=fun i r=>by
  grind[NG,hi]
 refine⟨S.base,S.os,S.tape,S.output,S.size,S.block,?_,?_,?_,?_,?_,?_,?_,?_⟩
 ·intro i m h;obtain⟨hi,n,l⟩:=d i m h;have:=(P i).2 hi;rw[l] at this;have y:=S.obs i n l;cases n with
  | box Y aF =>
    obtain⟨z,e1,e2⟩:=this;have h:b5 o' i=some m:=h;rw[e2] at h;cases h;obtain⟨b,us,H,u,F,g4⟩:=y;exact⟨b,us,H,u,F,Og W hz e1 g4⟩
  | arr Y aI t1 aJ aK =>
    simp only at this;have h:b5 o' i=some m:=h;rw[this] at h;cases h;obtain⟨cs,H,u,F⟩:=y;exact⟨cs,H,u.mapR (fun c x hr=>RT.up hr (fun k a=>⟨.inl a.1,a.2⟩)),F⟩
  | grd Y Te1 aI t1 aJ aB =>
    simp only at this;have h:b5 o' i=some m:=h;rw[this] at h;cases h;obtain⟨vs,bs,H,u,F⟩:=y;refine⟨vs,bs,H,⟨u.len,u.blk,u.inj,fun k a hh=>?_,u.one⟩,F⟩;obtain⟨cs,r1,r2,r3⟩:=u.row k a hh;exact⟨cs,r1,r2.mapR (fun c x hr=>RT.up hr (fun k a=>⟨.inl a.1,a.2⟩)),r3⟩
 ·intro i i' m n b h h' q aC;obtain⟨_,s,l⟩:=d i m h;obtain⟨_,o2,h2⟩:=d i' n h';exact S.inj i i' s o2 b l h2 q aC
 ·intro i m b h q a;obtain⟨hi,s,l⟩:=d i m h;rcases a with a | a | ⟨r,a⟩
  ·exact S.imm i s b l q a
  ·exact hi (S.inj i id s _ b l ho q a)
  ·exact(S.sep id b a r).2.2.1 i s l q
 ·intro i m b h q;obtain⟨_,s,l⟩:=d i m h;exact S.own i s b l q
 ·intro k a;rcases a with a | a | ⟨r,a⟩
  ·exact S.klt k a
  ·exact(Q k a).1.g
  ·exact(S.duf a r).g
 ·intro k a;rcases a with a | a | ⟨r,a⟩
  ·exact S.kfrom k a
  ·exact .inr (by rw[<- S.base.1]; exact(Q k a).2)
  ·obtain⟨T,Te,f,t,xs,aL,e⟩:=NG r;obtain⟨vs,bs,_,hR,_⟩:=S.obs id _ e;obtain⟨j,E,hh,q⟩:=(hR.blk k).1 a;obtain⟨_,_,_,h3⟩:=hR.row j E hh;exact .inr (by rw[<- S.base.1]; exact h3 k q)
 ·intro i b q r;obtain⟨hi,r⟩:=V i r;obtain⟨s1,s2,s3,s4⟩:=S.sep i b q r;refine⟨s1,?_,fun j o E aH=>?_,fun j E aD=>s4 j E (V j aD).2⟩
  ·rintro(a | a | ⟨aM,a⟩)
   ·grind
   ·grind
   grind
  ·obtain⟨_,s,l⟩:=d j o E;exact s3 j s l aH
 ·intro i v hv;obtain⟨⟨Y,aF,l⟩,h2⟩:=S.pin i v hv;have hi:500000+i≠id:=fun e=>by
   have:id<500000:=by simpa using aG
   omega
  have:=(P (500000+i)).2 hi;rw[l] at this;obtain⟨z,_,e⟩:=this;exact⟨⟨Y,z,e⟩,h2⟩
theorem JZ:∀{e:List (Nat×Sl)},Ic e=true->∀{k:Nat} {s:Sl},b5 (Fj id ver fr t xs e) k=some s->∃a,b5 e k=some ⟨s.p,a⟩/\Ao id ver fr t xs a=some s.a
 | [],_,k,s,h=>by cases h
 | (j,s0) :: r,hn,k,s,h=>by
   simp only[Ic,ba,List.all_eq_true,Bool.not_eq_true'] at hn;unfold Fj at h;split at h
   ·rename_i b c;rw[lK] at h ⊢;split at h
    ·rename_i e;cases h;exact⟨s0.a,by simp_all,c⟩
    ·rename_i e;rw[if_neg e];exact JZ hn.2 h
   ·obtain⟨a,m,f⟩:=JZ hn.2 h;refine⟨a,?_,f⟩;rw[lK];split
    ·rename_i e;exfalso;have:∀{e:List (Nat×Sl)},(∀x∈e,Nat.beq x.1 j=false)->b5 e j=none:=by
      intro e
      induction e with
      | nil=>intro _; rfl
      | cons y r l =>
        intro g;obtain⟨d,v⟩:=y;rw[lK,if_neg]
        ·grind
        ·intro i
         simp_all
     grind
    omega
end
theorem H0F{X:Cx}{st st':St}{id:Nat}(h:Of id st=some st')(j:Nat.blt id 500000=true){G:Gh}{a:Act}(S:Sat X G)(u:G.o=st.o)(i:EnvR X.n G st.e a):∃G',Sat X G'/\G'.o=st'.o/\G'.w=G.w/\EnvR X.n G' st'.e a:=by
 unfold Of at h;split at h
 ·rename_i T F t y ver d;rw[ce] at h;split at h
  ·rename_i m;split at h
   ·rename_i l hz;cases h;rw[<- u] at d hz;have c:=x0s S d rfl l;obtain⟨E,q,V,g⟩:=S.obs id _ d;refine⟨Fk G id l,WL S d (fun k f=>⟨by grind[FZ],g k f⟩) c hz j,rfl,rfl,i.defers,i.size,fun k s f=>?_⟩;obtain⟨b,r,P⟩:=JZ m f;obtain⟨H,z⟩:=i.val k _ r
    grind[RV]
   grind
  grind
 ·rename_i T W F t y d;rw[ce] at h;split at h
  ·rename_i m;split at h
   ·rename_i l hz;cases h;rw[<- u] at d hz;have c:=x0r (ver:=0) S d rfl l;obtain⟨x,Q,q,v,g⟩:=S.obs id _ d;refine⟨Fk G id l,WL S d (fun k f=>⟨by grind[FZ],g k f⟩) c hz j,rfl,rfl,i.defers,i.size,fun k s f=>?_⟩;obtain⟨b,r,P⟩:=JZ m f;obtain⟨H,z⟩:=i.val k _ r
    grind[RV]
   grind
  grind
 grind
theorem fz{X:Cx}{st:St}{c:Code}{Q:Exit->Act->World->Prop}(id:Nat)(st':St)(h:Of id st=some st')(d:Nat.blt id 500000=true)(k:VX X st' c Q):VX X st c Q:=fun G a S g j=>by
 obtain⟨f,l,e,i,b⟩:=H0F h d S g j;have:=k f a l e b
 grind
theorem M0F{X:Cx}{st:St}{c:Code}{Q:Exit->Act->World->Prop}{a:Type}{r:a}(H:none=some r):VX X st c Q:=by cases H
def Kb:List q9->Bool
 | []=>true
 | .dat (.int _) :: r=>Kb r
 | .dat .bool :: r=>Kb r
 | .dat .str :: r=>Kb r
 | _=>false
def sc:(ps:List q9)->C8 ps->List Value
 | [],_=>[]
 | .dat (.int k) :: r,x=>.int k x.1 :: sc r x.2
 | .dat .bool :: r,x=>.bool x.1 :: sc r x.2
 | .dat .str :: r,x=>.string x.1 :: sc r x.2
 | _ :: r,x=>sc r x.2
theorem RW{K:Nat->Prop}{w:World}:∀{ps:List q9} {x:C8 ps} {vs:List Value} {go:Option Nat},Kb ps=true->ArgsR K w go ps x vs->vs=sc ps x/\go=none
 | [],x,vs,go,_,h=>h
 | .dat (.int k) :: r,x,vs,go,hs,⟨v,us,e,a,h⟩=>by
   obtain⟨c,b⟩:=RW (ps:=r) hs h;refine⟨?_,b⟩;rw[e,c];have a:=a.1;simp only[List.cons.injEq,and_true] at a;rw[a]; rfl
 | .dat .bool :: r,x,vs,go,hs,⟨v,us,e,a,h⟩=>by
   obtain⟨c,b⟩:=RW (ps:=r) hs h;refine⟨?_,b⟩;rw[e,c];have a:[v]=_:=a;simp only[List.cons.injEq,and_true] at a;rw[a]; rfl
 | .dat .str :: r,x,vs,go,hs,⟨v,us,e,a,h⟩=>by
   obtain⟨c,b⟩:=RW (ps:=r) hs h;refine⟨?_,b⟩;rw[e,c];have a:=a.1;simp only[List.cons.injEq,and_true] at a;rw[a]; rfl
theorem RX{K:Nat->Prop}{w:World}{go:Option Nat}:∀{ps:List q9} (z:D4 ps),Kb ps=true->IOR K w go ps z
 | [],_,_=>trivial
 | .dat (.int _) :: r,z,h=>RX (ps:=r) z h
 | .dat .bool :: r,z,h=>RX (ps:=r) z h
 | .dat .str :: r,z,h=>RX (ps:=r) z h
theorem B0j{P:Program}{f:FuncId}{ps:List q9}{a:Type}[Inhabited a]{F:C8 ps->Option a}{t:Ty}{D:a->c9 t}{Z:a->D4 ps}(c:Kb ps=true)(n:CY P f=true)
  (h:∀x r w,F x=some r->wfs ps x->Calls P f (sc ps x).toArray w fun en w'=>∃v,en=.returned v/\Ext w w'/\RT (fun _=>False) w' t [v] (D r)):Ok P (c7 f ps F (fun r=>.d true t (D r)) Z):=by
 refine⟨n,fun x m w s u K q g=>?_⟩;obtain⟨rfl,rfl⟩:=RW c g;refine Calls.mono (h x _ w (t0Y m) g.wfs) ?_;rintro en w' ⟨v,e,o,j⟩;exact⟨v,[],e,WE.of_ext o,trivial,(fun b l=>nomatch l),⟨RT.up j (fun k i=>i.elim),rfl⟩,RX _ c⟩
theorem H0d{K:Nat->Prop}{w:World}{k:IntKind}{x:Int}(h:lo k<=x/\x<=hi k):RT K w (.int k) [.int k x] x:=⟨rfl,h⟩
theorem H0c{K:Nat->Prop}{w:World}{s:ByteArray}(h:s.size<=9223372036854775807):RT K w .str [.string s] s:=⟨rfl,h⟩
end Go.Proofs.Xv
end
section
namespace Go.Proofs.Xl
instance M0B{α β:Type}[Inhabited α]:Inhabited (α ⊕ β):=⟨.inl default⟩
def BY{α β:Type}:Option (α ⊕ β)->Bool
 | some (.inl _)=>true
 | _=>false
def IM{α β:Type}:Option (α ⊕ β)->Bool
 | some (.inr _)=>true
 | _=>false
def vL{α β:Type}[Inhabited α]:Option (α ⊕ β)->α
 | some (.inl a)=>a
 | _=>default
def vR{α β:Type}[Inhabited β]:Option (α ⊕ β)->β
 | some (.inr b)=>b
 | _=>default
def two{α β γ:Type}(f:α->γ)(g:β->γ):α ⊕ β->γ
 | .inl a=>f a
 | .inr b=>g b
end Go.Proofs.Xl
namespace Go.Proofs.Xv
open Go Go.RowKit Go.Proofs.Sv Go.Proofs.Xl
def PM(f:FuncId)(ps:List q9){α β:Type}[Inhabited α](F:C8 ps->Option (α ⊕ β))(R:α->AV)(z:D4 ps):Ct:=⟨f,ps,fun x=>⟨BY (F x)=true,R (vL (F x)),z⟩⟩
def PN(f:FuncId)(ps:List q9){α β:Type}[Inhabited β](F:C8 ps->Option (α ⊕ β))(R:β->AV)(z:D4 ps):Ct:=⟨f,ps,fun x=>⟨IM (F x)=true,R (vR (F x)),z⟩⟩
theorem L0u{P:Program}{f:FuncId}{ps:List q9}{d e:Type}[Inhabited (d ⊕ e)][Inhabited d]{F:C8 ps->Option (d ⊕ e)}{g:d->AV}{RB:e->AV}{z:D4 ps}(h:Ok P (c7 f ps F (two g RB) (fun _=>z))):Ok P (PM f ps F g z):=by
 refine⟨h.1,fun x c w j k K i l=>?_⟩;have c:BY (F x)=true:=c;cases hF:F x with
 | none=>rw[hF] at c; cases c
 | some s =>
   cases s with
   | inr b=>rw[hF] at c; cases c
   | inl a =>
     have:=h.2 x (show(F x).isSome=true by grind) w j k K i l;simp only[c7,PM] at this ⊢;rw[hF] at this ⊢;exact this
theorem L0t{P:Program}{f:FuncId}{ps:List q9}{e d:Type}[Inhabited (e ⊕ d)][Inhabited d]{F:C8 ps->Option (e ⊕ d)}{g:e->AV}{RB:d->AV}{z:D4 ps}(h:Ok P (c7 f ps F (two g RB) (fun _=>z))):Ok P (PN f ps F RB z):=by
 refine⟨h.1,fun x c w j k K i l=>?_⟩;have c:IM (F x)=true:=c;cases hF:F x with
 | none=>rw[hF] at c; cases c
 | some s =>
   cases s with
   | inl b=>rw[hF] at c; cases c
   | inr a =>
     have:=h.2 x (show(F x).isSome=true by grind) w j k K i l;simp only[c7,PN] at this ⊢;rw[hF] at this ⊢;exact this
theorem sp{X:Cx}{st:St}{c:Code}{Q:Exit->Act->World->Prop}{d:Type}{r:d}{b:Bool}{a e:Option d}(H:(if b=true then a else e)=some r)(g:a=some r->VX X st c Q)(f:e=some r->VX X st c Q):VX X st c Q:=by
 grind
end Go.Proofs.Xv
end
section
namespace Go.Proofs.Xv
open Go Go.RowKit Go.Proofs.Sv Go.Proofs.Xl
abbrev Z(e:List (Nat×Sl))(o:List (Nat×Ob)):St:=⟨e,o⟩
abbrev R(i:Nat):AV:=.ptr i 0
abbrev O(i:Nat):AV:=.os i 0
abbrev A(T:TypeId)(t:Ty)(xs:List (c9 t))(v:Nat):Ob:=.arr T true t xs v
abbrev K(T:TypeId)(t:Ty)(x:c9 t):Ob:=.box T (F2 false t x)
class HG(P:Program)(Γ:outParam p8):Prop where
 h:B2 P Γ
class HT(P:Program)(T:outParam (List Ct)):Prop where
 h:∀c∈T,Ok P c
def WN(st:St):List Nat:=st.e.map Prod.fst
section
variable {P:Program} {n:Nat} {y:World×(Nat->Prop)×(Nat->Prop)×(Nat->Value->Prop)×Nat} {st:St} {Q:Exit->Act->World->Prop} {Γ:p8} {T:List Ct} {ρ α:Type} {r:ρ}
theorem zD[a:HG P Γ][c:HT P T][e:M1 P](S:α->St){V:Prop}[Decidable V]{x:α}{f:α->Option ρ}{id:Nat}{l:List Oper}{b:Bool}(H:gd V (lt x f)=some r)(d:∀v,f v=some r->FX (cx P n y) (S v) .normal Q)(h:I5 b n Γ T l (WN (S x)) st=some (V,S x):=by kernel_rfl):VX (cx P n y) st (.region id l.toArray b) Q:=zd a.h c.h _ S H h d
theorem qC[a:HG P Γ][d:HT P T][g:M1 P](S:α->St){x:α}{f:α->Option ρ}{id:Nat}{l:List Oper}{b:Bool}{c:Code}(H:lt x f=some r)(e:∀v,f v=some r->VX (cx P n y) (S v) c Q)(h:I5 b n Γ T l (WN (S x)) st=some (True,S x):=by kernel_rfl):VX (cx P n y) st (.seq (.region id l.toArray b) c) Q:=qc a.h d.h _ S H h e
theorem qD[a:HG P Γ][d:HT P T][g:M1 P](S:α->St){V:Prop}[Decidable V]{x:α}{f:α->Option ρ}{id:Nat}{l:List Oper}{b:Bool}{c:Code}(H:gd V (lt x f)=some r)(e:∀v,f v=some r->VX (cx P n y) (S v) c Q)(h:I5 b n Γ T l (WN (S x)) st=some (V,S x):=by kernel_rfl):VX (cx P n y) st (.seq (.region id l.toArray b) c) Q:=qd a.h d.h _ S H h e
theorem cD{X:Cx}{c:Operand}{a d:Code}{b:Bool}{e f:Option ρ}(H:(if b=true then e else f)=some r)(g:e=some r->VX X st a Q)(i:f=some r->VX X st d Q)(h:JX st c=some b:=by kernel_rfl):VX X st (.cond c a d) Q:=cd H h g i
theorem jN{X:Cx}{b:Type}(r:ρ)(E:b->St)(J:b->Option ρ){a d:Code}(h:∀s,J s=some r->VX X (E s) d Q)(k:∀Q',(∀{s st'},J s=some r->(h:Gn st' (E s)=some (E s):=by kernel_rfl)->FX X st' .normal Q')->(∀{st' id},FX X st' (.exit id) Q->FX X st' (.exit id) Q')->(∀{st'},FX X st' .ret Q->FX X st' .ret Q')->VX X st a Q'):VX X st (.seq a d) Q:=jn r E J h (fun Q' n e t=>k Q' (fun H h=>n H h) e t)
theorem lX{X:Cx}{c:Type}(E:c->St)(d:c){F:(c->Option ρ)->c->Option ρ}{a:Code}(H:lp F d=some r)
 (b:∀Q' (g:c->Option ρ),(∀{s st'},g s=some r->(h:Gn st' (E s)=some (E s):=by kernel_rfl)->FX X st' .normal Q')->(∀{st' id},FX X st' (.exit id) Q->FX X st' (.exit id) Q')->(∀{st'},FX X st' .ret Q->FX X st' .ret Q')->∀s,F g s=some r->VX X (E s) a Q') (f:Gn st (E d)=some (E d):=by kernel_rfl):VX X st (.loop a) Q:=lx E d H f (fun Q' g n e t s H=>b Q' g (fun H h=>n H h) e t s H)
theorem fZ{X:Cx}{c:Code}(id:Nat)(st':St)(k:VX X st' c Q)(h:Of id st=some st':=by kernel_rfl)(a:Nat.blt id 500000=true:=by kernel_rfl):VX X st c Q:=fz id st' h a k
end
def RY(X:Cx)(Γ:p8)(rs:List ResultVar)(ps:List q9){ρ:Type}(R:ρ->AV)(Z:ρ->D4 ps)(r:ρ)(x:Exit)(Q:Exit->Act->World->Prop):Prop :=
 ∀{st:St} {e:ρ},some e=some r->(h:RQ Γ st rs ps (R e) (Z e)=some (R e,Z e):=by kernel_rfl)->FX X st x Q
theorem okL{P:Program}{Γ:p8}[i:HG P Γ]{f:FuncId}{ps:List q9}{d:Type}[Inhabited d]{F:C8 ps->Option d}{R:d->AV}{Z:d->D4 ps}{e:Func}{c:Code}{n:Nat}(rs:List ResultVar)
  (k:P.funcs[f]?=some e) (j:e.ntmps=n) (o:e.results=rs.toArray)
  (h:∀y x r,F x=some r->∀Q,RY (cx P n y) Γ rs ps R Z r .normal Q->RY (cx P n y) Γ rs ps R Z r .ret Q->VX (cx P n y) ⟨Q6 0 ps x,J9 0 ps x⟩ c Q)
  (l:e.body=some c:=by rfl) (m:CY P f=true:=by kernel_rfl) (g:(Nat.ble ps.length n&&AT ps)=true:=by rfl):Ok P (c7 f ps F R Z) :=
 okl i.h rs k j l o m g (fun y x r H Q a b=>h y x r H Q (fun H h=>a H h) (fun H h=>b H h))
end Go.Proofs.Xv
end
section
namespace Go.Proofs.Xv
open Go Go.Proofs Go.Proofs.Sv
def WQ(P:Program)(T:TypeId):Nat->List (Nat×Nat)->List (Option (Nat×Bool))
 | _,[]=>[]
 | k,_ :: r=>NC P T k :: WQ P T (k+1) r
theorem B0v{P:Program}{T:TypeId}:∀{l:List (Nat×Nat)} {k:Nat},WQ P T k l=l.map (fun x=>some (x.1,true))->QY P T k l
 | [],_,_=>trivial
 | _ :: _,_,h=>⟨(List.cons.inj h).1,B0v (List.cons.inj h).2⟩
abbrev I0c:=(Option (Nat×Nat×Option Value)×Bool×Bool×Bool)×Bool×Option (List (Nat×Nat))×Bool×List (Option (Nat×Bool))×Bool×Option (List (Bool×Bool))×Option TypeDesc
def WR(P:Program)(x:Nat×TI):I0c :=
 ((QO P x.1,Z1 x.2.zero.cells.toList x.2.size,Nat.blt 0 x.2.size,ones x.2.zero.cells.toList),match x.2.kd with
 | .agg pl e _=>(BC P x.1,JB P x.1,NF P x.1,WQ P x.1 0 pl,(!e||Vv P x.1),Vw P x.1,none)
 | .arr _ _=>(BC P x.1,none,true,[],true,none,P.underlying x.1)
 | .oth=>(W9 P x.1,none,true,[],true,none,none)
 | _=>(W9 P x.1,none,true,[],true,none,P.underlying x.1))
def WS(P:Program)(x:Nat×TI):I0c :=
 ((some (x.2.size,x.2.bytes,some x.2.zero),true,true,true),match x.2.kd with
 | .agg pl _ ag=>(true,some pl,true,pl.map (fun x=>some (x.1,true)),true,some (ag.map fun b=>(b,!b)),none)
 | .arr m E=>(true,none,true,[],true,none,some (.array m E))
 | .sl E=>(true,none,true,[],true,none,some (.slice E))
 | .str=>(true,none,true,[],true,none,some .string)
 | .bool=>(true,none,true,[],true,none,some .bool)
 | .int k=>(true,none,true,[],true,none,some (.int k))
 | .ptr=>(true,none,true,[],true,none,some (.pointer (P.pointee x.1)))
 | .oth=>(true,none,true,[],true,none,none))
theorem J0G{P:Program}{x:Nat×TI}(h:WR P x=WS P x):HC P x.1 x.2:=by
 obtain⟨T,c,b,zero,e,k⟩:=x;unfold WR WS at h;simp only[pj] at h;obtain⟨⟨j,i,g,d⟩,a⟩:=h;refine⟨j,i,g,d,?_⟩;cases e <;> simp only[pj] at a <;> unfold Ra
 ·exact⟨a.1,a.2.1,a.2.2.1,B0v a.2.2.2.1,fun f=>by simpa [f] using a.2.2.2.2.1,a.2.2.2.2.2.1⟩
 ·exact⟨a.1,a.2.2.2.2.2.2⟩
 ·exact⟨a.1,a.2.2.2.2.2.2⟩
 ·exact⟨a.1,a.2.2.2.2.2.2⟩
 ·exact⟨a.1,a.2.2.2.2.2.2⟩
 ·exact⟨a.1,a.2.2.2.2.2.2⟩
 ·exact a.1
 ·exact⟨a.1,a.2.2.2.2.2.2⟩
theorem G0U{P:Program}{Γ:p8}(h:Γ.map (WR P)=Γ.map (WS P)):B2 P Γ:=by
 induction Γ with
 | nil=>exact C0n
 | cons x r a =>
   simp only[List.map_cons,List.cons.injEq] at h;exact tK (J0G h.1) (a h.2)
end Go.Proofs.Xv
end
