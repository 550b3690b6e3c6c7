/- Calls by contracts. Over any program. -/
import Derived.Test.YtdjgagoledoaaaaGreatDoorXA
import Derived.KernelRfl
set_option maxHeartbeats 0
section
namespace Go.Proofs.Xv
open Go Go.RowKit Go.Proofs.Sv
theorem Sat.after{X:Cx}{G:Gh}(S:Sat X G){w':World}{go:Option Nat}(q:WE go G.w w'){K':Nat->Prop}(hK:∀k,G.K k->K' k)(aB:∀k,K' k->UFg w' X.w0.heap.size k)(F:∀k,K' k->X.K0 k∨X.base<=k)
  (aC:∀id o b,b9 G.o id=some o->G.γ id=some b->¬K' b) (aD:∀id b,G.δ id b->H7 (b9 G.o id)=true->¬K' b) {a:List (Nat×Ob)}
  (hu:(go=none/\a=[])∨∃id b T cs0 t,∃z:j5 t,go=some b/\a=[(id,Ob.box T (o8 false t z))]/\b9 G.o id=some (.box T cs0)/\G.γ id=some b/\∃us,Blk w' b us T/\RT K' w' t us z) :
  Sat X ⟨G.ρ,G.γ,K',w',a++G.o,G.B,G.δ⟩/\GLe G ⟨G.ρ,G.γ,K',w',a++G.o,G.B,G.δ⟩:=by
 have Y:∀k,G.K k->go≠some k:=fun k n e=>by
  grind
 have W:∀k,G.K k->k<G.w.heap.size->w'.heap[k]?=G.w.heap[k]?:=fun k n hl=>q.block k hl (Y k n)
 -- where the objects stand
 have Q:∀i,(∃T cs0 t,∃z:j5 t,b9 (a++G.o) i=some (.box T (o8 false t z))/\b9 G.o i=some (.box T cs0)/\go=G.γ i/\(∃b us,G.γ i=some b/\Blk w' b us T/\RT K' w' t us z))∨(b9 (a++G.o) i=b9 G.o i/\∀o b,b9 G.o i=some o->G.γ i=some b->go≠some b):=fun i=>by
  rcases hu with ⟨rfl,rfl⟩ | ⟨id,b,T,cs0,t,z,rfl,rfl,g,hγ,us,hB,hR⟩
  ·grind
  ·by_cases e:id=i
   ·subst e;exact .inl ⟨T,cs0,t,z,by rw[List.cons_append,lK,if_pos rfl],g,hγ.symm,b,us,hγ,hB,hR⟩
   ·refine .inr ⟨by rw[List.cons_append,lK,if_neg e]; rfl,fun o b' d E e'=>?_⟩;cases e';exact e (S.inj id i _ _ b g d hγ E)
 have l:GLe G ⟨G.ρ,G.γ,K',w',a++G.o,G.B,G.δ⟩:=by
  refine⟨rfl,fun k n hl=>⟨hK k n,W k n hl⟩,fun i T cs hi=>⟨rfl,?_⟩,fun i T Te fr t xs V hi=>⟨rfl,?_⟩,fun i T fr t xs aA hi=>?_⟩
  ·grind
  ·grind
  ·grind
 have f:∀i o,b9 (a++G.o) i=some o->∃o',b9 G.o i=some o':=fun i o h=>by
  grind
 have y:∀i,H7 (b9 (a++G.o) i)=true->H7 (b9 G.o i)=true:=fun i h=>by
  rcases Q i with ⟨T',_,t,z,m,_⟩ | ⟨m,_⟩
  ·rw[m] at h; cases h
  grind
 refine⟨⟨S.base,q.os.trans S.os,q.tape.trans S.tape,q.output.trans S.output,Nat.le_trans S.size q.size,fun k n hi=>?_,?_,?_,?_,?_,aB,F,fun i b u hg=>?_,fun i v h=>(S.pin i v h).mono l⟩,l⟩
 rotate_right
 ·have hg:=y i hg;obtain⟨s1,s2,s3,s4⟩:=S.sep i b u hg
  grind
 ·refine(q.block k (Nat.lt_of_lt_of_le n S.size) (fun e=>?_)).trans (S.block k n hi);rcases hu with ⟨rfl,_⟩ | ⟨id,b,T,cs0,t,z,rfl,_,g,hγ,_⟩
  ·cases e
  ·cases e;rcases S.own id _ k g hγ with h | h
   ·omega
   grind
 ·intro i o g;rcases Q i with ⟨T,cs0,t,z,m,H,_,b,us,h3,h4,h5⟩ | ⟨m,H⟩
  ·rw[m] at g;cases g;obtain⟨b',aF,r,s,_⟩:=S.obs i _ H;rw[h3] at r;cases r;exact⟨b,us,h3,s,h4,AU (RT.up h5 (fun k n=>⟨n,(fun e=>by cases e)⟩))⟩
  ·have d:b9 G.o i=some o:=by rw[<- m]; exact g
   have:=S.obs i o d;cases o with
   | box T cs =>
     obtain⟨b,us,r,s,P,g4⟩:=this;exact⟨b,us,r,s,P.we q (fun j hj e=>by grind),g4.mono l⟩
   | arr T fr t xs aA =>
     obtain⟨cs,r,s,P⟩:=this;exact⟨cs,r.we q (fun j hj e=>H _ j d e hj),s.mapR (fun c x hr=>RT.same (w:=G.w) l.hR hr),P⟩
   | grd T Te fr t xs V =>
     obtain⟨vs,bs,r,s,P⟩:=this;refine⟨vs,bs,r.we q (fun j hj e=>H _ j d e hj),s.up l (fun _=>Iff.rfl) q (fun b u y=>?_),P⟩;rcases hu with ⟨rfl,_⟩ | ⟨id,b',T,cs0,t,z,rfl,_,ho2,hγ,_⟩
     ·grind
     ·cases y;exact(S.sep i b u (by rw[d]; rfl)).2.2.1 id _ ho2 hγ
 ·intro i i' o o' b g d u E;obtain⟨o1,m⟩:=f i o g;obtain⟨o2,H⟩:=f i' o' d;exact S.inj i i' o1 o2 b m H u E
 ·grind
 ·intro i o b g u;obtain⟨o1,m⟩:=f i o g;exact S.own i o1 b m u
theorem Sat.add{X:Cx}{G:Gh}(S:Sat X G){id:Nat}{ob:Ob}{r:Value}{g:Option Nat}(hd:b9 G.o id=none)(hg:∀b,g=some b->(X.w0.heap.size<=b∨X.io b)/\¬G.K b/\(∀i o,b9 G.o i=some o->G.γ i≠some b)/\∀i,G.δ i b->H7 (b9 G.o i)=true->False)
  (aB:GLe G (G.put id ob r g G.w)->ObR (G.put id ob r g G.w) id ob):Sat X (G.put id ob r g G.w)/\GLe G (G.put id ob r g G.w):=by
 have d:∀i,b9 (G.put id ob r g G.w).o i=if id=i then some ob else b9 G.o i:=fun i=>lK _ _ _ _
 have E:∀i o,b9 G.o i=some o->¬id=i:=fun i o h e=>by grind
 have f:GLe G (G.put id ob r g G.w):=by
  refine⟨rfl,fun k s _=>⟨s,rfl⟩,fun i T z hi=>?_,fun i T Te y t F q hi=>?_,fun i T y t F H hi=>?_⟩
  ·grind[Gh.put]
  ·grind[Gh.put]
  ·have e:=E i _ hi;rw[d,if_neg e];simp only[Gh.put,if_neg (Ne.symm e)]
   grind
 refine⟨⟨S.base,S.os,S.tape,S.output,S.size,S.block,?_,?_,?_,?_,S.klt,S.kfrom,fun i b c n=>?_,fun i v h=>(S.pin i v h).mono f⟩,f⟩
 rotate_right
 ·obtain⟨hn,c⟩:=c;rw[d,if_neg (Ne.symm hn)] at n;obtain⟨s1,s2,s3,s4⟩:=S.sep i b c n;refine⟨s1,s2,fun j o a P=>?_,fun j P aA=>?_⟩
  ·grind[Gh.put]
  ·obtain⟨aC,P⟩:=P
   grind
 ·intro i o a;rw[d] at a;by_cases e:id=i
  ·grind
  ·rw[if_neg e] at a;have:=S.obs i o a;cases o with
   | box T z =>
     obtain⟨b,Y,W,u,x,h4⟩:=this;exact⟨b,Y,by grind[Gh.put],by grind[Gh.put],x,h4.mono f⟩
   | arr T y t F H =>
     obtain⟨z,W,u,x⟩:=this;exact⟨z,by grind[Gh.put],u,by grind[Gh.put]⟩
   | grd T Te y t F q =>
     obtain⟨vs,bs,W,u,x⟩:=this;exact⟨vs,bs,by grind[Gh.put],u.up f (fun b=>⟨fun h=>h.2,fun h=>⟨Ne.symm e,h⟩⟩) (WE.refl (g:=none) _) (fun _ _ h=>by cases h),by grind[Gh.put]⟩
 ·intro i Q o o' b a l c m;rw[d] at a l;simp only[Gh.put] at c m;by_cases e:i=id
  ·grind
  ·rw[if_neg e] at c;rw[if_neg (Ne.symm e)] at a;by_cases V:Q=id
   ·grind
   ·rw[if_neg V] at m;rw[if_neg (Ne.symm V)] at l;exact S.inj i Q o o' b a l c m
 ·intro i o b a c s;rw[d] at a;simp only[Gh.put] at c s;by_cases e:i=id
  ·grind
  ·rw[if_neg e] at c;rw[if_neg (Ne.symm e)] at a;exact S.imm i o b a c s
 ·intro i o b a c;rw[d] at a;simp only[Gh.put] at c;by_cases e:i=id
  ·grind
  ·rw[if_neg e] at c;rw[if_neg (Ne.symm e)] at a;exact S.own i o b a c
mutual
def G8(d:Nat):Nat->AV->AV×List (Nat×Ob)×Nat
 | j,.ow T fr t xs=>(.os (1000*j+d) 0,[(1000*j+d,.arr T fr t xs 0)],j+1)
 | j,.ob T xs=>match N0 d j xs with | (ys,o,k)=>(.ptr (1000*k+d) 0,(1000*k+d,.box T ys) :: o,k+1)
 | j,.agg xs=>match N0 d j xs with | (ys,o,k)=>(.agg ys,o,k)
 | j,.tup xs=>match N0 d j xs with | (ys,o,k)=>(.tup ys,o,k)
 | j,.v x=>(.v x,[],j)
 | j,.d fr t x=>(.d fr t x,[],j)
 | j,a=>(a,[],j)
def N0(d:Nat):Nat->List AV->List AV×List (Nat×Ob)×Nat
 | j,[]=>([],[],j)
 | j,a :: r=>match G8 d j a with
   | (b,o,k)=>match N0 d k r with | (s,o',k')=>(b :: s,o'++o,k')
end
theorem Yc{a:Type}{l m:List (Nat×a)}{i:Nat}(h:∀x∈l,x.1≠i):b9 (l++m) i=b9 m i:=by
 induction l with
 | nil=>rfl
 | cons x r b =>
   obtain⟨d,v⟩:=x;rw[List.cons_append,lK,if_neg (h (d,v) (by simp))]
   grind
structure Yd(X:Cx)(d j k:Nat)(G:Gh)(obs:List (Nat×Ob))(gs:List (Option Nat))(G':Gh):Prop where
 sat:Sat X G'
 le:GLe G G'
 w:G'.w=G.w
 K:G'.K=G.K
 o:G'.o=obs++G.o
 jk:j<=k
 num:∀x∈obs,∃i,j<=i/\i<k/\x.1=1000*i+d
 far:∀b,some b ∉ gs->(∀i o,b9 G.o i=some o->G.γ i≠some b)->∀i o,b9 G'.o i=some o->G'.γ i≠some b
 dl:∀i b,G'.δ i b->H7 (b9 G'.o i)=true->G.δ i b/\H7 (b9 G.o i)=true
def Ss(X:Cx)(G:Gh)(gs:List (Option Nat)):Prop:=∀b,some b∈gs->X.w0.heap.size<=b/\¬G.K b/\(∀i o,b9 G.o i=some o->G.γ i≠some b)/\∀i,G.δ i b->H7 (b9 G.o i)=true->False
theorem m0R:∀{g h:List (Option Nat)},CY (g++h)->CY g/\CY h/\∀b,some b∈g->some b ∉ h
 | [],h,k=>⟨trivial,k,fun _ a=>by cases a⟩
 | x :: r,h,⟨k1,k2⟩=>by
   obtain⟨f,d,i⟩:=m0R k2;refine⟨⟨fun b a c=>k1 b a (by simp[c]),f⟩,d,fun b a c=>?_⟩;rcases List.mem_cons.1 a with e | a
   ·exact k1 b e.symm (by simp[c])
   grind
theorem Ye{X:Cx}{d j:Nat}{G:Gh}(S:Sat X G){b:List (Option Nat)}:Yd X d j j G [] b G :=
 ⟨S,GLe.refl G,rfl,rfl,rfl,Nat.le_refl _,(fun _ h=>by cases h),(fun _ _ h=>h),fun _ _ h a=>⟨h,a⟩⟩
mutual
theorem i0b{X:Cx}{d:Nat}{K:Bool->Nat->Prop}:∀(a:AV) {j k:Nat} {b:AV} {obs:List (Nat×Ob)} {G:Gh} {u:Value} {gs:List (Option Nat)},G8 d j a=(b,obs,k)->Sat X G->(∀fr i,K fr i->rg G fr i)->ResR K G.w a u gs->CY gs->Ss X G gs->(∀x∈obs,b9 G.o x.1=none) ->
  ∃G',Yd X d j k G obs gs G'/\AVR G' b u
 | .ow T fr t xs,j,k,b,obs,G,u,gs,h,S,hK,hR,hN,hF,hfr=>by
   simp only[G8,pj] at h;obtain⟨rfl,rfl,rfl⟩:=h;obtain⟨g,cs,rfl,E,hO,hA⟩:=hR;have hd:=hfr _ (List.mem_singleton.2 rfl);have f:=S.add (id:=1000*j+d) (ob:=.arr T fr t xs 0) (r:=u) (g:=g) hd (fun b m=>let h:=hF b (by grind); ⟨.inl h.1,h.2⟩) (fun z=>⟨cs,by grind[Gh.put],hA.mapR (fun c x hr=>RT.same (w:=G.w) (fun k hk _=>⟨hK fr k hk,rfl⟩) hr),fun b e=>by simp only[Gh.put,if_true] at e ⊢; subst e; exact Nat.le_trans S.le (hF b (by simp)).1⟩);refine⟨_,⟨f.1,f.2,rfl,rfl,rfl,Nat.le_succ _,fun x H=>?_,fun b m q i o hi=>?_,fun i b m n=>?_⟩,E,T,fr,t,xs,0,?_,Nat.le_refl _,fun _=>by simp[Gh.put]⟩
   ·cases List.mem_singleton.1 H;exact⟨j,Nat.le_refl _,Nat.lt_succ_self _,rfl⟩
   ·rw[show(Gh.put G (1000*j+d) (.arr T fr t xs 0) u g G.w).o=(1000*j+d,.arr T fr t xs 0) :: G.o from rfl,lK] at hi
    grind[Gh.put]
   ·obtain⟨hn,m⟩:=m;rw[show(Gh.put G (1000*j+d) (.arr T fr t xs 0) u g G.w).o=(1000*j+d,.arr T fr t xs 0) :: G.o from rfl,lK,if_neg (Ne.symm hn)] at n;exact⟨m,n⟩
   ·rw[show(Gh.put G (1000*j+d) (.arr T fr t xs 0) u g G.w).o=(1000*j+d,.arr T fr t xs 0) :: G.o from rfl,lK]; simp
 | .agg xs,j,k,b,obs,G,u,gs,h,S,hK,⟨us,e,hR⟩,hN,hF,hfr=>by
   simp only[G8] at h;cases f:N0 d j xs with
   | mk F r =>
     obtain⟨o,s⟩:=r;rw[f] at h;simp only[pj] at h;obtain⟨rfl,rfl,rfl⟩:=h;obtain⟨G',E,Y⟩:=Su xs f S hK hR hN hF hfr;exact⟨G',E,us,e,Y⟩
 | .tup xs,j,k,b,obs,G,u,gs,h,S,hK,⟨us,e,hR⟩,hN,hF,hfr=>by
   simp only[G8] at h;cases f:N0 d j xs with
   | mk F r =>
     obtain⟨o,s⟩:=r;rw[f] at h;simp only[pj] at h;obtain⟨rfl,rfl,rfl⟩:=h;obtain⟨G',E,Y⟩:=Su xs f S hK hR hN hF hfr;exact⟨G',E,us,e,Y⟩
 | .v x,j,k,b,obs,G,u,gs,h,S,hK,⟨hR,e⟩,hN,hF,hfr=>by
   simp only[G8,pj] at h;obtain⟨rfl,rfl,rfl⟩:=h;exact⟨G,Ye S,hR⟩
 | .d fr t x,j,k,b,obs,G,u,gs,h,S,hK,⟨hR,e⟩,hN,hF,hfr=>by
   simp only[G8,pj] at h;obtain⟨rfl,rfl,rfl⟩:=h;exact⟨G,Ye S,RT.same (w:=G.w) (fun k hk _=>⟨hK fr k hk,rfl⟩) hR⟩
 | .ptr _ _,_,_,_,_,_,_,_,_,_,_,hR,_,_,_=>hR.elim
 | .pel _ _ _ _ _,_,_,_,_,_,_,_,_,_,_,hR,_,_,_=>hR.elim
 | .os _ _,_,_,_,_,_,_,_,_,_,_,hR,_,_,_=>hR.elim
 | .fn _ _,_,_,_,_,_,_,_,_,_,_,hR,_,_,_=>hR.elim
 | .gel _ _,_,_,_,_,_,_,_,_,_,_,hR,_,_,_=>hR.elim
 | .og _,_,_,_,_,_,_,_,_,_,_,hR,_,_,_=>hR.elim
 | .ob T xs,j,k,b,obs,G,u,gs,h,S,hK,⟨b0,us,gs',eg,hu,hB,hR⟩,hN,hF,hfr=>by
   subst eg;simp only[G8] at h;cases f:N0 d j xs with
   | mk F r =>
     obtain⟨o,s⟩:=r;rw[f] at h;simp only[pj] at h;obtain⟨rfl,rfl,rfl⟩:=h;obtain⟨n1,n2⟩:=hN;have V:=Kv xs f;have z:=Kw xs f;obtain⟨Q,l,A1⟩:=Su xs f S hK hR n2 (fun b m=>hF b (by grind)) (fun x H=>hfr x (by grind));obtain⟨f1,f2,f3,f4⟩:=hF b0 (by simp);have hd:b9 Q.o (1000*s+d)=none:=by
      rw[l.o,Yc]
      ·simp_all
      ·intro y hy e;obtain⟨i',aB,aC,aA⟩:=V y hy;rw[aA] at e;omega
     have f:=l.sat.add (id:=1000*s+d) (ob:=.box T F) (r:=u) (g:=some b0) hd (fun b m=>by
      cases m;exact⟨.inl f1,by rw[l.K]; exact f2,l.far b0 (n1 b0 rfl) f3,fun i hi P=>f4 i (l.dl i b0 hi P).1 (l.dl i b0 hi P).2⟩) (fun z=>⟨b0,us,by simp[Gh.put],by simp[Gh.put,hu],by show Blk Q.w b0 us T; rw[l.w]; exact hB,A1.mono z⟩)
     have W:(Gh.put Q (1000*s+d) (.box T F) u (some b0) Q.w).o=(1000*s+d,.box T F) :: Q.o:=rfl;refine⟨_,⟨f.1,GLe.trans l.le f.2 (by rw[l.w]; exact Nat.le_refl _),l.w,l.K,by rw[W,l.o]; rfl,by omega,fun x H=>?_,fun b m q i o hi=>?_,fun i b m n=>?_⟩,⟨T,F,by rw[W,lK,if_pos rfl]⟩,b0,by simp[Gh.put,hu],by rw[hu]⟩
     ·rcases List.mem_cons.1 H with rfl | H
      ·exact⟨s,by omega,by omega,rfl⟩
      ·obtain⟨i,E,Y,h3⟩:=l.num x H;exact⟨i,E,by omega,h3⟩
     ·rw[W,lK] at hi;simp only[Gh.put];by_cases e:i=1000*s+d
      ·grind
      ·rw[if_neg e];rw[if_neg (Ne.symm e)] at hi;exact l.far b (fun h=>m (by simp[h])) q i o hi
     ·obtain⟨hn,m⟩:=m;rw[W,lK,if_neg (Ne.symm hn)] at n;exact l.dl i b m n
theorem Su{X:Cx}{d:Nat}{K:Bool->Nat->Prop}:∀(as':List AV) {j k:Nat} {bs:List AV} {obs:List (Nat×Ob)} {G:Gh} {us:List Value} {gs:List (Option Nat)},N0 d j as'=(bs,obs,k)->Sat X G->(∀fr i,K fr i->rg G fr i)->ResRs K G.w as' us gs->CY gs->Ss X G gs->(∀x∈obs,b9 G.o x.1=none) ->
  ∃G',Yd X d j k G obs gs G'/\AVRs G' bs us
 | [],j,k,bs,obs,G,us,gs,h,S,hK,⟨hR,e⟩,hN,hF,hfr=>by
   simp only[N0,pj] at h;obtain⟨rfl,rfl,rfl⟩:=h;exact⟨G,Ye S,hR⟩
 | a :: r,j,k,bs,obs,G,us,gs,h,S,hK,⟨u,us',g1,g2,e1,e2,hR1,hR2⟩,hN,hF,hfr=>by
   subst e1; subst e2;simp only[N0] at h;cases hp:G8 d j a with
   | mk b q =>
     obtain⟨o,V⟩:=q;rw[hp] at h;simp only at h;cases hp2:N0 d V r with
     | mk s q =>
       obtain⟨o',k2⟩:=q;rw[hp2] at h;simp only[pj] at h;obtain⟨rfl,rfl,rfl⟩:=h;obtain⟨n1,n2,n3⟩:=m0R hN;obtain⟨Y,c,A1⟩:=i0b a hp S hK hR1 n1 (fun b g=>hF b (by simp[g])) (fun x l=>hfr x (by simp[l]));have Q:Ss X Y g2:=fun b g=>by
        obtain⟨f1,f2,f3,f4⟩:=hF b (by simp[g]);exact⟨f1,by rw[c.K]; exact f2,c.far b (fun h=>n3 b h g) f3,fun i hi m=>f4 i (c.dl i b hi m).1 (c.dl i b hi m).2⟩
       have z:∀x∈o',b9 Y.o x.1=none:=fun x l=>by
        obtain⟨i,aB,aA,P⟩:∃i,V<=i/\i<k2/\x.1=1000*i+d:=by
         exact Kv r hp2 x l
        rw[c.o,Yc]
        ·grind
        ·intro y hy e;obtain⟨i',T,W,H⟩:=c.num y hy;rw[H,P] at e;omega
       obtain⟨G2,f,A2⟩:=Su r hp2 c.sat (fun fr i hi=>by obtain⟨v,E⟩:=hK fr i hi; exact⟨by rw[c.K]; exact v,fun e=>by rw[c.le.hB]; exact E e⟩) (by rw[c.w]; exact hR2) n2 Q z;refine⟨G2,⟨f.sat,?_,f.w.trans c.w,f.K.trans c.K,?_,Nat.le_trans c.jk f.jk,?_,?_,fun i b g n=>c.dl i b (f.dl i b g n).1 (f.dl i b g n).2⟩,u,us',rfl,A1.mono f.le,A2⟩
       ·exact GLe.trans c.le f.le (by rw[c.w]; exact Nat.le_refl _)
       ·rw[f.o,c.o,List.append_assoc]
       ·intro x l;rcases List.mem_append.1 l with l | l
        ·obtain⟨i,v,E,F⟩:=f.num x l;exact⟨i,Nat.le_trans c.jk v,E,F⟩
        ·obtain⟨i,v,E,F⟩:=c.num x l;exact⟨i,v,Nat.lt_of_lt_of_le E f.jk,F⟩
       ·intro b g t;exact f.far b (fun h=>g (by simp[h])) (c.far b (fun h=>g (by simp[h])) t)
theorem Yf{d:Nat}:∀(a:AV) {j k:Nat} {b:AV} {obs:List (Nat×Ob)},G8 d j a=(b,obs,k)->(∀x∈obs,∃i,j<=i/\i<k/\x.1=1000*i+d)/\j<=k
 | .ow T fr t xs,j,k,b,obs,h=>by
   simp only[G8,pj] at h;obtain⟨rfl,rfl,rfl⟩:=h;refine⟨fun x c=>?_,Nat.le_succ _⟩;cases List.mem_singleton.1 c;exact⟨j,Nat.le_refl _,Nat.lt_succ_self _,rfl⟩
 | .agg xs,j,k,b,obs,h=>by
   simp only[G8] at h;cases hp:N0 d j xs with
   | mk l r =>
     obtain⟨o,f⟩:=r;rw[hp] at h;simp only[pj] at h;obtain⟨rfl,rfl,rfl⟩:=h;exact⟨Kv xs hp,Kw xs hp⟩
 | .tup xs,j,k,b,obs,h=>by
   simp only[G8] at h;cases hp:N0 d j xs with
   | mk l r =>
     obtain⟨o,f⟩:=r;rw[hp] at h;simp only[pj] at h;obtain⟨rfl,rfl,rfl⟩:=h;exact⟨Kv xs hp,Kw xs hp⟩
 | .v x,j,k,b,obs,h=>by simp only[G8,pj] at h; grind
 | .d fr t x,j,k,b,obs,h=>by simp only[G8,pj] at h; grind
 | .ptr _ _,j,k,b,obs,h=>by simp only[G8,pj] at h; grind
 | .pel _ _ _ _ _,j,k,b,obs,h=>by simp only[G8,pj] at h; grind
 | .os _ _,j,k,b,obs,h=>by simp only[G8,pj] at h; grind
 | .fn _ _,j,k,b,obs,h=>by simp only[G8,pj] at h; grind
 | .gel _ _,j,k,b,obs,h=>by simp only[G8,pj] at h; grind
 | .og _,j,k,b,obs,h=>by simp only[G8,pj] at h; grind
 | .ob T xs,j,k,b,obs,h=>by
   simp only[G8] at h;cases hp:N0 d j xs with
   | mk l r =>
     obtain⟨o,f⟩:=r;rw[hp] at h;simp only[pj] at h;obtain⟨rfl,rfl,rfl⟩:=h;have e:=Kv xs hp;have g:=Kw xs hp;refine⟨fun x c=>?_,by omega⟩;rcases List.mem_cons.1 c with rfl | c
     ·exact⟨f,g,by omega,rfl⟩
     ·obtain⟨i,n,q,m⟩:=e x c;exact⟨i,n,by omega,m⟩
theorem Kw{d:Nat}:∀(as':List AV) {j k:Nat} {bs:List AV} {obs:List (Nat×Ob)},N0 d j as'=(bs,obs,k)->j<=k
 | [],j,k,bs,obs,h=>by simp only[N0,pj] at h; omega
 | a :: r,j,k,bs,obs,h=>by
   simp only[N0] at h;cases hp:G8 d j a with
   | mk b q =>
     obtain⟨o,c⟩:=q;rw[hp] at h;simp only at h;cases hp2:N0 d c r with
     | mk s q =>
       obtain⟨f,e⟩:=q;rw[hp2] at h;simp only[pj] at h;obtain⟨rfl,rfl,rfl⟩:=h;exact Nat.le_trans (Yf a hp).2 (Kw r hp2)
theorem Kv{d:Nat}:∀(as':List AV) {j k:Nat} {bs:List AV} {obs:List (Nat×Ob)},N0 d j as'=(bs,obs,k)->∀x∈obs,∃i,j<=i/\i<k/\x.1=1000*i+d
 | [],j,k,bs,obs,h=>by simp only[N0,pj] at h; grind
 | a :: r,j,k,bs,obs,h=>by
   simp only[N0] at h;cases hp:G8 d j a with
   | mk b q =>
     obtain⟨o,l⟩:=q;rw[hp] at h;simp only at h;cases hp2:N0 d l r with
     | mk s q =>
       obtain⟨m,n⟩:=q;rw[hp2] at h;simp only[pj] at h;obtain⟨rfl,rfl,rfl⟩:=h;intro x c;rcases List.mem_append.1 c with c | c
       ·obtain⟨i,g,e,f⟩:=Kv r hp2 x c;exact⟨i,Nat.le_trans (Yf a hp).2 g,e,f⟩
       ·obtain⟨i,g,e,f⟩:=(Yf a hp).1 x c;exact⟨i,g,Nat.lt_of_lt_of_le e (Kw r hp2),f⟩
end
def Gq:(ps:List Par)->B6 ps->List AV
 | [],_=>[]
 | .io _ t :: _,z=>o8 false t z
 | .dat _ :: r,z=>Gq r z
 | .agg _ :: r,z=>Gq r z
 | .fn _ _ :: r,z=>Gq r z
 | .nof _ :: r,z=>Gq r z
 | .nil :: r,z=>Gq r z
 | .os _ _ :: r,z=>Gq r z
def Au(o:List (Nat×Ob))(ps:List Par)(z:B6 ps):Option Nat->List (Nat×Ob)
 | none=>[]
 | some id=>match b9 o id with
   | some (.box T _)=>[(id,.box T (Gq ps z))]
   | _=>[]
def Co{α:Type}:List α->Bool
 | []=>true
 | _ :: _=>false
theorem Oc{c:Type}{l:List c}(h:Co l=true):l=[]:=by cases l with
 | nil=>rfl
 | cons a b=>cases h
def isNone{α:Type}:Option α->Bool
 | none=>true
 | some _=>false
def CZ(o:List (Nat×Ob)):List (Nat×Ob)->Bool
 | []=>true
 | (i,_) :: r=>As o i&&CZ o r
def Gr(i:Nat):List Nat->Bool
 | []=>true
 | x :: r=>!Nat.beq x i&&Gr i r
def Od(l:List Nat):Option Nat->Bool
 | none=>true
 | some i=>Gr i l
def Sw:List Par->List AV->Bool
 | .fn f _ :: r,.fn f' _ :: s=>Nat.beq f f'&&Sw r s
 | .nof f :: r,.fn f' _ :: s=>Nat.beq f f'&&Sw r s
 | _ :: r,_ :: s=>Sw r s
 | _,_=>true
/- Data that lead Z3 new memory alone, or nowhere. -/
mutual
def BD:AV->Bool
 | .d fr t _=>fr||D3 t
 | .ow _ fr t _=>fr||D3 t
 | .ob _ xs=>Kx xs
 | .agg xs=>Kx xs
 | .tup xs=>Kx xs
 | _=>true
def Kx:List AV->Bool
 | []=>true
 | a :: r=>BD a&&Kx r
end
mutual
theorem ResR.fresh{K K':Bool->Nat->Prop}{w:World}(f:∀fr k,K true k->K' fr k):∀{a:AV} {u:Value} {gs:List (Option Nat)},BD a=true->ResR K w a u gs->ResR K' w a u gs
 | .v _,_,_,_,h=>h
 | .d fr t x,u,gs,hf,⟨h,e⟩=>by
   refine⟨?_,e⟩;simp only[BD,Bool.or_eq_true] at hf
   grind[RT.up,RT.free]
 | .ow T fr t xs,u,gs,hf,⟨g,cs,h1,h2,h3,h4⟩=>by
   refine⟨g,cs,h1,h2,h3,h4.mapR (fun c x h=>?_)⟩;simp only[BD,Bool.or_eq_true] at hf
   grind[RT.up,RT.free]
 | .agg xs,u,gs,hf,⟨us,e,h⟩=>⟨us,e,ResRs.fresh f (by grind[BD]) h⟩
 | .ob T xs,u,gs,hf,⟨b,us,gs',e1,e2,h1,h⟩=>⟨b,us,gs',e1,e2,h1,ResRs.fresh f (by grind[BD]) h⟩
 | .tup xs,u,gs,hf,⟨us,e,h⟩=>⟨us,e,ResRs.fresh f (by grind[BD]) h⟩
theorem ResRs.fresh{K K':Bool->Nat->Prop}{w:World}(b:∀fr k,K true k->K' fr k):∀{as':List AV} {us:List Value} {gs:List (Option Nat)},Kx as'=true->ResRs K w as' us gs->ResRs K' w as' us gs
 | [],_,_,_,h=>h
 | a :: r,us,gs,hf,⟨u,us',g1,g2,e1,e2,h1,h2⟩=>by
   simp only[Kx,ba] at hf;exact⟨u,us',g1,g2,e1,e2,ResR.fresh b hf.1 h1,ResRs.fresh b hf.2 h2⟩
end
def Sx(o:List (Nat×Ob))(q:Prop)(rv:AV)(l:List Nat):Option Nat->Option (Prop×AV×List (Nat×Ob)×List Nat)
 | some id=>match rv,b9 o id with
   | .ow T fr t xs,some (.arr _ _ _ _ ver)=>bif D3 t&&Co l then some (q,.os id (ver+1),[(id,.arr T fr t xs (ver+1))],[id]) else none
   | _,_=>none
 | none=>none
def Io(o:List (Nat×Ob))(d f:Nat)(as':List AV):List Ct->Option (Prop×AV×List (Nat×Ob)×List Nat)
 | []=>none
 | c :: r=>bif Nat.beq c.f f&&Sw c.ps as' then(match K1 o c.ps as' with
   | some (x,l,io)=>match c.res x with
     | ⟨q,rv,z⟩=>bif F0 c.ps then Sx o q rv l io else(match G8 d 0 rv with
       | (av,obs,_)=>bif Od l io&&CZ o obs&&(Co l||(BD rv&&isNone io)) then some (q,av,obs++Au o c.ps z io,(obs.map Prod.fst)++(l++io.toList)) else none)
   | none=>none) else Io o d f as' r
def Da(T:List Ct)(st:St)(p:Pa)(d:Nat):Op->Option (Prop×AV×List (Nat×Ob)×List Nat)
 | .call ⟨.value x,xs,_⟩=>match rd st p x,L3 st p xs.toList with
   | some (.fn f caps),some as'=>Io st.o d f (as'++caps) T
   | _,_=>none
 | _=>none
def Cl(X:Cx)(G:Gh)(a:Act)(op:Op)(ty:TypeId)(av:AV)(obs:List (Nat×Ob)):Prop :=
 ∃f vs,(∀dst pos after g,(execOp a.eval ⟨dst,op,ty,pos,after,g⟩).run X.P G.w=.ok (.enter f vs) G.w) /\
  Calls X.P f vs G.w fun en w'=>∃v G',en=.returned v/\G'.w=w'/\Sat X G'/\GLe G G'/\G'.o=obs++G.o/\AVR G' av v
theorem i0X{o:List (Nat×Ob)}:∀{l:List (Nat×Ob)},CZ o l=true->∀x∈l,b9 o x.1=none
 | [],_,_,h=>by cases h
 | (i,b) :: r,h,x,hx=>by
   simp only[CZ,ba] at h;rcases List.mem_cons.1 hx with rfl | hx
   ·grind[DY]
   ·exact i0X h.2 x hx
theorem Ip{i:Nat}:∀{l:List Nat},Gr i l=true->i ∉ l
 | [],_,h=>by cases h
 | x :: r,h,hx=>by
   simp only[Gr,ba,Bool.not_eq_true'] at h;rcases List.mem_cons.1 hx with rfl | hx
   ·simp at h
   ·exact Ip h.2 hx
theorem IOR.get{K:Nat->Prop}{w:World}{b:Nat}:∀{ps:List Par} {z:B6 ps} {Ka:Nat->Prop} {wa:World} {x:r9 ps} {vs:List Value},¬F0 ps=true->IOR K w (some b) ps z->ArgsR Ka wa (some b) ps x vs->∃t,∃z':j5 t,∃T us cs0,Gq ps z=o8 false t z'/\Blk w b us T/\RT K w t us z'/\Blk wa b cs0 T
 | [],_,_,_,_,_,_,_,h=>by cases h.2
 | .os _ _ :: r,_,_,_,_,_,hv,_,_=>(hv rfl).elim
 | .io T t :: r,z,_,_,x,vs,_,⟨b',cs,e,hB,hR⟩,⟨b2,cs2,us,_,e2,_,hB2,_⟩=>by cases e; cases e2; exact⟨t,z,T,cs,_,rfl,hB,hR,hB2⟩
 | .dat _ :: r,z,_,_,x,vs,hv,h,⟨_,_,_,_,k⟩=>IOR.get (ps:=r) hv h k
 | .agg _ :: r,z,_,_,x,vs,hv,h,⟨_,_,_,_,k⟩=>IOR.get (ps:=r) hv h k
 | .fn _ _ :: r,z,_,_,x,vs,hv,h,⟨_,_,_,_,k⟩=>IOR.get (ps:=r) hv h k
 | .nof _ :: r,z,_,_,x,vs,hv,h,⟨_,_,k⟩=>IOR.get (ps:=r) hv h k
 | .nil :: r,z,_,_,x,vs,hv,h,⟨_,_,k⟩=>IOR.get (ps:=r) hv h k
theorem Yg{o:List (Nat×Ob)}:∀{ps:List Par} {as':List AV} {x:r9 ps} {l:List Nat} {io:Option Nat},K1 o ps as'=some (x,l,io)->∀id∈l,∃ob,b9 o id=some ob
 | [],[],x,l,io,h=>by
   simp only[K1,oi,pj] at h
   grind
 | [],_ :: _,x,l,io,h=>by grind[K1]
 | _ :: _,[],x,l,io,h=>by grind[K1]
 | p :: r,a :: as',x,l,io,h=>by
   simp only[K1] at h;split at h
   ·rename_i g e f b;split at h
    ·rename_i y m j c;have i:=Yg c;have d:∀id∈e,∃ob,b9 o id=some ob:=by
      unfold Cn at b;split at b
      ·split at b
       ·grind[oi,pj,Gp]
       grind
      ·split at b
       ·grind[oi,pj,Gp]
       grind
      ·rw[ce] at b;split at b
       ·split at b
        ·grind[oi,pj,Gp]
        grind
       grind
      ·grind
      ·grind
      ·grind
      ·grind
      ·cases b
     grind
    grind
   grind
theorem r0g{X:Cx}{G:Gh}(S:Sat X G){d:Nat}{aL:List AV}{us:List Value}(hA:AVRs G aL us){ps:List Par}(aI:¬F0 ps=true){x:r9 ps}{l:List Nat}{m:Option Nat}(E:K1 G.o ps aL=some (x,l,m))(aH:Od l m=true) :
  (∀k,X8 G l k->k<G.w.heap.size)/\∃go,ArgsR (X8 G l) G.w go ps x us/\∀(res:r9 ps->Gn ps),CZ G.o (G8 d 0 (res x).r).2.1=true/\(Co l||(BD (res x).r&&isNone m))=true->∀(en:Ending) (w':World),
  (∃v gs,en=.returned v/\WE go G.w w'/\CY gs/\(∀b,some b∈gs->G.w.heap.size<=b∨(F0 ps=true/\go=some b))/\ResR (fun fr=>Oa fr (X8 G l) G.w w' gs) w' (res x).r v gs /\
    IOR (fun k=>(X8 G l k∨G.w.heap.size<=k)/\UFg w' G.w.heap.size k/\some k ∉ gs/\go≠some k) w' go ps (res x).z) ->
  ∃v G',en=.returned v/\G'.w=w'/\Sat X G'/\GLe G G'/\G'.o=((G8 d 0 (res x).r).2.1++Au G.o ps (res x).z m)++G.o/\AVR G' (G8 d 0 (res x).r).1 v:=by
 have Y:=Yg E;obtain⟨_,go,aM,aK⟩:=Ku S Y E (fun _ h=>h) (fun i hi=>by subst hi; exact Ip aH) hA;have aQ:∀k,X8 G l k->k<G.w.heap.size:=by
  rintro k (h | ⟨id,aJ,c⟩)
  ·exact(S.klt k h).lt
  ·obtain⟨ob,s⟩:=Y id aJ;have:=S.obs id ob s;cases ob with
   | box T cs=>obtain⟨b,us,a,q,n,h4⟩:=this; rw[c] at a; cases a; exact(XK n).lt
   | arr T fr t xs aT=>obtain⟨cs,a,q,_⟩:=this; rw[c] at a; exact(Gk a).lt
   | grd T Te fr t xs aG=>obtain⟨vs,bs,a,_⟩:=this; rw[c] at a; exact(Gk a).lt
 have aO:∀k,G.K k->go≠some k:=fun k c e=>by
  rcases aK with ⟨_,W⟩ | ⟨id,b,T',cs',_,W,ho',hγ'⟩ | ⟨_,_,_,_,_,_,_,_,_,W⟩
  ·grind
  ·rw[W] at e; cases e; exact S.imm id _ _ ho' hγ' c
  grind
 refine⟨aQ,go,aM,fun res aF en w' aB=>?_⟩;obtain⟨v,gs,rfl,hw,hN,F,hR,aS⟩:=aB;have hc:(Od l m=true/\CZ G.o (G8 d 0 (res x).r).2.1=true)/\(Co l||(BD (res x).r&&isNone m))=true:=⟨⟨aH,aF.1⟩,aF.2⟩;have F:∀b,some b∈gs->G.w.heap.size<=b:=fun b f=>(F b f).resolve_right (fun h=>aI h.1);have aZ:∀id o b,b9 G.o id=some o->G.γ id=some b->b<G.w.heap.size:=fun id o b s f=>by
  have:=S.obs id o s;cases o with
  | box T cs=>obtain⟨b',us,a,q,n,h4⟩:=this; rw[f] at a; cases a; exact n.lt
  | arr T fr t xs aT=>obtain⟨cs,a,q,_⟩:=this; exact a.lt b f
  | grd T Te fr t xs aG=>obtain⟨vs,bs,a,_⟩:=this; exact a.lt b f
 -- the region that data may lead to now
 let K':Nat->Prop:=fun k=>G.K k∨(G.w.heap.size<=k/\UF w' k/\some k ∉ gs)
 have aX:l=[]->∀k,X8 G l k->G.K k:=fun aA k c=>by
  subst aA;rcases c with h | ⟨id,aJ,_⟩
  ·exact h
  grind
 have aC:l=[]∨(BD (res x).r=true/\m=none):=by
  have:=hc.2;simp only[Bool.or_eq_true,ba] at this;rcases this with h | ⟨a,q⟩
  ·grind[Oc]
  ·refine .inr ⟨a,?_⟩;cases m with
   | none=>rfl
   | some i=>cases q
 obtain⟨KR,aU,hR⟩:∃KR:Bool->Nat->Prop,(∀fr k,KR fr k->K' k/\(fr=true->G.B<=k))/\ResR KR w' (res x).r v gs:=by
  rcases aC with aA | ⟨aD,_⟩
  ·refine⟨_,fun fr k c=>?_,hR⟩;obtain⟨a | a,q,n⟩:=c
   ·grind
   ·exact⟨.inr ⟨a,q.2 a,n⟩,fun _=>Nat.le_trans S.le (Nat.le_trans S.size a)⟩
  ·refine⟨fun _=>Oa true (X8 G l) G.w w' gs,fun fr k c=>?_,ResR.fresh (fun _ _ h=>h) aD hR⟩;obtain⟨a | a,q,n⟩:=c
   ·grind
   ·exact⟨.inr ⟨a,q.2 a,n⟩,fun _=>Nat.le_trans S.le (Nat.le_trans S.size a)⟩
 have u:(go=none/\Au G.o ps (res x).z m=[])∨∃id b T V t,∃z:j5 t,go=some b/\Au G.o ps (res x).z m=[(id,Ob.box T (o8 false t z))]/\b9 G.o id=some (.box T V)/\G.γ id=some b/\∃us,Blk w' b us T/\RT K' w' t us z:=by
  rcases aK with ⟨rfl,rfl⟩ | ⟨id,b,T,cs,rfl,rfl,s,hγ⟩ | ⟨_,_,_,_,_,_,_,_,_,e⟩
  rotate_right
  ·grind
  ·exact .inl ⟨rfl,rfl⟩
  ·obtain⟨t,z',T',aW,V,e,hB,aN,Q⟩:=IOR.get aI aS aM;obtain⟨b',aY,a,q,n,h4⟩:=S.obs id _ s;rw[hγ] at a;cases a;have aV:T=T':=by
    unfold Blk at n Q;rw[n] at Q;simp only[oi,Obj.cells.injEq] at Q;exact Q.2.1
   subst aV;refine .inr ⟨id,b,T,cs,t,z',rfl,?_,s,hγ,aW,hB,RT.same (w:=w') (fun k c _=>⟨?_,rfl⟩) aN⟩
   ·grind[Au]
   ·obtain⟨a | a,q,n,h4⟩:=c
    ·grind
    ·exact .inr ⟨a,q.2 a,n⟩
 obtain⟨S1,L1⟩:=Sat.after S hw (K':=K') (fun k c=>.inl c) (by
  rintro k (h | h)
  ·exact(S.klt k h).same hw.size (hw.block k (S.klt k h).lt (aO k h))
  ·exact h.2.1.g) (by
  rintro k (h | h)
  ·exact S.kfrom k h
  ·exact .inr (Nat.le_trans S.base.2 (Nat.le_trans S.size h.1))) (by
  rintro id o b s f (h | h)
  ·exact S.imm id o b s f h
  grind) (by
  rintro id b f H (h | h)
  ·exact(S.sep id b f H).2.1 h
  ·have:=S.dlt f H; omega) u
 have aR:∀i o,b9 (Au G.o ps (res x).z m++G.o) i=some o->∃o',b9 G.o i=some o':=fun i o h=>by
  rcases u with ⟨_,e⟩ | ⟨id,b,T,V,t,z,_,e,s,_⟩
  ·rw[e] at h; exact⟨o,h⟩
  ·rw[e,List.cons_append,lK] at h;by_cases W:id=i
   ·subst W; exact⟨_,s⟩
   ·rw[if_neg W] at h; exact⟨o,h⟩
 have aP:∀i,H7 (b9 (Au G.o ps (res x).z m++G.o) i)=true->H7 (b9 G.o i)=true:=fun i h=>by
  rcases u with ⟨_,e⟩ | ⟨id,b,T,V,t,z,_,e,s,_⟩
  ·grind
  ·rw[e,List.cons_append,lK] at h;by_cases W:id=i
   ·rw[if_pos W] at h; cases h
   grind
 have hF:Ss X ⟨G.ρ,G.γ,K',w',Au G.o ps (res x).z m++G.o,G.B,G.δ⟩ gs:=fun b f=>by
  refine⟨Nat.le_trans S.size (F b f),?_,fun i o hi e=>?_,fun i hi H=>?_⟩
  ·rintro(h | h)
   ·have:=(S.klt b h).lt; have:=F b f; omega
   grind
  ·grind
  ·have:=S.dlt hi (aP i H);have:=F b f;omega
 have aD:∀y∈(G8 d 0 (res x).r).2.1,b9 (Au G.o ps (res x).z m++G.o) y.1=none:=fun y hy=>by
  grind[i0X,b9,Au]
 obtain⟨G',P,hv⟩:=i0b (K:=KR) (res x).r (d:=d) (j:=0) rfl S1 aU hR hN hF aD;refine⟨v,G',rfl,P.w,P.sat,GLe.trans L1 P.le hw.size,?_,hv⟩;rw[P.o,List.append_assoc]
theorem i0P{X:Cx}{G:Gh}(S:Sat X G){d f:Nat}{aB:List AV}{us:List Value}(hA:AVRs G aB us):∀{T:List Ct},(∀c∈T,Ok X.P c)->∀{q:Prop} {av:AV} {obs:List (Nat×Ob)} {fp:List Nat},Io G.o d f aB T=some (q,av,obs,fp)->q ->
  Ar X.P f=true/\Calls X.P f us.toArray G.w fun en w'=>∃v G',en=.returned v/\G'.w=w'/\Sat X G'/\GLe G G'/\G'.o=obs++G.o/\AVR G' av v
 | [],_,q,av,obs,fp,h,_=>by cases h
 | c :: r,hT,q,av,obs,fp,h,hq=>by
   have hr:=i0P S (d:=d) hA (T:=r) (fun c hc=>hT c (by grind)) (f:=f) (q:=q) (av:=av) (obs:=obs) (fp:=fp);simp only[Io,ce] at h;split at h
   ·rename_i Q;rw[ba] at Q;have Q:=nb Q.1;split at h
    ·rename_i x l io a;by_cases z:F0 c.ps=true
     ·rw[if_pos z] at h;unfold Sx at h;split at h
      ·rename_i id;split at h
       ·rename_i T fr t xs E' aD t' aI j aF ho;rw[ce] at h;split at h
        ·rename_i s;rw[ba] at s;have aC:=Oc s.2;subst aC;simp only[oi,pj] at h;obtain⟨rfl,rfl,rfl,_⟩:=h;obtain⟨Y,y⟩:=hT c (by simp);refine⟨by grind,?_⟩;have V:=Yg a;obtain⟨_,go,F,E⟩:=Ku S V a (fun _ h=>h) (fun i hi h=>by cases h) hA;have E:go=G.γ id:=by
          rcases E with ⟨e,_⟩ | ⟨id',b,T',cs',e,_,ho',_⟩ | ⟨id',_,_,_,_,_,e,hg,_⟩
          ·cases e
          ·grind
          ·grind
         subst E;obtain⟨_,_,_,aH⟩:=S.obs id _ ho;have u:∀k,X8 G [] k->k<G.w.heap.size:=by
          rintro k (h | ⟨id,aM,hk⟩)
          ·exact(S.klt k h).lt
          ·grind
         rw[<- Q];refine Calls.mono (y x hq G.w us (G.γ id) (X8 G []) u F) ?_;rintro en w' ⟨v,gs,rfl,hw,hN,aN,hR,aL⟩;rw[aF] at hR;obtain⟨g,cs,rfl,H,hO,aG⟩:=hR;have W:∀b,g=some b->G.γ id=some b∨G.w.heap.size<=b:=fun b hb=>by
          grind
         have m:=S.put (id:=id) (ob:=.arr T fr t xs (j+1)) (r:=v) (g:=g) (w':=w') (go:=G.γ id) ⟨(fun T cs h=>by grind),(fun T aD t' aI aK h=>by grind),by rw[ho]; rfl⟩
          (fun b hb=>⟨⟨_,ho⟩,hb⟩) hw W
          (fun aJ=>⟨cs,by grind[Gh.put],aG.mapR (fun c x h=>RT.free s.1 h),fun b e=>by
            simp only[Gh.put,if_true] at e ⊢;rcases W b e with h | h
            ·exact aH b h
            ·exact Nat.le_trans S.le (Nat.le_trans S.size h)⟩)
         exact⟨v,_,rfl,rfl,m.1,m.2,rfl,H,T,fr,t,xs,j+1,by rw[show(Gh.put G id (.arr T fr t xs (j+1)) v g w').o=(id,.arr T fr t xs (j+1)) :: G.o from rfl,lK]; simp,Nat.le_refl _,fun _=>by simp[Gh.put]⟩
        ·cases h
       ·cases h
      ·cases h
     rw[if_neg z] at h;split at h
     ·rename_i hc;simp only[ba] at hc;simp only[oi,pj] at h;obtain⟨rfl,rfl,rfl,_⟩:=h;obtain⟨Y,y⟩:=hT c (by simp);refine⟨by grind,?_⟩;obtain⟨u,go,F,aA⟩:=r0g S (d:=d) hA z a hc.1.1;rw[<- Q];exact Calls.mono (y x hq G.w us go (X8 G l) u F) (fun en w' n=>aA c.res ⟨hc.1.2,hc.2⟩ en w' n)
     grind
    grind
   grind
theorem k0H{X:Cx}{G:Gh}{a:Act}{st:St}{p:Pa}{T:List Ct}(y:∀c∈T,Ok X.P c)(S:Sat X G)(w:G.o=st.o)(k:EnvR X.n G st.e a)(m:PathP p a){t:Op}{ty:TypeId}{d:Nat}{q:Prop}{r:AV}{obs:List (Nat×Ob)}{fp:List Nat}
  (h:Da T st p d t=some (q,r,obs,fp)) (Y:q):Cl X G a t ty r obs:=by
 unfold Da at h;split at h
 ·rename_i x s Ts;split at h
  ·rename_i f l Q z V;obtain⟨cs,H,F⟩:=C5 k m z;have E:=AX k m V;rw[<- w] at h;obtain⟨i,b⟩:=i0P S (AVRs.app F E) y h Y;refine⟨f,_,fun u v j g=>?_,b⟩
   haveI:RJ X.P f:=⟨i⟩
   have W:s.map a.eval=(s.toList.map a.eval).toArray:=by grind
   simp only[execOp,resolve,W,H];simp[Deferred.ofValue,invoke,XF]
  grind
 grind
def BE(Γ:o5)(st:St)(p:Pa)(d:Nat):Op->Option (Prop×AV×List (Nat×Ob)×List Nat)
 | .load T x=>match rd st p x,b9 Γ T with
   | some (.gel id k),some ⟨_,_,_,.sl _,_⟩=>match b9 st.o id with
     | some (.grd T0 Te fr t xs none)=>bif As st.o d then some (k<xs.length,.os d 0,[(d,.arr Te fr t (xs.getD k []) 0),(id,.grd T0 Te fr t xs (some k))],[d,id]) else none
     | _=>none
   | _,_=>none
 | .slice T x l h none=>match rd st p x,U0 st p l,U0 st p h,b9 Γ T with
   | some (.os id ver),some lo,some none,some ⟨_,_,_,.sl E,_⟩=>match b9 Γ E,b9 st.o id with
     | some te,some (.arr E' fr t xs ver')=>bif Nat.beq ver ver'&&Nat.beq te.size (sz t) then some (NZ (lo.getD 0) xs.length xs.length,.os id (ver+1),[(id,.arr E' fr t (Im xs lo none) (ver+1))],[id]) else none
     | _,_=>none
   | _,_,_,_=>none
 | _=>none
def Cp(Γ:o5)(st:St)(p:Pa):Op->Option (Prop×List (Nat×Ob)×List Nat)
 | .store T x y=>match rd st p x,rd st p y,b9 Γ T with
   | some (.gel id k),some (.os d ver),some ti=>match b9 st.o id,b9 st.o d with
     | some (.grd T0 Te fr t xs (some k')),some (.arr Te' fr' t' l ver')=>match X6 (.sl t') (.sl t) l with
       | some l'=>bif Nat.beq ver ver'&&Nat.beq Te Te'&&Nat.beq ti.size 1 then some (k<xs.length/\k=k',[(id,.grd T0 Te (fr&&fr') t (xs.set k l') none),(d,.arr Te' fr' t' [] (ver+1))],[id,d]) else none
       | none=>none
     | _,_=>none
   | _,_,_=>none
 | _=>none
def Ml(X:Cx)(G:Gh)(a:Act)(op:Op)(ty:TypeId)(av:AV)(obs:List (Nat×Ob)):Prop :=
 ∃v G',(∀dst pos after g,(execOp a.eval ⟨dst,op,ty,pos,after,g⟩).run X.P G.w=.ok (.value v) G'.w)/\Sat X G'/\GLe G G'/\G'.o=obs++G.o/\AVR G' av v
def Ul(X:Cx)(G:Gh)(a:Act)(op:Op)(ty:TypeId)(obs:List (Nat×Ob)):Prop :=
 ∃G',(∀dst pos after g,(execOp a.eval ⟨dst,op,ty,pos,after,g⟩).run X.P G.w=.ok .skip G'.w)/\Sat X G'/\GLe G G'/\G'.o=obs++G.o
theorem v0P{a:Type}{l:List a}{k:Nat}(b:k<l.length)(z:a):l[k]?=some (l.getD k z):=by grind
section
variable {X:Cx} {G:Gh} {a:Act} {st:St} {Γ:o5} {p:Pa}
theorem D0f(S:Sat X G){id d k:Nat}{n Te:TypeId}{fr:Bool}{t:Ty}{xs:List (List (j5 t))}(x:b9 G.o id=some (.grd n Te fr t xs none))(hd:b9 G.o d=none)(u:k<xs.length){vs:List Value}{m:Nat->Option Nat}
  (hO:Own G.w n 1 (G.γ id) (G.ρ id) xs.length vs) (f:Rows G id Te fr t xs none vs m) (hB:∀b,G.γ id=some b->G.B<=b) :
  ∃G',Sat X G'/\GLe G G'/\G'.w=G.w/\G'.o=[(d,.arr Te fr t (xs.getD k []) 0),(id,.grd n Te fr t xs (some k))]++G.o/\AVR G' (.os d 0) (vs.getD k (.bool false)):=by
 have Y:¬id=d:=fun e=>by grind
 obtain⟨W,P,r2,r3⟩:=f.row k u (fun h=>by cases h);have s:∀b j,j<xs.length->m j=some b->(X.w0.heap.size<=b∨X.io b)/\¬G.K b/\(∀i o,b9 G.o i=some o->G.γ i≠some b)/\∀i,G.δ i b->H7 (b9 G.o i)=true->id=i:=fun b j a c=>S.sep id b ((f.blk b).2 ⟨j,a,(fun h=>by cases h),c⟩) (by rw[x]; rfl)
 have T:=S.grd (id:=id) (T':=n) (Te':=Te) (fr':=fr) (t':=t) (xs':=xs) (hole':=some k) (D:=fun b=>∃j,j<xs.length/\j≠k/\m j=some b) (w':=G.w) (go:=none) x (fun _ e=>by cases e) (WE.refl _)
  (fun b ⟨j,a,_,c⟩=>by
    grind)
  (fun v=>⟨vs,m,hO,⟨f.len,fun b=>⟨fun h=>?_,fun⟨j,a,V,c⟩=>.inl ⟨rfl,j,a,(fun e=>V (by rw[e])),c⟩⟩,fun j j' b a E _ _ c y=>f.inj j j' b a E (fun h=>by cases h) (fun h=>by cases h) c y,fun j a _=>f.row j a (fun h=>by cases h),f.one⟩,hB⟩)
 ·obtain⟨S1,L1⟩:=T;have q:∀i,b9 (G.grd id (.grd n Te fr t xs (some k)) (fun b=>∃j,j<xs.length/\j≠k/\m j=some b) G.w).o i=if id=i then some (.grd n Te fr t xs (some k)) else b9 G.o i:=fun i=>lK _ _ _ _
  have h2:=S1.add (id:=d) (ob:=.arr Te fr t (xs.getD k []) 0) (r:=vs.getD k (.bool false)) (g:=m k) (by grind)
   (fun b c=>by
     obtain⟨s1,s2,H,Q⟩:=s b k u c;refine⟨s1,s2,fun i o hi=>?_,fun i hi F=>?_⟩
     ·rw[q] at hi;by_cases e:id=i
      ·subst e; exact H _ _ x
      ·rw[if_neg e] at hi; exact H i o hi
     ·rw[q] at F;rcases hi with ⟨_,j,a,l,z⟩ | ⟨hi,hib⟩
      ·exact l (f.inj j k b a u (fun h=>by cases h) (fun h=>by cases h) z c)
      ·rw[if_neg (Ne.symm hi)] at F;exact hi (Q i hib F).symm)
   (fun v=>⟨W,by simp only[Gh.put,if_true]; exact P,r2,fun b e=>by simp only[Gh.put,if_true] at e ⊢; exact r3 b e⟩)
  obtain⟨S2,L2⟩:=h2;refine⟨_,S2,L1.trans L2 (Nat.le_refl _),rfl,rfl,f.one _ ?_,Te,fr,t,xs.getD k [],0,by rw[show ∀G0:Gh,(Gh.put G0 d (.arr Te fr t (xs.getD k []) 0) (vs.getD k (.bool false)) (m k) G0.w).o=(d,.arr Te fr t (xs.getD k []) 0) :: G0.o from fun _=>rfl,lK]; simp,Nat.le_refl _,fun _=>by simp[Gh.put]⟩;exact List.mem_of_getElem? (v0P (by rw[f.len]; exact u) _)
 ·rcases h with ⟨_,j,a,l,c⟩ | ⟨h,_⟩
  ·exact⟨j,a,(fun e=>l (Option.some.inj e).symm),c⟩
  ·exact(h rfl).elim
theorem y0t{w:World}{E s:Nat}{g:Option Nat}{d:Option Addr}{n a:Nat}{cs:List Value}(h:Own w E s g (.slice d n a) n cs){k:Nat}(i:k<=n):∃g',(g'=none∨g'=g)/\n<=a/\Own w E s g' (.slice (if a=k then d else d.map (·.add (k*s))) (n-k) (a-k)) (n-k) (cs.drop (k*s)):=by
 have f:=h.clen;rcases h with ⟨rfl,rfl,rfl,p,e⟩ | ⟨b,o,c,cur,rfl,e,h1,h2,h3,h4,rfl⟩
 ·cases e;have:k=0:=by omega
  subst this;exact⟨none,.inl rfl,Nat.le_refl _,.inl ⟨rfl,rfl,by simp,d,by simp⟩⟩
 ·cases e;by_cases j:a=k
  ·refine⟨none,.inl rfl,h2,.inl ⟨rfl,by omega,?_,some ⟨b,o,none⟩,?_⟩⟩
   ·grind
   grind
  ·refine⟨some b,.inr rfl,h2,.inr ⟨b,o+k*s,a-k,cur,rfl,?_,h1,by omega,by omega,?_,?_⟩⟩
   ·grind[Addr.add]
   ·have:=Nat.mul_le_mul_right s (show k<=a by omega)
    grind[Nat.sub_mul]
   grind[List.drop_take,List.drop_drop,Nat.sub_mul]
theorem k0X(H:w9 X.P Γ)(S:Sat X G)(hE:EnvR X.n G st.e a)(hp:PathP p a){T E j ty id ver:Nat}{s0 y0:Nat}{z0:Value}{aB:Ty}{x:Operand}{l h:Option Operand}{lo:Option Int}{fr:Bool}{t:Ty}{xs:List (j5 t)}{s:TI}
  (hT:b9 Γ T=some ⟨s0,y0,z0,.sl E,aB⟩) (aC:b9 Γ E=some s) (W:b9 G.o id=some (.arr j fr t xs ver)) (hs:s.size=sz t) (hx:AVR G (.os id ver) (a.eval x)) (hl:U0 st p l=some lo) (hh:U0 st p h=some none) (hq:NZ (lo.getD 0) xs.length xs.length) :
  Ml X G a (.slice T x l h none) ty (.os id (ver+1)) [(id,.arr j fr t (Im xs lo none) (ver+1))]:=by
 obtain⟨_,T1,aM,t1,aJ,aH,g1,g2,g3⟩:=hx;rw[W] at g1;cases g1;have hu:=g3 rfl;obtain⟨cs,hO,hA,aG⟩:=S.obs id _ W;obtain⟨q,d,hv⟩:=hO.len;rw[hv] at hO hu;have hU:=(H T _ hT).2.2.2.2.2;have hI:Info X.P E s.size s.bytes s.zero:=⟨(H E _ aC).1⟩;obtain⟨aN,f,h2,h3,h5⟩:=hI.get;have F:Im xs lo none=xs.drop (lo.getD 0).toNat:=by
  rw[w0j xs lo none hq];simp
 rw[F];have aD:h=none:=by
  rcases Sj hE hp hh with ⟨m,_⟩ | ⟨y,n,k,_,e2,_⟩
  ·exact m
  ·cases e2
 subst aD;have aF:(∃n k,l=some n/\a.eval n=.int k (lo.getD 0))∨(l=none/\lo.getD 0=0):=by
  rcases Sj hE hp hl with ⟨m,e2⟩ | ⟨y,n,k,m,e2,e3⟩
  ·grind
  ·grind
 generalize lo.getD 0=l0 at *
 obtain⟨q1,q2,q3⟩:=hq;have hk:l0.toNat<=xs.length:=by omega
 obtain⟨g',V,aI,aA⟩:=y0t hO hk;have Q:∀v z i g,(execOp a.eval ⟨v,.slice T x l none none,ty,z,i,g⟩).run X.P G.w=.ok (.value (.slice (if d=l0.toNat then q else q.map (·.add (l0.toNat*sz t))) (xs.length-l0.toNat) (d-l0.toNat))) G.w:=by
  intro v z i g;rcases aF with ⟨n1,k1,rfl,m⟩ | ⟨rfl,m⟩
  ·have r2:=run_sliceBound (P:=X.P) (w:=G.w) k1 l0 xs.length .sliceB q1 q2;simp[execOp,hu,Instr.sliceAt,Instr.slice,Instr.sliceBounds,run_underlying hU,Result.andThen,X5 G.w f,h2,hs,m,r2]
  ·simp[execOp,hu,Instr.sliceAt,Instr.slice,Instr.sliceBounds,run_underlying hU,Result.andThen,X5 G.w f,h2,hs,m]
 have h:=S.put (id:=id) (ob:=.arr j fr t (xs.drop l0.toNat) (ver+1)) (r:=.slice (if d=l0.toNat then q else q.map (·.add (l0.toNat*sz t))) (xs.length-l0.toNat) (d-l0.toNat)) (g:=g') (w':=G.w) (go:=G.γ id) ⟨(fun T cs h=>by grind),(fun T aL t' aO aK h=>by grind),by rw[W]; rfl⟩
  (fun b u=>⟨⟨_,W⟩,u⟩) (WE.refl _) (fun b u=>by
    rcases V with h | h
    ·rw[h] at u; cases u
    ·exact .inl (h ▸ u))
  (fun Y=>⟨cs.drop (l0.toNat*sz t),by simp only[Gh.put,if_true,List.length_drop]; exact aA,(AllR.takeD (fun c y hy=>RT.len hy) l0.toNat hA).2.mapR (fun c x hr=>RT.same (w:=G.w) Y.hR hr),fun b e=>by
    simp only[Gh.put,if_true] at e ⊢;rcases V with h | h
    ·rw[h] at e; cases e
    ·exact aG b (h ▸ e)⟩)
 exact⟨_,G.put id (.arr j fr t (xs.drop l0.toNat) (ver+1)) (.slice (if d=l0.toNat then q else q.map (·.add (l0.toNat*sz t))) (xs.length-l0.toNat) (d-l0.toNat)) g' G.w,Q,h.1,h.2,rfl,rfl,j,fr,t,xs.drop l0.toNat,ver+1,by rw[show(Gh.put G id (.arr j fr t (xs.drop l0.toNat) (ver+1)) _ _ _).o=(id,.arr j fr t (xs.drop l0.toNat) (ver+1)) :: G.o from rfl,lK]; simp,Nat.le_refl _,fun _=>by simp[Gh.put]⟩
theorem s0G(Y:w9 X.P Γ)(S:Sat X G)(ho:G.o=st.o)(hE:EnvR X.n G st.e a)(hp:PathP p a){op:Op}{ty:TypeId}{d:Nat}{q:Prop}{r:AV}{obs:List (Nat×Ob)}{l:List Nat}
  (h:BE Γ st p d op=some (q,r,obs,l)) (hq:q):Ml X G a op ty r obs:=by
 unfold BE at h;split at h
 ·rename_i T x;split at h
  ·rename_i id k s0 y0 z0 E W h1 h2;split at h
   ·rename_i T0 Te fr t xs z;rw[ce] at h;split at h
    ·rename_i F;simp only[oi,pj] at h;obtain⟨rfl,rfl,rfl,_⟩:=h;rw[<- ho] at z F;have hx:=C5 hE hp h1;obtain⟨_,b,o,n,c,m,hx⟩:=hx;obtain⟨s,bs,H,hR,hB⟩:=S.obs id _ z;have Q:G.γ id=some b:=by
      rcases H with ⟨_,hn,_⟩ | ⟨b',o',cap,cur,Q,f,_⟩
      ·omega
      ·rw[m] at f;simp only[Value.slice.injEq,oi,Addr.mk.injEq] at f;rw[Q,f.1.1]
     have j:At G.w b o s:=by rw[Q] at H; obtain⟨o0,c0,e0,j⟩:=H.at; rw[m] at e0; cases e0; exact j
     have y:=v0P (by rw[hR.len]; exact hq:k<s.length) (.bool false);have u:At G.w b (o+k) [s.getD k (.bool false)]:=by
      intro i v f;cases i with
      | zero =>
        simp only[List.getElem?_cons_zero,oi] at f;subst f;have:=j k _ y;omega
      | succ i=>grind
     obtain⟨v,aC,f⟩:=q0C (ty:=ty) (cs:=[.v (s.getD k (.bool false))]) (av:=.v (s.getD k (.bool false))) hE (Y _ _ h2) hx u ⟨_,[],rfl,rfl,rfl⟩ rfl;have f:v=_:=f;subst f;obtain⟨G',S',L',hw,V,hr⟩:=D0f S z (DY F) hq H hR hB;exact⟨_,G',fun aD aF aA g=>by grind,S',L',V,hr⟩
    grind
   grind
  grind
 ·rename_i T x l0 h0;split at h
  ·rename_i id aG lo s0 y0 z0 E W h1 h2 z h4;split at h
   ·rename_i te E' fr t xs aB h5 h6;rw[ce] at h;split at h
    ·rename_i F;rw[ba] at F
     grind[oi,pj,nb,k0X,C5]
    grind
   grind
  grind
 grind
theorem x0U{vs:List Value}{k j:Nat}{u z:Value}(a:k<vs.length):(B5 vs k [u]).getD j z=if j=k then u else vs.getD j z:=by
 grind[B5]
theorem E0J(aV:w9 X.P Γ)(S:Sat X G){id d k ver:Nat}{T0 Te T ty:TypeId}{fr fr':Bool}{t:Ty}{xs:List (List (j5 t))}{l:List (j5 t)}{x y:Operand}{ti:TI}(hT:b9 Γ T=some ti)(hs:ti.size=1)
  (ho:b9 G.o id=some (.grd T0 Te fr t xs (some k))) (hd:b9 G.o d=some (.arr Te fr' t l ver)) (hk:k<xs.length) (hx:AVR G (.gel id k) (a.eval x)) (hy:AVR G (.os d ver) (a.eval y)) :
  Ul X G a (.store T x y) ty [(id,.grd T0 Te (fr&&fr') t (xs.set k l) none),(d,.arr Te fr' t [] (ver+1))]:=by
 haveI:Info X.P T ti.size ti.bytes ti.zero:=⟨(aV T _ hT).1⟩
 have F:¬d=id:=fun e=>by grind
 obtain⟨_,b,o,n,c,aI,aQ⟩:=hx;obtain⟨y0,T1,bK,t1,bH,bF,g1,g2,g3⟩:=hy;rw[hd] at g1;cases g1;have aU:=g3 rfl;obtain⟨cs,aR,hA,bG⟩:=S.obs d _ hd;have aG:Own G.w Te (sz t) (G.γ d) (a.eval y) l.length cs:=by rw[aU]; exact aR
 -- the row lets go of its block
 have h1:=S.put (id:=d) (ob:=.arr Te fr' t [] (ver+1)) (r:=.slice none 0 0) (g:=none) (w':=G.w) (go:=none) ⟨(fun T cs h=>by grind),(fun T fr' t' xs' bJ h=>by grind),by rw[hd]; rfl⟩
  (fun _ e=>by cases e) (WE.refl _) (fun _ e=>by cases e) (fun aL=>⟨[],by simp only[Gh.put,if_true]; exact Own.nil,rfl,fun b e=>by grind[Gh.put]⟩)
 generalize hG1:G.put d (.arr Te fr' t [] (ver+1)) (.slice none 0 0) none G.w=G1 at h1;obtain⟨S1,L1⟩:=h1;have aD:G1.w=G.w:=by rw[<- hG1]; rfl
 have aS:G1.K=G.K:=by rw[<- hG1]; rfl
 have aP:G1.B=G.B:=by rw[<- hG1]; rfl
 have z:∀i,b9 G1.o i=if d=i then some (.arr Te fr' t [] (ver+1)) else b9 G.o i:=fun i=>by rw[<- hG1]; exact lK _ _ _ _
 have V:∀i,i≠d->G1.ρ i=G.ρ i:=fun i hi=>by grind[Gh.put]
 have W:∀i,i≠d->G1.γ i=G.γ i:=fun i hi=>by rw[<- hG1]; simp only[Gh.put,if_neg hi]
 have bC:G1.γ d=none:=by rw[<- hG1]; simp only[Gh.put,if_true]
 have aF:∀i b,G1.δ i b↔i≠d/\G.δ i b:=fun i b=>by rw[<- hG1]; exact Iff.rfl
 have s:b9 G1.o id=some (.grd T0 Te fr t xs (some k)):=by rw[z,if_neg F]; exact ho
 obtain⟨vs,bs,hO,hR,hB⟩:=S1.obs id _ s;have hb:G1.γ id=some b:=by
  rcases hO with ⟨_,hn,_⟩ | ⟨f,o',cap,cur,hb,q,_⟩
  ·omega
  ·rw[V id (Ne.symm F),aI] at q;simp only[Value.slice.injEq,oi,Addr.mk.injEq] at q;rw[hb,q.1.1]
 have bB:G.γ id=some b:=by rw[<- W id (Ne.symm F)]; exact hb
 -- the store
 have aM:=hO;rw[hb] at aM;rcases aM with ⟨h,_⟩ | ⟨f,o',cap,cur,m,hv2,k1,k2,k3,k4,k5⟩
 ·cases h
 cases m;have Q:G1.ρ id=.slice (some ⟨b,o,none⟩) n c:=(V id (Ne.symm F)).trans aI;have bA:o'=o:=by rw[Q] at hv2; cases hv2; rfl
 subst bA;have bD:cur.toList.length=o'+cap:=by rw[Array.length_toList,k4,Nat.mul_one]
 have H:(a.eval y).cells.toList=[a.eval y]:=by
  have:=y0;cases q:a.eval y <;> rw[q] at this <;> first | rfl | (simp[Value.oneCell'] at this)
 have aX:Blk G.w b cur.toList T0:=by unfold Blk; rw[Array.toArray_toList]; rw[aD] at k1; exact k1
 have aT:=RM (P:=X.P) (T:=T) (o:=o'+k) (v:=a.eval y) H (by rw[hs]; rfl) (RX (fun u hu=>by cases List.mem_singleton.1 hu; exact y0)) aX (by simp only[List.length_singleton]; omega);have hW:=NT G.w b (B5 cur.toList (o'+k) [a.eval y]).toArray;have aA:k<vs.length:=by rw[hR.len]; exact hk
 have aB:Own (G.w.setRow b (B5 cur.toList (o'+k) [a.eval y]).toArray) T0 1 (G1.γ id) (G1.ρ id) xs.length (B5 vs k [a.eval y]):=by
  rw[hb] at hO ⊢;have:=Own.set (w':=G.w.setRow b (B5 cur.toList (o'+k) [a.eval y]).toArray) (k:=k) (vs:=[a.eval y]) hO Q hk rfl (fun bE aC=>by
   rw[k1] at aC;cases aC;rw[Nat.mul_one]
   grind[setRow_heap])
  rwa [Nat.mul_one] at this
 have aO:∀f,G.γ d=some f->(X.w0.heap.size<=f∨X.io f)/\¬G.K f/\(∀i o,b9 G1.o i=some o->G1.γ i≠some f)/\∀i,G1.δ i f->H7 (b9 G1.o i)=true->False:=fun f m=>by
  refine⟨S.own d _ f hd m,S.imm d _ f hd m,fun i o hi hg=>?_,fun i hi hg=>?_⟩
  ·by_cases e:i=d
   ·grind
   ·rw[z,if_neg (Ne.symm e)] at hi;rw[W i e] at hg;exact e (S.inj i d _ _ f hi hd hg m)
  ·obtain⟨e,hi⟩:=(aF i f).1 hi;rw[z,if_neg (Ne.symm e)] at hg;exact(S.sep i f hi hg).2.2.1 d _ hd m
 have h2:=S1.grd (id:=id) (T':=T0) (Te':=Te) (fr':=fr&&fr') (t':=t) (xs':=xs.set k l) (hole':=none) (D:=fun f=>G1.δ id f∨G.γ d=some f) (w':=G.w.setRow b (B5 cur.toList (o'+k) [a.eval y]).toArray) (go:=some b) s (fun f e=>by grind) (by grind[WE.of_wr])
  (fun f m=>by
    rcases m with m | m
    ·obtain⟨s1,s2,s3,s4⟩:=S1.sep id f m (by rw[s]; rfl)
     grind
    grind)
  (fun aL=>by
    refine⟨B5 vs k [a.eval y],fun j=>if j=k then G.γ d else bs j,by rw[List.length_set]; exact aB,⟨?_,fun f=>⟨fun h=>?_,fun h=>?_⟩,fun j j' f E aH _ _ aK aJ=>?_,fun j E _=>?_,fun v q=>?_⟩,hB⟩
    ·grind[List.length_set,B5,List.length_append,List.length_take,List.length_drop,List.length_singleton]
    ·have h':G1.δ id f∨G.γ d=some f:=by
      rcases h with ⟨_,h⟩ | ⟨h,_⟩
      ·exact h
      ·omega
     rcases h' with h' | h'
     ·obtain⟨j,E,bI,Y⟩:=(hR.blk f).1 h'
      grind
     ·exact⟨k,by grind,(fun h=>by cases h),by grind⟩
    ·obtain⟨j,E,_,Y⟩:=h;rw[List.length_set] at E;refine .inl ⟨rfl,?_⟩;by_cases e:j=k
     ·grind
     ·rw[if_neg e] at Y; exact .inl ((hR.blk f).2 ⟨j,E,(fun h=>e (Option.some.inj h).symm),Y⟩)
    ·rw[List.length_set] at E aH;have bL:∀i,i<xs.length->i≠k->bs i=some f->G.γ d=some f->False:=fun i hi aN aW aZ=>(aO f aZ).2.2.2 id ((hR.blk f).2 ⟨i,hi,(fun h=>aN (Option.some.inj h).symm),aW⟩) (by rw[s]; rfl);by_cases e:j=k
     ·grind
     ·by_cases e':j'=k
      ·grind
      ·rw[if_neg e] at aK; rw[if_neg e'] at aJ;exact hR.inj j j' f E aH (fun h=>e (Option.some.inj h).symm) (fun h=>e' (Option.some.inj h).symm) aK aJ
    ·rw[List.length_set] at E;simp only[x0U aA];by_cases e:j=k
     ·subst e;simp only[if_true];have eg:(xs.set j l).getD j []=l:=by simp[E]
      rw[eg];refine⟨cs,aG.we (w':=G.w.setRow b (B5 cur.toList (o'+j) [a.eval y]).toArray) (WE.of_wr hW) (fun i hi e=>?_),hA.mapR (fun c x hr=>?_),fun f m=>show G1.B<=f from by grind⟩
      ·grind
      ·refine RT.up (RT.same (K':=rg G fr') (w:=G.w) (fun i hi hl=>⟨hi,?_⟩) hr) (fun i hi=>⟨show G1.K i from by rw[aS]; exact hi.1,fun e=>show G1.B<=i from ?_⟩)
       ·exact hW.block i (fun e=>S.imm id _ b ho bB (by rw[<- e]; exact hi.1))
       ·rw[ba] at e; rw[aP]; exact hi.2 e.2
     ·simp only[if_neg e];obtain⟨aY,r1,r2,r3⟩:=hR.row j E (fun h=>e (Option.some.inj h).symm);have eg:(xs.set k l).getD j []=xs.getD j []:=by simp[List.getElem?_set_ne (Ne.symm e)]
      rw[eg];refine⟨aY,r1.we (WE.of_wr (by rw[aD]; exact hW)) (fun i hi e'=>?_),r2.mapR (fun c x hr=>RT.up (RT.same (w:=G1.w) aL.hR hr) (fun i hi=>⟨hi.1,fun e=>hi.2 (by grind)⟩)),r3⟩;cases hi;exact(S1.sep id b ((hR.blk b).2 ⟨j,E,(fun h=>e (Option.some.inj h).symm),e'⟩) (by rw[s]; rfl)).2.2.1 id _ s hb
    ·unfold B5 at q;rcases List.mem_append.1 q with q | q
     ·rcases List.mem_append.1 q with q | q
      ·exact hR.one v (List.mem_of_mem_take q)
      grind
     ·exact hR.one v (List.mem_of_mem_drop q))
 obtain⟨S2,L2⟩:=h2;refine⟨_,Sr aQ aT,S2,L1.trans L2 (by grind),?_⟩;rw[<- hG1];rfl
theorem p0k(i:w9 X.P Γ)(S:Sat X G)(w:G.o=st.o)(u:EnvR X.n G st.e a)(H:PathP p a){c:Op}{ty:TypeId}{q:Prop}{obs:List (Nat×Ob)}{l:List Nat}
  (h:Cp Γ st p c=some (q,obs,l)) (hq:q):Ul X G a c ty obs:=by
 unfold Cp at h;split at h
 ·rename_i T x y;split at h
  ·rename_i id k d j ti E Y s;split at h
   ·rename_i m Te z t Q k' Te' g v W b h4 r;split at h
    ·rename_i V F;rw[ce] at h;split at h
     ·rename_i f;simp only[ba] at f
      grind[oi,pj,nb,DV,E0J,C5]
     grind
    grind
   grind
  grind
 grind
end
def K0X:Op->Bool
 | .move _ | .assign _ | .nilCheck _ | .pick .. | .binOp .. | .unOp .. | .convert .. | .fieldAddr .. | .field .. | .load .. | .indexAddr .. | .index .. | .extract .. | .makeFunc .. | .build .. | .slice ..=>true
 | .call ⟨.builtin .len,_,_⟩ | .call ⟨.builtin .min,_,_⟩ | .call ⟨.builtin .max,_,_⟩=>true
 | _=>false
def K0Z:Op->Bool
 | .alloc _ | .box .. | .makeSlice .. | .buildSlice .. | .call ⟨.builtin .append,_,_⟩=>true
 | _=>false
def K0W:Op->Bool
 | .store ..=>true
 | _=>false
def X9(Γ:o5)(T:List Ct)(st:St)(p:Pa)(o:Oper):Option (Prop×Option AV×List (Nat×Ob)×List Nat):=match o.dst with
 | some d=>bif K0X o.op then(match I2 Γ st p o.op with
   | some (q,r,l)=>some (q,some r,[],l)
   | none=>match BE Γ st p d o.op with
     | some (q,r,obs,l)=>some (q,some r,obs,l)
     | none=>none) else bif K0Z o.op then(match AZ Γ st p d o.op with
     | some (q,r,w,l)=>some (q,some r,[w],l)
     | none=>none) else match Da T st p d o.op with
       | some (q,r,obs,l)=>some (q,some r,obs,l)
       | none=>none
 | none=>bif K0W o.op then(match Cm Γ st p o.op with
   | some (q,w,l)=>some (q,none,[w],l)
   | none=>match Cp Γ st p o.op with
     | some (q,obs,l)=>some (q,none,obs,l)
     | none=>none) else match Da T st p 0 o.op with
     | some (q,_,obs,l)=>some (q,none,obs,l)
     | none=>none
def BF(all:List Oper)(e:List (Nat×Sl))(o:Oper):Option Pa:=match o.guard with
 | none=>some []
 | some (j,b)=>match B8 all j with
   | some oj=>match oj.dst with
     | some dj=>match b9 e dj with
       | some ⟨q,.d _ .bool _⟩=>some ((dj,b) :: q)
       | _=>none
     | none=>none
   | none=>none
def Gs(e:List (Nat×Sl)):Pa->Prop
 | []=>True
 | (s,b) :: r=>(match b9 e s with
   | some ⟨q,.d _ .bool x⟩=>if RR q r=true then x=b else True
   | _=>True)/\Gs e r
def Cq(dst:Option Nat)(p:Pa)(av:Option AV)(e:List (Nat×Sl)):List (Nat×Sl):=match dst,av with
 | some d,some a=>(d,⟨p,a⟩) :: e
 | _,_=>e
def M0(P:Program)(ops:Array Oper)(Q:Exit->Act->World->Prop)(o:Oper)(K:Act->World->Prop)(a:Act)(w:World):Prop :=
 if Region.wanted o (yielded ops a.tmps) then o.wp P a w K Q else K (a.put o.dst undef) w
section
variable {X:Cx} {G:Gh} {a:Act} {st:St} {Γ:o5} {T:List Ct}
theorem q0V(d:EnvR X.n G st.e a):∀{p:Pa},PathP p a->Gs st.e p
 | [],_=>trivial
 | (s,b) :: r,h=>by
   have j:=h (s,b) (by simp);have g:PathP r a:=fun x k=>h x (by grind);refine⟨?_,q0V d g⟩;split
   ·rename_i q f x i;split
    ·rename_i c;have:=BC ((d.val s _ i).1 (g.sub c))
     grind
    grind
   grind
theorem Sy{d:Nat}{v:Value}(b:d<a.tmps.size)(t:Nat):(a.put (some d) v).tmps.getD t undef=if d=t then v else a.tmps.getD t undef:=by
 unfold Act.put;by_cases h:d=t
 ·simp_all
 ·simp[h]
theorem q0g{d:Option Nat}{v:Value}:(a.put d v).tmps.size=a.tmps.size/\(a.put d v).defers=a.defers:=by
 cases d <;> simp[Act.put]
theorem m0K{d:Nat}{v:Value}(c:d<a.tmps.size){p:Pa}(h:∀x∈p,x.1≠d):PathP p (a.put (some d) v)↔PathP p a:=by
 constructor <;> intro k x b
 ·have:=k x b;rw[Sy c,if_neg (Ne.symm (h x b))] at this; omega
 ·rw[Sy c,if_neg (Ne.symm (h x b))]; exact k x b
theorem EnvR.put{g:Gh}{d:Nat}{v:Value}{p:Pa}{r:AV}(f:EnvR X.n g st.e a)(i:d<X.n)(j:∀x∈p,x.1≠d)(h:∀t s,b9 st.e t=some s->∀x∈s.p,x.1≠d)
  (k:(PathP p a->AVR g r v)/\(¬PathP p a->v=undef)):EnvR X.n g ((d,⟨p,r⟩) :: st.e) (a.put (some d) v):=by
 have c:d<a.tmps.size:=by rw[f.size]; exact i
 refine⟨by rw[q0g.2]; exact f.defers,by rw[q0g.1]; exact f.size,fun t s b=>?_⟩;rw[lK] at b;rw[Sy c];by_cases e:d=t
 ·rw[if_pos e] at b ⊢
  grind[m0K]
 ·rw[if_neg e] at b ⊢;rw[m0K c (h t s b)];exact f.val t s b
theorem Yh{ops:Array Oper}{all:List Oper}(g:ops=all.toArray){j b:Nat}{d:Oper}(c:B8 all j=some d)(e:d.dst=some b):yielded ops a.tmps j=match a.tmps.getD b undef with
  | .bool v=>some v
  | _=>none:=by
 subst g;rw[V9] at c;unfold yielded;have f:(all.toArray[j]?).bind (·.dst)=some b:=by simp[c,e]
 rw[f];simp only[Option.bind_some];rw[Array.getD_eq_getD_getElem?]
 grind[undef]
theorem s0d{ops:Array Oper}{all:List Oper}(w:ops=all.toArray)(t:EnvR X.n G st.e a){o:Oper}{p:Pa}(c:BF all st.e o=some p) :
  (Region.wanted o (yielded ops a.tmps)=true/\PathP p a)∨(Region.wanted o (yielded ops a.tmps)=false/\¬PathP p a):=by
 unfold BF at c;split at c
 ·rename_i z;simp only[oi] at c; subst c;exact .inl ⟨by grind[Region.wanted],fun x v=>by cases v⟩
 ·rename_i j b z;split at c
  ·rename_i E u;split at c
   ·rename_i l m;split at c
    ·rename_i q f x r;simp only[oi] at c; subst c;have g:=Yh (a:=a) w u m;have k:=t.val l _ r;by_cases i:PathP q a
     ·have e:=BC (k.1 i);rw[e] at g;simp only at g;by_cases s:x=b
      ·subst s;refine .inl ⟨by grind[Region.wanted],fun y d=>?_⟩;rcases List.mem_cons.1 d with rfl | h
       ·exact e
       ·exact i y h
      ·refine .inr ⟨by grind[Region.wanted],fun h=>?_⟩;have:=h (l,b) (by simp)
       grind
     ·have e:=k.2 i;rw[e] at g;simp only[undef] at g;exact .inr ⟨by grind[Region.wanted],fun h=>i (fun y d=>h y (by grind))⟩
    grind
   grind
  grind
theorem Oe(F:w9 X.P Γ)(hT:∀c∈T,Ok X.P c){ops:Array Oper}{all:List Oper}(ha:ops=all.toArray){Q:Exit->Act->World->Prop}(S:Sat X G)(ho:G.o=st.o)(i:EnvR X.n G st.e a){o:Oper}{p:Pa}{q:Prop}{av:Option AV}{obs:List (Nat×Ob)}{fp:List Nat}
  (hp:BF all st.e o=some p) (h:X9 Γ T st p o=some (q,av,obs,fp)) (V:Gs st.e p->q) (hg:p=[]∨obs=[]) (hd:∀d,o.dst=some d->d<X.n/\(∀x∈p,x.1≠d)/\∀t s,b9 st.e t=some s->∀x∈s.p,x.1≠d)
  {K:Act->World->Prop} (W:∀a' G',Sat X G'->GLe G G'->G'.o=obs++st.o->EnvR X.n G' (Cq o.dst p av st.e) a'->K a' G'.w):M0 X.P ops Q o K a G.w:=by
 unfold M0;rcases s0d ha i hp with ⟨hw,k⟩ | ⟨hw,k⟩
 ·rw[if_pos hw];have V:=V (q0V i k);unfold X9 at h;split at h
  ·rename_i d b;obtain⟨m,z,y⟩:=hd d b;rw[ce] at h;split at h
   ·split at h
    ·rename_i q' r l u;simp only[oi,pj] at h;obtain⟨rfl,rfl,rfl,_⟩:=h;obtain⟨v,g,Y⟩:=s0B F S ho i k (ty:=o.type) u V;unfold Oper.wp;have:=g o.dst o.pos o.after o.guard;rw[show(execOp a.eval o).run X.P G.w=.ok (.value v) G.w from this];show K (a.put o.dst v) G.w;rw[b];refine W _ G S (GLe.refl G) (by grind) ?_;rw[b];exact EnvR.put i m z y ⟨fun _=>Y,fun h=>(h k).elim⟩
    ·split at h
     ·rename_i q' r H l u;simp only[oi,pj] at h;obtain⟨rfl,rfl,rfl,_⟩:=h;obtain⟨v,G',g,E,j,hO,Y⟩:=s0G F S ho i k (ty:=o.type) u V;unfold Oper.wp;have:=g o.dst o.pos o.after o.guard;rw[show(execOp a.eval o).run X.P G.w=.ok (.value v) G'.w from this];show K (a.put o.dst v) G'.w;rw[b];refine W _ G' E j (by grind) ?_;rw[b];exact EnvR.put (i.mono j) m z y ⟨fun _=>Y,fun h=>(h k).elim⟩
     grind
   ·rw[ce] at h;split at h
    ·split at h
     ·rename_i q' r w l u;simp only[oi,pj] at h;obtain⟨rfl,rfl,rfl,_⟩:=h;obtain⟨v,G',g,E,j,hO,Y⟩:=s0D F S ho i k (ty:=o.type) u V;unfold Oper.wp;have:=g o.dst o.pos o.after o.guard;rw[show(execOp a.eval o).run X.P G.w=.ok (.value v) G'.w from this];show K (a.put o.dst v) G'.w;rw[b];refine W _ G' E j (by grind) ?_;rw[b];exact EnvR.put (i.mono j) m z y ⟨fun _=>Y,fun h=>(h k).elim⟩
     grind
    ·split at h
     ·rename_i q' r H l u;simp only[oi,pj] at h;obtain⟨rfl,rfl,rfl,_⟩:=h;obtain⟨f,vs,g,hc⟩:=k0H hT S ho i k (ty:=o.type) u V;unfold Oper.wp;have:=g o.dst o.pos o.after o.guard;rw[show(execOp a.eval o).run X.P G.w=.ok (.enter f vs) G.w from this];refine Calls.mono hc ?_;rintro en w' ⟨v,G',rfl,rfl,E,j,hO,Y⟩;show K (a.put o.dst v) G'.w;rw[b];refine W _ G' E j (by grind) ?_;rw[b];exact EnvR.put (i.mono j) m z y ⟨fun _=>Y,fun h=>(h k).elim⟩
     grind
  ·rename_i b;rw[ce] at h;split at h
   ·split at h
    ·rename_i q' w l u;simp only[oi,pj] at h;obtain⟨rfl,rfl,rfl,_⟩:=h;obtain⟨G',g,E,j,hO⟩:=s0z F S ho i k (ty:=o.type) u V;unfold Oper.wp;have:=g o.dst o.pos o.after o.guard;rw[show(execOp a.eval o).run X.P G.w=.ok .skip G'.w from this];show K (a.put o.dst undef) G'.w;rw[b];refine W _ G' E j (by grind) ?_;rw[b];exact i.mono j
    ·split at h
     ·rename_i q' H l u;simp only[oi,pj] at h;obtain⟨rfl,rfl,rfl,_⟩:=h;obtain⟨G',g,E,j,hO⟩:=p0k F S ho i k (ty:=o.type) u V;unfold Oper.wp;have:=g o.dst o.pos o.after o.guard;rw[show(execOp a.eval o).run X.P G.w=.ok .skip G'.w from this];show K (a.put o.dst undef) G'.w;rw[b];refine W _ G' E j (by grind) ?_;rw[b];exact i.mono j
     grind
   ·split at h
    ·rename_i q' r H l u;simp only[oi,pj] at h;obtain⟨rfl,rfl,rfl,_⟩:=h;obtain⟨f,vs,g,hc⟩:=k0H hT S ho i k (ty:=o.type) u V;unfold Oper.wp;have:=g o.dst o.pos o.after o.guard;rw[show(execOp a.eval o).run X.P G.w=.ok (.enter f vs) G.w from this];refine Calls.mono hc ?_;rintro en w' ⟨v,G',rfl,rfl,E,j,hO,Y⟩;show K (a.put o.dst v) G'.w;rw[b];refine W _ G' E j (by grind) ?_;rw[b];exact i.mono j
    grind
 ·rw[if_neg (by grind)];have aA:obs=[]:=by
   rcases hg with rfl | h
   ·exact(k (fun x hx=>by cases hx)).elim
   ·exact h
  subst aA;refine W _ G S (GLe.refl G) (by grind) ?_;cases b:o.dst with
  | none=>cases av <;> exact i
  | some d =>
    obtain⟨m,z,y⟩:=hd d b;have:∃r,av=some r:=by
     unfold X9 at h;rw[b] at h;simp only[ce] at h;split at h
     ·grind
     ·grind
    obtain⟨r,rfl⟩:=this;exact EnvR.put i m z y ⟨fun h=>(k h).elim,fun _=>rfl⟩
end
section
variable {e e':List (Nat×Sl)} {o o':List (Nat×Ob)}
theorem Db{x:Operand}{p:Pa}(h:∀t,x=.tmp t->b9 e t=b9 e' t):rd ⟨e,o⟩ p x=rd ⟨e',o'⟩ p x:=by
 cases x with
 | tmp t=>simp only[rd,h t rfl]
 | _=>rfl
theorem Iq{p:Pa}:∀{xs:List Operand},(∀t,.tmp t∈xs->b9 e t=b9 e' t)->L3 ⟨e,o⟩ p xs=L3 ⟨e',o'⟩ p xs
 | [],_=>rfl
 | x :: r,h=>by
   unfold L3;rw[Db (o:=o) (o':=o') (p:=p) (x:=x) (fun t a=>h t (by grind)),Iq (xs:=r) (fun t a=>h t (by grind))]
theorem Yi{v:AV}{cs:List AV}{l:List Nat}(h:X7 o v=some (cs,l))(j:∀id∈l,b9 o id=b9 o' id):X7 o' v=some (cs,l)/\Ck o' v=Ck o v:=by
 unfold X7 at h;split at h
 ·rename_i id a;split at h
  ·rename_i T d c;simp only[oi,pj] at h;obtain⟨rfl,rfl⟩:=h
   grind[X7,Ck]
  grind
 ·rename_i id e k s a;split at h
  ·rename_i T f t g b c;rw[ce] at h;split at h
   ·rename_i i;simp only[oi,pj] at h;obtain⟨rfl,rfl⟩:=h
    grind[X7,Ck]
   grind
  grind
 ·simp only[oi,pj] at h;obtain⟨rfl,rfl⟩:=h;exact⟨rfl,rfl⟩
 grind
theorem v0L{Γ:o5}{T:TypeId}{v r:AV}{n:Int}{q:Prop}{l:List Nat}(h:Kt Γ o T v n=some (q,r,l))(a:∀id∈l,b9 o id=b9 o' id):Kt Γ o' T v n=some (q,r,l):=by
 unfold Kt at h ⊢;split at h
 ·exact h
 ·grind
 ·exact h
 ·grind
 omega
theorem s0r{b a:(t:Ty)->List AV->Option (j5 t×List Nat×Bool)}(g:∀{t:Ty} {cs:List AV} {x:j5 t} {l:List Nat} {d:Bool},b t cs=some (x,l,d)->(∀id∈l,b9 o id=b9 o' id)->a t cs=some (x,l,d))
  {t:Ty} {c:AV} {x:j5 t} {l:List Nat} {d:Bool} (h:AT o b t c=some (x,l,d)) (E:∀id∈l,b9 o id=b9 o' id):AT o' a t c=some (x,l,d):=by
 unfold AT at h;split at h
 ·grind[AT]
 ·exact h
 ·rename_i e id k;split at h
  ·rename_i T m v u f i;rw[ce] at h;split at h
   ·rename_i z;split at h
    ·rename_i y n;simp only[oi,pj] at h;obtain⟨rfl,rfl,rfl⟩:=h
     grind[AT]
    grind
   grind
  grind
 ·rename_i e id j;split at h
  ·rename_i T cs i;split at h
   ·rename_i r w q s;simp only[oi,pj] at h;obtain⟨rfl,rfl,rfl⟩:=h
    grind[hi,AT]
   grind
  grind
 grind
theorem Ir:∀(n:Nat) {t:Ty} {cs:List AV} {x:j5 t} {l:List Nat} {fl:Bool},F2 o n t cs=some (x,l,fl)->(∀id∈l,b9 o id=b9 o' id)->F2 o' n t cs=some (x,l,fl):=by
 intro n
 induction n with
 | zero=>grind[F2]
 | succ n d =>
   intro t cs x l fl h c;cases t with
   | pr a b =>
     unfold F2 at h ⊢
     grind
   | _ =>
     unfold F2 at h ⊢
     grind[s0r]
theorem k0A{v:AV}{t:Ty}{c:List (j5 t)}{a:List Nat}{b:Bool}(h:CX o v=some ⟨t,c,a,b⟩)(d:∀id∈a,b9 o id=b9 o' id):CX o' v=some ⟨t,c,a,b⟩:=by
 unfold CX at h
 grind[id,CX]
theorem Gt{d:Nat}(h:b9 o d=b9 o' d):As o' d=As o d:=by grind[As]
theorem Yj:∀{ps:List Par} {as':List AV} {x:r9 ps} {l:List Nat} {io:Option Nat},K1 o ps as'=some (x,l,io)->(∀id∈l,b9 o id=b9 o' id)->(∀i,io=some i->b9 o i=b9 o' i)->K1 o' ps as'=some (x,l,io)
 | [],[],x,l,io,h,_,_=>h
 | [],_ :: _,x,l,io,h,_,_=>by grind[K1]
 | _ :: _,[],x,l,io,h,_,_=>by grind[K1]
 | p :: r,a :: as',x,l,io,h,hl,hio=>by
   simp only[K1] at h ⊢;split at h
   ·rename_i P k n b;split at h
    ·rename_i y m j H;have F:l=k++m/\((n=none/\io=j)∨(∃i,n=some i/\j=none/\io=some i)):=by
      split at h
      ·grind
      ·grind
      ·cases h
     obtain⟨rfl,f⟩:=F;have c:∀id∈k,b9 o id=b9 o' id:=fun id g=>hl id (by grind);have z:Cn o' p a=some (P,k,n):=by
      unfold Cn at b;split at b
      ·split at b
       ·rename_i d;simp only[oi,pj] at b;obtain⟨rfl,rfl,rfl⟩:=b
        grind[Cn,Ir]
       grind
      ·split at b
       ·rename_i d;simp only[oi,pj] at b;obtain⟨rfl,rfl,rfl⟩:=b
        grind[Cn,Ir]
       grind
      ·rw[ce] at b;split at b
       ·rename_i v;split at b
        ·rename_i d;simp only[oi,pj] at b;obtain⟨rfl,rfl,rfl⟩:=b;simp only[Cn,Ir 24 d c,v,cond_true]
        grind
       grind
      ·exact b
      ·rename_i T t id _;split at b
       ·rename_i T' cs s;rw[ce] at b;split at b
        ·rename_i w;split at b
         ·rename_i Q d;simp only[oi,pj] at b;obtain⟨rfl,rfl,rfl⟩:=b;rcases f with ⟨e,_⟩ | ⟨i',e,_,rfl⟩
          ·cases e
          cases e;have q:=hio id rfl;rw[s] at q;simp only[Cn,<- q,w,cond_true,Ir 24 d c]
         grind
        grind
       grind
      ·rename_i E t id G _;split at b
       ·rename_i E' Y X xs u s;rw[ce] at b;split at b
        ·rename_i W;split at b
         ·rename_i Q hc;simp only[oi,pj] at b;obtain⟨rfl,rfl,rfl⟩:=b;rcases f with ⟨e,_⟩ | ⟨i',e,_,rfl⟩
          ·cases e
          cases e;have q:=hio id rfl
          grind[Cn]
         grind
        grind
       grind
      ·exact b
      ·cases b
     have V:=Yj H (fun id g=>hl id (by grind)) (fun i hi=>by
      grind)
     grind
    grind
   grind
theorem e0Z:∀{l:List (Nat×Ob)},(∀x∈l,b9 o x.1=b9 o' x.1)->CZ o' l=CZ o l
 | [],_=>rfl
 | (i,b) :: r,h=>by
   simp only[CZ];rw[Gt (h (i,b) (by simp)),e0Z (fun x a=>h x (by grind))]
theorem i0Q{d f:Nat}{j:List AV}:∀{T:List Ct} {q:Prop} {av:AV} {obs:List (Nat×Ob)} {fp:List Nat},Io o d f j T=some (q,av,obs,fp)->(∀id∈fp,b9 o id=b9 o' id)->Io o' d f j T=some (q,av,obs,fp)
 | [],q,av,obs,fp,h,_=>by cases h
 | c :: r,q,av,obs,fp,h,ho=>by
   simp only[Io,ce] at h ⊢;split at h
   ·rename_i n;rw[if_pos n];split at h
    ·rename_i x l m a;by_cases e:F0 c.ps=true
     ·rw[if_pos e] at h;unfold Sx at h;split at h
      ·rename_i id;split at h
       ·rename_i T V t W X y Q P H u g;rw[ce] at h;split at h
        ·rename_i v;simp only[oi,pj] at h;obtain⟨rfl,rfl,rfl,rfl⟩:=h;have k:=Oc (ba _ _ ▸ v).2;subst k;have b:b9 o id=b9 o' id:=ho id (by simp);rw[Yj a (fun _ h=>by cases h) (fun i hi=>by grind)];simp only[e,if_true,Sx,u,<- b,g,v,cond_true]
        grind
       grind
      grind
     rw[if_neg e] at h;simp only[if_neg e];split at h
     ·rename_i F;have s:=F;simp only[oi,pj] at h;obtain⟨rfl,rfl,rfl,rfl⟩:=h;have w:∀id∈l,b9 o id=b9 o' id:=fun id G=>ho id (by grind);have b:∀i,m=some i->b9 o i=b9 o' i:=fun i hi=>ho i (by grind);rw[Yj a w b];simp only;rw[e0Z (o:=o) (fun x E=>ho x.1 (List.mem_append.2 (.inl (List.mem_map_of_mem E)))),if_pos s];have:Au o' c.ps (c.res x).z m=Au o c.ps (c.res x).z m:=by
       cases m with
       | none=>rfl
       | some i=>simp only[Au,b i rfl]
      grind
     grind
    grind
   ·rename_i n;rw[if_neg n];exact i0Q h ho
def B0D(xs:List Operand):List Nat:=xs.filterMap fun | .tmp t=>some t | _=>none
theorem m0V{xs:List Operand}{t:Nat}(h:.tmp t∈xs):t∈B0D xs:=List.mem_filterMap.2 ⟨_,h,rfl⟩
theorem Yk{p:Pa}{x:Option Operand}(h:∀t,x=some (.tmp t)->b9 e t=b9 e' t):U0 ⟨e,o⟩ p x=U0 ⟨e',o'⟩ p x:=by
 cases x with
 | none=>rfl
 | some y =>
   grind[U0,Db]
theorem h0b{p:Pa}{pl:List (Nat×Nat)}:∀{ps:List (Nat×Operand)} {cs:List AV},(∀t,.tmp t∈ps.map (·.2)->b9 e t=b9 e' t)->AY ⟨e,o⟩ p pl cs ps=AY ⟨e',o'⟩ p pl cs ps
 | [],_,_=>rfl
 | (i,x) :: r,cs,h=>by
   unfold AY;rw[Db (o:=o) (o':=o') (p:=p) (x:=x) (fun t a=>h t (by grind))];have b:=fun cs=>h0b (p:=p) (pl:=pl) (ps:=r) (cs:=cs) (fun t a=>h t (by grind))
   simp_all
theorem g0V{p:Pa}{t:Ty}:∀{ps:List (Nat×Operand)} {k:Nat} {ys:List (j5 t)×Bool},(∀s,.tmp s∈ps.map (·.2)->b9 e s=b9 e' s)->DX ⟨e,o⟩ p t k ps=some ys->DX ⟨e',o'⟩ p t k ps=some ys
 | [],_,_,_,h=>h
 | (i,x) :: r,k,ys,hs,h=>by
   unfold DX at h ⊢;rw[ce] at h ⊢;split at h
   ·rename_i hi;rw[if_pos hi];rw[<- Db (o:=o) (o':=o') (p:=p) (x:=x) (fun t j=>hs t (by grind))];split at h
    ·rename_i v n;split at h
     ·rename_i l m;simp only;split at h
      ·rename_i y f d;rw[Ir 24 d (fun _ h=>by cases h)];simp only;split at h
       ·rename_i c g a;rw[g0V (fun s b=>hs s (by grind)) a];exact h
       grind
      grind
     omega
    omega
   grind
theorem s0C{Γ:o5}{p:Pa}{d:Op}{q:Prop}{r:AV}{l:List Nat}(g:∀t,.tmp t∈d.operands.toList->b9 e t=b9 e' t)(h:I2 Γ ⟨e,o⟩ p d=some (q,r,l))(m:∀id∈l,b9 o id=b9 o' id):I2 Γ ⟨e',o'⟩ p d=some (q,r,l):=by
 have R:∀(p:Pa) (x:Operand),x∈d.operands.toList->rd ⟨e',o'⟩ p x=rd ⟨e,o⟩ p x:=fun p x F=>(Db (fun t j=>g t (by grind))).symm;unfold I2 at h;split at h
 ·grind[I2,Op.operands]
 ·grind[I2,Op.operands]
 ·rename_i x;simp only[I2,R _ x (by simp[Op.operands])];split at h
  ·grind[oi,pj,Yi]
  omega
 ·grind[I2,Op.operands]
 ·grind[I2,Op.operands]
 ·grind[I2,Op.operands]
 ·grind[I2,Op.operands]
 ·rename_i x;simp only[I2,R _ x (by simp[Op.operands])]
  grind
 ·rename_i x f;simp only[I2,R _ x (by simp[Op.operands])];split at h
  ·rename_i v P W V c n Q y;split at h
   ·rename_i u H b G k s;split at h
    ·rename_i z w;simp only[oi,pj] at h;obtain⟨rfl,rfl,rfl⟩:=h;simp only[k,(Yi s m).1,w]
    grind
   grind
  omega
 ·rename_i x;simp only[I2,R _ x (by simp[Op.operands])];split at h
  ·grind[oi,pj,Yi]
  omega
 ·grind[I2,Op.operands,v0L]
 ·grind[I2,Op.operands]
 ·grind[I2,Op.operands]
 ·grind[I2,Op.operands]
 ·grind[L3,Iq,Op.operands,I2]
 ·rename_i T a;have:∀c b,AY ⟨e',o'⟩ p c b a.toList=AY ⟨e,o⟩ p c b a.toList:=fun c b=>(h0b (fun t j=>g t (by grind[Op.operands]))).symm
  grind[I2]
 ·grind[U0,Yk,Op.operands,I2]
 ·rename_i i E;have:L3 ⟨e',o'⟩ p i.toList=L3 ⟨e,o⟩ p i.toList:=(Iq (fun t j=>g t (by grind[Op.operands,Call.operands]))).symm;simp only[I2,this]
  grind
 ·grind[L3,Iq,Op.operands,Call.operands,I2]
 ·grind[L3,Iq,Op.operands,Call.operands,I2]
 grind
end
section
variable {e e':List (Nat×Sl)} {o o':List (Nat×Ob)}
theorem s0E{Γ:o5}{p:Pa}{d:Nat}{f:Op}{q:Prop}{r:AV}{w:Nat×Ob}{l:List Nat}(m:∀t,.tmp t∈f.operands.toList->b9 e t=b9 e' t)(h:AZ Γ ⟨e,o⟩ p d f=some (q,r,w,l))(c:∀id∈l,b9 o id=b9 o' id):AZ Γ ⟨e',o'⟩ p d f=some (q,r,w,l):=by
 have R:∀(x:Operand),x∈f.operands.toList->rd ⟨e',o'⟩ p x=rd ⟨e,o⟩ p x:=fun x X=>(Db (fun t H=>m t (by grind))).symm;unfold AZ at h;split at h
 ·simp only[AZ];split at h
  ·split at h
   ·rw[ce] at h ⊢;split at h
    ·rename_i a;have b:=h;simp only[oi,pj] at h;obtain⟨_,_,_,rfl⟩:=h;rw[Gt (c d (by simp)),if_pos a]; exact b
    grind
   omega
  omega
 ·rename_i T x;simp only[AZ,R x (by simp[Op.operands])];split at h
  ·split at h
   ·rw[ce] at h ⊢;split at h
    ·rename_i a;have b:=h;simp only[oi,pj] at h;obtain⟨_,_,_,rfl⟩:=h;rw[Gt (c d (by simp)),if_pos a]; exact b
    grind
   omega
  omega
 ·rename_i T x y;simp only[AZ,R x (by simp[Op.operands]),R y (by simp[Op.operands])];split at h
  ·split at h
   ·split at h
    ·rw[ce] at h ⊢;split at h
     ·rename_i a;have b:=h;simp only[oi,pj] at h;obtain⟨_,_,_,rfl⟩:=h;rw[Gt (c d (by simp)),if_pos a]; exact b
     grind
    ·split at h
     ·split at h
      ·rename_i F;rw[Ir 24 F (fun _ h=>by cases h)];simp only;rw[ce] at h ⊢;split at h
       ·rename_i a;have b:=h;simp only[oi,pj] at h;obtain⟨_,_,_,rfl⟩:=h;rw[Gt (c d (by simp)),if_pos a]; exact b
       grind
      grind
     omega
   omega
  omega
 ·rename_i T n i;simp only[AZ];split at h
  ·split at h
   ·split at h
    ·rename_i j G;rw[g0V (e':=e') (o':=o') (fun s Q=>m s (by grind[Op.operands])) G];simp only;rw[ce] at h ⊢;split at h
     ·rename_i a;have b:=h;simp only[oi,pj] at h;obtain⟨_,_,_,rfl⟩:=h;rw[Gt (c d (by simp)),if_pos a]; exact b
     grind
    grind
   omega
  omega
 ·rename_i j W;have:L3 ⟨e',o'⟩ p j.toList=L3 ⟨e,o⟩ p j.toList:=(Iq (fun t H=>m t (by grind[Op.operands,Call.operands]))).symm;simp only[AZ,this];split at h
  ·split at h
   ·rename_i u E g;split at h
    ·rename_i v V;rw[ce] at h;split at h
     ·rename_i a;have b:=h;simp only[oi,pj] at h;obtain⟨_,_,_,rfl⟩:=h;have P:=c _ List.mem_cons_self;simp only at E;rw[E] at P;have z:=k0A (o':=o') g (fun id k=>c id (by grind))
      grind
     grind
    grind
   grind
  ·split at h
   ·rename_i u g;split at h
    ·rename_i v;rw[ce] at h;split at h
     ·rename_i a;have b:=h;simp only[oi,pj] at h;obtain⟨_,_,_,rfl⟩:=h;have z:=k0A (o':=o') g (fun id k=>c id (by grind));simp only[u,z,v,Gt (c d (by simp))]
      grind
     grind
    grind
   grind
  omega
 grind
theorem s0A{Γ:o5}{p:Pa}{a:Op}{q:Prop}{w:Nat×Ob}{l:List Nat}(f:∀t,.tmp t∈a.operands.toList->b9 e t=b9 e' t)(h:Cm Γ ⟨e,o⟩ p a=some (q,w,l))(k:∀id∈l,b9 o id=b9 o' id):Cm Γ ⟨e',o'⟩ p a=some (q,w,l):=by
 have R:∀(x:Operand),x∈a.operands.toList->rd ⟨e',o'⟩ p x=rd ⟨e,o⟩ p x:=fun x m=>(Db (fun t n=>f t (by grind))).symm;unfold Cm at h;split at h
 ·rename_i T x y;simp only[Cm,R x (by simp[Op.operands]),R y (by simp[Op.operands])];split at h
  ·grind
  ·split at h
   ·rename_i c d;split at h
    ·rename_i g;rw[ce] at h;split at h
     ·rename_i j;have i:=h;simp only[oi,pj] at h;obtain⟨_,_,rfl⟩:=h;have b:=k _ (List.mem_singleton.2 rfl);simp only at c;rw[c] at b;simp only[<- b,d,Ir (o':=o') 24 g (fun _ h=>by cases h),j,cond_true]; exact i
     grind
    grind
   grind
  omega
 grind
theorem k0I{T:List Ct}{p:Pa}{d:Nat}{a:Op}{q:Prop}{r:AV}{obs:List (Nat×Ob)}{fp:List Nat}(b:∀t,.tmp t∈a.operands.toList->b9 e t=b9 e' t)(h:Da T ⟨e,o⟩ p d a=some (q,r,obs,fp))(c:∀id∈fp,b9 o id=b9 o' id):Da T ⟨e',o'⟩ p d a=some (q,r,obs,fp):=by
 unfold Da at h
 grind[L3,Iq,Op.operands,Call.operands,rd,Db,Da,i0Q]
theorem I0K{Γ:o5}{st:St}{p:Pa}{d:Nat}{a:Op}{r:Prop×AV×List (Nat×Ob)×List Nat}(h:BE Γ st p d a=some r):I2 Γ st p a=none:=by
 unfold BE at h
 grind[I2,X7]
theorem E0O{Γ:o5}{st:St}{p:Pa}{a:Op}{r:Prop×List (Nat×Ob)×List Nat}(h:Cp Γ st p a=some r):Cm Γ st p a=none:=by
 unfold Cp at h
 grind[Cm]
theorem s0H{Γ:o5}{p:Pa}{d:Nat}{a:Op}{q:Prop}{r:AV}{obs:List (Nat×Ob)}{l:List Nat}(b:∀t,.tmp t∈a.operands.toList->b9 e t=b9 e' t)(h:BE Γ ⟨e,o⟩ p d a=some (q,r,obs,l))(k:∀id∈l,b9 o id=b9 o' id):BE Γ ⟨e',o'⟩ p d a=some (q,r,obs,l):=by
 have R:∀(x:Operand),x∈a.operands.toList->rd ⟨e',o'⟩ p x=rd ⟨e,o⟩ p x:=fun x w=>(Db (fun t g=>b t (by grind))).symm;unfold BE at h;split at h
 ·rename_i T x;simp only[BE,R x (by simp[Op.operands])];split at h
  ·rename_i v u;split at h
   ·rename_i c;rw[ce] at h;split at h
    ·rename_i j;have n:=h;simp only[oi,pj] at h;obtain⟨_,_,_,rfl⟩:=h;have i:=k _ (List.mem_cons_of_mem _ (List.mem_singleton.2 rfl));simp only at c;rw[c] at i;simp only at j;simp only[<- i,Gt (k d (by simp)),j,cond_true];exact n
    grind
   grind
  omega
 ·rename_i T x l f;have m:U0 ⟨e',o'⟩ p l=U0 ⟨e,o⟩ p l:=(Yk (fun t g=>b t (by grind[Op.operands]))).symm;have s:U0 ⟨e',o'⟩ p f=U0 ⟨e,o⟩ p f:=(Yk (fun t g=>b t (by grind[Op.operands]))).symm;simp only[BE,R x (by simp[Op.operands]),m,s]
  grind
 grind
theorem p0l{Γ:o5}{p:Pa}{a:Op}{q:Prop}{obs:List (Nat×Ob)}{l:List Nat}(b:∀t,.tmp t∈a.operands.toList->b9 e t=b9 e' t)(h:Cp Γ ⟨e,o⟩ p a=some (q,obs,l))(f:∀id∈l,b9 o id=b9 o' id):Cp Γ ⟨e',o'⟩ p a=some (q,obs,l):=by
 have R:∀(x:Operand),x∈a.operands.toList->rd ⟨e',o'⟩ p x=rd ⟨e,o⟩ p x:=fun x c=>(Db (fun t d=>b t (by grind))).symm;unfold Cp at h;split at h
 ·rename_i T x y;simp only[Cp,R x (by simp[Op.operands]),R y (by simp[Op.operands])];split at h
  ·grind
  omega
 grind
theorem k0G{Γ:o5}{T:List Ct}{p:Pa}{x:Oper}{q:Prop}{av:Option AV}{obs:List (Nat×Ob)}{fp:List Nat}(b:∀t,.tmp t∈x.op.operands.toList->b9 e t=b9 e' t)(h:X9 Γ T ⟨e,o⟩ p x=some (q,av,obs,fp))(c:∀id∈fp,b9 o id=b9 o' id) :
  X9 Γ T ⟨e',o'⟩ p x=some (q,av,obs,fp):=by
 unfold X9 at h ⊢;split at h
 ·rw[ce] at h ⊢;split at h
  ·rename_i a;rw[if_pos a]
   grind[oi,pj,s0C,s0H,I0K]
  ·rename_i a;rw[if_neg a];rw[ce] at h ⊢;split at h
   ·rename_i a;rw[if_pos a]
    grind[oi,pj,s0E]
   ·rename_i a;rw[if_neg a]
    grind[oi,pj,k0I]
 ·rw[ce] at h ⊢;split at h
  ·rename_i a;rw[if_pos a]
   grind[oi,pj,s0A,p0l,E0O]
  ·rename_i a;rw[if_neg a]
   grind[oi,pj,k0I]
end
structure A4 where
 o:Oper
 p:Pa
 av:Option AV
 obs:List (Nat×Ob)
 fp:List Nat
def Sz(e:List (Nat×Sl))(p:Pa)(q:Prop):Prop:=match p with
 | []=>q
 | x :: r=>Gs e (x :: r)->q
def Is(Γ:o5)(T:List Ct)(all:List Oper):List Oper->St->List A4->(St->List A4->Prop)->Prop
 | [],st,rs,K=>K st rs
 | o :: r,st,rs,K=>match BF all st.e o with
   | some p=>match X9 Γ T st p o with
     | some (q,av,obs,fp)=>bif Co p||Co obs then(Sz st.e p q/\Is Γ T all r ⟨Cq o.dst p av st.e,obs++st.o⟩ (⟨o,p,av,obs,fp⟩ :: rs) K) else False
     | none=>False
   | none=>False
def H8(n:Nat):Nat->List Nat->List Oper->Bool
 | _,_,[]=>true
 | i,seen,o :: r=>(match o.dst with
   | some d=>Nat.blt d n&&Gr d seen
   | none=>true)&&(match o.guard with
   | some (j,_)=>Nat.blt j i
   | none=>true)&&H8 n (i+1) (match o.dst with
   | some d=>d :: seen
   | none=>seen) r
def C3(st:St)(R:A4):St:=⟨Cq R.o.dst R.p R.av st.e,R.obs++st.o⟩
def Gu(Γ:o5)(T:List Ct)(all:List Oper):St->List A4->Prop
 | _,[]=>True
 | st,R :: r=>BF all st.e R.o=some R.p/\(∃q,X9 Γ T st R.p R.o=some (q,R.av,R.obs,R.fp)/\(Gs st.e R.p->q))/\(R.p=[]∨R.obs=[])/\Gu Γ T all (C3 st R) r
theorem Ba{Γ:o5}{T:List Ct}{all:List Oper}{K:St->List A4->Prop}:∀{ops:List Oper} {st:St} {rs:List A4},Is Γ T all ops st rs K->∃recs:List A4,recs.map (·.o)=ops/\Gu Γ T all st recs/\K (recs.foldl C3 st) (recs.reverse++rs)
 | [],st,rs,h=>⟨[],rfl,trivial,h⟩
 | o :: r,st,rs,h=>by
   unfold Is at h;split at h
   ·rename_i p e;split at h
    ·rename_i q c a g l;rw[ce] at h;split at h
     ·rename_i k;obtain⟨b,d⟩:=h;obtain⟨recs,m,f,i⟩:=Ba d;refine⟨⟨o,p,c,a,g⟩ :: recs,by grind,⟨e,⟨q,l,?_⟩,?_,f⟩,by simp only[List.foldl_cons,List.reverse_cons,List.append_assoc,List.singleton_append]; exact i⟩
      ·intro j;cases p with
       | nil=>exact b
       | cons x r=>exact b j
      ·rw[Bool.or_eq_true] at k
       grind[Oc]
     grind
    grind
   grind
theorem Yl{a:Type}{l:List a}{j:Nat}{x:a}(h:B8 l j=some x):l[j]?=some x:=by grind[V9]
section
variable {X:Cx} {Γ:o5} {T:List Ct}
theorem It(m:w9 X.P Γ)(hT:∀c∈T,Ok X.P c){ops:Array Oper}{all:List Oper}(ha:ops=all.toArray){Q:Exit->Act->World->Prop}{rest:List Oper}:∀(recs:List A4) (i:Nat) (seen:List Nat) (st:St) (G:Gh) (a:Act),(∀j,j<recs.length->recs[j]?.map (·.o)=all[i+j]?)->H8 X.n i seen (recs.map (·.o))=true ->
  (∀j oj dj,j<i->all[j]?=some oj->oj.dst=some dj->dj∈seen)->(∀t s,b9 st.e t=some s->∀x∈s.p,x.1∈seen)->Gu Γ T all st recs->Sat X G->G.o=st.o->EnvR X.n G st.e a ->
  (∀G' a',Sat X G'->G'.o=(recs.foldl C3 st).o->EnvR X.n G' (recs.foldl C3 st).e a'->wpList X.P ops Q rest a' G'.w)->wpList X.P ops Q (recs.map (·.o)++rest) a G.w
 | [],i,seen,st,G,a,_,_,_,_,_,S,ho,hE,hK=>hK G a S ho hE
 | R :: r,i,seen,st,G,a,hall,hreg,hseen,hpath,⟨hp,⟨q,hab,hq⟩,hg,hrun⟩,S,ho,hE,hK=>by
   simp only[List.map_cons,H8,ba] at hreg;obtain⟨⟨g,u⟩,F⟩:=hreg;have k:∀d,R.o.dst=some d->d<X.n/\d ∉ seen:=fun d f=>by
    rw[f] at g;simp only[ba] at g;exact⟨by simp_all,Ip g.2⟩
   have Y:∀x∈R.p,x.1∈seen:=by
    unfold BF at hp;split at hp
    ·grind
    ·rename_i j b z;rw[z] at u;have l:j<i:=by simpa using u
     split at hp
     ·rename_i oj hj;split at hp
      ·rename_i dj aB;split at hp
       ·rename_i q' f' x' hs;simp only[oi] at hp; rw[<- hp];intro y H;rcases List.mem_cons.1 H with rfl | H
        ·grind[Yl]
        ·exact hpath dj _ hs y H
       grind
      grind
     grind
   have f:∀d,R.o.dst=some d->d<X.n/\(∀x∈R.p,x.1≠d)/\∀t s,b9 st.e t=some s->∀x∈s.p,x.1≠d:=fun d f=>⟨(k d f).1,fun x v e=>(k d f).2 (e ▸ Y x v),fun t s W x v e=>(k d f).2 (e ▸ hpath t s W x v)⟩
   have aA:=Oe (K:=wpList X.P ops Q (r.map (·.o)++rest)) m hT ha (Q:=Q) S ho hE hp hab hq hg f (fun a' G' S' _ E V=>by
    refine It m hT ha r (i+1) _ (C3 st R) G' a' (fun j hj=>?_) F ?_ ?_ hrun S' E V hK
    ·have:=hall (j+1) (by grind);simp only[List.getElem?_cons_succ] at this;rw[this]; congr 1; omega
    ·intro j oj dj hj h1 h2;rcases Nat.lt_or_ge j i with h | h
     ·grind
     ·have l:j=i:=by omega
      subst l;have h0:=hall 0 (by simp)
      grind
    ·intro t s W x v;have aC:x.1∈seen->x.1∈(match R.o.dst with | some d=>d :: seen | none=>seen):=fun h=>by
      grind
     simp only[C3,Cq] at W
     grind[lK])
   grind[wpList,M0]
theorem D0p(l:w9 X.P Γ)(m:∀c∈T,Ok X.P c){ops:Array Oper}{all:List Oper}(u:ops=all.toArray){Q:Exit->Act->World->Prop}(recs:List A4)(i:Nat)(b:List Nat)(st:St)(G:Gh)(a:Act)(g:∀j,recs[j]?.map (·.o)=all[i+j]?)(k:H8 X.n i b (recs.map (·.o))=true)
  (f:∀j oj dj,j<i->all[j]?=some oj->oj.dst=some dj->dj∈b) (d:∀t s,b9 st.e t=some s->∀x∈s.p,x.1∈b) (h:Gu Γ T all st recs) (S:Sat X G) (v:G.o=st.o) (q:EnvR X.n G st.e a)
  (r:∀G' a',Sat X G'->G'.o=(recs.foldl C3 st).o->EnvR X.n G' (recs.foldl C3 st).e a'->Q .normal a' G'.w):wpList X.P ops Q (recs.map (·.o)) a G.w:=by
 have:=It (rest:=[]) l m u recs i b st G a (fun j _=>g j) k f d h S v q r
 rwa [List.append_nil] at this
end
def A0(D:Nat->Bool):Nat->List A4->St->St
 | _,[],st=>st
 | i,R :: r,st=>A0 D (i+1) r (if D i=true then C3 st R else st)
def DZ(R:A4)(t:Nat):Prop:=R.o.dst=some t
def Gv(R:A4)(id:Nat):Prop:=∃x∈R.obs,x.1=id
theorem SA(st:St)(R:A4)(t:Nat)(h:¬DZ R t):b9 (C3 st R).e t=b9 st.e t:=by
 simp only[C3,Cq];split
 ·rename_i d a b _;rw[lK,if_neg (fun e=>h (by rw[<- e]; exact b))]
 ·rfl
theorem SB(st:St)(R:A4)(id:Nat)(h:¬Gv R id):b9 (C3 st R).o id=b9 st.o id:=by
 simp only[C3];exact Yc (fun x a e=>h ⟨x,a,e⟩)
theorem m0t{st st':St}{R:A4}{t:Nat}(h:b9 st.e t=b9 st'.e t):b9 (C3 st R).e t=b9 (C3 st' R).e t:=by
 simp only[C3,Cq]
 grind[lK]
theorem y0O{b:Type}{l m a:List (Nat×b)}{i:Nat}(h:b9 m i=b9 a i):b9 (l++m) i=b9 (l++a) i:=by
 induction l with
 | nil=>exact h
 | cons x r c =>
   grind[lK]
theorem m0s{st st':St}{R:A4}{id:Nat}(h:b9 st.o id=b9 st'.o id):b9 (C3 st R).o id=b9 (C3 st' R).o id:=y0O h
theorem Of{D b:Nat->Bool}{t:Nat}:∀{recs:List A4} {i:Nat} {st st':St},(∀j R,recs[j]?=some R->DZ R t->D (i+j)=b (i+j))->b9 st.e t=b9 st'.e t->b9 (A0 D i recs st).e t=b9 (A0 b i recs st').e t
 | [],_,_,_,_,h=>h
 | R :: r,i,st,st',hD,h=>by
   simp only[A0];refine Of (fun j c d a=>by have:=hD (j+1) c (by grind) a; rwa [show i+(j+1)=i+1+j by omega] at this) ?_;by_cases a:DZ R t
   ·have:=hD 0 R rfl a;simp only[Nat.add_zero] at this
    grind[m0t]
   grind[SA]
theorem Og{D b:Nat->Bool}{id:Nat}:∀{recs:List A4} {i:Nat} {st st':St},(∀j R,recs[j]?=some R->Gv R id->D (i+j)=b (i+j))->b9 st.o id=b9 st'.o id->b9 (A0 D i recs st).o id=b9 (A0 b i recs st').o id
 | [],_,_,_,_,h=>h
 | R :: r,i,st,st',hD,h=>by
   simp only[A0];refine Og (fun j c d a=>by have:=hD (j+1) c (by grind) a; rwa [show i+(j+1)=i+1+j by omega] at this) ?_;by_cases a:Gv R id
   ·have:=hD 0 R rfl a;simp only[Nat.add_zero] at this
    grind[m0s]
   grind[SB]
theorem Ym{D:Nat->Bool}{t:Nat}{R:A4}:∀{recs:List A4} {i j:Nat} {st st':St},recs[j]?=some R->DZ R t->R.av≠none->D (i+j)=true->(∀k R',j<k->recs[k]?=some R'->DZ R' t->D (i+k)=false)->b9 (A0 D i recs st).e t=b9 (C3 st' R).e t
 | R0 :: r,i,0,st,st',hj,hw,hav,hD,hl=>by
   simp only[List.getElem?_cons_zero,oi] at hj; subst hj;simp only[Nat.add_zero] at hD;simp only[A0,hD,if_true];have f:b9 (A0 D (i+1) r (C3 st R0)).e t=b9 (C3 st R0).e t:=by
    have:∀{recs:List A4} {i:Nat} {st:St},(∀k R',recs[k]?=some R'->DZ R' t->D (i+k)=false)->b9 (A0 D i recs st).e t=b9 st.e t:=by
     intro recs
     induction recs with
     | nil=>intro i st _; rfl
     | cons d m l =>
       intro i st h;simp only[A0];rw[l (fun k R' c b=>by have:=h (k+1) R' (by grind) b; rwa [show i+(k+1)=i+1+k by omega] at this)];split
       ·rename_i g;refine SA st d t (fun b=>?_);have:=h 0 d rfl b
        grind
       ·rfl
    exact this (fun k R' c b=>by have:=hl (k+1) R' (by omega) (by grind) b; rwa [show i+(k+1)=i+1+k by omega] at this)
   rw[f];unfold DZ at hw;simp only[C3,Cq,hw];cases h:R0.av with
   | none=>grind
   | some a=>simp only[lK,if_true]
 | R0 :: r,i,j+1,st,st',hj,hw,hav,hD,hl=>by
   simp only[A0];exact Ym (j:=j) (by grind) hw hav (by grind) (fun k R' n c b=>by have:=hl (k+1) R' (by omega) (by grind) b; rwa [show i+(k+1)=i+1+k by omega] at this)
theorem o0D{a:Type}{l m b:List (Nat×a)}{i:Nat}(h:∃x∈l,x.1=i):b9 (l++m) i=b9 (l++b) i:=by
 induction l with
 | nil=>grind
 | cons x r c =>
   obtain⟨d,v⟩:=x;rw[List.cons_append,List.cons_append,lK,lK]
   grind
theorem Yn{D:Nat->Bool}{id:Nat}{R:A4}:∀{recs:List A4} {i j:Nat} {st st':St},recs[j]?=some R->Gv R id->D (i+j)=true->(∀k R',j<k->recs[k]?=some R'->Gv R' id->D (i+k)=false)->b9 (A0 D i recs st).o id=b9 (C3 st' R).o id
 | R0 :: r,i,0,st,st',hj,hw,hD,hl=>by
   simp only[List.getElem?_cons_zero,oi] at hj; subst hj;simp only[Nat.add_zero] at hD;simp only[A0,hD,if_true];have d:b9 (A0 D (i+1) r (C3 st R0)).o id=b9 (C3 st R0).o id:=by
    have:∀{recs:List A4} {i:Nat} {st:St},(∀k R',recs[k]?=some R'->Gv R' id->D (i+k)=false)->b9 (A0 D i recs st).o id=b9 st.o id:=by
     intro recs
     induction recs with
     | nil=>intro i st _; rfl
     | cons c g f =>
       intro i st h;simp only[A0];rw[f (fun k R' b a=>by have:=h (k+1) R' (by grind) a; rwa [show i+(k+1)=i+1+k by omega] at this)];split
       ·rename_i e;refine SB st c id (fun a=>?_);have:=h 0 c rfl a
        grind
       ·rfl
    exact this (fun k R' b a=>by have:=hl (k+1) R' (by omega) (by grind) a; rwa [show i+(k+1)=i+1+k by omega] at this)
   rw[d];exact o0D hw
 | R0 :: r,i,j+1,st,st',hj,hw,hD,hl=>by
   simp only[A0];exact Yn (j:=j) (by grind) hw (by grind) (fun k R' l b a=>by have:=hl (k+1) R' (by omega) (by grind) a; rwa [show i+(k+1)=i+1+k by omega] at this)
theorem Yo{D:Nat->Bool}:∀{recs:List A4} {i:Nat} {st:St},(∀j,j<recs.length->D (i+j)=true)->A0 D i recs st=recs.foldl C3 st
 | [],_,_,_=>rfl
 | R :: r,i,st,h=>by
   have a:=h 0 (by simp);simp only[Nat.add_zero] at a;simp only[A0,a,if_true,List.foldl_cons];exact Yo (fun j b=>by have:=h (j+1) (by grind); rwa [show i+(j+1)=i+1+j by omega] at this)
theorem Yp{Γ:o5}{T:List Ct}{all:List Oper}:∀{recs:List A4} {i:Nat} {st:St} {j:Nat} {R:A4},Gu Γ T all st recs->recs[j]?=some R ->
  ∃sj,sj=A0 (fun k=>decide (k<i+j)) i recs st/\BF all sj.e R.o=some R.p/\(∃q,X9 Γ T sj R.p R.o=some (q,R.av,R.obs,R.fp)/\(Gs sj.e R.p->q))/\(R.p=[]∨R.obs=[])
 | [],_,_,j,_,_,h=>by grind
 | R0 :: r,i,st,0,R,⟨h1,h2,h3,h4⟩,h=>by
   simp only[List.getElem?_cons_zero,oi] at h; subst h;have:∀{recs:List A4} {i j:Nat} {st:St},i<=j->A0 (fun k=>decide (k<i)) j recs st=st:=by
    intro recs
    induction recs with
    | nil=>intro i j st _; rfl
    | cons R r b =>
      intro i j st a;simp only[A0];rw[if_neg (by grind)];exact b (by omega)
   simp_all
 | R0 :: r,i,st,j+1,R,⟨h1,h2,h3,h4⟩,h=>by
   obtain⟨sj,e,d,c,k3⟩:=Yp (i:=i+1) (j:=j) h4 (by simpa using h)
   grind[A0]
def O3(o:Oper):List Nat:=o.after.toList.filterMap fun e=>bif Region.binds .any e then some e.on else none
def O4:Nat->List Oper->Bool
 | _,[]=>true
 | i,o :: r=>(O3 o).all (fun k=>Nat.blt k i)&&O4 (i+1) r
def H3:List (List Nat)->List Oper->List (List Nat)
 | acc,[]=>acc
 | acc,o :: r=>H3 (acc++[O3 o++(O3 o).flatMap fun k=>(B8 acc k).getD []]) r
def M1(x:Nat):List Nat->Bool
 | []=>false
 | y :: r=>Nat.beq x y||M1 x r
theorem P5{x:Nat}:∀{l:List Nat},M1 x l=true↔x∈l
 | []=>by simp[M1]
 | y :: r=>by
   simp only[M1,Bool.or_eq_true,List.mem_cons,P5 (l:=r)]
   simp_all
theorem Z4{o:Oper}{k:Nat}:k∈O3 o↔∃e∈o.after,Region.binds .any e=true/\e.on=k:=by
 unfold O3
 grind
def Fa(D:Nat->Bool)(all:List Oper):Prop:=∀i o,all[i]?=some o->D i=true->∀k∈O3 o,D k=true
theorem SC{all:List Oper}:∀{rest:List Oper} {acc:List (List Nat)},(∀j:Nat,rest[j]?=all[acc.length+j]?)->O4 acc.length rest=true ->
  (∀(i:Nat) (l:List Nat),acc[i]?=some l->(∀k∈l,k<i)/\∀D,Fa D all->∀o,all[i]?=some o->(∀k∈O3 o,D k=true)->∀k∈l,D k=true) ->
  ∀(i:Nat) (l:List Nat),(H3 acc rest)[i]?=some l->(∀k∈l,k<i)/\∀D,Fa D all->∀o,all[i]?=some o->(∀k∈O3 o,D k=true)->∀k∈l,D k=true
 | [],acc,_,_,h=>h
 | o :: r,acc,hall,hb,h=>by
   simp only[O4,ba,List.all_eq_true] at hb;simp only[H3];refine SC (fun j=>?_) (by grind) (fun i l hi=>?_)
   ·have:=hall (j+1);simp only[List.getElem?_cons_succ] at this;rw[this]; congr 1; simp; omega
   ·rcases Nat.lt_or_ge i acc.length with u | hge
    ·rw[List.getElem?_append_left u] at hi;exact h i l hi
    ·have q:i=acc.length:=by
      rcases Nat.eq_or_lt_of_le hge with e | e
      ·exact e.symm
      ·rw[List.getElem?_eq_none (by simp; omega)] at hi; cases hi
     subst q;simp only[List.getElem?_concat_length,oi] at hi;subst hi;have z:∀k:Nat,k∈O3 o->k<acc.length:=fun k z=>by simp_all
     refine⟨fun k b=>?_,fun D v F c t k b=>?_⟩
     ·grind[V9,List.getElem?_eq_getElem]
     ·have x:=hall 0;simp only[List.getElem?_cons_zero,Nat.add_zero] at x;rw[<- x] at c;cases c;rcases List.mem_append.1 b with y | y
      ·grind
      ·obtain⟨m,w,n⟩:=List.mem_flatMap.1 y;rw[V9] at n;have a:=z m w;rw[List.getElem?_eq_getElem a] at n;have s:=t m w;obtain⟨g,f⟩:∃g,all[m]?=some g:=by
        grind
       exact(h m acc[m] (List.getElem?_eq_getElem a)).2 D v g f (fun E d=>v m g f s E d) k n
theorem Sat.congr{X:Cx}{G:Gh}(S:Sat X G){o':List (Nat×Ob)}(h:∀i,b9 o' i=b9 G.o i):Sat X { G with o:=o' }/\GLe G { G with o:=o' }:=by
 have c:GLe G { G with o:=o' }:=⟨rfl,fun k E _=>⟨E,rfl⟩,fun i T u hi=>⟨rfl,T,u,(h i).trans hi⟩,fun i T w e t f d hi=>⟨rfl,T,w,e,t,f,d,(h i).trans hi⟩,fun i T e t f j hi=>⟨T,e,t,f,j,(h i).trans hi,Nat.le_refl _,fun _=>rfl⟩⟩;have a:∀i o,b9 o' i=some o->b9 G.o i=some o:=fun i o hi=>(h i).symm.trans hi;refine⟨⟨S.base,S.os,S.tape,S.output,S.size,S.block,fun i o hi=>?_,fun i r o s b hi m=>S.inj i r o s b (a i o hi) (a r s m),fun i o b hi=>S.imm i o b (a i o hi),fun i o b hi=>S.own i o b (a i o hi),S.klt,S.kfrom,fun i b x Y=>?_,fun i v h=>(S.pin i v h).mono c⟩,c⟩
 rotate_right
 ·obtain⟨V,W,Q,P⟩:=S.sep i b x (by grind)
  grind
 have:=S.obs i o (a i o hi);cases o with
 | box T u=>obtain⟨b,y,n,q,l,H⟩:=this; exact⟨b,y,n,q,l,H.mono c⟩
 | arr T e t f j=>exact this
 | grd T w e t f d =>
   obtain⟨z,F,n,q,l⟩:=this;exact⟨z,F,n,q.up c (fun _=>Iff.rfl) (WE.refl (g:=none) _) (fun _ _ h=>by cases h),l⟩
theorem EnvR.congr{n:Nat}{G:Gh}{e e':List (Nat×Sl)}{a:Act}(h:EnvR n G e a)(c:∀t,b9 e' t=b9 e t):EnvR n G e' a :=
 ⟨h.defers,h.size,fun t s b=>h.val t s (by grind)⟩
theorem g0U{all:List Oper}{e e':List (Nat×Sl)}{o:Oper}{p:Pa}(h:BF all e o=some p)(a:∀x∈p,b9 e x.1=b9 e' x.1):BF all e' o=some p:=by
 unfold BF at h ⊢;split at h
 ·exact h
 grind[oi,b9,List.mem_cons_self]
theorem Yq{e e':List (Nat×Sl)}:∀{p:Pa},(∀x∈p,b9 e x.1=b9 e' x.1)->Gs e p->Gs e' p
 | [],_,_=>trivial
 | (s,b) :: r,h,⟨h1,h2⟩=>by
   refine⟨?_,Yq (fun x a=>h x (by grind)) h2⟩
   simp_all
def Yr(R:A4):List Nat:=B0D R.o.op.operands.toList++R.p.map Prod.fst
def Oh(l m:List Nat):Bool:=l.all fun x=>!M1 x m
def Dc(bs:List (List Nat))(i:Nat)(A:A4)(k:Nat)(B:A4):Bool :=
 (match A.o.dst with
   | some d=>(!M1 d (Yr B)||(M1 i ((B8 bs k).getD [])||M1 k ((B8 bs i).getD [])))&&(!M1 d (B.p.map Prod.fst)||M1 i ((B8 bs k).getD []))
   | none=>true)&&(Oh (A.obs.map Prod.fst) (B.fp++B.obs.map Prod.fst)||(M1 i ((B8 bs k).getD [])||M1 k ((B8 bs i).getD [])))
def Ky(f:Nat->A4->Bool):Nat->List A4->Bool
 | _,[]=>true
 | i,R :: r=>f i R&&Ky f (i+1) r
theorem Oi{f:Nat->A4->Bool}:∀{recs:List A4} {i:Nat},Ky f i recs=true->∀j R,recs[j]?=some R->f (i+j) R=true
 | [],_,_,j,R,h=>by grind
 | R0 :: r,i,h,0,R,hj=>by
   grind[Ky]
 | R0 :: r,i,h,j+1,R,hj=>by
   simp only[Ky,ba] at h;have:=Oi h.2 j R (by grind)
   grind
def Ys(A:A4):Bool:=match A.o.dst with
 | some d=>!M1 d (A.p.map Prod.fst)
 | none=>true
def Fb(bs:List (List Nat))(recs:List A4):Bool:=Ky (fun i A=>Ys A&&Ky (fun k B=>Nat.beq i k||Dc bs i A k B) 0 recs) 0 recs
theorem Gw{b:List (List Nat)}{recs:List A4}(h:Fb b recs=true){i k:Nat}{A B:A4}(hi:recs[i]?=some A)(c:recs[k]?=some B)(d:i≠k):Dc b i A k B=true:=by
 have a:=Oi h i A hi;rw[ba] at a;have e:=Oi a.2 k B c
 simp_all
theorem SD{n:Nat}:∀{l:List Oper} {i:Nat} {seen:List Nat},H8 n i seen l=true->(∀(j:Nat) (o:Oper) (d:Nat),l[j]?=some o->o.dst=some d->d<n/\d ∉ seen)/\(∀(j k:Nat) (o o':Oper) (d:Nat),l[j]?=some o->l[k]?=some o'->o.dst=some d->o'.dst=some d->j=k)
 | [],_,_,_=>⟨fun j o d h=>by grind,fun j k o o' d h=>by grind⟩
 | o0 :: r,i,seen,h=>by
   simp only[H8,ba] at h;obtain⟨⟨a,_⟩,c⟩:=h;obtain⟨f,g⟩:=SD c;have e:∀d,d∈seen->d∈(match o0.dst with | some d=>d :: seen | none=>seen):=fun d b=>by
    grind
   have m:∀d,o0.dst=some d->d<n/\d ∉ seen:=fun d b=>by
    rw[b] at a;simp only[ba] at a;exact⟨by simp_all,Ip a.2⟩
   grind
theorem Yt{b:Type}{p a:b->Bool}:∀{l:List b},(∀x,a x=true->p x=true)->(∃x∈l,p x=true/\a x=false)->(l.filter a).length < (l.filter p).length
 | [],_,⟨x,hx,_⟩=>by cases hx
 | y :: r,h,⟨x,hx,h1,h2⟩=>by
   have d:∀l:List b,(l.filter a).length<=(l.filter p).length:=fun l=>by
    induction l with
    | nil=>grind
    | cons z s c =>
      grind
   rcases List.mem_cons.1 hx with rfl | hx
   ·grind
   ·have c:=Yt h ⟨x,hx,h1,h2⟩;simp only[List.filter_cons];by_cases hz:a y=true
    ·rw[if_pos hz,if_pos (h y hz)]; simp only[List.length_cons]; omega
    ·rw[if_neg hz];split
     ·simp only[List.length_cons]; omega
     ·exact c
theorem Yu{D:Nat->Bool}{t:Nat}{s:Sl}:∀{recs:List A4} {i:Nat} {st:St},b9 (A0 D i recs st).e t=some s->b9 st.e t=some s∨∃k R,recs[k]?=some R/\D (i+k)=true/\s.p=R.p
 | [],_,_,h=>.inl h
 | R :: r,i,st,h=>by
   simp only[A0] at h;rcases Yu h with a | ⟨k,R',h1,h2,h3⟩
   ·by_cases b:D i=true
    ·rw[if_pos b] at a;simp only[C3,Cq] at a;split at a
     ·rw[lK] at a;split at a
      ·cases a;exact .inr ⟨0,R,rfl,b,rfl⟩
      grind
     grind
    grind
   ·exact .inr ⟨k+1,R',by grind,by grind,h3⟩
theorem w0I{Γ:o5}{T:List Ct}{st:St}{p:Pa}{o:Oper}{d:Nat}{q:Prop}{av:Option AV}{obs:List (Nat×Ob)}{fp:List Nat}(h:X9 Γ T st p o=some (q,av,obs,fp))(a:o.dst=some d):av≠none:=by
 grind[X9]
section
variable {X:Cx} {Γ:o5} {T:List Ct}
theorem q0S(bC:w9 X.P Γ)(hT:∀c∈T,Ok X.P c){l:List Oper}{recs:List A4}{st:St}{Q:Exit->Act->World->Prop}(hl:recs.map (·.o)=l)(aI:Gu Γ T l st recs)(aT:∀t s,b9 st.e t=some s->s.p=[])
  (aS:H8 X.n 0 [] l=true) (Y:O4 0 l=true) (E:Fb (H3 [] l) recs=true) (hK:∀G' a',Sat X G'->G'.o=(recs.foldl C3 st).o->EnvR X.n G' (recs.foldl C3 st).e a'->Q .normal a' G'.w) :
  ∀(fuel:Nat) (listed:Array Bool) (G:Gh) (a:Act),((List.range l.length).filter fun i=>!listed.getD i true).length<=fuel->listed.size=l.length->Fa (fun k=>listed.getD k false) l->Sat X G->(∀id,b9 G.o id=b9 (A0 (fun k=>listed.getD k false) 0 recs st).o id) ->
   EnvR X.n G (A0 (fun k=>listed.getD k false) 0 recs st).e a->wpAny X.P .any l.toArray Q fuel listed a G.w:=by
 have bR:recs.length=l.length:=by rw[<- hl]; simp
 have aZ:∀(j:Nat) (R:A4),recs[j]?=some R->l[j]?=some R.o:=fun j R h=>by rw[<- hl,List.getElem?_map,h]; rfl
 have bJ:∀(j:Nat) (o:Oper),l[j]?=some o->∃R,recs[j]?=some R/\R.o=o:=fun j o h=>by
  rw[<- hl,List.getElem?_map] at h;cases hr:recs[j]? with
  | none=>rw[hr] at h; cases h
  | some R=>rw[hr] at h; cases h; exact⟨R,rfl,rfl⟩
 have bA:=SC (all:=l) (rest:=l) (acc:=[]) (fun j=>by simp) Y (fun i m h=>by grind);have aF:=SD aS;have aJ:∀(i:Nat) (o:Oper) (k:Nat),l[i]?=some o->k∈O3 o->k<i:=by
  have:∀{m:List Oper} {i:Nat},O4 i m=true->∀j o k,m[j]?=some o->k∈O3 o->k<i+j:=by
   intro m
   induction m with
   | nil=>grind
   | cons o0 r ih =>
     intro i h j o k hj v;simp only[O4,ba,List.all_eq_true] at h;cases j with
     | zero=>simp only[List.getElem?_cons_zero,oi] at hj; simp_all
     | succ j=>grind
  intro i o k u h2;have:=this Y i o k u h2; omega
 -- all is done: the end
 have aC:∀(listed:Array Bool) (G:Gh) (a:Act),(∀i,i<l.length->listed.getD i false=true)->Sat X G->(∀id,b9 G.o id=b9 (A0 (fun k=>listed.getD k false) 0 recs st).o id)->EnvR X.n G (A0 (fun k=>listed.getD k false) 0 recs st).e a->Q .normal a G.w:=by
  intro listed G a aM S hO hE;rw[Yo (fun j hj=>by grind)] at hO hE;obtain⟨S',L'⟩:=S.congr (o':=(recs.foldl C3 st).o) (fun i=>(hO i).symm);exact hK ⟨G.ρ,G.γ,G.K,G.w,(recs.foldl C3 st).o,G.B,G.δ⟩ a S' rfl (hE.mono L')
 intro fuel
 induction fuel with
 | zero =>
   intro listed G a hf aX aB S hO hE;have aP:(List.range l.length).filter (fun i=>!listed.getD i true)=[]:=List.eq_nil_of_length_eq_zero (by omega);have aM:∀i,i<l.length->listed.getD i true=true:=fun i hi=>by
    cases h:listed.getD i true with
    | true=>rfl
    | false =>
      have:i∈(List.range l.length).filter (fun i=>!listed.getD i true):=List.mem_filter.2 ⟨List.mem_range.2 hi,by grind⟩;rw[aP] at this; cases this
   refine⟨?_,aC listed G a (fun i hi=>?_) S hO hE⟩
   ·grind[Region.ready,hi,mem_ready,Nat.lt_or_ge,List.getElem?_eq_none]
   grind
 | succ fuel ih =>
   intro listed G a hf aX aB S hO hE;refine⟨fun hr=>aC listed G a ?_ S hO hE,fun i hi=>?_⟩
   · -- nothing is ready: all is done
     intro i
     induction i using Nat.strongRecOn with
     | ind i bG =>
       intro hi;cases h:listed.getD i false with
       | true=>rfl
       | false =>
         have:i∈Region.ready .any l.toArray listed:=mem_ready.2 ⟨by
          grind,l[i],by grind,fun e he hb=>bG e.on (aJ i l[i] e.on (List.getElem?_eq_getElem hi) (Z4.2 ⟨e,he,hb,rfl⟩)) (by have:=aJ i l[i] e.on (List.getElem?_eq_getElem hi) (Z4.2 ⟨e,he,hb,rfl⟩); omega)⟩
         rw[hr] at this; cases this
   ·obtain⟨aH,o,ho,bQ⟩:=mem_ready.1 hi;rw[List.getElem?_toArray] at ho;obtain⟨R,hR,rfl⟩:=bJ i o ho;have aR:i<l.length:=by
     rcases Nat.lt_or_ge i l.length with h | h
     ·exact h
     ·grind
    have bT:listed.getD i false=false:=by
     have hs:i<listed.size:=by omega
     rw[Array.getD_eq_getD_getElem?,Array.getElem?_eq_getElem hs] at aH ⊢;exact aH
    -- what stands ahead of i is done
    have bL:∀k∈((B8 (H3 [] l) i).getD []),k<i/\listed.getD k false=true:=by
     intro k v;rw[V9] at v;cases hb:(H3 [] l)[i]? with
     | none=>grind
     | some m =>
       grind[Z4]
    have bU:∀k,listed.getD k false=true->k<l.length->∀m∈((B8 (H3 [] l) k).getD []),m<k/\listed.getD m false=true:=by
     intro k v g m hm;rw[V9] at hm;cases hb:(H3 [] l)[k]? with
     | none=>grind
     | some b =>
       rw[hb] at hm;obtain⟨g1,g2⟩:=bA k b hb;exact⟨g1 m hm,g2 _ aB l[k] (List.getElem?_eq_getElem g) (fun k' bB=>aB k l[k] (List.getElem?_eq_getElem g) v k' bB) m hm⟩
    have bK:∀k,k<l.length->∀m∈((B8 (H3 [] l) k).getD []),m<k:=by
     intro k g m hm;rw[V9] at hm;cases hb:(H3 [] l)[k]? with
     | none=>grind
     | some b=>grind
    -- ordered with i: done exactly if earlier in the text
    have aD:∀k,k<l.length->k≠i->(M1 k ((B8 (H3 [] l) i).getD [])||M1 i ((B8 (H3 [] l) k).getD []))=true->listed.getD k false=decide (k<i):=by
     intro k g bP h;rw[Bool.or_eq_true] at h;rcases h with h | h
     ·grind[P5]
     ·grind[P5]
    obtain⟨sj,aG,aV,⟨q,aN,hq⟩,hg⟩:=Yp (i:=0) aI hR;rw[Nat.zero_add] at aG
    -- the slots and objects that i looks at are as in the text's order
    have aO:∀t,t∈Yr R->b9 sj.e t=b9 (A0 (fun k=>listed.getD k false) 0 recs st).e t:=by
     intro t ht;rw[aG];refine Of (fun k R' v V=>?_) rfl;rw[Nat.zero_add];by_cases f:k=i
     ·grind
     ·have F:=Gw E v hR f;have g:k<l.length:=by
       rcases Nat.lt_or_ge k l.length with h | h
       ·exact h
       ·grind
      simp only[Dc,ba] at F;have V:R'.o.dst=some t:=V;rw[V] at F;simp only[ba] at F;have u:=F.1.1;rw[Bool.or_eq_true] at u;rcases u with u | u
      ·grind[P5]
      ·exact(aD k g f (by omega)).symm
    have bD:∀id,id∈R.fp++R.obs.map Prod.fst->b9 sj.o id=b9 G.o id:=by
     intro id aK;rw[hO,aG];refine Og (fun k R' v V=>?_) rfl;rw[Nat.zero_add];by_cases f:k=i
     ·grind
     ·have F:=Gw E v hR f;have g:k<l.length:=by
       rcases Nat.lt_or_ge k l.length with h | h
       ·exact h
       ·grind
      simp only[Dc,ba] at F;have u:=F.2;rw[Bool.or_eq_true] at u;obtain⟨y,hy,bH⟩:=V;rcases u with u | u
      ·grind[Oh,List.all_eq_true,List.mem_map_of_mem,P5]
      ·exact(aD k g f (Bool.or_comm _ _ ▸ u)).symm
    have aQ:∀x∈R.p,b9 sj.e x.1=b9 (A0 (fun k=>listed.getD k false) 0 recs st).e x.1:=fun x hx=>aO x.1 (List.mem_append.2 (.inr (List.mem_map_of_mem hx)));have bF:=g0U aV aQ;have aL:X9 Γ T ⟨(A0 (fun k=>listed.getD k false) 0 recs st).e,G.o⟩ R.p R.o=some (q,R.av,R.obs,R.fp) :=
     k0G (e:=sj.e) (o:=sj.o) (fun t ht=>aO t (List.mem_append.2 (.inl (m0V ht)))) aN (fun id aK=>bD id (List.mem_append.2 (.inl aK)))
    have hd:∀d,R.o.dst=some d->d<X.n/\(∀x∈R.p,x.1≠d)/\∀t s,b9 (A0 (fun k=>listed.getD k false) 0 recs st).e t=some s->∀x∈s.p,x.1≠d:=by
     intro d hd;refine⟨(aF.1 i R.o d ho hd).1,fun x hx e=>?_,fun t s ht x hx e=>?_⟩
     ·have u:=Oi E i R hR;rw[Nat.zero_add,ba] at u
      grind[Ys,P5]
     ·rcases Yu ht with h | ⟨k,Rk,v,aA,hsp⟩
      ·grind
      ·rw[Nat.zero_add] at aA;have f:i≠k:=fun e'=>by grind
       have g:k<l.length:=by
        rcases Nat.lt_or_ge k l.length with h | h
        ·exact h
        ·grind
       have F:=Gw E hR v f;simp only[Dc,ba,hd] at F;have h2:=F.1.2;rw[Bool.or_eq_true] at h2
       grind[P5]
    have H:∀k,(listed.setIfInBounds i true).getD k false=if k=i then true else listed.getD k false:=fun k=>by
     by_cases f:k=i
     ·subst f;have hs:k<listed.size:=by omega
      simp[hs]
     ·rw[if_neg f]; exact getD_set_ne false (Ne.symm f)
    have bS:=Oe (st:=⟨(A0 (fun k=>listed.getD k false) 0 recs st).e,G.o⟩) (K:=wpAny X.P .any l.toArray Q fuel (listed.setIfInBounds i true)) bC hT (ops:=l.toArray) (all:=l) rfl (Q:=Q) S rfl hE bF aL (fun F=>hq (Yq (fun x hx=>(aQ x hx).symm) F)) hg hd (fun a' G' S' _ bI bE=>by
     refine ih (listed.setIfInBounds i true) G' a' ?_ (by grind) ?_ S' ?_ ?_
     ·have:((List.range l.length).filter fun j=>!(listed.setIfInBounds i true).getD j true).length < ((List.range l.length).filter fun j=>!listed.getD j true).length:=by
       refine Yt (fun j hj=>?_) ⟨i,List.mem_range.2 aR,by grind,?_⟩
       ·by_cases bM:i=j
        ·grind
        grind
       ·grind
      omega
     ·intro k o v aA m hm;simp only[H] at aA ⊢;by_cases aW:m=i
      ·grind
      ·rw[if_neg aW];by_cases f:k=i
       ·subst f;rw[ho] at v;cases v;obtain⟨e,he,bO,rfl⟩:=Z4.1 hm
        grind
       ·rw[if_neg f] at aA;exact aB k o v aA m hm
     ·intro id;rw[bI];by_cases V:Gv R id
      ·rw[Yn (D:=fun k=>(listed.setIfInBounds i true).getD k false) (st':=⟨[],G.o⟩) hR V (by grind) (fun k Rk aU v W=>?_)]
       ·rfl
       ·rw[Nat.zero_add];simp only[H,if_neg (show k≠i by omega)];have g:k<l.length:=by
         rcases Nat.lt_or_ge k l.length with h | h
         ·exact h
         ·grind
        have F:=Gw E v hR (show k≠i by omega);simp only[Dc,ba] at F;have u:=F.2;rw[Bool.or_eq_true] at u;obtain⟨y,hy,bH⟩:=W;obtain⟨z,hz,bN⟩:=V;rcases u with u | u
        ·simp only[Oh,List.all_eq_true] at u
         grind[List.mem_map_of_mem,P5]
        grind
      ·have e1:=SB ⟨[],G.o⟩ R id V;simp only[C3] at e1;rw[e1,hO];refine Og (fun k Rk v W=>?_) rfl;rw[Nat.zero_add];simp only[H];rw[if_neg (fun e=>by grind)]
     ·refine bE.congr (fun t=>?_);by_cases V:DZ R t
      ·have aY:=w0I aN V;rw[Ym (D:=fun k=>(listed.setIfInBounds i true).getD k false) (st':=⟨(A0 (fun k=>listed.getD k false) 0 recs st).e,G.o⟩) hR V aY (by grind) (fun k Rk aU v W=>by
        have:=aF.2 i k R.o Rk.o t ho (aZ k Rk v) V W;omega)]
       rfl
      ·have e1:=SA ⟨(A0 (fun k=>listed.getD k false) 0 recs st).e,G.o⟩ R t V;simp only[C3] at e1;rw[e1];refine Of (fun k Rk v W=>?_) rfl;rw[Nat.zero_add];simp only[H];rw[if_neg (fun e=>by grind)])
    grind[wpOp,M0]
end
def VX(X:Cx)(st:St)(c:Code)(Q:Exit->Act->World->Prop):Prop:=∀G a,Sat X G->G.o=st.o->EnvR X.n G st.e a->c.wp X.P Q a G.w
def FX(X:Cx)(st:St)(x:Exit)(Q:Exit->Act->World->Prop):Prop:=∀G a,Sat X G->G.o=st.o->EnvR X.n G st.e a->Q x a G.w
def Gx(e:List (Nat×Sl)):List Nat->List (Nat×Sl)
 | []=>[]
 | t :: r=>match b9 e t with
   | some ⟨[],a⟩=>(t,⟨[],a⟩) :: Gx e r
   | _=>Gx e r
def Oj:List Nat->List (Nat×Ob)->List (Nat×Ob)
 | _,[]=>[]
 | seen,(i,b) :: r=>bif M1 i seen then Oj seen r else(i,b) :: Oj (i :: seen) r
def cut(keep:List Nat)(st:St):St:=⟨Gx st.e keep,Oj [] st.o⟩
theorem SE{e:List (Nat×Sl)}:∀{keep:List Nat} {t:Nat} {s:Sl},b9 (Gx e keep) t=some s->b9 e t=some s/\s.p=[]
 | [],t,s,h=>by cases h
 | k :: r,t,s,h=>by
   unfold Gx at h;split at h
   ·rename_i a b;rw[lK] at h;split at h
    ·grind
    ·exact SE h
   ·exact SE h
theorem Yv:∀{o:List (Nat×Ob)} {seen:List Nat} {i:Nat},i ∉ seen->b9 (Oj seen o) i=b9 o i
 | [],_,_,_=>rfl
 | (j,b) :: r,seen,i,h=>by
   unfold Oj;rw[ce,lK];split
   ·rename_i c;have:¬j=i:=fun e=>h (by grind[P5]);rw[if_neg this];exact Yv h
   ·rw[lK];split
    ·rfl
    ·rename_i a;exact Yv (by grind)
theorem Gy{X:Cx}{st:St}{G:Gh}{a:Act}(b:List Nat)(S:Sat X G)(j:G.o=st.o)(c:EnvR X.n G st.e a):∃G',Sat X G'/\G'.o=(cut b st).o/\G'.w=G.w/\EnvR X.n G' (cut b st).e a:=by
 obtain⟨g,h⟩:=S.congr (o':=(cut b st).o) (fun i=>by rw[j]; exact Yv (by simp));refine⟨_,g,rfl,rfl,c.defers,c.size,fun t s f=>?_⟩;obtain⟨d,_⟩:=SE f;have:=(c.mono h).val t s d;omega
def H9(e:List (Nat×Sl)):Bool:=e.all fun x=>Co x.2.p
theorem Av{e:List (Nat×Sl)}(h:H9 e=true):∀t s,b9 e t=some s->s.p=[]:=by
 intro t s a;have:∃x∈e,x.2=s:=by
  induction e with
  | nil=>cases a
  | cons y r c =>
    obtain⟨d,v⟩:=y;rw[lK] at a;split at a
    ·simp_all
    grind[H9]
 obtain⟨x,b,rfl⟩:=this
 grind[H9,List.all_eq_true,Oc]
section
variable {X:Cx} {st:St} {Q:Exit->Act->World->Prop}
theorem vQ{x y:Code}(h:VX X st x (RC X.P y Q)):VX X st (.seq x y) Q:=fun G a S c b=>wp_seq (h G a S c b)
theorem vB{id:Nat}{c:Code}(h:VX X st c (NP id Q)):VX X st (.block id c) Q:=fun G a S d b=>wp_block (h G a S d b)
theorem vK(h:FX X st .normal Q):VX X st .skip Q:=fun G a S c b=>wp_skip (h G a S c b)
theorem j0(h:FX X st .ret Q):VX X st .ret Q:=fun G a S c b=>wp_ret (h G a S c b)
theorem vE{id:Nat}(h:FX X st (.exit id) Q):VX X st (.exit id) Q:=fun G a S c b=>wp_exit (h G a S c b)
theorem Yw{c:Operand}{x y:Code}{f b:Bool}(k:rd st [] c=some (.d f .bool b))(j:b=true->VX X st x Q)(l:b=false->VX X st y Q):VX X st (.cond c x y) Q:=fun G a S i g=>by
 have e:=BC (C5 g (p:=[]) (fun _ h=>by cases h) k);exact wp_cond_split e (fun h=>j h G a S i g) (fun h=>l h G a S i g)
theorem t0k{c:Operand}{x y:Code}{f:Bool}(a:rd st [] c=some (.d f .bool true))(b:VX X st x Q):VX X st (.cond c x y) Q:=Yw a (fun _=>b) (fun h=>by cases h)
theorem t0l{c:Operand}{x y:Code}{f:Bool}(a:rd st [] c=some (.d f .bool false))(b:VX X st y Q):VX X st (.cond c x y) Q:=Yw a (fun h=>by cases h) (fun _=>b)
theorem fQ{y:Code}(h:VX X st y Q):FX X st .normal (RC X.P y Q):=fun G a S c b=>h G a S c b
theorem fE{y:Code}{id:Nat}(h:FX X st (.exit id) Q):FX X st (.exit id) (RC X.P y Q):=fun G a S c b=>h G a S c b
theorem fR{y:Code}(h:FX X st .ret Q):FX X st .ret (RC X.P y Q):=fun G a S c b=>h G a S c b
theorem fK{id:Nat}(h:FX X st .normal Q):FX X st .normal (NP id Q):=fun G a S c b=>h G a S c b
theorem l9{id:Nat}(h:FX X st .ret Q):FX X st .ret (NP id Q):=fun G a S c b=>h G a S c b
theorem fX{id b:Nat}(c:Nat.beq b id=true)(h:FX X st .normal Q):FX X st (.exit b) (NP id Q):=fun G a S e d=>by
 have:b=id:=by simpa using c
 show(if b=id then Q .normal a G.w else Q (.exit b) a G.w);rw[if_pos this]; exact h G a S e d
theorem n0o{id b:Nat}(c:Nat.beq b id=false)(h:FX X st (.exit b) Q):FX X st (.exit b) (NP id Q):=fun G a S e d=>by
 have:¬b=id:=fun h=>by simp_all
 show(if b=id then Q .normal a G.w else Q (.exit b) a G.w);rw[if_neg this]; exact h G a S e d
theorem z0Y{Γ:o5}{T:List Ct}(g:w9 X.P Γ)(v:∀c∈T,Ok X.P c){id:Nat}{l:List Oper}(b:List Nat)(o:H8 X.n 0 [] l=true)(y:H9 st.e=true)
  (h:Is Γ T l l st [] fun st' _=>FX X (cut b st') .normal Q):VX X st (.region id l.toArray false) Q:=by
 intro G a S u q;obtain⟨d,e1,E,F⟩:=Ba h;refine wp_region_lit ?_;have:=D0p g v (ops:=l.toArray) (all:=l) rfl (Q:=Q) d 0 [] st G a (fun j=>by grind) (by grind) (fun j W Y hj=>by omega) (fun t s ht x hx=>by grind[Av]) E S u q
  (fun G' r H f k=>by
    obtain⟨w,V,i,z,m⟩:=Gy b H f k;have:=F w r V i m
    grind)
 grind
theorem C0k{Γ:o5}{T:List Ct}(q:w9 X.P Γ)(F:∀c∈T,Ok X.P c)[hm:K9 X.P]{id:Nat}{l:List Oper}(d:List Nat)(b:(H8 X.n 0 [] l&&O4 0 l)=true)(m:H9 st.e=true)
  (h:Is Γ T l l st [] fun st' rs=>Fb (H3 [] l) rs.reverse=true/\FX X (cut d st') .normal Q):VX X st (.region id l.toArray true) Q:=by
 intro G a S ho y;rw[ba] at b;obtain⟨recs,e1,Y,x,z⟩:=Ba h;rw[List.append_nil,List.reverse_reverse] at x;refine wp_region_any hm.h ?_;have f:Ext G.w { G.w with drawn:=G.w.drawn+1 }:=(Below.refl _ _).drew;obtain⟨S1,L1⟩:=S.ext f;have:=q0S q F (Q:=Q) (l:=l) (recs:=recs) (st:=st) e1 Y (Av m) b.1 b.2 x (fun G' E S' g t=>by
   obtain⟨H,S2,s,W,u⟩:=Gy d S' g t;have:=z H E S2 s u
   grind) l.length (Array.replicate l.length false) { G with w:={ G.w with drawn:=G.w.drawn+1 } } a
  (by grind) (by simp) (fun i o _ hD=>by
    by_cases hi:i<l.length
    ·simp_all
    grind) S1 (fun id=>by
    have:∀{recs:List A4} {i:Nat} {st:St},(∀j,(Array.replicate l.length false).getD j false=false)->A0 (fun k=>(Array.replicate l.length false).getD k false) i recs st=st:=by
     intro recs
     induction recs with
     | nil=>intro i st _; rfl
     | cons R r V=>grind[A0]
    rw[this (fun j=>by by_cases v:j<l.length <;> simp[v])]
    grind) (by
    have:∀{recs:List A4} {i:Nat} {st:St},(∀j,(Array.replicate l.length false).getD j false=false)->A0 (fun k=>(Array.replicate l.length false).getD k false) i recs st=st:=by
     intro recs
     induction recs with
     | nil=>intro i st _; rfl
     | cons R r V=>grind[A0]
    rw[this (fun j=>by by_cases v:j<l.length <;> simp[v])];exact y.mono L1)
 omega
end
def Gz:Option Ob->Nat->Prop
 | some (.arr _ _ _ _ v),ver=>v=ver
 | _,_=>False
theorem Yx{b:Option Ob}{ver:Nat}(h:Gz b ver):∃T fr t xs,b=some (.arr T fr t xs ver):=by
 unfold Gz at h
 grind
def Ol:Option Ob->Prop
 | some (.box _ _)=>True
 | _=>False
theorem q0E{b:Option Ob}(h:Ol b):∃T cs,b=some (.box T cs):=by
 unfold Ol at h
 grind
def SG:Option Ob->Prop
 | none=>True
 | _=>False
theorem v0I{b:Option Ob}(h:SG b):b=none:=by
 grind[SG]
def Iu:Value->Prop
 | .slice none 0 0=>True
 | _=>False
theorem Yy{u:Value}(h:Iu u):u=.slice none 0 0:=by
 grind[Iu]
def Yz:(t:Ty)->j5 t->Prop
 | .sl _,x=>x=[]
 | _,_=>False
theorem D0F{K:Nat->Prop}{w:World}:∀{t:Ty} {x:j5 t},Yz t x->RT K w t [.slice none 0 0] x
 | .sl _,x,h=>by
   have h:x=[]:=h;subst h;exact⟨none,0,rfl,Nat.le_refl _,by omega,.inl rfl⟩
def YA:Option Ob->Prop
 | some (.grd ..)=>True
 | _=>False
theorem v0G{b:Option Ob}(h:YA b):∃T Te fr t xs hole,b=some (.grd T Te fr t xs hole):=by
 unfold YA at h
 grind
def YB:Option Nat->Prop
 | none=>True
 | some _=>False
theorem m0Q{h:Option Nat}(k:YB h):h=none:=by
 cases h with
 | none=>rfl
 | some _=>exact k.elim
/- The first value may be taken for the second one. -/
mutual
def N1(o o':List (Nat×Ob)):AV->AV->Prop
 | .d fr t x,b=>match b with
   | .d fr' t' y=>(fr'=true->fr=true)/\X6 t t' x=some y
   | _=>False
 | .v x,b=>match b with
   | .v y=>x=y
   | .os id ver=>Iu x/\SG (b9 o id)/\Gz (b9 o' id) ver
   | .d _ t y=>Iu x/\Yz t y
   | _=>False
 | .os id ver,b=>match b with
   | .os id' ver'=>id=id'/\Gz (b9 o id) ver/\Gz (b9 o' id) ver'
   | _=>False
 | .ptr id off,b=>match b with
   | .ptr id' off'=>id=id'/\off=off'/\Ol (b9 o' id)
   | _=>False
 | .agg xs,b=>match b with
   | .agg ys=>Cr o o' xs ys
   | _=>False
 | .tup xs,b=>match b with
   | .tup ys=>Cr o o' xs ys
   | _=>False
 | .fn f xs,b=>match b with
   | .fn g ys=>f=g/\Cr o o' xs ys
   | _=>False
 | .og id,b=>match b with
   | .og id'=>id=id'/\YA (b9 o' id)
   | _=>False
 | _,_=>False
def Cr(o o':List (Nat×Ob)):List AV->List AV->Prop
 | [],ys=>match ys with
   | []=>True
   | _=>False
 | a :: r,ys=>match ys with
   | b :: s=>N1 o o' a b/\Cr o o' r s
   | _=>False
end
def YC(o o':List (Nat×Ob)):Option Ob->Ob->Prop
 | some (.box T cs),.box T' cs'=>T=T'/\Cr o o' cs cs'
 | some (.arr T fr t xs _),.arr T' fr' t' ys _=>T=T'/\(fr'=true->fr=true)/\X6 (.sl t) (.sl t') xs=some ys
 | none,.arr _ _ _ ys _=>ys=[]
 | some (.grd T Te fr t xs h),.grd T' Te' fr' t' ys h'=>T=T'/\Te=Te'/\YB h/\YB h'/\(fr'=true->fr=true)/\X6 (.sl (.sl t)) (.sl (.sl t')) xs=some ys
 | _,_=>False
def YD(o o':List (Nat×Ob))(b:AV):Option Sl->Prop
 | some ⟨[],a⟩=>N1 o o' a b
 | _=>False
def YE:Pa->Prop
 | []=>True
 | _=>False
theorem I0n{q:Pa}(h:YE q):q=[]:=by
 grind[YE]
def SH(o o':List (Nat×Ob))(e:List (Nat×Sl)):List (Nat×Sl)->Prop
 | []=>True
 | (t,s) :: r=>YE s.p/\YD o o' s.a (b9 e t)/\SH o o' e r
def Om(o o':List (Nat×Ob)):List (Nat×Ob)->Prop
 | []=>True
 | (i,b) :: r=>YC o o' (b9 o i) b/\Om o o' r
def pins(o':List (Nat×Ob)):List (Nat×Ob)->Prop
 | []=>True
 | (i,.box _ _) :: r=>(bif Nat.ble 500000 i then Ol (b9 o' i) else True)/\pins o' r
 | (_,.arr ..) :: r=>pins o' r
 | (_,.grd ..) :: r=>pins o' r
def On(st st':St):Prop:=SH st.o st'.o st.e st'.e/\Om st.o st'.o st'.o/\pins st'.o st.o
def Z3(G:Gh)(o':List (Nat×Ob)):Gh :=
 ⟨fun i=>match b9 G.o i with | some _=>G.ρ i | none=>.slice none 0 0,fun i=>match b9 G.o i with | some _=>G.γ i | none=>none,G.K,G.w,o',G.B,G.δ⟩
theorem Iv{G:Gh}{o':List (Nat×Ob)}{i:Nat}{b:Ob}(h:b9 G.o i=some b):(Z3 G o').ρ i=G.ρ i:=by grind[Z3]
theorem SI{G:Gh}{o':List (Nat×Ob)}{i:Nat}{b:Ob}(h:b9 G.o i=some b):(Z3 G o').γ i=G.γ i:=by grind[Z3]
theorem q0F{G:Gh}{o':List (Nat×Ob)}{i:Nat}(h:b9 G.o i=none):(Z3 G o').ρ i=.slice none 0 0:=by grind[Z3]
theorem q0G{G:Gh}{o':List (Nat×Ob)}{i:Nat}(h:b9 G.o i=none):(Z3 G o').γ i=none:=by grind[Z3]
mutual
theorem n0A{G:Gh}{o':List (Nat×Ob)}:∀{a b:AV} {u:Value},N1 G.o o' a b->AVR G a u->AVR (Z3 G o') b u
 | .d m t x,b,u,h,c=>by
   unfold N1 at h;split at h
   ·obtain⟨i,g⟩:=h;obtain⟨e,rfl⟩:=DV g;subst e;exact RT.up c (fun k n=>⟨n.1,fun e=>n.2 (i e)⟩)
   grind
 | .v x,b,u,h,c=>by
   have c:u=x:=c;unfold N1 at h;split at h
   ·exact c.trans h
   ·obtain⟨j,i,g⟩:=h;have j:=Yy j;have i:=v0I i;obtain⟨T,m,t,l,g⟩:=Yx g;subst c;subst j;exact⟨rfl,T,m,t,l,_,g,Nat.le_refl _,fun _=>(q0F i).symm⟩
   ·obtain⟨j,i⟩:=h;have j:=Yy j;subst c;subst j;exact D0F i
   grind
 | .os id ver,b,u,h,⟨j,T,m,t,l,ver',k1,k2,k3⟩=>by
   unfold N1 at h;split at h
   ·obtain⟨rfl,i,g⟩:=h;obtain⟨z,w,F,r,i⟩:=Yx i;obtain⟨y,q,E,s,g⟩:=Yx g;rw[k1] at i;cases i;exact⟨j,_,_,_,_,_,g,Nat.le_refl _,fun _=>(k3 rfl).trans (Iv k1).symm⟩
   grind
 | .ptr id off,b,u,h,⟨⟨T,cs,k1⟩,b',k2,k3⟩=>by
   unfold N1 at h;split at h
   ·obtain⟨rfl,rfl,g⟩:=h;exact⟨q0E g,b',(Iv k1).trans k2,k3⟩
   grind
 | .agg l,b,u,h,⟨us,e,c⟩=>by
   unfold N1 at h;split at h
   ·exact⟨us,e,Oo h c⟩
   grind
 | .tup l,b,u,h,⟨us,e,c⟩=>by
   unfold N1 at h;split at h
   ·exact⟨us,e,Oo h c⟩
   grind
 | .fn f l,b,u,h,⟨us,e,c⟩=>by
   unfold N1 at h;split at h
   ·obtain⟨rfl,h⟩:=h;exact⟨us,e,Oo h c⟩
   grind
 | .pel _ _ _ _ _,b,u,h,c=>by grind[N1]
 | .gel _ _,b,u,h,c=>by grind[N1]
 | .og id,b,u,h,⟨j,⟨T,Te,m,t,l,hole,k1⟩,k2⟩=>by
   unfold N1 at h;split at h
   ·obtain⟨rfl,g⟩:=h;exact⟨j,v0G g,k2.trans (Iv k1).symm⟩
   grind
 | .ow _ _ _ _,b,u,h,c=>c.elim
 | .ob _ _,b,u,h,c=>c.elim
theorem Oo{G:Gh}{o':List (Nat×Ob)}:∀{as' bs:List AV} {us:List Value},Cr G.o o' as' bs->AVRs G as' us->AVRs (Z3 G o') bs us
 | [],bs,us,h,hu=>by
   unfold Cr at h;split at h
   ·exact hu
   grind
 | a :: r,bs,us,h,⟨u,us',e,k1,k2⟩=>by
   unfold Cr at h;split at h
   ·exact⟨u,us',e,n0A h.1 k1,Oo h.2 k2⟩
   grind
end
theorem YF{o o':List (Nat×Ob)}:∀{l:List (Nat×Ob)} {i:Nat} {b:Ob},Om o o' l->b9 l i=some b->YC o o' (b9 o i) b
 | [],_,_,_,h=>by cases h
 | (j,c) :: r,i,b,h,hl=>by
   rw[lK] at hl;split at hl
   ·rename_i e; subst e; cases hl; exact h.1
   ·exact YF h.2 hl
theorem w0h{o o':List (Nat×Ob)}{e:List (Nat×Sl)}:∀{l:List (Nat×Sl)} {t:Nat} {s:Sl},SH o o' e l->b9 l t=some s->s.p=[]/\YD o o' s.a (b9 e t)
 | [],_,_,_,h=>by cases h
 | (j,c) :: r,t,s,h,hl=>by
   rw[lK] at hl;split at hl
   ·rename_i e; subst e; cases hl; exact⟨I0n h.1,h.2.1⟩
   ·exact w0h h.2.2 hl
theorem SJ{o':List (Nat×Ob)}:∀{l:List (Nat×Ob)} {i:Nat} {T:TypeId} {cs:List AV},pins o' l->b9 l (500000+i)=some (.box T cs)->Ol (b9 o' (500000+i))
 | [],_,_,_,_,h=>by cases h
 | (j,.arr ..) :: r,i,_,_,h,hl=>by
   rw[lK] at hl;split at hl
   ·cases hl
   ·exact SJ (l:=r) h hl
 | (j,.grd ..) :: r,i,_,_,h,hl=>by
   rw[lK] at hl;split at hl
   ·cases hl
   ·exact SJ (l:=r) h hl
 | (j,.box ..) :: r,i,_,_,h,hl=>by
   rw[lK] at hl;split at hl
   ·rename_i e; subst e;have:=h.1
    simp_all
   ·exact SJ h.2 hl
theorem z0m{X:Cx}{G:Gh}{o':List (Nat×Ob)}(S:Sat X G)(h:Om G.o o' o')(Q:pins o' G.o):Sat X (Z3 G o'):=by
 have g:∀{i:Nat} {b:Nat},(Z3 G o').γ i=some b->(∃c,b9 G.o i=some c)/\G.γ i=some b:=fun {i b} r=>by
  cases hl:b9 G.o i with
  | none=>grind[q0G]
  | some c=>grind[SI]
 have P:∀i,H7 (b9 o' i)=true->H7 (b9 G.o i)=true:=fun i hg=>by
  obtain⟨T,W,n,t,m,d,e⟩:=NV hg;have a:=YF h e;cases hl:b9 G.o i with
  | none=>rw[hl] at a; exact a.elim
  | some c =>
    rw[hl] at a;cases c with
    | box T w=>exact a.elim
    | arr T n t m y=>exact a.elim
    | grd T W n t m d=>rfl
 refine⟨S.base,S.os,S.tape,S.output,S.size,S.block,?_,?_,?_,?_,S.klt,S.kfrom,fun i b r hg=>?_,fun i v hv=>?_⟩
 rotate_right
 rotate_right
 ·obtain⟨s1,s2,s3,s4⟩:=S.sep i b r (P i hg);exact⟨s1,s2,fun j o ho hj=>by grind,fun j hj aB=>s4 j hj (P j aB)⟩
 ·obtain⟨⟨T,w,l⟩,b,f,q⟩:=S.pin i v hv;exact⟨q0E (SJ Q l),b,(Iv l).trans f,q⟩
 ·intro id o ho;have a:=YF h ho;cases hl:b9 G.o id with
  | none =>
    rw[hl] at a;cases o with
    | box T w=>exact a.elim
    | grd T W n t m d=>exact a.elim
    | arr T n t m y =>
      have hx:m=[]:=a;subst hx;refine⟨[],?_,rfl,fun b r=>by grind⟩;rw[q0G hl,q0F hl];exact .inl ⟨rfl,rfl,rfl,none,rfl⟩
  | some c =>
    rw[hl] at a;have:=S.obs id c hl;cases c with
    | box T w =>
      cases o with
      | arr z n t m y=>exact a.elim
      | grd T W n t m d=>exact a.elim
      | box z E =>
        obtain⟨rfl,a⟩:=a;obtain⟨b,us,l,f,q,V⟩:=this;exact⟨b,us,(SI hl).trans l,(Iv hl).trans f,q,Oo a V⟩
    | arr T n t m y =>
      cases o with
      | box z E=>exact a.elim
      | arr z H t' ys F =>
        obtain⟨rfl,l,f⟩:=a;obtain⟨e,rfl⟩:=DV f;cases e;obtain⟨w,k1,s,k3⟩:=this;refine⟨w,?_,s.mapR (fun c x hr=>RT.up hr (fun k u=>⟨u.1,fun e=>u.2 (l e)⟩)),fun b r=>k3 b (g r).2⟩;rw[SI hl,Iv hl];exact k1
      | grd T W n t m d=>exact a.elim
    | grd T W n t m d =>
      cases o with
      | box z E=>exact a.elim
      | arr z H t' ys F=>exact a.elim
      | grd z Te' H t' ys aA =>
        obtain⟨rfl,rfl,e1,e2,l,f⟩:=a;have e1:=m0Q e1;have e2:=m0Q e2;subst e1; subst e2;obtain⟨e,rfl⟩:=DV f;cases e;obtain⟨vs,bs,k1,s,k3⟩:=this;refine⟨vs,bs,by rw[SI hl,Iv hl]; exact k1,⟨s.len,s.blk,s.inj,fun k u hh=>?_,s.one⟩,fun b r=>k3 b (g r).2⟩;obtain⟨w,r1,r2,r3⟩:=s.row k u hh;exact⟨w,r1,r2.mapR (fun c x hr=>RT.up hr (fun k u=>⟨u.1,fun e=>u.2 (l e)⟩)),r3⟩
 ·intro i i' o1 o2 b l f q V;obtain⟨⟨c,a⟩,q⟩:=g q;obtain⟨⟨c',Y⟩,V⟩:=g V;exact S.inj i i' c c' b a Y q V
 ·intro i o1 b l f;obtain⟨⟨c,a⟩,f⟩:=g f;exact S.imm i c b a f
 ·intro i o1 b l f;obtain⟨⟨c,a⟩,f⟩:=g f;exact S.own i c b a f
theorem YG{X:Cx}{G:Gh}{st st':St}{a:Act}(h:On st st')(S:Sat X G)(m:G.o=st.o)(b:EnvR X.n G st.e a):∃G',Sat X G'/\G'.o=st'.o/\G'.w=G.w/\EnvR X.n G' st'.e a:=by
 obtain⟨g,d,f⟩:=h;rw[<- m] at g d f;refine⟨Z3 G st'.o,z0m S d f,rfl,rfl,b.defers,b.size,fun t s j=>?_⟩;obtain⟨i,c⟩:=w0h g j;rw[i];refine⟨fun _=>?_,fun k=>(k (fun _ h=>by cases h)).elim⟩;unfold YD at c;split at c
 ·rename_i q l;exact n0A c ((b.val t _ l).1 (fun _ h=>by cases h))
 grind
section
variable {X:Cx} {st:St} {Q:Exit->Act->World->Prop}
def SK(X:Cx){σ:Type}(E:σ->St)(J:σ->Prop)(μ:σ->Nat)(s:σ)(Q:Exit->Act->World->Prop):Exit->Act->World->Prop
 | .normal,a,w=>∃s',μ s'<μ s/\J s'/\∃G,Sat X G/\G.o=(E s').o/\G.w=w/\EnvR X.n G (E s').e a
 | e,a,w=>Q e a w
theorem C0j{c:Code}(st':St)(h:On st st')(k:VX X st' c Q):VX X st c Q:=fun G a S j e=>by
 obtain⟨g,f,d,i,b⟩:=YG h S j e;have:=k g a f d b
 grind
theorem C0i{b:Code}{g:Type}(E:g->St)(J:g->Prop)(d:g->Nat)(f:g)(P:J f)(i:On st (E f))
  (c:∀s,J s->VX X (E s) b (SK X E J d s Q)):VX X st (.loop b) Q:=by
 intro G a S k h;obtain⟨v,z,j,q,l⟩:=YG i S k h;refine wp_loop_ghost (fun m a w=>∃s,d s=m/\J s/\∃G,Sat X G/\G.o=(E s).o/\G.w=w/\EnvR X.n G (E s).e a) (d f) ⟨f,rfl,P,v,z,j,q,l⟩ ?_;rintro m a w ⟨s,rfl,F,G,S,k,rfl,h⟩;refine wp_mono (c s F G a S k h) ?_;intro x T V r;cases x with
 | normal =>
   obtain⟨t,y,H,u⟩:=r;exact⟨d t,y,t,rfl,H,u⟩
 | _=>exact r
theorem E0g{b:Type}{E:b->St}{J:b->Prop}{e:b->Nat}{s:b}(c:b)(l:J c)(f:e c<e s)(i:On st (E c)):FX X st .normal (SK X E J e s Q):=fun G a S n j=>by
 obtain⟨m,k,g,h,d⟩:=YG i S n j;exact⟨c,f,l,m,k,g,h,d⟩
theorem n0n{b:Type}{E:b->St}{J:b->Prop}{c:b->Nat}{s:b}{id:Nat}(h:FX X st (.exit id) Q):FX X st (.exit id) (SK X E J c s Q):=fun G a S d e=>h G a S d e
theorem o0P{b:Type}{E:b->St}{J:b->Prop}{c:b->Nat}{s:b}(h:FX X st .ret Q):FX X st .ret (SK X E J c s Q):=fun G a S d e=>h G a S d e
end
def K3:Nat->(ps:List Par)->r9 ps->List (Nat×Sl)
 | _,[],_=>[]
 | i,.dat t :: r,x=>(i,⟨[],.d false t x.1⟩) :: K3 (i+1) r x.2
 | i,.agg t :: r,x=>(i,⟨[],.agg (o8 false t x.1)⟩) :: K3 (i+1) r x.2
 | i,.fn f c :: r,x=>(i,⟨[],.fn f (o8 false c x.1)⟩) :: K3 (i+1) r x.2
 | i,.nof f :: r,x=>(i,⟨[],.fn f []⟩) :: K3 (i+1) r x.2
 | i,.nil :: r,x=>(i,⟨[],.v (.pointer none)⟩) :: K3 (i+1) r x.2
 | i,.io _ _ :: r,x=>(i,⟨[],.ptr (500000+i) 0⟩) :: K3 (i+1) r x.2
 | i,.os _ _ :: r,x=>(i,⟨[],.os (500000+i) 0⟩) :: K3 (i+1) r x.2
def H4:Nat->(ps:List Par)->r9 ps->List (Nat×Ob)
 | _,[],_=>[]
 | i,.io T t :: _,x=>[(500000+i,.box T (o8 false t x.1))]
 | i,.os E t :: _,x=>[(500000+i,.arr E true t x.1 0)]
 | i,.dat _ :: r,x=>H4 (i+1) r x.2
 | i,.agg _ :: r,x=>H4 (i+1) r x.2
 | i,.fn _ _ :: r,x=>H4 (i+1) r x.2
 | i,.nof _ :: r,x=>H4 (i+1) r x.2
 | i,.nil :: r,x=>H4 (i+1) r x.2
def r5:Nat->List Par->Option Nat->Option (Nat×Value)
 | _,[],_=>none
 | i,.io _ _ :: _,some b=>some (i,.pointer (some ⟨b,0,none⟩))
 | _,.os _ _ :: _,_=>none
 | i,_ :: r,go=>r5 (i+1) r go
def Cs:List Par->Bool
 | []=>true
 | .io _ _ :: _=>false
 | .os _ _ :: _=>false
 | .dat _ :: r=>Cs r
 | .agg _ :: r=>Cs r
 | .fn _ _ :: r=>Cs r
 | .nof _ :: r=>Cs r
 | .nil :: r=>Cs r
def Z5:List Par->Bool
 | []=>true
 | .io _ _ :: r=>Cs r
 | .os _ _ :: r=>Cs r
 | .dat _ :: r=>Z5 r
 | .agg _ :: r=>Z5 r
 | .fn _ _ :: r=>Z5 r
 | .nof _ :: r=>Z5 r
 | .nil :: r=>Z5 r
theorem Iw:∀{ps:List Par} {i:Nat} {x:r9 ps},Cs ps=true->H4 i ps x=[]
 | [],_,_,_=>rfl
 | .io _ _ :: _,_,_,h=>by cases h
 | .os _ _ :: _,_,_,h=>by cases h
 | .dat _ :: r,i,x,h=>Iw (ps:=r) (i:=i+1) h
 | .agg _ :: r,i,x,h=>Iw (ps:=r) (i:=i+1) h
 | .fn _ _ :: r,i,x,h=>Iw (ps:=r) (i:=i+1) h
 | .nof _ :: r,i,x,h=>Iw (ps:=r) (i:=i+1) h
 | .nil :: r,i,x,h=>Iw (ps:=r) (i:=i+1) h
theorem Kz{K:Nat->Prop}{w:World}{go:Option Nat}:∀{ps:List Par} {z:B6 ps},Cs ps=true->IOR K w go ps z
 | [],_,_=>trivial
 | .io _ _ :: _,_,h=>by cases h
 | .os _ _ :: _,_,h=>by cases h
 | .dat _ :: r,z,h=>Kz (ps:=r) h
 | .agg _ :: r,z,h=>Kz (ps:=r) h
 | .fn _ _ :: r,z,h=>Kz (ps:=r) h
 | .nof _ :: r,z,h=>Kz (ps:=r) h
 | .nil :: r,z,h=>Kz (ps:=r) h
theorem KA:∀{ps:List Par},Cs ps=true->¬F0 ps=true
 | [],_=>fun e=>by cases e
 | .io _ _ :: _,h=>by cases h
 | .os _ _ :: _,h=>by cases h
 | .dat _ :: r,h=>KA (ps:=r) h
 | .agg _ :: r,h=>KA (ps:=r) h
 | .fn _ _ :: r,h=>KA (ps:=r) h
 | .nof _ :: r,h=>KA (ps:=r) h
 | .nil :: r,h=>KA (ps:=r) h
theorem KB{K:Nat->Prop}{w:World}{go:Option Nat}:∀{ps:List Par} {z:B6 ps},Z5 ps=true->F0 ps=true->IOR K w go ps z
 | [],_,_,_=>trivial
 | .io _ _ :: r,_,h,g=>(KA (ps:=r) h g).elim
 | .os _ _ :: r,_z,h,_=>Kz (ps:=r) h
 | .dat _ :: r,_z,h,g=>KB (ps:=r) h g
 | .agg _ :: r,_z,h,g=>KB (ps:=r) h g
 | .fn _ _ :: r,_z,h,g=>KB (ps:=r) h g
 | .nof _ :: r,_z,h,g=>KB (ps:=r) h g
 | .nil :: r,_z,h,g=>KB (ps:=r) h g
theorem Ix:∀{ps:List Par},Cs ps=true->Z5 ps=true
 | [],_=>rfl
 | .io _ _ :: _,h=>by cases h
 | .os _ _ :: _,h=>by cases h
 | .dat _ :: r,h=>Ix (ps:=r) h
 | .agg _ :: r,h=>Ix (ps:=r) h
 | .fn _ _ :: r,h=>Ix (ps:=r) h
 | .nof _ :: r,h=>Ix (ps:=r) h
 | .nil :: r,h=>Ix (ps:=r) h
def Iy(o:Option (Nat×Value)):Nat->Value->Prop:=fun i v=>o=some (i,v)
def Aw:List Par->List Value->Value
 | .io _ _ :: _,v :: _=>v
 | .os _ _ :: _,v :: _=>v
 | _ :: r,_ :: us=>Aw r us
 | _,_=>undef
def Dd(K:Nat->Prop)(w:World)(go:Option Nat)(r0:Value)(B:Nat)(o:List (Nat×Ob)):Gh:=⟨fun _=>r0,fun _=>go,K,w,o,B,fun _ _=>False⟩
@[reducible] def cx (P:Program) (n:Nat) (y:World×(Nat->Prop)×(Nat->Prop)×(Nat->Value->Prop)×Nat):Cx:=⟨P,n,y.1,y.2.1,y.2.2.1,y.2.2.2.1,y.2.2.2.2⟩
def L4(ps:List Par)(w:World):Nat:=bif F0 ps then 0 else w.heap.size
theorem YH{ps:List Par}{w:World}(h:¬F0 ps=true):L4 ps w=w.heap.size:=by
 grind[L4]
theorem k0F{ps:List Par}{w:World}(h:F0 ps=true):L4 ps w=0:=by
 grind[L4]
theorem w0x(ps:List Par)(w:World):L4 ps w<=w.heap.size:=by
 by_cases h:F0 ps=true
 ·rw[k0F h]; exact Nat.zero_le _
 ·rw[YH h]; exact Nat.le_refl _
theorem SL{K:Nat->Prop}{w:World}{go:Option Nat}{r0:Value}{B:Nat}{o:List (Nat×Ob)}{t:Ty}{us:List Value}{x:j5 t}(h:RT K w t us x):RT (rg (Dd K w go r0 B o) false) (Dd K w go r0 B o).w t us x :=
 RT.up h (fun _ a=>⟨a,fun e=>by cases e⟩)
theorem GA{K:Nat->Prop}{w:World}:∀{ps:List Par} {i:Nat} {x:r9 ps} {vs:List Value} {go:Option Nat},ArgsR K w go ps x vs ->
  (H4 i ps x=[]/\go=none/\r5 i ps go=none/\¬F0 ps=true)∨(∃j b T t z cs,H4 i ps x=[(500000+j,.box T (o8 false t z))]/\go=some b/\r5 i ps go=some (j,.pointer (some ⟨b,0,none⟩))/\Aw ps vs=.pointer (some ⟨b,0,none⟩)/\Blk w b cs T/\RT K w t cs z/\¬K b) ∨
    ∃j E t,∃xs:List (j5 t),∃cs,H4 i ps x=[(500000+j,.arr E true t xs 0)]/\r5 i ps go=none/\(Aw ps vs).oneCell'=true/\Own w E (sz t) go (Aw ps vs) xs.length cs/\AllR (RT K w t) cs xs/\(∀b,go=some b->¬K b)/\F0 ps=true
 | [],i,x,vs,go,h=>.inl ⟨rfl,h.2,rfl,fun e=>by cases e⟩
 | .dat t :: r,i,x,vs,go,⟨v,us,e,_,h⟩=>by
   subst e;have:=GA (i:=i+1) h;cases go <;> exact this
 | .agg t :: r,i,x,vs,go,⟨v,us,e,_,h⟩=>by
   subst e;have:=GA (i:=i+1) h;cases go <;> exact this
 | .fn f t :: r,i,x,vs,go,⟨v,us,e,_,h⟩=>by
   subst e;have:=GA (i:=i+1) h;cases go <;> exact this
 | .nof f :: r,i,x,vs,go,⟨us,e,h⟩=>by
   subst e;have:=GA (i:=i+1) h;cases go <;> exact this
 | .nil :: r,i,x,vs,go,⟨us,e,h⟩=>by
   subst e;have:=GA (i:=i+1) h;cases go <;> exact this
 | .io T t :: r,i,x,vs,go,⟨b,cs,us,e,hgo,h1,h2,h3,h⟩=>by
   subst hgo;subst e;exact .inr (.inl ⟨i,b,T,t,x.1,cs,rfl,rfl,rfl,rfl,h2,h3,h1⟩)
 | .os E t :: r,i,x,vs,go,⟨v,cs,us,e,h1,h2,h3,h4,h⟩=>by
   subst e;exact .inr (.inr ⟨i,E,t,x.1,cs,rfl,(by cases go <;> rfl),h2,h3,h4,h1,rfl⟩)
theorem Fc{K:Nat->Prop}{w:World}{o:List (Nat×Ob)}{g0:Option Nat}{r0:Value}{B:Nat}:∀{ps:List Par} {i:Nat} {x:r9 ps} {vs:List Value} {go:Option Nat},Z5 ps=true->ArgsR K w go ps x vs->(H4 i ps x≠[]->Aw ps vs=r0)->(∀z∈H4 i ps x,b9 o z.1=some z.2) ->
  ∀t s,b9 (K3 i ps x) t=some s->i<=t/\s.p=[]/\∃u,vs[t-i]?=some u/\AVR (Dd K w g0 r0 B o) s.a u
 | [],i,x,vs,go,_,h,_,_,t,s,ht=>by cases ht
 | .dat ty :: r,i,x,vs,go,hn,⟨v,us,e,h1,h⟩,hg,hz,t,s,ht=>by
   subst e;unfold K3 at ht;rw[lK] at ht;split at ht
   ·rename_i e; subst e; cases ht; exact⟨Nat.le_refl _,rfl,v,by simp,SL h1⟩
   ·obtain⟨m,c,u,l,d⟩:=Fc (ps:=r) (i:=i+1) hn h hg hz t s ht;exact⟨by omega,c,u,by grind,d⟩
 | .agg ty :: r,i,x,vs,go,hn,⟨v,us,e,h1,h⟩,hg,hz,t,s,ht=>by
   subst e;unfold K3 at ht;rw[lK] at ht;split at ht
   ·rename_i e; subst e; cases ht; exact⟨Nat.le_refl _,rfl,_,by simp,v,rfl,AU (SL h1)⟩
   ·obtain⟨m,c,u,l,d⟩:=Fc (ps:=r) (i:=i+1) hn h hg hz t s ht;exact⟨by omega,c,u,by grind,d⟩
 | .fn f ty :: r,i,x,vs,go,hn,⟨v,us,e,h1,h⟩,hg,hz,t,s,ht=>by
   subst e;unfold K3 at ht;rw[lK] at ht;split at ht
   ·rename_i e; subst e; cases ht; exact⟨Nat.le_refl _,rfl,_,by simp,v,rfl,AU (SL h1)⟩
   ·obtain⟨m,c,u,l,d⟩:=Fc (ps:=r) (i:=i+1) hn h hg hz t s ht;exact⟨by omega,c,u,by grind,d⟩
 | .nof f :: r,i,x,vs,go,hn,⟨us,e,h⟩,hg,hz,t,s,ht=>by
   subst e;unfold K3 at ht;rw[lK] at ht;split at ht
   ·rename_i e; subst e; cases ht; exact⟨Nat.le_refl _,rfl,_,by simp,[],rfl,rfl⟩
   ·obtain⟨m,c,u,l,d⟩:=Fc (ps:=r) (i:=i+1) hn h hg hz t s ht;exact⟨by omega,c,u,by grind,d⟩
 | .nil :: r,i,x,vs,go,hn,⟨us,e,h⟩,hg,hz,t,s,ht=>by
   subst e;unfold K3 at ht;rw[lK] at ht;split at ht
   ·rename_i e; subst e; cases ht; exact⟨Nat.le_refl _,rfl,_,by simp,rfl⟩
   ·obtain⟨m,c,u,l,d⟩:=Fc (ps:=r) (i:=i+1) hn h hg hz t s ht;exact⟨by omega,c,u,by grind,d⟩
 | .io T ty :: r,i,x,vs,go,hn,⟨b,cs,us,e,hgo,h1,h2,h3,h⟩,hg,hz,t,s,ht=>by
   subst e;have k:Value.pointer (some ⟨b,0,none⟩)=r0:=hg (fun e=>by cases e);unfold K3 at ht;rw[lK] at ht;split at ht
   ·rename_i e; subst e; cases ht;exact⟨Nat.le_refl _,rfl,_,by simp,⟨_,_,hz _ (List.mem_singleton.2 rfl)⟩,b,k.symm,rfl⟩
   ·have g:H4 (i+1) r x.2=[]:=Iw hn;obtain⟨m,c,u,l,d⟩:=Fc (ps:=r) (i:=i+1) (Ix hn) h (fun e=>(e g).elim) (fun z j=>by rw[g] at j; cases j) t s ht;exact⟨by omega,c,u,by grind,d⟩
 | .os E ty :: r,i,x,vs,go,hn,⟨v,cs,us,e,h1,h2,h3,h4,h⟩,hg,hz,t,s,ht=>by
   subst e;have k:v=r0:=hg (fun e=>by cases e);unfold K3 at ht;rw[lK] at ht;split at ht
   ·rename_i e; subst e; cases ht;exact⟨Nat.le_refl _,rfl,_,by simp,h2,_,_,_,_,_,hz _ (List.mem_singleton.2 rfl),Nat.le_refl _,fun _=>k⟩
   ·have g:H4 (i+1) r x.2=[]:=Iw hn;obtain⟨m,c,u,l,d⟩:=Fc (ps:=r) (i:=i+1) (Ix hn) h (fun e=>(e g).elim) (fun z j=>by rw[g] at j; cases j) t s ht;exact⟨by omega,c,u,by grind,d⟩
theorem ArgsR.len{K:Nat->Prop}{w:World}:∀{ps:List Par} {x:r9 ps} {vs:List Value} {go:Option Nat},ArgsR K w go ps x vs->vs.length=ps.length
 | [],x,vs,go,h=>by rw[h.1]; rfl
 | .dat t :: r,x,vs,go,⟨v,us,e,_,h⟩=>by rw[e,List.length_cons,h.len]; rfl
 | .agg t :: r,x,vs,go,⟨v,us,e,_,h⟩=>by rw[e,List.length_cons,h.len]; rfl
 | .fn f t :: r,x,vs,go,⟨v,us,e,_,h⟩=>by rw[e,List.length_cons,h.len]; rfl
 | .nof f :: r,x,vs,go,⟨us,e,h⟩=>by rw[e,List.length_cons,h.len]; rfl
 | .nil :: r,x,vs,go,⟨us,e,h⟩=>by rw[e,List.length_cons,h.len]; rfl
 | .io T t :: r,x,vs,go,⟨b,cs,us,e,_,_,_,_,h⟩=>by rw[e,List.length_cons,h.len]; rfl
 | .os E t :: r,x,vs,go,⟨v,cs,us,e,_,_,_,_,h⟩=>by rw[e,List.length_cons,h.len]; rfl
theorem m0v{P:Program}{n:Nat}{K:Nat->Prop}{w:World}{ps:List Par}{x:r9 ps}{vs:List Value}{go:Option Nat}(m:∀k,K k->k<w.heap.size)(h:ArgsR K w go ps x vs) :
  Sat (cx P n ⟨w,fun k=>go=some k,K,Iy (r5 0 ps go),L4 ps w⟩) (Dd K w go (Aw ps vs) (L4 ps w) (H4 0 ps x)):=by
 have m:∀k,K k->UFg w w.heap.size k:=fun k d=>⟨m k d,fun h=>absurd (m k d) (Nat.not_lt.2 h)⟩;have q:∀i,(Dd K w go (Aw ps vs) (L4 ps w) (H4 0 ps x)).γ i=go:=fun _=>rfl;have g:=w0x ps w;rcases GA (i:=0) h with ⟨l,F,s,_⟩ | ⟨j,b,T,t,z,cs,l,F,s,hr,h1,h2,h3⟩ | ⟨j,E,t,xs,cs,l,s,h1,h2,h3,h4,hv⟩
 ·have a:∀i o,b9 (Dd K w go (Aw ps vs) (L4 ps w) (H4 0 ps x)).o i=some o->False:=fun i o e=>by
   have:b9 (H4 0 ps x) i=some o:=e;rw[l] at this; cases this
  refine⟨⟨rfl,g⟩,rfl,rfl,rfl,Nat.le_refl _,fun _ _ _=>rfl,fun i o e=>(a i o e).elim,fun i _ o _ _ e=>(a i o e).elim,fun i o _ e=>(a i o e).elim,fun i o _ e=>(a i o e).elim,m,fun k d=>.inl d,fun _ _ h=>h.elim,fun i v e=>?_⟩;have:r5 0 ps go=some (i,v):=e
  grind
 ·subst F;have a:∀i o,b9 (Dd K w (some b) (Aw ps vs) (L4 ps w) (H4 0 ps x)).o i=some o->i=500000+j/\o=.box T (o8 false t z):=fun i o e=>by
   have:b9 (H4 0 ps x) i=some o:=e;rw[l,lK] at this;split at this
   ·grind
   ·cases this
  refine⟨⟨rfl,g⟩,rfl,rfl,rfl,Nat.le_refl _,fun _ _ _=>rfl,fun i o e=>?_,fun i u o y _ e f _ _=>(a i o e).1.trans (a u y f).1.symm,fun i o r e f d=>?_,fun i o r e f=>.inr (by grind),m,fun k d=>.inl d,fun _ _ h=>h.elim,fun i v e=>?_⟩
  ·obtain⟨rfl,rfl⟩:=a i o e;exact⟨b,cs,rfl,hr,h1,AU (SL h2)⟩
  ·rw[q] at f; cases f; exact h3 d
  ·have:r5 0 ps (some b)=some (i,v):=e;rw[s] at this;cases this;refine⟨⟨T,o8 false t z,?_⟩,b,hr,rfl⟩;show b9 (H4 0 ps x) _=_;rw[l,lK,if_pos rfl]
 ·have a:∀i o,b9 (Dd K w go (Aw ps vs) (L4 ps w) (H4 0 ps x)).o i=some o->i=500000+j/\o=.arr E true t xs 0:=fun i o e=>by
   have:b9 (H4 0 ps x) i=some o:=e;rw[l,lK] at this;split at this
   ·grind
   ·cases this
  have G:=k0F (w:=w) hv;refine⟨⟨rfl,g⟩,rfl,rfl,rfl,Nat.le_refl _,fun _ _ _=>rfl,fun i o e=>?_,fun i u o y _ e f _ _=>(a i o e).1.trans (a u y f).1.symm,fun i o r e f d=>?_,fun i o r e f=>.inr (by grind),m,fun k d=>.inl d,fun _ _ h=>h.elim,fun i v e=>?_⟩
  ·obtain⟨rfl,rfl⟩:=a i o e;exact⟨cs,h2,h3.mapR (fun c x H=>RT.up H (fun k d=>⟨d,fun _=>by show L4 ps w<=k; omega⟩)),fun b _=>by show L4 ps w<=b; omega⟩
  ·rw[q] at f; exact h4 r f d
  ·have:r5 0 ps go=some (i,v):=e;rw[s] at this;cases this
/- A value as the wanted result: on what condition, the rows handed over, the objects that become data. -/
mutual
def N2(o:List (Nat×Ob)):AV->AV->Option (Prop×List (Option Nat)×List Nat)
 | a,.ow T fr t xs=>match a with
   | .os id ver=>match b9 o id with
     | some (.arr T' fr' t' ys ver')=>bif Nat.beq ver ver'&&Nat.beq T' T then some ((fr=true->fr'=true)/\X6 (.sl t') (.sl t) ys=some xs,[some id],[]) else none
     | _=>none
   | .v x=>some (Iu x/\xs=[],[none],[])
   | _=>none
 | a,.d fr t x=>match F2 o 24 t [a] with
   | some (y,l,fl)=>some ((fr=true->fl=true)/\y=x,[],l)
   | none=>none
 | a,.ob T rs=>match a with
   | .ptr id 0=>match b9 o id with
     | some (.box T' cs)=>bif Nat.beq T' T then(match De o cs rs with
       | some (q,m,f)=>some (q,some id :: m,f)
       | none=>none) else none
     | _=>none
   | _=>none
 | a,.v x=>match a with
   | .v y=>some (y=x,[],[])
   | _=>none
 | a,.agg rs=>match a with
   | .agg as'=>De o as' rs
   | _=>none
 | a,.tup rs=>match a with
   | .tup as'=>De o as' rs
   | _=>none
 | _,_=>none
def De(o:List (Nat×Ob)):List AV->List AV->Option (Prop×List (Option Nat)×List Nat)
 | as',[]=>match as' with
   | []=>some (True,[],[])
   | _=>none
 | as',r :: rs=>match as' with
   | a :: t=>match N2 o a r with
     | some (q,m,f)=>match De o t rs with
       | some (q',m',f')=>some (q/\q',m++m',f++f')
       | none=>none
     | none=>none
   | []=>none
end
def Y0(G:Gh)(mv:List (Option Nat)):List (Option Nat):=mv.map fun o=>o.bind G.γ
def YI(G:Gh)(mv:List (Option Nat)):Prop:=∀id,some id∈mv->∃o,b9 G.o id=some o
mutual
theorem SM{X:Cx}{G:Gh}(S:Sat X G){K':Nat->Prop}(j:∀k,G.K k->K' k){Kf:Bool->Nat->Prop}(n:∀fr k,rk G K' fr k->Kf fr k):∀{a r:AV} {u:Value} {q:Prop} {mv:List (Option Nat)} {fz:List Nat},N2 G.o a r=some (q,mv,fz)->q->(∀id∈fz,(∃o,b9 G.o id=some o)->∀b,G.γ id=some b->K' b)->AVR G a u ->
  ResR Kf G.w r u (Y0 G mv)/\YI G mv
 | a,.ow T fr t xs,u,q,mv,fz,h,hq,hz,f=>by
   unfold N2 at h;split at h
   ·rename_i id aG;split at h
    ·rename_i T' aD t' ys aB H;rw[ce] at h;split at h
     ·rename_i W;simp only[ba] at W;have V:=nb W.1;have P:=nb W.2;subst V; subst P;simp only[oi,pj] at h;obtain⟨rfl,rfl,rfl⟩:=h;obtain⟨g,E⟩:=hq;obtain⟨e,rfl⟩:=DV E;cases e;obtain⟨h0,T1,aF,t1,aC,aA,k1,k2,k3⟩:=f;rw[H] at k1;cases k1;have f:=k3 rfl;subst f;obtain⟨cs,g1,F,Y⟩:=S.obs id _ H;exact⟨⟨G.γ id,cs,rfl,h0,g1,F.mapR (fun c x hr=>RT.up hr (fun k s=>n fr k ⟨j k s.1,fun e=>s.2 (g e)⟩))⟩,fun i hi=>by
       grind⟩
     grind
    grind
   ·rename_i x;simp only[oi,pj] at h;obtain⟨rfl,rfl,rfl⟩:=h;obtain⟨g,rfl⟩:=hq;have g:=Yy g;have f:u=x:=f;subst f;subst g;exact⟨⟨none,[],rfl,rfl,.inl ⟨rfl,rfl,rfl,none,rfl⟩,rfl⟩,fun i hi=>by grind⟩
   grind
 | a,.d fr t x,u,q,mv,fz,h,hq,hz,f=>by
   unfold N2 at h;split at h
   ·rename_i y l fl hd;simp only[oi,pj] at h;obtain⟨rfl,rfl,rfl⟩:=h;obtain⟨g,rfl⟩:=hq;exact⟨⟨RT.up (CU S j 24 hd (fun id z=>hz id z (Gp 24 hd id z)) ⟨u,[],rfl,f,rfl⟩) (fun k s=>n fr k ⟨s.1,fun e=>s.2 (g e)⟩),rfl⟩,fun i hi=>by cases hi⟩
   grind
 | a,.ob T rs,u,q,mv,fz,h,hq,hz,f=>by
   unfold N2 at h;split at h
   ·rename_i id;split at h
    ·rename_i T' cs H;rw[ce] at h;split at h
     ·rename_i Q;have Q:=nb Q;subst Q;split at h
      ·rename_i q1 m1 f1 g;simp only[oi,pj] at h;obtain⟨rfl,rfl,rfl⟩:=h;obtain⟨_,b,hb,rfl⟩:=f;obtain⟨b',m,g1,F,Y,g4⟩:=S.obs id _ H;rw[hb] at F;cases F;obtain⟨a1,a2⟩:=SN S j n g hq hz g4;refine⟨⟨b,m,Y0 G m1,by grind[Y0],rfl,Y,a1⟩,fun i hi=>?_⟩;rcases List.mem_cons.1 hi with e | hi
       ·grind
       ·exact a2 i hi
      grind
     grind
    grind
   grind
 | a,.v x,u,q,mv,fz,h,hq,hz,f=>by
   unfold N2 at h;split at h
   ·simp only[oi,pj] at h;obtain⟨rfl,rfl,rfl⟩:=h;exact⟨⟨(show u=_ from f).trans hq,rfl⟩,fun i hi=>by cases hi⟩
   grind
 | a,.agg rs,u,q,mv,fz,h,hq,hz,f=>by
   unfold N2 at h;split at h
   ·obtain⟨m,e,f⟩:=f;obtain⟨g,E⟩:=SN S j n h hq hz f;exact⟨⟨m,e,g⟩,E⟩
   grind
 | a,.tup rs,u,q,mv,fz,h,hq,hz,f=>by
   unfold N2 at h;split at h
   ·obtain⟨m,e,f⟩:=f;obtain⟨g,E⟩:=SN S j n h hq hz f;exact⟨⟨m,e,g⟩,E⟩
   grind
 | a,.ptr _ _,u,q,mv,fz,h,hq,hz,f=>by grind[N2]
 | a,.pel _ _ _ _ _,u,q,mv,fz,h,hq,hz,f=>by grind[N2]
 | a,.os _ _,u,q,mv,fz,h,hq,hz,f=>by grind[N2]
 | a,.fn _ _,u,q,mv,fz,h,hq,hz,f=>by grind[N2]
 | a,.gel _ _,u,q,mv,fz,h,hq,hz,f=>by grind[N2]
 | a,.og _,u,q,mv,fz,h,hq,hz,f=>by grind[N2]
theorem SN{X:Cx}{G:Gh}(S:Sat X G){K':Nat->Prop}(j:∀k,G.K k->K' k){Kf:Bool->Nat->Prop}(l:∀fr k,rk G K' fr k->Kf fr k):∀{as' rs:List AV} {us:List Value} {q:Prop} {mv:List (Option Nat)} {fz:List Nat},De G.o as' rs=some (q,mv,fz)->q->(∀id∈fz,(∃o,b9 G.o id=some o)->∀b,G.γ id=some b->K' b)->AVRs G as' us ->
  ResRs Kf G.w rs us (Y0 G mv)/\YI G mv
 | as',[],us,q,mv,fz,h,hq,hz,hu=>by
   unfold De at h;split at h
   ·simp only[oi,pj] at h;obtain⟨rfl,rfl,rfl⟩:=h;exact⟨⟨hu,rfl⟩,fun i hi=>by cases hi⟩
   grind
 | as',r :: rs,us,q,mv,fz,h,hq,hz,hu=>by
   unfold De at h;split at h
   ·rename_i a t;split at h
    ·rename_i Q n P x;split at h
     ·rename_i H s F v;simp only[oi,pj] at h;obtain⟨rfl,rfl,rfl⟩:=h;obtain⟨u,d,e,c,f⟩:=hu;obtain⟨z,m⟩:=SM S j l x hq.1 (fun id g=>hz id (by grind)) c;obtain⟨E,y⟩:=SN S j l v hq.2 (fun id g=>hz id (by grind)) f;refine⟨⟨u,d,Y0 G n,Y0 G s,e,by simp[Y0],z,E⟩,fun i hi=>?_⟩;rcases List.mem_append.1 hi with h | h
      ·exact m i h
      ·exact y i h
     grind
    grind
   grind
end
def Z6(o:List (Nat×Ob)):Nat->(ps:List Par)->B6 ps->Option (Prop×List Nat×Option Nat)
 | _,[],_=>some (True,[],none)
 | i,.io T t :: _,z=>match b9 o (500000+i) with
   | some (.box T' cs)=>bif Nat.beq T' T then(match F2 o 24 t cs with
     | some (y,l,_)=>some (y=z,l,some (500000+i))
     | none=>none) else none
   | _=>none
 | i,.dat _ :: r,z=>Z6 o (i+1) r z
 | i,.agg _ :: r,z=>Z6 o (i+1) r z
 | i,.fn _ _ :: r,z=>Z6 o (i+1) r z
 | i,.nof _ :: r,z=>Z6 o (i+1) r z
 | i,.nil :: r,z=>Z6 o (i+1) r z
 | i,.os _ _ :: r,z=>Z6 o (i+1) r z
def Oq(Γ:o5)(st:St):ResultVar->Option (Prop×AV)
 | .tmp t=>match b9 st.e t with
   | some ⟨[],a⟩=>some (True,a)
   | _=>none
 | .cell t ty=>match b9 st.e t with
   | some ⟨[],p⟩=>match X7 st.o p with
     | some (cs,_)=>match b9 Γ ty with
       | some ti=>match Kr ti cs with
         | some a=>some (Ck st.o p,a)
         | none=>none
       | none=>none
     | none=>none
   | _=>none
def Iz(Γ:o5)(st:St):List ResultVar->Option (Prop×List AV)
 | []=>some (True,[])
 | r :: rs=>match Oq Γ st r with
   | some (q,a)=>match Iz Γ st rs with
     | some (q',l)=>some (q/\q',a :: l)
     | none=>none
   | none=>none
def IA(tmps:Array Value):ResultVar->Sem Value
 | .tmp t=>pure (tmps.getD t undef)
 | .cell a t=>do loadVar t (<- asAddr (tmps.getD a undef))
theorem r0Y{X:Cx}{Γ:o5}(y:w9 X.P Γ){G:Gh}{st:St}{a:Act}(S:Sat X G)(Y:G.o=st.o)(E:EnvR X.n G st.e a){r:ResultVar}{q:Prop}{b:AV}(h:Oq Γ st r=some (q,b))(T:q) :
  ∃v,(IA a.tmps r).run X.P G.w=.ok v G.w/\AVR G b v:=by
 unfold Oq at h;split at h
 ·rename_i t;split at h
  ·rename_i a0 x;simp only[oi,pj] at h;obtain⟨rfl,rfl⟩:=h;exact⟨_,rfl,(E.val t _ x).1 (fun _ h=>by cases h)⟩
  grind
 ·rename_i t f;split at h
  ·rename_i p x;split at h
   ·rename_i cs l F;split at h
    ·rename_i k s;split at h
     ·rename_i av d;simp only[oi,pj] at h;obtain⟨rfl,rfl⟩:=h;rw[<- Y] at F T;obtain⟨W,o,V,hp,j,z⟩:=XS S F T ((E.val t _ x).1 (fun _ h=>by cases h));obtain⟨hi,aA,_,_,m⟩:=y _ _ s;have m:=B0S m;have g:∀v,(loadVar f ⟨W,o,none⟩).run X.P G.w=.ok v G.w->(IA a.tmps (.cell t f)).run X.P G.w=.ok v G.w:=fun v hv=>by
       grind[undef,Array.getD_eq_getD_getElem?,IA,asAddr]
      unfold Kr at d;rw[ce] at d;split at d
      ·rename_i Q;rw[ce] at d;split at d
       ·rename_i i;simp only[oi] at d; subst d;have i:=Nat.le_of_ble_eq_true i
        haveI:RH X.P f:=⟨m.1 Q⟩
        haveI:Info X.P f k.size k.bytes k.zero:=⟨hi⟩
        have H:=z.len;exact⟨_,g _ (i0o (by grind) (XP j k.size)),V.take k.size,rfl,(z.take _).1⟩
       grind
      ·rename_i Q;split at d
       ·rename_i c r;simp only[oi] at d; subst d
        haveI:RF X.P f:=⟨m.2 (by grind)⟩
        obtain⟨u,aB,rfl,hu,_⟩:=z;exact⟨u,g _ (i0n (by simpa using j 0 u rfl)),hu⟩
       grind
     grind
    grind
   grind
  grind
theorem YJ{X:Cx}{Γ:o5}(c:w9 X.P Γ){G:Gh}{st:St}{a:Act}(S:Sat X G)(g:G.o=st.o)(f:EnvR X.n G st.e a):∀{rs:List ResultVar} {q:Prop} {bs:List AV},Iz Γ st rs=some (q,bs)->q ->
  ∃vs,(rs.mapM (IA a.tmps)).run X.P G.w=.ok vs G.w/\AVRs G bs vs/\vs.length=rs.length
 | [],q,bs,h,hq=>by
   simp only[Iz,oi,pj] at h;obtain⟨rfl,rfl⟩:=h;exact⟨[],rfl,rfl,rfl⟩
 | r :: rs,q,bs,h,hq=>by
   unfold Iz at h;split at h
   ·rename_i x b j;split at h
    ·rename_i s l i;simp only[oi,pj] at h;obtain⟨rfl,rfl⟩:=h;obtain⟨v,t,k⟩:=r0Y c S g f j hq.1;obtain⟨vs,m,d,u⟩:=YJ c S g f i hq.2;exact⟨v :: vs,by simp_all,⟨v,vs,rfl,k,d⟩,by grind⟩
    grind
   grind
def YK:List AV->AV
 | [a]=>a
 | as'=>.tup as'
def L0P:List Value->Value
 | [v]=>v
 | vs=>.tuple vs.toArray
theorem YL{G:Gh}{c:List AV}{vs:List Value}(h:AVRs G c vs):AVR G (YK c) (L0P vs):=by
 match c,vs,h with
 | [],vs,h=>have h:vs=[]:=h; subst h; exact⟨[],rfl,rfl⟩
 | [a],vs,⟨u,us,e,h1,d⟩=>have d:us=[]:=d; subst d; subst e; exact h1
 | a :: b :: r,vs,⟨u,us,e,h1,u2,us2,e2,d,h3⟩=>subst e2; subst e; exact⟨u :: u2 :: us2,rfl,u,_,rfl,h1,u2,us2,rfl,d,h3⟩
theorem YM{b:Func}{rs:List ResultVar}(c:b.results=rs.toArray){P:Program}{a:Array Value}{w:World}{vs:List Value}(h:(rs.mapM (IA a)).run P w=.ok vs w):(results b a).run P w=.ok (L0P vs) w:=by
 have d:results b a=(do
   let vs <- Array.mapM (IA a) rs.toArray
   pure (if h:vs.size=1 then vs[0] else .tuple vs)):=by
  unfold results;rw[c];congr 1
 have:(Array.mapM (IA a) rs.toArray).run P w=.ok vs.toArray w:=by
  rw[List.mapM_toArray];simp[h,Result.andThen]
 rw[d];simp only[Sem.run_bind,this,Result.andThen]
 match vs with
 | []=>rfl
 | [v]=>rfl
 | v :: u :: r=>rfl
def onceN:List (Option Nat)->Bool
 | []=>true
 | none :: r=>onceN r
 | some i :: r=>notInS i r&&onceN r
where notInS (i:Nat):List (Option Nat)->Bool
 | []=>true
 | none :: r=>notInS i r
 | some j :: r=>!(Nat.beq i j)&&notInS i r
def Ot(mv:List (Option Nat)):List Nat->Bool
 | []=>true
 | i :: r=>onceN.notInS i mv&&Ot mv r
theorem Ou{i:Nat}:∀{l:List (Option Nat)},onceN.notInS i l=true->some i ∉ l
 | [],_=>by simp
 | none :: r,h=>by
   have:=Ou (l:=r) h;simpa using this
 | some j :: r,h=>by
   simp only[onceN.notInS,ba,Bool.not_eq_true'] at h;have:=Ou h.2;simp only[List.mem_cons,oi,not_or];exact⟨fun e=>by simp_all,this⟩
theorem r0o{mv:List (Option Nat)}:∀{l:List Nat},Ot mv l=true->∀i∈l,some i ∉ mv
 | j :: r,h,i,hi=>by
   simp only[Ot,ba] at h;rcases List.mem_cons.1 hi with rfl | hi
   ·grind[Ou]
   ·exact r0o h.2 i hi
theorem SO{X:Cx}{G:Gh}(S:Sat X G):∀{mv:List (Option Nat)},onceN mv=true->YI G mv->CY (Y0 G mv)
 | [],_,_=>trivial
 | none :: r,h,ha=>⟨(fun b e=>by cases e),SO S (mv:=r) h (fun i hi=>ha i (List.mem_cons_of_mem _ hi))⟩
 | some i :: r,h,ha=>by
   simp only[onceN,ba] at h;refine⟨fun b e d=>?_,SO S h.2 (fun i hi=>ha i (List.mem_cons_of_mem _ hi))⟩;have e:G.γ i=some b:=e;obtain⟨o,g,a⟩:=List.mem_map.1 d;cases o with
   | none=>grind
   | some j =>
     have a:G.γ j=some b:=a;obtain⟨_,f⟩:=ha i (by simp);obtain⟨_,c⟩:=ha j (List.mem_cons_of_mem _ g);have:=S.inj i j _ _ b f c e a
     grind[Ou]
def SP(f:Nat->Bool):Option Nat->Bool
 | none=>true
 | some i=>f i
/- Data that lead nowhere. -/
mutual
def Fe:AV->Bool
 | .d _ t _=>D3 t
 | .ow _ _ t _=>D3 t
 | .ob _ xs=>KC xs
 | .agg xs=>KC xs
 | .tup xs=>KC xs
 | _=>true
def KC:List AV->Bool
 | []=>true
 | a :: r=>Fe a&&KC r
end
mutual
theorem ResR.kf{K K':Bool->Nat->Prop}{w:World}:∀{a:AV} {u:Value} {gs:List (Option Nat)},Fe a=true->ResR K w a u gs->ResR K' w a u gs
 | .v _,_,_,_,h=>h
 | .d fr t x,u,gs,hf,⟨h,e⟩=>⟨RT.free (by grind[Fe]) h,e⟩
 | .ow T fr t xs,u,gs,hf,⟨g,cs,h1,h2,h3,h4⟩=>⟨g,cs,h1,h2,h3,h4.mapR (fun c x h=>RT.free (by grind[Fe]) h)⟩
 | .agg xs,u,gs,hf,⟨us,e,h⟩=>⟨us,e,ResRs.kf (by grind[Fe]) h⟩
 | .ob T xs,u,gs,hf,⟨b,us,gs',e1,e2,h1,h⟩=>⟨b,us,gs',e1,e2,h1,ResRs.kf (by grind[Fe]) h⟩
 | .tup xs,u,gs,hf,⟨us,e,h⟩=>⟨us,e,ResRs.kf (by grind[Fe]) h⟩
theorem ResRs.kf{K K':Bool->Nat->Prop}{w:World}:∀{as':List AV} {us:List Value} {gs:List (Option Nat)},KC as'=true->ResRs K w as' us gs->ResRs K' w as' us gs
 | [],_,_,_,h=>h
 | a :: r,us,gs,hf,⟨u,us',g1,g2,e1,e2,h1,h2⟩=>by
   simp only[KC,ba] at hf;exact⟨u,us',g1,g2,e1,e2,ResR.kf hf.1 h1,ResRs.kf hf.2 h2⟩
end
def GB(Γ:o5)(st:St)(rs:List ResultVar)(r:AV)(ps:List Par)(z:B6 ps):Prop :=
 match Iz Γ st rs with
 | some (q0,as')=>match N2 st.o (YK as') r with
   | some (q,mv,fz)=>match Z6 st.o 0 ps z with
     | some (q',fz',pin)=>bif onceN mv&&Ot mv (fz++fz')&&SP (fun i=>Gr i (fz++fz')) pin&&(!F0 ps||Fe r)&&SP (fun i=>onceN.notInS i mv) pin then q0/\q/\q' else False
     | none=>False
   | none=>False
 | none=>False
def KD(c:Ct)(x:r9 c.ps)(w:World)(go:Option Nat)(K:Nat->Prop)(en:Ending)(w':World):Prop :=
 ∃v gs,en=.returned v/\WE go w w'/\CY gs/\(∀b,some b∈gs->w.heap.size<=b∨(F0 c.ps=true/\go=some b))/\ResR (fun fr=>Oa fr K w w' gs) w' (c.res x).r v gs /\
  IOR (fun k=>(K k∨w.heap.size<=k)/\UFg w' w.heap.size k/\some k ∉ gs/\go≠some k) w' go c.ps (c.res x).z
theorem IB{X:Cx}{G:Gh}(S:Sat X G){K' Kf:Nat->Prop}(a:∀k,G.K k->K' k)(c:∀k,K' k->Kf k){go:Option Nat}:∀{ps:List Par} {i:Nat} {z:B6 ps} {q:Prop} {fz:List Nat} {pin:Option Nat},¬F0 ps=true->Z6 G.o i ps z=some (q,fz,pin)->q->X.pin=Iy (r5 i ps go)->((∃b,go=some b)∨pin=none) ->
  (∀id∈fz,(∃o,b9 G.o id=some o)->∀b,G.γ id=some b->K' b)->IOR Kf G.w go ps z/\∀id,pin=some id->∃T cs,b9 G.o id=some (.box T cs)/\G.γ id=go
 | .os _ _ :: _,_,_,_,_,_,hv,_,_,_,_,_=>(hv rfl).elim
 | [],i,z,q,fz,pin,_,h,hq,_,_,_=>by
   simp only[Z6,oi,pj] at h;obtain⟨_,_,rfl⟩:=h;exact⟨trivial,fun _ e=>by cases e⟩
 | .io T t :: r,i,z,q,fz,pin,_,h,hq,hp,hg,hz=>by
   unfold Z6 at h;split at h
   ·rename_i P cs F;rw[ce] at h;split at h
    ·rename_i g;have g:=nb g;subst g;split at h
     ·rename_i y l W j;simp only[oi,pj] at h;obtain⟨rfl,rfl,rfl⟩:=h;obtain rfl:=hq;rcases hg with ⟨b,rfl⟩ | hg
      ·obtain⟨_,Q,x,E⟩:=S.pin i (.pointer (some ⟨b,0,none⟩)) (by rw[hp]; rfl);cases E;obtain⟨V,v,H,m,n,s⟩:=S.obs _ _ F;rw[x] at m;cases m;exact⟨⟨b,v,rfl,n,RT.up (CU S a 24 j (fun id d=>hz id d (Gp 24 j id d)) s) (fun k u=>c k u.1)⟩,fun id e=>by grind⟩
      grind
     grind
    grind
   grind
 | .dat t :: r,i,z,q,fz,pin,hv,h,hq,hp,hg,hz=>IB (ps:=r) (i:=i+1) S a c hv h hq (by cases go <;> exact hp) hg hz
 | .agg t :: r,i,z,q,fz,pin,hv,h,hq,hp,hg,hz=>IB (ps:=r) (i:=i+1) S a c hv h hq (by cases go <;> exact hp) hg hz
 | .fn f t :: r,i,z,q,fz,pin,hv,h,hq,hp,hg,hz=>IB (ps:=r) (i:=i+1) S a c hv h hq (by cases go <;> exact hp) hg hz
 | .nof f :: r,i,z,q,fz,pin,hv,h,hq,hp,hg,hz=>IB (ps:=r) (i:=i+1) S a c hv h hq (by cases go <;> exact hp) hg hz
 | .nil :: r,i,z,q,fz,pin,hv,h,hq,hp,hg,hz=>IB (ps:=r) (i:=i+1) S a c hv h hq (by cases go <;> exact hp) hg hz
theorem KE{K:Nat->Prop}{w:World}{o:List (Nat×Ob)}:∀{ps:List Par} {i:Nat} {x:r9 ps} {vs:List Value} {go:Option Nat} {z:B6 ps} {q:Prop} {fz:List Nat} {pin:Option Nat},¬F0 ps=true->ArgsR K w go ps x vs->Z6 o i ps z=some (q,fz,pin)->(go=none/\pin=none)∨∃b j,go=some b/\pin=some j
 | .os _ _ :: _,_,_,_,_,_,_,_,_,hv,_,_=>(hv rfl).elim
 | [],i,x,vs,go,z,q,fz,pin,_,ha,h=>by
   simp only[Z6,oi,pj] at h;exact .inl ⟨ha.2,h.2.2.symm⟩
 | .io T t :: r,i,x,vs,go,z,q,fz,pin,_,⟨b,_,_,_,hg,_⟩,h=>by
   grind[Z6]
 | .dat t :: r,i,x,vs,go,z,q,fz,pin,hv,⟨_,_,_,_,ha⟩,h=>KE (ps:=r) (i:=i+1) hv ha h
 | .agg t :: r,i,x,vs,go,z,q,fz,pin,hv,⟨_,_,_,_,ha⟩,h=>KE (ps:=r) (i:=i+1) hv ha h
 | .fn f t :: r,i,x,vs,go,z,q,fz,pin,hv,⟨_,_,_,_,ha⟩,h=>KE (ps:=r) (i:=i+1) hv ha h
 | .nof f :: r,i,x,vs,go,z,q,fz,pin,hv,⟨_,_,ha⟩,h=>KE (ps:=r) (i:=i+1) hv ha h
 | .nil :: r,i,x,vs,go,z,q,fz,pin,hv,⟨_,_,ha⟩,h=>KE (ps:=r) (i:=i+1) hv ha h
theorem YN{P:Program}{n:Nat}{Γ:o5}(aJ:w9 P Γ){c:Ct}{x:r9 c.ps}{w:World}{K:Nat->Prop}{go:Option Nat}{vs:List Value}(aN:Z5 c.ps=true)(ha:ArgsR K w go c.ps x vs)
  {fn:Func} {rs:List ResultVar} (hr:fn.results=rs.toArray) {st:St} (h:GB Γ st rs (c.res x).r c.ps (c.res x).z) :
  ∀G a,Sat (cx P n ⟨w,fun k=>go=some k,K,Iy (r5 0 c.ps go),L4 c.ps w⟩) G->G.o=st.o->EnvR n G st.e a->a.defers=[]/\∃v,(results fn a.tmps).run P G.w=.ok v G.w/\KD c x w go K (.returned v) G.w:=by
 intro G a S ho hE;unfold GB at h;split at h
 ·rename_i q0 aT h0;split at h
  ·rename_i q E fz i;split at h
   ·rename_i q' aC aP Q;rw[ce] at h;split at h
    ·rename_i u;simp only[ba] at u;obtain⟨⟨⟨⟨aD,aK⟩,aG⟩,aB⟩,aF⟩:=u;obtain⟨aI,hq,aH⟩:=h;obtain⟨us,e1,hu,_⟩:=YJ (X:=cx P n ⟨w,fun k=>go=some k,K,Iy (r5 0 c.ps go),L4 c.ps w⟩) aJ S ho hE h0 aI;rw[<- ho] at i Q;have aQ:=r0o aK;obtain⟨_,l⟩:=SM (K':=fun _=>True) (Kf:=fun _ _=>True) S (fun _ _=>trivial) (fun _ _ _=>trivial) i hq (fun _ _ _ _ _=>trivial) (YL hu);have y:∀k,some k∈Y0 G E->∃id,some id∈E/\G.γ id=some k:=fun k d=>by
      obtain⟨o,i,Q⟩:=List.mem_map.1 d;cases o with
      | none=>cases Q
      | some id=>grind
     by_cases m:F0 c.ps=true
     ·obtain⟨hR,_⟩:=SM (K':=fun _=>True) (Kf:=fun _ _=>True) S (fun _ _=>trivial) (fun _ _ _=>trivial) i hq (fun _ _ _ _ _=>trivial) (YL hu);rw[m,Bool.not_true,Bool.false_or] at aB;refine⟨hE.defers,_,YM hr e1,_,Y0 G E,rfl,⟨S.os,S.tape,S.output,S.size,fun k d hg=>S.block k d hg⟩,SO S aD l,fun b u=>?_,ResR.kf aB hR,KB aN m⟩;obtain⟨j,H,F⟩:=y b u;obtain⟨_,W⟩:=l j H;rcases S.own j _ b W F with h | h
      ·grind
      grind
     have aL:=YH (w:=w) m;have Y:=KE m ha Q;obtain⟨_,s⟩:=IB (K':=fun _=>True) (Kf:=fun _=>True) (go:=go) S (fun _ _=>trivial) (fun _ _=>trivial) m Q aH rfl (by
      grind) (fun _ _ _ _ _=>trivial)
     have aU:∀id∈fz++aC,∀o,b9 G.o id=some o->∀k,G.γ id=some k->w.heap.size<=k/\UFg G.w w.heap.size k/\some k ∉ Y0 G E/\go≠some k:=fun id aA o f k d=>by
      have aM:go≠some k:=fun e=>by
       rcases Y with ⟨h,_⟩ | ⟨b,j,h,hj⟩
       ·grind
       ·obtain⟨T,cs,k1,k2⟩:=s j hj;have:=S.inj id j _ _ k f k1 d (k2.trans e);subst this;rw[hj] at aG;exact Ip aG aA
      refine⟨?_,?_,?_,aM⟩
      ·rcases S.own id o k f d with h | h
       ·exact h
       grind
      ·have:=S.obs id o f;cases o with
       | box T cs=>obtain⟨b',us,i,Q,h3,h4⟩:=this; rw[d] at i; cases i; exact(XK h3).g
       | arr T fr t xs aS=>obtain⟨cs,i,Q,_⟩:=this; rw[d] at i; exact(Gk i).g
       | grd T Te fr t xs aO=>obtain⟨vs,bs,i,_⟩:=this; rw[d] at i; exact(Gk i).g
      ·intro hm;obtain⟨j,H,F⟩:=y k hm;obtain⟨_,W⟩:=l j H;have:=S.inj id j _ _ k f W d F
       grind
     have aR:∀k,G.K k->(K k∨w.heap.size<=k)/\UFg G.w w.heap.size k/\some k ∉ Y0 G E/\go≠some k:=fun k d=>by
      refine⟨by
       have h:K k∨L4 c.ps w<=k:=S.kfrom k d
       rwa [aL] at h,S.klt k d,fun hm=>?_,fun e=>?_⟩
      ·obtain⟨j,H,F⟩:=y k hm;obtain⟨_,W⟩:=l j H;exact S.imm j _ k W F d
      ·rcases Y with ⟨h,_⟩ | ⟨b,j,h,hj⟩
       ·grind
       ·obtain⟨T,cs,k1,k2⟩:=s j hj;exact S.imm j _ k k1 (k2.trans e) d
     let K':Nat->Prop:=fun k=>G.K k∨∃id∈fz++aC,G.γ id=some k/\∃o,b9 G.o id=some o
     have V:∀k,K' k->(K k∨w.heap.size<=k)/\UFg G.w w.heap.size k/\some k ∉ Y0 G E/\go≠some k:=fun k d=>by
      grind
     obtain⟨hR,_⟩:=SM (K':=K') (Kf:=fun fr=>Oa fr K w G.w (Y0 G E)) S (fun _ h=>.inl h) (fun fr k d=>by
      obtain⟨a1,a2,a3,_⟩:=V k d.1;refine⟨?_,a2,a3⟩;cases fr with
      | false =>
        grind
      | true=>exact .inr (by
        have h:G.B<=k:=d.2 rfl;have e:G.B=L4 c.ps w:=S.base.1;omega)) i hq (fun id aA ⟨o,f⟩ b u=>.inr ⟨id,by grind,u,o,f⟩) (YL hu)
     obtain⟨hI,_⟩:=IB (K':=K') (Kf:=fun k=>(K k∨w.heap.size<=k)/\UFg G.w w.heap.size k/\some k ∉ Y0 G E/\go≠some k) (go:=go) S (fun _ h=>.inl h) V m Q aH rfl (by
      grind) (fun id aA ⟨o,f⟩ b u=>.inr ⟨id,by grind,u,o,f⟩)
     refine⟨hE.defers,_,YM hr e1,_,Y0 G E,rfl,⟨S.os,S.tape,S.output,S.size,fun k d hg=>S.block k d hg⟩,SO S aD l,fun b u=>?_,hR,hI⟩;obtain⟨j,H,F⟩:=y b u;obtain⟨_,W⟩:=l j H;rcases S.own j _ b W F with h | h
     ·grind
     ·have h:go=some b:=h;rcases Y with ⟨h',_⟩ | ⟨b',i',h',hj⟩
      ·grind
      ·obtain⟨T,cs,k1,k2⟩:=s i' hj;have:=S.inj i' j _ _ b k1 W (k2.trans h) F;subst this;rw[hj] at aF;exact(Ou aF H).elim
    grind
   grind
  grind
 grind
def wfs:(ps:List Par)->r9 ps->Prop
 | [],_=>True
 | .dat t :: r,x=>wf t x.1/\wfs r x.2
 | .agg t :: r,x=>wf t x.1/\wfs r x.2
 | .fn _ c :: r,x=>wf c x.1/\wfs r x.2
 | .nof _ :: r,x=>wfs r x.2
 | .nil :: r,x=>wfs r x.2
 | .io _ t :: r,x=>wf t x.1/\wfs r x.2
 | .os _ t :: r,x=>wf (.sl t) x.1/\wfs r x.2
theorem B0I{K:Nat->Prop}{w:World}{E s:Nat}{t:Ty}{g:Option Nat}{v:Value}{cs:List Value}{xs:List (j5 t)}(h:Own w E s g v xs.length cs)(d:AllR (RT K w t) cs xs):wf (.sl t) xs:=by
 refine⟨?_,fun x a=>?_⟩
 ·rcases h with ⟨_,h,_⟩ | ⟨b,o,cap,cur,_,_,_,h1,h2,_⟩
  ·omega
  grind[maxLen,Nat.le_trans]
 ·obtain⟨c,e⟩:=d.mem x a;exact RT.wf e
theorem ArgsR.wfs{K:Nat->Prop}{w:World}:∀{ps:List Par} {x:r9 ps} {vs:List Value} {go:Option Nat},ArgsR K w go ps x vs->Xv.wfs ps x
 | [],_x,_vs,_go,_h=>trivial
 | .dat _t :: _r,_x,_vs,_go,⟨_v,_us,_e,h1,h⟩=>⟨RT.wf h1,ArgsR.wfs h⟩
 | .agg _t :: _r,_x,_vs,_go,⟨_v,_us,_e,h1,h⟩=>⟨RT.wf h1,ArgsR.wfs h⟩
 | .fn _f _t :: _r,_x,_vs,_go,⟨_v,_us,_e,h1,h⟩=>⟨RT.wf h1,ArgsR.wfs h⟩
 | .nof _f :: r,_x,_vs,_go,⟨_us,_e,h⟩=>ArgsR.wfs (ps:=r) h
 | .nil :: r,_x,_vs,_go,⟨_us,_e,h⟩=>ArgsR.wfs (ps:=r) h
 | .io _T _t :: _r,_x,_vs,_go,⟨_b,_cs,_us,_e,_,_,_,h1,h⟩=>⟨RT.wf h1,ArgsR.wfs h⟩
 | .os _E _t :: _r,_x,_vs,_go,⟨_v,_cs,_us,_e,_,_,h1,h2,h⟩=>⟨B0I h1 h2,ArgsR.wfs h⟩
theorem K0y{P:Program}{Γ:o5}(V:w9 P Γ){c:Ct}{v:Func}{e:Code}{n:Nat}(rs:List ResultVar)(hf:P.funcs[c.f]?=some v)(hn:v.ntmps=n)(hb:v.body=some e)(hr:v.results=rs.toArray)(he:Ar P c.f=true)(d:(Nat.ble c.ps.length n&&Z5 c.ps)=true)
  (h:∀y x,(c.res x).q->Xv.wfs c.ps x->∀Q,(∀st,GB Γ st rs (c.res x).r c.ps (c.res x).z->FX (cx P n y) st .normal Q/\FX (cx P n y) st .ret Q)->VX (cx P n y) ⟨K3 0 c.ps x,H4 0 c.ps x⟩ e Q):Ok P c:=by
 refine⟨he,fun x hq w m F K hK g=>?_⟩;rw[ba] at d;obtain⟨d,l⟩:=d;have d:=Nat.le_of_ble_eq_true d;have aA:=g.len;refine calls_of_wp hf hb ?_;have:=h ⟨w,fun k=>F=some k,K,Iy (r5 0 c.ps F),L4 c.ps w⟩ x hq g.wfs (bodyPost P v (KD c x w F K)) (fun st H=>?_) (Dd K w F (Aw c.ps m) (L4 c.ps w) (H4 0 c.ps x)) { tmps:=m.toArray++Array.replicate (v.ntmps-m.toArray.size) undef,defers:=[] } (m0v hK g) rfl ⟨rfl,by grind,fun t s ht=>?_⟩
 ·exact this
 ·exact⟨fun G a S Y X=>YN V l g hr H G a S Y X,fun G a S Y X=>YN V l g hr H G a S Y X⟩
 ·obtain⟨_,a2,u,a3,a4⟩:=Fc (i:=0) (o:=H4 0 c.ps x) (r0:=Aw c.ps m) (B:=L4 c.ps w) (g0:=F) l g (fun _=>rfl) (fun z hz=>by
   rcases GA (i:=0) g with ⟨W,_⟩ | ⟨j,b,T,t,z',cs,W,_⟩ | ⟨j,E,t,xs,cs,W,_⟩
   ·grind
   ·rw[W] at hz ⊢;cases List.mem_singleton.1 hz;rw[lK,if_pos rfl]
   ·rw[W] at hz ⊢;cases List.mem_singleton.1 hz;rw[lK,if_pos rfl]) t s ht
  rw[a2];refine⟨fun _=>?_,fun hn=>(hn (fun _ h=>by cases h)).elim⟩;have aB:t<m.length:=by
   rcases Nat.lt_or_ge t m.length with h' | h'
   ·exact h'
   ·grind
  rw[Array.getD_eq_getD_getElem?,Array.getElem?_append_left (by omega)]
  grind
def KF:Option AV->Bool
 | some (.pel ..)=>false
 | some (.gel ..)=>false
 | _=>true
theorem YO{o:List (Nat×Ob)}{v:AV}(h:KF (some v)=true):Ck o v:=by
 cases v <;> first | trivial | cases h
def Bb(st:St)(p:Pa):Op->Bool
 | .move _ | .assign _ | .pick .. | .unOp .not .. | .fieldAddr .. | .field .. | .extract .. | .makeFunc .. | .build .. | .alloc _ | .box .. | .buildSlice ..=>true
 | .call ⟨.builtin .len,_,_⟩ | .call ⟨.builtin .min,_,_⟩ | .call ⟨.builtin .max,_,_⟩=>true
 | .load _ x | .nilCheck x | .store _ x _=>KF (rd st p x)
 | .binOp .eql .. | .binOp .neq .. | .binOp .lss .. | .binOp .leq .. | .binOp .gtr .. | .binOp .geq ..=>true
 | _=>false
theorem I0t{k a:IntKind}{b:Bool}{q:Prop}{r:AV}(h:CV k a b=some (q,r)):q:=by
 grind[CV]
theorem I0A{b:Option TI}{a:BinOp}{u v r:AV}{q:Prop}(c:(match a with | .eql | .neq | .lss | .leq | .gtr | .geq=>true | _=>false)=true)(h:NY b a u v=some (q,r)):q:=by
 unfold NY at h
 grind[I0t,oi,pj,absurd]
theorem I0G{Γ:o5}{st:St}{p:Pa}{c:Op}{q:Prop}{r:AV}{l:List Nat}(a:Bb st p c=true)(h:I2 Γ st p c=some (q,r,l)):q:=by
 unfold I2 at h;split at h
 case h_5 op' T x y n =>
  split at h
  ·split at h
   ·rename_i d;simp only[oi,pj] at h;obtain⟨rfl,_⟩:=h;refine I0A ?_ d;cases op' <;> first | rfl | exact a
   grind
  grind
 case h_3 x =>
  split at h
  ·rename_i v b;split at h
   ·simp only[oi,pj] at h;obtain⟨rfl,_⟩:=h;exact YO (by rw[<- b]; exact a)
   grind
  grind
 all_goals try (simp[Bb] at a; done)
 case h_10 T x =>
  split at h
  ·rename_i v f b e;split at h
   ·split at h
    ·simp only[oi,pj] at h;obtain⟨rfl,_⟩:=h;exact YO (by rw[<- b]; exact a)
    grind
   grind
  grind
 all_goals (repeat' (split at h))
 all_goals first
  | cases h; done
  | (simp only[oi,pj] at h; rw[<- h.1]; trivial)
  | (rw[ce] at h
     split at h
     ·grind
     ·cases h)
theorem I0I{Γ:o5}{st:St}{p:Pa}{d:Nat}{a:Op}{q:Prop}{r:AV}{w:Nat×Ob}{l:List Nat}(b:Bb st p a=true)(h:AZ Γ st p d a=some (q,r,w,l)):q:=by
 unfold AZ at h
 grind[Bb]
theorem I0F{Γ:o5}{st:St}{p:Pa}{a:Op}{q:Prop}{w:Nat×Ob}{l:List Nat}(b:Bb st p a=true)(h:Cm Γ st p a=some (q,w,l)):q:=by
 unfold Cm at h
 grind[Bb,KF]
theorem I0J{Γ:o5}{st:St}{p:Pa}{d:Nat}{a:Op}{r:Prop×AV×List (Nat×Ob)×List Nat}(b:Bb st p a=true)(h:BE Γ st p d a=some r):False:=by
 unfold BE at h
 grind[Bb,KF]
theorem E0N{Γ:o5}{st:St}{p:Pa}{a:Op}{r:Prop×List (Nat×Ob)×List Nat}(b:Bb st p a=true)(h:Cp Γ st p a=some r):False:=by
 unfold Cp at h
 grind[Bb,KF]
theorem I0H{Γ:o5}{T:List Ct}{st:St}{p:Pa}{o:Oper}{q:Prop}{av:Option AV}{obs:List (Nat×Ob)}{l:List Nat}(b:Bb st p o.op=true)(h:X9 Γ T st p o=some (q,av,obs,l)):q:=by
 have a:∀d q r obs l,Da T st p d o.op≠some (q,r,obs,l):=fun d q r obs l a=>by
  unfold Da at a
  grind[Bb]
 unfold X9 at h;split at h
 ·rw[ce] at h;split at h
  ·grind[oi,pj,I0G,I0J]
  ·rw[ce] at h
   grind[oi,pj,I0I]
 ·rw[ce] at h
  grind[oi,pj,I0F,E0N]
def L5(Γ:o5)(T:List Ct)(all:List Oper):List Oper->St->List A4->Option (Prop×St×List A4)
 | [],st,rs=>some (True,st,rs)
 | o :: r,st,rs=>match BF all st.e o with
   | some p=>match X9 Γ T st p o with
     | some (q,av,obs,fp)=>bif Co p||Co obs then(match L5 Γ T all r ⟨Cq o.dst p av st.e,obs++st.o⟩ (⟨o,p,av,obs,fp⟩ :: rs) with
       | some (V,st',rs')=>some (bif Bb st p o.op then V else(Sz st.e p q/\V),st',rs')
       | none=>none) else none
     | none=>none
   | none=>none
theorem F0u{e:List (Nat×Sl)}{p:Pa}{q:Prop}(h:q):Sz e p q:=by
 unfold Sz
 grind
theorem Z7{Γ:o5}{T:List Ct}{all:List Oper}{K:St->List A4->Prop}:∀{ops:List Oper} {st:St} {rs:List A4} {V:Prop} {st':St} {rs':List A4},L5 Γ T all ops st rs=some (V,st',rs')->V->K st' rs'->Is Γ T all ops st rs K
 | [],st,rs,V,st',rs',h,hV,hK=>by
   simp only[L5,oi,pj] at h;obtain⟨_,rfl,rfl⟩:=h;exact hK
 | o :: r,st,rs,V,st',rs',h,hV,hK=>by
   unfold L5 at h;unfold Is;split at h
   ·rename_i p d
    try (rw[d]; simp only)
    split at h
    ·rename_i q k i m c
     try (rw[c]; simp only)
     rw[ce] at h ⊢;split at h
     ·rename_i e;rw[if_pos e];split at h
      ·rename_i l j g b;simp only[oi,pj] at h;obtain⟨a,rfl,rfl⟩:=h;rw[ce] at a;split at a
       ·rename_i f;subst a;exact⟨F0u (I0H f c),Z7 b hV hK⟩
       ·subst a;exact⟨hV.1,Z7 b hV.2 hK⟩
      grind
     grind
    grind
   grind
def Ov(n:Nat)(Γ:o5)(T:List Ct)(l:List Oper)(keep:List Nat)(st:St):Option (Prop×St) :=
 bif H8 n 0 [] l&&H9 st.e then(match L5 Γ T l l st [] with
  | some (V,st',_)=>some (V,cut keep st')
  | none=>none) else none
def SQ(n:Nat)(Γ:o5)(T:List Ct)(l:List Oper)(keep:List Nat)(st:St):Option (Prop×St) :=
 bif H8 n 0 [] l&&O4 0 l&&H9 st.e then(match L5 Γ T l l st [] with
  | some (V,st',rs)=>bif Fb (H3 [] l) rs.reverse then some (V,cut keep st') else none
  | none=>none) else none
section
variable {P:Program} {n:Nat} {y:World×(Nat->Prop)×(Nat->Prop)×(Nat->Value->Prop)×Nat} {st:St} {Q:Exit->Act->World->Prop} {Γ:o5} {T:List Ct}
theorem rs(d:w9 P Γ)(e:∀c∈T,Ok P c)(a:List Nat)(st':St)(V:Prop){id:Nat}{l:List Oper}{c:Code}(h:Ov n Γ T l a st=some (V,st'))(f:V)(j:VX (cx P n y) st' c Q):VX (cx P n y) st (.seq (.region id l.toArray false) c) Q:=by
 unfold Ov at h;rw[ce] at h;split at h
 ·rename_i b;rw[ba] at b;split at h
  ·rename_i m k i g;simp only[oi,pj] at h;obtain⟨rfl,rfl⟩:=h;exact vQ (z0Y (X:=cx P n y) d e a b.1 b.2 (Z7 g f (fQ j)))
  grind
 grind
theorem re(d:w9 P Γ)(e:∀c∈T,Ok P c)(a:List Nat)(st':St)(V:Prop){id:Nat}{l:List Oper}(h:Ov n Γ T l a st=some (V,st'))(f:V)(j:FX (cx P n y) st' .normal Q):VX (cx P n y) st (.region id l.toArray false) Q:=by
 unfold Ov at h;rw[ce] at h;split at h
 ·rename_i b;rw[ba] at b;split at h
  ·rename_i m k i g;simp only[oi,pj] at h;obtain⟨rfl,rfl⟩:=h;exact z0Y (X:=cx P n y) d e a b.1 b.2 (Z7 g f j)
  grind
 grind
theorem de(d:w9 P Γ)(e:∀c∈T,Ok P c)[q:K9 P](a:List Nat)(st':St)(V:Prop){id:Nat}{l:List Oper}(h:SQ n Γ T l a st=some (V,st'))(f:V)(k:FX (cx P n y) st' .normal Q):VX (cx P n y) st (.region id l.toArray true) Q:=by
 unfold SQ at h;rw[ce] at h;split at h
 ·rename_i b;rw[ba] at b;split at h
  ·rename_i o m j g;rw[ce] at h;split at h
   ·rename_i i;simp only[oi,pj] at h;obtain⟨rfl,rfl⟩:=h;exact C0k (X:=cx P n y) d e a b.1 b.2 (Z7 g f ⟨i,k⟩)
   grind
  grind
 grind
theorem ds(b:w9 P Γ)(d:∀c∈T,Ok P c)[g:K9 P](a:List Nat)(st':St)(V:Prop){id:Nat}{l:List Oper}{c:Code}(h:SQ n Γ T l a st=some (V,st'))(e:V)(f:VX (cx P n y) st' c Q):VX (cx P n y) st (.seq (.region id l.toArray true) c) Q :=
 vQ (de b d a st' V h e (fQ f))
end
theorem D0h{P:Program}:w9 P []:=fun _ _ h=>by cases h
theorem tK{P:Program}{T:TypeId}{c:TI}{Γ:o5}(h:Ii P T c)(e:w9 P Γ):w9 P ((T,c) :: Γ):=fun d a b=>by
 rw[lK] at b;split at b
 ·grind
 ·exact e d a b
abbrev i64:Ty:=.int .i64
abbrev p(t:Nat)(a:AV):Nat×Sl:=(t,⟨[],a⟩)
abbrev I(x:Int):AV:=.d true (.int .i64) x
abbrev J(x:Int):AV:=.d false (.int .i64) x
abbrev B(x:Bool):AV:=.d true .bool x
abbrev C(x:Bool):AV:=.d false .bool x
abbrev S(x:ByteArray):AV:=.d true .str x
abbrev U(x:ByteArray):AV:=.d false .str x
abbrev D(t:Ty)(x:j5 t):AV:=.d false t x
abbrev N(t:Ty)(x:j5 t):AV:=.d true t x
abbrev L(t:Ty)(x:List (j5 t)):AV:=.d false (.sl t) x
abbrev M(t:Ty)(x:List (j5 t)):AV:=.d true (.sl t) x
abbrev nil:AV:=.v (.slice none 0 0)
theorem ev{Γ:o5}{st:St}{rs:List ResultVar}{r:AV}{ps:List Par}{z:B6 ps}(V:Prop)(h:GB Γ st rs r ps z=V)(a:V):GB Γ st rs r ps z:=h ▸ a
theorem tn{P:Program}:∀c∈([]:List Ct),Ok P c:=fun _ h=>by cases h
theorem tc{P:Program}{c:Ct}{T:List Ct}(h:Ok P c)(b:∀c∈T,Ok P c):∀c'∈c :: T,Ok P c':=fun c' a=>by
 grind
end Go.Proofs.Xv
end
section
namespace Go.Proofs.Xd
open Go Go.Proofs.Xv
theorem JX{c:Type}{a b:List c}(d:c)(e:a.length=b.length)(h:∀i,i<a.length->a.getD i d=b.getD i d):a=b:=by
 apply List.ext_getElem?
 grind
def cnt:(t:Ty)->j5 t->Nat
 | .int _,_=>0
 | .bool,_=>0
 | .str,s=>s.size
 | .sl e,xs=>xs.length+(xs.map (cnt e)).sum
 | .pt e,x=>cnt e x
 | .pr a b,x=>cnt a x.1+cnt b x.2
theorem C0b{t:Ty}{a:List (j5 t)}{i:Nat}{d:j5 t}(h:i<a.length):cnt t (a.getD i d)<=(a.map (cnt t)).sum:=by
 rw[gq,List.getElem?_eq_getElem h];have b:∀(l:List (j5 t)) (x:j5 t),x∈l->cnt t x<=(l.map (cnt t)).sum:=by
  intro l
  induction l with
  | nil=>grind
  | cons y r c =>
    grind
 simp_all
theorem J1{a b:Ty}{x:j5 (.pr a b)}:cnt (.pr a b) x=cnt a x.1+cnt b x.2:=by grind[cnt]
theorem Gb{k:IntKind}{x:Int}:cnt (.int k) x=0:=by grind[cnt]
theorem WX{x:Bool}:cnt .bool x=0:=by grind[cnt]
theorem Gc{x:ByteArray}:cnt .str x=x.size:=by grind[cnt]
theorem AQ{e:Ty}{x:List (j5 e)}:cnt (.sl e) x=x.length+(x.map (cnt e)).sum:=by grind[cnt]
theorem Ga{k:IntKind}{x:List Int}:cnt (.sl (.int k)) x=x.length:=by
 have:∀l:List Int,(l.map (cnt (.int k))).sum=0:=by
  intro l
  induction l with
  | nil=>rfl
  | cons a r b=>grind[cnt]
 grind[AQ]
end Go.Proofs.Xd
end
section
namespace Go.Proofs.Xl
def gd{ρ:Type}(V:Prop)[Decidable V](e:Option ρ):Option ρ:=if V then e else none
def lt{α β:Type}(x:α)(f:α->β):β:=f x
def vl{α:Type}[Inhabited α](o:Option α):α:=o.getD default
def c9(x:Int):Prop := -9223372036854775808<=x/\x<=9223372036854775807
instance (x:Int):Decidable (c9 x):=inferInstanceAs (Decidable (_/\_))
def ix(i:Int)(n:Nat):Prop:=0<=i/\i < (n:Int)
instance (i:Int)(n:Nat):Decidable (ix i n):=inferInstanceAs (Decidable (_/\_))
def V7:Nat:=36893488147419103232
def I9{σ ρ:Type}(F:(σ->Option ρ)->σ->Option ρ):Nat->σ->Option ρ
 | 0,_=>none
 | n+1,s=>F (I9 F n) s
def lp{σ ρ:Type}(F:(σ->Option ρ)->σ->Option ρ)(s:σ):Option ρ:=I9 F V7 s
theorem K7{ρ:Type}{V:Prop}[Decidable V]{e:Option ρ}{r:ρ}(h:gd V e=some r):V/\e=some r:=by
 grind[gd]
theorem gP{ρ:Type}{V:Prop}[Decidable V]{e:Option ρ}(h:V):gd V e=e:=if_pos h
theorem vS{a:Type}[Inhabited a](x:a):vl (some x)=x:=rfl
theorem u0y{a:Type}[Inhabited a]{o:Option a}(h:o.isSome=true):o=some (vl o):=by cases o with
 | none=>cases h
 | some x=>rfl
end Go.Proofs.Xl
namespace Go.Proofs.Xv
open Go Go.RowKit Go.Proofs.Sv Go.Proofs.Xl
def R6{α β:Type}(f:α->β):Option α->Option β
 | some x=>some (f x)
 | none=>none
theorem U3{b a:Type}{f:b->a}{o:Option b}{y:a}(h:R6 f o=some y):∃x,o=some x/\f x=y:=by
 cases o with
 | none=>cases h
 | some x=>exact⟨x,rfl,by cases h; rfl⟩
def YP(o o':List (Nat×Ob))(x:Value)(id ver:Nat):Option AV:=match x with
 | .slice none 0 0=>match b9 o id with
   | none=>match b9 o' id with
     | some (.arr _ _ _ _ v)=>bif Nat.beq v ver then some (.os id ver) else none
     | _=>none
   | _=>none
 | _=>none
def YQ(x:Value)(fr:Bool)(e:Ty):Option AV:=match x with
 | .slice none 0 0=>some (.d fr (.sl e) [])
 | _=>none
def YR(o o':List (Nat×Ob))(id ver id' ver':Nat):Option AV:=bif Nat.beq id id' then(match b9 o id with
    | some (.arr _ _ _ _ v)=>match b9 o' id with
      | some (.arr _ _ _ _ v')=>bif Nat.beq v ver&&Nat.beq v' ver' then some (.os id' ver') else none
      | _=>none
    | _=>none) else none
def wkP(o':List (Nat×Ob))(id off:Nat):Option AV:=match b9 o' id with
 | some (.box _ _)=>some (.ptr id off)
 | _=>none
def wkG(o':List (Nat×Ob))(id:Nat):Option AV:=match b9 o' id with
 | some (.grd ..)=>some (.og id)
 | _=>none
mutual
def Z9(o o':List (Nat×Ob)):AV->AV->Option AV
 | .d fr t x,b=>match b with
   | .d fr' t' _=>bif !fr'||fr then R6 (.d fr' t') (X6 t t' x) else none
   | _=>none
 | .v x,b=>match b with
   | .v _=>some (.v x)
   | .os id ver=>YP o o' x id ver
   | .d fr (.sl e) _=>YQ x fr e
   | _=>none
 | .os id ver,b=>match b with
   | .os id' ver'=>YR o o' id ver id' ver'
   | _=>none
 | .ptr id off,b=>match b with
   | .ptr _ _=>wkP o' id off
   | _=>none
 | .agg xs,b=>match b with
   | .agg ys=>R6 .agg (GC o o' xs ys)
   | _=>none
 | .tup xs,b=>match b with
   | .tup ys=>R6 .tup (GC o o' xs ys)
   | _=>none
 | .fn f xs,b=>match b with
   | .fn _ ys=>R6 (.fn f) (GC o o' xs ys)
   | _=>none
 | .og id,b=>match b with
   | .og _=>wkG o' id
   | _=>none
 | _,_=>none
def GC(o o':List (Nat×Ob)):List AV->List AV->Option (List AV)
 | [],ys=>match ys with
   | []=>some []
   | _=>none
 | a :: r,ys=>match ys with
   | b :: s=>match Z9 o o' a b with
     | some x=>R6 (x :: ·) (GC o o' r s)
     | none=>none
   | _=>none
end
def YS(o o':List (Nat×Ob)):Option Ob->Ob->Option Ob
 | some (.box T cs),.box _ cs'=>R6 (.box T) (GC o o' cs cs')
 | some (.arr T fr t xs _),.arr _ fr' t' _ v'=>bif !fr'||fr then R6 (fun z=>.arr T fr' t' z v') (X6 (.sl t) (.sl t') xs) else none
 | none,.arr T fr t _ v=>some (.arr T fr t [] v)
 | some (.grd T Te fr t xs none),.grd _ _ fr' t' _ none=>bif !fr'||fr then R6 (fun z=>.grd T Te fr' t' z none) (X6 (.sl (.sl t)) (.sl (.sl t')) xs) else none
 | _,_=>none
def SR(o o':List (Nat×Ob))(e:List (Nat×Sl)):List (Nat×Sl)->Option (List (Nat×Sl))
 | []=>some []
 | (t,s) :: r=>match s.p,b9 e t with
   | [],some ⟨[],a⟩=>match Z9 o o' a s.a with
     | some x=>R6 ((t,⟨[],x⟩) :: ·) (SR o o' e r)
     | none=>none
   | _,_=>none
def SS(o o':List (Nat×Ob)):List (Nat×Ob)->Option (List (Nat×Ob))
 | []=>some []
 | (i,b) :: r=>match YS o o' (b9 o i) b with
   | some x=>R6 ((i,x) :: ·) (SS o o' r)
   | none=>none
def KG(o':List (Nat×Ob)):List (Nat×Ob)->Bool
 | []=>true
 | (i,.box _ _) :: r=>(bif Nat.ble 500000 i then(match b9 o' i with | some (.box _ _)=>true | _=>false) else true)&&KG o' r
 | (_,.arr ..) :: r=>KG o' r
 | (_,.grd ..) :: r=>KG o' r
def GD(a b:St):Option St:=match SR a.o b.o a.e b.e with
 | some e=>match SS a.o b.o b.o with
   | some o=>bif KG b.o a.o then some ⟨e,o⟩ else none
   | none=>none
 | none=>none
theorem F0r{o o':List (Nat×Ob)}{x:Value}{id ver:Nat}(h:YP o o' x id ver=some (.os id ver)):Iu x/\SG (b9 o id)/\Gz (b9 o' id) ver:=by
 unfold YP at h;split at h
 ·split at h
  ·rename_i a;split at h
   ·rename_i b;rw[ce] at h;split at h
    ·rename_i c;have:=nb c;subst this;rw[a,b];exact⟨trivial,trivial,rfl⟩
    grind
   grind
  grind
 grind
theorem F0p{o o':List (Nat×Ob)}{id ver b a:Nat}(h:YR o o' id ver b a=some (.os b a)):id=b/\Gz (b9 o id) ver/\Gz (b9 o' id) a:=by
 unfold YR at h;rw[ce] at h;split at h
 ·rename_i c;split at h
  ·rename_i f;split at h
   ·rename_i e;rw[ce] at h;split at h
    ·rename_i d;rw[ba] at d;have i:=nb d.1;have g:=nb d.2;subst i; subst g;rw[f,e];exact⟨nb c,rfl,rfl⟩
    grind
   grind
  grind
 grind
theorem F0s{x:Value}{fr:Bool}{e:Ty}{y:j5 (.sl e)}(h:YQ x fr e=some (.d fr (.sl e) y)):Iu x/\Yz (.sl e) y:=by
 unfold YQ at h;split at h
 ·simp only[oi,AV.d.injEq,heq_eq_eq,true_and] at h;exact⟨trivial,h.symm⟩
 grind
theorem YT{a b:Bool}(h:(!a||b)=true):a=true->b=true:=by
 grind
mutual
theorem z0W{o o':List (Nat×Ob)}:∀{a b:AV},Z9 o o' a b=some b->N1 o o' a b
 | .d fr t x,b,h=>by
   unfold Z9 at h;unfold N1;split at h
   ·rename_i g i y;rw[ce] at h;split at h
    ·rename_i j;obtain⟨z,c,e⟩:=U3 h
     grind
    grind
   grind
 | .v x,b,h=>by
   unfold Z9 at h
   grind[N1,F0r,F0s]
 | .os id ver,b,h=>by
   unfold Z9 at h
   grind[N1,F0p]
 | .ptr id off,b,h=>by
   unfold Z9 at h;unfold N1;split at h
   ·unfold wkP at h;split at h
    ·rename_i c;simp only[oi,AV.ptr.injEq] at h;obtain⟨rfl,rfl⟩:=h;exact⟨rfl,rfl,by rw[c]; trivial⟩
    grind
   grind
 | .agg xs,b,h=>by
   unfold Z9 at h;unfold N1;split at h
   ·obtain⟨z,c,e⟩:=U3 h;simp only[AV.agg.injEq] at e;subst e;exact Ow c
   grind
 | .tup xs,b,h=>by
   unfold Z9 at h;unfold N1;split at h
   ·obtain⟨z,c,e⟩:=U3 h;simp only[AV.tup.injEq] at e;subst e;exact Ow c
   grind
 | .fn f xs,b,h=>by
   unfold Z9 at h;unfold N1;split at h
   ·obtain⟨z,c,e⟩:=U3 h;simp only[AV.fn.injEq] at e;obtain⟨rfl,rfl⟩:=e;exact⟨rfl,Ow c⟩
   grind
 | .pel ..,b,h=>by grind[Z9]
 | .gel ..,b,h=>by grind[Z9]
 | .og id,b,h=>by
   unfold Z9 at h;unfold N1;split at h
   ·unfold wkG at h;split at h
    ·rename_i c;simp only[oi,AV.og.injEq] at h;subst h;exact⟨rfl,by rw[c]; trivial⟩
    grind
   grind
 | .ow ..,b,h=>by grind[Z9]
 | .ob ..,b,h=>by grind[Z9]
theorem Ow{o o':List (Nat×Ob)}:∀{as' bs:List AV},GC o o' as' bs=some bs->Cr o o' as' bs
 | [],bs,h=>by
   grind[GC,Cr]
 | a :: r,bs,h=>by
   unfold GC at h;unfold Cr;split at h
   ·split at h
    ·rename_i x d;obtain⟨z,c,b⟩:=U3 h;simp only[List.cons.injEq] at b;obtain⟨rfl,rfl⟩:=b;exact⟨z0W d,Ow c⟩
    grind
   grind
end
theorem F0q{o o':List (Nat×Ob)}{a:Option Ob}{b:Ob}(h:YS o o' a b=some b):YC o o' a b:=by
 unfold YS at h;split at h
 ·obtain⟨z,d,c⟩:=U3 h;simp only[Ob.box.injEq] at c;obtain⟨rfl,rfl⟩:=c;exact⟨rfl,Ow d⟩
 ·rw[ce] at h;split at h
  ·rename_i e;obtain⟨z,d,c⟩:=U3 h;simp only[Ob.arr.injEq,heq_eq_eq,true_and,and_true] at c;obtain⟨rfl,rfl⟩:=c;exact⟨rfl,YT e,d⟩
  grind
 ·simp only[oi,Ob.arr.injEq,heq_eq_eq,true_and,and_true] at h;exact h.symm
 ·rw[ce] at h;split at h
  ·rename_i e;obtain⟨z,d,c⟩:=U3 h;simp only[Ob.grd.injEq,heq_eq_eq,true_and,and_true] at c;obtain⟨rfl,rfl,rfl⟩:=c;exact⟨rfl,rfl,trivial,trivial,YT e,d⟩
  grind
 grind
theorem t0g{o o':List (Nat×Ob)}{e:List (Nat×Sl)}:∀{l:List (Nat×Sl)},SR o o' e l=some l->SH o o' e l
 | [],_=>trivial
 | (t,s) :: r,h=>by
   unfold SR at h;split at h
   ·rename_i g f;split at h
    ·rename_i x d;obtain⟨z,c,a⟩:=U3 h;simp only[List.cons.injEq,pj,true_and] at a;obtain⟨b,rfl⟩:=a;subst b;exact⟨trivial,by rw[f]; exact z0W d,t0g c⟩
    grind
   grind
theorem t0f{o o':List (Nat×Ob)}:∀{l:List (Nat×Ob)},SS o o' l=some l->Om o o' l
 | [],_=>trivial
 | (t,s) :: r,h=>by
   unfold SS at h;split at h
   ·rename_i x c;obtain⟨z,b,a⟩:=U3 h;simp only[List.cons.injEq,pj,true_and] at a;obtain⟨rfl,rfl⟩:=a;exact⟨F0q c,t0f b⟩
   grind
theorem SU{o':List (Nat×Ob)}:∀{l:List (Nat×Ob)},KG o' l=true->pins o' l
 | [],_=>trivial
 | (_,.arr ..) :: r,h=>SU (l:=r) h
 | (_,.grd ..) :: r,h=>SU (l:=r) h
 | (i,.box _ _) :: r,h=>by
   simp only[KG,ba] at h;refine⟨?_,SU h.2⟩;have a:=h.1;rw[ce] at a ⊢;split
   ·rename_i hi;rw[if_pos hi] at a;split at a
    ·rename_i b; rw[b]; trivial
    grind
   grind
theorem YU{a b:St}(h:GD a b=some b):On a b:=by
 unfold GD at h;split at h
 ·rename_i e d;split at h
  ·rename_i o f;rw[ce] at h;split at h
   ·rename_i c;cases h;exact⟨t0g d,t0f f,SU c⟩
   grind
  grind
 grind
mutual
def Aa(o:List (Nat×Ob)):AV->AV->Option (AV×List (Option Nat)×List Nat)
 | a,.ow T fr t _=>match a with
   | .os id ver=>match b9 o id with
     | some (.arr T' fr' t' ys ver')=>bif Nat.beq ver ver'&&Nat.beq T' T&&(!fr||fr') then R6 (fun z=>(.ow T fr t z,[some id],[])) (X6 (.sl t') (.sl t) ys) else none
     | _=>none
   | .v x=>match x with
     | .slice none 0 0=>some (.ow T fr t [],[none],[])
     | _=>none
   | _=>none
 | a,.d fr t _=>match F2 o 24 t [a] with
   | some (y,l,fl)=>bif !fr||fl then some (.d fr t y,[],l) else none
   | none=>none
 | a,.ob T rs=>match a with
   | .ptr id 0=>match b9 o id with
     | some (.box T' cs)=>bif Nat.beq T' T then(match IC o cs rs with
       | some (x,l,m)=>some (.ob T x,some id :: l,m)
       | none=>none) else none
     | _=>none
   | _=>none
 | a,.v _=>match a with
   | .v y=>some (.v y,[],[])
   | _=>none
 | a,.agg rs=>match a with
   | .agg as'=>match IC o as' rs with
     | some (x,l,m)=>some (.agg x,l,m)
     | none=>none
   | _=>none
 | a,.tup rs=>match a with
   | .tup as'=>match IC o as' rs with
     | some (x,l,m)=>some (.tup x,l,m)
     | none=>none
   | _=>none
 | _,_=>none
def IC(o:List (Nat×Ob)):List AV->List AV->Option (List AV×List (Option Nat)×List Nat)
 | as',[]=>match as' with
   | []=>some ([],[],[])
   | _=>none
 | as',r :: rs=>match as' with
   | a :: t=>match Aa o a r with
     | some (x,m,f)=>match IC o t rs with
       | some (xs,m',f')=>some (x :: xs,m++m',f++f')
       | none=>none
     | none=>none
   | []=>none
end
def Df(o:List (Nat×Ob)):Nat->(ps:List Par)->B6 ps->Option (B6 ps×List Nat×Option Nat)
 | _,[],z=>some (z,[],none)
 | i,.io T t :: _,_=>match b9 o (500000+i) with
   | some (.box T' cs)=>bif Nat.beq T' T then(match F2 o 24 t cs with
     | some (y,l,_)=>some (y,l,some (500000+i))
     | none=>none) else none
   | _=>none
 | i,.dat _ :: r,z=>Df o (i+1) r z
 | i,.agg _ :: r,z=>Df o (i+1) r z
 | i,.fn _ _ :: r,z=>Df o (i+1) r z
 | i,.nof _ :: r,z=>Df o (i+1) r z
 | i,.nil :: r,z=>Df o (i+1) r z
 | i,.os _ _ :: r,z=>Df o (i+1) r z
def v0i(Γ:o5)(st:St):ResultVar->Option AV
 | .tmp t=>match b9 st.e t with
   | some ⟨[],a⟩=>some a
   | _=>none
 | .cell t ty=>match b9 st.e t with
   | some ⟨[],p⟩=>bif KF (some p) then(match X7 st.o p with
     | some (cs,_)=>match b9 Γ ty with
       | some ti=>Kr ti cs
       | none=>none
     | none=>none) else none
   | _=>none
def Ox(Γ:o5)(st:St):List ResultVar->Option (List AV)
 | []=>some []
 | r :: rs=>match v0i Γ st r with
   | some a=>R6 (a :: ·) (Ox Γ st rs)
   | none=>none
def Oy(Γ:o5)(st:St)(rs:List ResultVar)(ps:List Par)(r:AV)(z:B6 ps):Option (AV×B6 ps) :=
 match Ox Γ st rs with
 | some as'=>match Aa st.o (YK as') r with
   | some (r',mv,fz)=>match Df st.o 0 ps z with
     | some (z',fz',pin)=>bif onceN mv&&Ot mv (fz++fz')&&SP (fun i=>Gr i (fz++fz')) pin&&(!F0 ps||Fe r')&&SP (fun i=>onceN.notInS i mv) pin then some (r',z') else none
     | none=>none
   | none=>none
 | none=>none
mutual
theorem B0J{o:List (Nat×Ob)}:∀{a r:AV} {mv:List (Option Nat)} {fz:List Nat},Aa o a r=some (r,mv,fz)->∃q:Prop,q/\N2 o a r=some (q,mv,fz)
 | a,.ow T fr t xs,mv,fz,h=>by
   unfold Aa at h;unfold N2;split at h
   ·split at h
    ·rename_i k c s u f E;rw[ce] at h;split at h
     ·rename_i g;simp only[ba] at g;obtain⟨z,n,i⟩:=U3 h;simp only[pj,AV.ow.injEq,heq_eq_eq,true_and] at i;obtain⟨rfl,rfl,rfl⟩:=i;refine⟨(fr=true->c=true)/\X6 (.sl s) (.sl t) u=some z,⟨YT g.2,n⟩,?_⟩
      grind
     grind
    grind
   ·split at h
    ·simp only[oi,pj,AV.ow.injEq,heq_eq_eq,true_and] at h;obtain⟨rfl,rfl,rfl⟩:=h;exact⟨_,⟨trivial,rfl⟩,rfl⟩
    grind
   grind
 | a,.d fr t x,mv,fz,h=>by
   unfold Aa at h;unfold N2;split at h
   ·rename_i y l P j;rw[ce] at h;split at h
    ·rename_i H;simp only[oi,pj,AV.d.injEq,heq_eq_eq,true_and] at h;obtain⟨rfl,rfl,rfl⟩:=h
     try rw[j]
     grind
    grind
   grind
 | a,.ob T rs,mv,fz,h=>by
   unfold Aa at h;unfold N2;split at h
   ·split at h
    ·rename_i k G E;rw[ce] at h;split at h
     ·rename_i F;split at h
      ·rename_i x l m b;simp only[oi,pj,AV.ob.injEq,true_and] at h;obtain⟨rfl,rfl,rfl⟩:=h;obtain⟨q,w,e⟩:=SV b;refine⟨q,w,?_⟩
       grind
      grind
     grind
    grind
   grind
 | a,.v x,mv,fz,h=>by
   unfold Aa at h;unfold N2;split at h
   ·simp only[oi,pj,AV.v.injEq] at h;obtain⟨rfl,rfl,rfl⟩:=h
    grind
   grind
 | a,.agg rs,mv,fz,h=>by
   unfold Aa at h;unfold N2;split at h
   ·split at h
    ·rename_i x l m b;simp only[oi,pj,AV.agg.injEq] at h;obtain⟨rfl,rfl,rfl⟩:=h;exact SV b
    grind
   grind
 | a,.tup rs,mv,fz,h=>by
   unfold Aa at h;unfold N2;split at h
   ·split at h
    ·rename_i x l m b;simp only[oi,pj,AV.tup.injEq] at h;obtain⟨rfl,rfl,rfl⟩:=h;exact SV b
    grind
   grind
 | a,.ptr _ _,mv,fz,h=>by grind[Aa]
 | a,.pel ..,mv,fz,h=>by grind[Aa]
 | a,.os _ _,mv,fz,h=>by grind[Aa]
 | a,.fn _ _,mv,fz,h=>by grind[Aa]
 | a,.gel _ _,mv,fz,h=>by grind[Aa]
 | a,.og _,mv,fz,h=>by grind[Aa]
theorem SV{o:List (Nat×Ob)}:∀{as' rs:List AV} {mv:List (Option Nat)} {fz:List Nat},IC o as' rs=some (rs,mv,fz)->∃q:Prop,q/\De o as' rs=some (q,mv,fz)
 | as',[],mv,fz,h=>by
   unfold IC at h;unfold De;split at h
   ·simp only[oi,pj,true_and] at h;obtain⟨rfl,rfl⟩:=h
    grind
   grind
 | as',r :: rs,mv,fz,h=>by
   unfold IC at h;unfold De;split at h
   ·split at h
    ·rename_i x m f c;split at h
     ·rename_i k j g a;simp only[oi,pj,List.cons.injEq] at h;obtain⟨⟨rfl,rfl⟩,rfl,rfl⟩:=h;obtain⟨q,e,l⟩:=B0J c;obtain⟨d,b,i⟩:=SV a;refine⟨q/\d,⟨e,b⟩,?_⟩
      grind
     grind
    grind
   grind
end
theorem ID{o:List (Nat×Ob)}:∀{ps:List Par} {i:Nat} {z:B6 ps} {fz:List Nat} {pin:Option Nat},Df o i ps z=some (z,fz,pin)->∃q:Prop,q/\Z6 o i ps z=some (q,fz,pin)
 | [],i,z,fz,pin,h=>by
   simp only[Df,oi,pj,true_and] at h;obtain⟨rfl,rfl⟩:=h;exact⟨_,trivial,rfl⟩
 | .io T t :: r,i,z',fz,pin,h=>by
   unfold Df at h;unfold Z6;split at h
   ·rename_i b d f;rw[ce] at h;split at h
    ·rename_i c;split at h
     ·rename_i y l e a;simp only[oi,pj] at h;obtain⟨rfl,rfl,rfl⟩:=h;refine⟨y=y,rfl,?_⟩
      grind
     grind
    grind
   grind
 | .dat _ :: r,i,z,fz,pin,h=>ID (ps:=r) (i:=i+1) h
 | .agg _ :: r,i,z,fz,pin,h=>ID (ps:=r) (i:=i+1) h
 | .fn _ _ :: r,i,z,fz,pin,h=>ID (ps:=r) (i:=i+1) h
 | .nof _ :: r,i,z,fz,pin,h=>ID (ps:=r) (i:=i+1) h
 | .nil :: r,i,z,fz,pin,h=>ID (ps:=r) (i:=i+1) h
 | .os _ _ :: r,i,z,fz,pin,h=>ID (ps:=r) (i:=i+1) h
theorem u0Q{Γ:o5}{st:St}:∀{rs:List ResultVar} {as':List AV},Ox Γ st rs=some as'->∃q:Prop,q/\Iz Γ st rs=some (q,as')
 | [],as',h=>by
   simp only[Ox,oi] at h;subst h;exact⟨_,trivial,rfl⟩
 | r :: rs,as',h=>by
   unfold Ox at h;unfold Iz;split at h
   ·rename_i a b;obtain⟨l,g,d⟩:=U3 h;subst d;obtain⟨q,s,f⟩:=u0Q g;have:∃c:Prop,c/\Oq Γ st r=some (c,a):=by
     unfold v0i at b;unfold Oq;split at b
     ·split at b
      ·rename_i k;cases b;refine⟨True,trivial,?_⟩
       grind
      grind
     ·split at b
      ·rename_i k;rw[ce] at b;split at b
       ·rename_i e;split at b
        ·rename_i n;split at b
         ·rename_i m;refine⟨Ck st.o _,YO e,?_⟩
          grind
         grind
        grind
       grind
      grind
    obtain⟨c,i,j⟩:=this;rw[j,f]
    grind
   grind
theorem SW{Γ:o5}{st:St}{rs:List ResultVar}{ps:List Par}{r:AV}{z:B6 ps}(h:Oy Γ st rs ps r z=some (r,z)):GB Γ st rs r ps z:=by
 unfold Oy at h;split at h
 ·rename_i e d;split at h
  ·rename_i n v fz f;split at h
   ·rename_i k c b a;rw[ce] at h;split at h
    ·rename_i g;simp only[oi,pj] at h;obtain⟨rfl,rfl⟩:=h;obtain⟨j,o,i⟩:=u0Q d;obtain⟨t,s,u⟩:=B0J f;obtain⟨l,m,q⟩:=ID a
     grind[GB]
    grind
   grind
  grind
 grind
end Go.Proofs.Xv
end
section
namespace Go.Proofs.Xv
open Go Go.RowKit Go.Proofs.Sv Go.Proofs.Xl
def O5(b:Bool)(n:Nat)(Γ:o5)(T:List Ct)(l:List Oper)(keep:List Nat)(st:St):Option (Prop×St):=bif b then SQ n Γ T l keep st else Ov n Γ T l keep st
def KH(st:St)(c:Operand):Option Bool:=match rd st [] c with
 | some (.d _ .bool b)=>some b
 | _=>none
theorem YV{st:St}{c:Operand}{b:Bool}(h:KH st c=some b):∃f,rd st [] c=some (.d f .bool b):=by
 grind[KH]
theorem ct{X:Cx}{st:St}{Q:Exit->Act->World->Prop}{c:Operand}{a d:Code}(b:KH st c=some true)(h:VX X st a Q):VX X st (.cond c a d) Q:=(YV b).elim fun _ b=>t0k b h
theorem cf{X:Cx}{st:St}{Q:Exit->Act->World->Prop}{c:Operand}{a d:Code}(b:KH st c=some false)(h:VX X st d Q):VX X st (.cond c a d) Q:=(YV b).elim fun _ b=>t0l b h
section
variable {P:Program} {n:Nat} {y:World×(Nat->Prop)×(Nat->Prop)×(Nat->Value->Prop)×Nat} {st:St} {Q:Exit->Act->World->Prop} {Γ:o5} {T:List Ct} {ρ α:Type} {r:ρ}
theorem SX(d:w9 P Γ)(e:∀c∈T,Ok P c)[i:K9 P]{a:List Nat}{st':St}{V:Prop}{id:Nat}{l:List Oper}{b:Bool}(h:O5 b n Γ T l a st=some (V,st'))(f:V)(g:FX (cx P n y) st' .normal Q):VX (cx P n y) st (.region id l.toArray b) Q:=by
 cases b with
 | true=>exact de d e a st' V h f g
 | false=>exact re d e a st' V h f g
theorem za(d:w9 P Γ)(e:∀c∈T,Ok P c)[g:K9 P](a:List Nat)(st':St){id:Nat}{l:List Oper}{b:Bool}(h:O5 b n Γ T l a st=some (True,st'))(f:FX (cx P n y) st' .normal Q):VX (cx P n y) st (.region id l.toArray b) Q :=
 SX d e h trivial f
theorem zb(d:w9 P Γ)(f:∀c∈T,Ok P c)[i:K9 P](a:List Nat)(st':St){V:Prop}[Decidable V]{e:Option ρ}{id:Nat}{l:List Oper}{b:Bool}(H:gd V e=some r)(h:O5 b n Γ T l a st=some (V,st'))(g:e=some r->FX (cx P n y) st' .normal Q):VX (cx P n y) st (.region id l.toArray b) Q :=
 SX d f h (K7 H).1 (g (K7 H).2)
theorem zc(d:w9 P Γ)(e:∀c∈T,Ok P c)[i:K9 P](a:List Nat)(S:α->St){x:α}{f:α->Option ρ}{id:Nat}{l:List Oper}{b:Bool}(H:lt x f=some r)(h:O5 b n Γ T l a st=some (True,S x))(g:∀v,f v=some r->FX (cx P n y) (S v) .normal Q):VX (cx P n y) st (.region id l.toArray b) Q :=
 SX d e h trivial (g x H)
theorem zd(d:w9 P Γ)(e:∀c∈T,Ok P c)[i:K9 P](a:List Nat)(S:α->St){V:Prop}[Decidable V]{x:α}{f:α->Option ρ}{id:Nat}{l:List Oper}{b:Bool}(H:gd V (lt x f)=some r)(h:O5 b n Γ T l a st=some (V,S x))(g:∀v,f v=some r->FX (cx P n y) (S v) .normal Q):VX (cx P n y) st (.region id l.toArray b) Q :=
 SX d e h (K7 H).1 (g x (K7 H).2)
theorem qa(d:w9 P Γ)(e:∀c∈T,Ok P c)[g:K9 P](a:List Nat)(st':St){id:Nat}{l:List Oper}{b:Bool}{c:Code}(h:O5 b n Γ T l a st=some (True,st'))(f:VX (cx P n y) st' c Q):VX (cx P n y) st (.seq (.region id l.toArray b) c) Q :=
 vQ (za d e a st' h (fQ f))
theorem qb(d:w9 P Γ)(f:∀c∈T,Ok P c)[i:K9 P](a:List Nat)(st':St){V:Prop}[Decidable V]{e:Option ρ}{id:Nat}{l:List Oper}{b:Bool}{c:Code}(H:gd V e=some r)(h:O5 b n Γ T l a st=some (V,st'))(g:e=some r->VX (cx P n y) st' c Q):VX (cx P n y) st (.seq (.region id l.toArray b) c) Q :=
 vQ (zb d f a st' H h fun H=>fQ (g H))
theorem qc(d:w9 P Γ)(e:∀c∈T,Ok P c)[i:K9 P](a:List Nat)(S:α->St){x:α}{f:α->Option ρ}{id:Nat}{l:List Oper}{b:Bool}{c:Code}(H:lt x f=some r)(h:O5 b n Γ T l a st=some (True,S x))(g:∀v,f v=some r->VX (cx P n y) (S v) c Q):VX (cx P n y) st (.seq (.region id l.toArray b) c) Q :=
 vQ (zc d e a S H h fun v H=>fQ (g v H))
theorem qd(d:w9 P Γ)(e:∀c∈T,Ok P c)[i:K9 P](a:List Nat)(S:α->St){V:Prop}[Decidable V]{x:α}{f:α->Option ρ}{id:Nat}{l:List Oper}{b:Bool}{c:Code}(H:gd V (lt x f)=some r)(h:O5 b n Γ T l a st=some (V,S x))(g:∀v,f v=some r->VX (cx P n y) (S v) c Q):VX (cx P n y) st (.seq (.region id l.toArray b) c) Q :=
 vQ (zd d e a S H h fun v H=>fQ (g v H))
theorem cd{X:Cx}{c:Operand}{a d:Code}{b:Bool}{g f:Option ρ}(H:(if b=true then g else f)=some r)(e:KH st c=some b)(i:g=some r->VX X st a Q)(k:f=some r->VX X st d Q):VX X st (.cond c a d) Q :=
 (YV e).elim fun _ j=>Yw j (fun h=>i (by grind)) (fun h=>k (by grind))
theorem jn{X:Cx}{b:Type}(r:ρ)(E:b->St)(J:b->Option ρ){a d:Code}(h:∀s,J s=some r->VX X (E s) d Q)(k:∀Q',(∀{s st'},J s=some r->GD st' (E s)=some (E s)->FX X st' .normal Q')->(∀{st' id},FX X st' (.exit id) Q->FX X st' (.exit id) Q')->(∀{st'},FX X st' .ret Q->FX X st' .ret Q')->VX X st a Q'):VX X st (.seq a d) Q :=
 vQ (k _ (fun H c=>fQ (C0j _ (YU c) (h _ H))) fE fR)
theorem lx{X:Cx}{c:Type}(E:c->St)(d:c){F:(c->Option ρ)->c->Option ρ}{a:Code}(H:lp F d=some r)(f:GD st (E d)=some (E d))
  (b:∀Q' (g:c->Option ρ),(∀{s st'},g s=some r->GD st' (E s)=some (E s)->FX X st' .normal Q')->(∀{st' id},FX X st' (.exit id) Q->FX X st' (.exit id) Q')->(∀{st'},FX X st' .ret Q->FX X st' .ret Q')->∀s,F g s=some r->VX X (E s) a Q'):VX X st (.loop a) Q:=by
 refine C0i (fun z:Nat×c=>E z.2) (fun z=>I9 F z.1 z.2=some r) (fun z=>z.1) (V7,d) H (YU f) ?_;rintro⟨m,s⟩ hz;cases m with
 | zero=>cases hz
 | succ m=>exact b _ (I9 F m) (fun {h st'} e i=>E0g (m,h) e (Nat.lt_succ_self m) (YU i)) n0n o0P s hz
end
def j9(f:FuncId)(ps:List Par){ρ:Type}[Inhabited ρ](F:r9 ps->Option ρ)(R:ρ->AV)(Z:ρ->B6 ps):Ct:=⟨f,ps,fun x=>⟨(F x).isSome=true,R (vl (F x)),Z (vl (F x))⟩⟩
def M0z(X:Cx)(Γ:o5)(rs:List ResultVar)(ps:List Par){ρ:Type}(R:ρ->AV)(Z:ρ->B6 ps)(r:ρ)(x:Exit)(Q:Exit->Act->World->Prop):Prop :=
 ∀{st:St} {e:ρ},some e=some r->Oy Γ st rs ps (R e) (Z e)=some (R e,Z e)->FX X st x Q
theorem okl{P:Program}{Γ:o5}(k:w9 P Γ){f:FuncId}{ps:List Par}{ρ:Type}[Inhabited ρ]{F:r9 ps->Option ρ}{R:ρ->AV}{Z:ρ->B6 ps}{d:Func}{a:Code}{n:Nat}(rs:List ResultVar)
  (s:P.funcs[f]?=some d) (q:d.ntmps=n) (o:d.body=some a) (t:d.results=rs.toArray) (b:Ar P f=true) (j:(Nat.ble ps.length n&&Z5 ps)=true)
  (h:∀y x r,F x=some r->∀Q,M0z (cx P n y) Γ rs ps R Z r .normal Q->M0z (cx P n y) Γ rs ps R Z r .ret Q->VX (cx P n y) ⟨K3 0 ps x,H4 0 ps x⟩ a Q):Ok P (j9 f ps F R Z):=by
 refine K0y (c:=j9 f ps F R Z) k rs s q o t b j (fun y x u g Q l=>?_);have m:=u0y u;refine h y x _ m Q ?_ ?_
 ·intro i e b g;cases b;exact(l i (SW g)).1
 ·intro i e b g;cases b;exact(l i (SW g)).2
mutual
def frz:AV->AV
 | .ow _ fr t xs=>.d (fr||D3 t) (.sl t) xs
 | .agg xs=>.agg (frzs xs)
 | .tup xs=>.tup (frzs xs)
 | a=>a
def frzs:List AV->List AV
 | []=>[]
 | a :: r=>frz a :: frzs r
end
mutual
def KI:AV->Bool
 | .ob ..=>false
 | .agg xs=>Oz xs
 | .tup xs=>Oz xs
 | _=>true
def Oz:List AV->Bool
 | []=>true
 | a :: r=>KI a&&Oz r
end
theorem SY{w:World}{T:TypeId}{t:Ty}{g:Option Nat}{u:Value}{xs:List (j5 t)}{cs:List Value}{K:Nat->Prop}(c:Own w T (sz t) g u xs.length cs)(e:AllR (RT K w t) cs xs)(j:∀b,g=some b->K b):RT K w (.sl t) [u] xs:=by
 cases g with
 | none =>
   rcases c with ⟨_,i,_,p,l⟩ | ⟨b,_,_,_,hb,_⟩
   ·have:xs=[]:=List.eq_nil_of_length_eq_zero i;subst this;exact⟨p,0,by grind,Nat.le_refl _,by omega,.inl rfl⟩
   grind
 | some b =>
   obtain⟨k,f,d,a⟩:=c.at;rcases c with ⟨h,_⟩ | ⟨b',o1,cap,cur,hb,hv2,k1,k2,k3,k4,k5⟩
   ·cases h
   ·cases hb;rw[hv2] at d; cases d;exact⟨_,f,by rw[hv2],k2,(by grind[maxLen]),.inr ⟨b,k,cs,rfl,j b rfl,a,e⟩⟩
mutual
theorem ResR.frz{K K':Bool->Nat->Prop}{w:World}(f:∀fr k,K fr k->K' fr k):∀{a:AV} {u:Value} {gs:List (Option Nat)},KI a=true->(∀b,some b∈gs->∀fr,K' fr b)->ResR K w a u gs->ResR K' w (Xv.frz a) u []
 | .v _,_,_,_,_,h=>⟨h.1,rfl⟩
 | .d fr t x,u,gs,_,_,⟨h,_⟩=>⟨RT.up h (f fr),rfl⟩
 | .agg xs,u,gs,hn,hg,⟨us,e,h⟩=>⟨us,e,ResRs.frz f (by grind[KI]) hg h⟩
 | .ob _ _,_,_,hn,_,_=>by grind[KI]
 | .tup xs,u,gs,hn,hg,⟨us,e,h⟩=>⟨us,e,ResRs.frz f (by grind[KI]) hg h⟩
 | .ow T fr t xs,u,gs,_,hg,⟨g,cs,e,_,hO,hA⟩=>by
   refine⟨SY hO (hA.mapR (fun c x i=>?_)) (fun b j=>hg b (by grind) _),rfl⟩
   grind[D3,RT.free,RT.up]
theorem ResRs.frz{K K':Bool->Nat->Prop}{w:World}(c:∀fr k,K fr k->K' fr k):∀{as':List AV} {us:List Value} {gs:List (Option Nat)},Oz as'=true->(∀b,some b∈gs->∀fr,K' fr b)->ResRs K w as' us gs->ResRs K' w (Xv.frzs as') us []
 | [],us,gs,_,_,h=>⟨h.1,rfl⟩
 | a :: r,us,gs,hn,hg,⟨u,us',g1,g2,e1,e2,h1,h2⟩=>by
   simp only[Oz,ba] at hn;exact⟨u,us',[],[],e1,rfl,ResR.frz c hn.1 (fun b d=>hg b (by grind)) h1,ResRs.frz c hn.2 (fun b d=>hg b (by grind)) h2⟩
end
theorem IOR.up{K K':Nat->Prop}{w:World}{go:Option Nat}(a:∀k,K k->K' k):∀{ps:List Par} {z:B6 ps},IOR K w go ps z->IOR K' w go ps z
 | [],_,_=>trivial
 | .io _ _ :: _,_,⟨b,cs,h1,h2,h3⟩=>⟨b,cs,h1,h2,RT.up h3 a⟩
 | .dat _ :: r,_z,h=>IOR.up (ps:=r) a h
 | .agg _ :: r,_z,h=>IOR.up (ps:=r) a h
 | .fn _ _ :: r,_z,h=>IOR.up (ps:=r) a h
 | .nof _ :: r,_z,h=>IOR.up (ps:=r) a h
 | .nil :: r,_z,h=>IOR.up (ps:=r) a h
 | .os _ _ :: r,_z,h=>IOR.up (ps:=r) a h
theorem ResR.lt{K:Bool->Nat->Prop}{w:World}:∀{a:AV} {u:Value} {gs:List (Option Nat)},ResR K w a u gs->∀b,some b∈gs->UF w b:=by
 suffices H:(∀(a:AV) {u:Value} {gs:List (Option Nat)},ResR K w a u gs->∀b,some b∈gs->UF w b) from fun {a}=>H a
 intro a;refine AV.rec (motive_1:=fun a=>∀{u:Value} {gs:List (Option Nat)},ResR K w a u gs->∀b,some b∈gs->UF w b) (motive_2:=fun l=>∀{d:List Value} {gs:List (Option Nat)},ResRs K w l d gs->∀b,some b∈gs->UF w b) ?_ ?_ ?_ ?_ ?_ ?_ ?_ ?_ ?_ ?_ ?_ ?_ ?_ ?_ a
 ·intro x u gs h b c; rw[h.2] at c; cases c
 ·intro j t x u gs h b c; rw[h.2] at c; cases c
 ·intro f i u gs h b c; obtain⟨d,_,h⟩:=h; grind
 ·intro f i u gs h b c; obtain⟨d,_,h⟩:=h; grind
 ·intro _ _ u gs h; exact h.elim
 ·intro _ _ _ _ _ u gs h; exact h.elim
 ·intro _ _ u gs h; exact h.elim
 ·intro _ _ _ u gs h; exact h.elim
 ·intro T j t f u gs h b c;obtain⟨g,E,e,_,F,_⟩:=h
  grind[List.mem_singleton,Gk]
 ·intro _ _ u gs h; exact h.elim
 ·intro _ u gs h; exact h.elim
 ·intro T f i u gs h b c;obtain⟨G,d,m,e,_,P,h⟩:=h
  grind[XK]
 ·intro d gs h b c; rw[h.2] at c; cases c
 ·intro a r k n d gs h b c;obtain⟨u,o,q,s,_,z,y,v⟩:=h
  grind
theorem Uf{P:Program}{f:FuncId}{ps:List Par}{ρ:Type}[Inhabited ρ]{F:r9 ps->Option ρ}{R:ρ->AV}{Z:ρ->B6 ps}(h:Ok P (j9 f ps F R Z))(z:F0 ps=false:=by rfl)(d:∀r,KI (R r)=true:=by intro _; rfl):Ok P (j9 f ps F (fun r=>frz (R r)) Z):=by
 refine⟨h.1,fun x G w q n K o s=>?_⟩;refine Calls.mono (h.2 x G w q n K o s) ?_;rintro T Q ⟨v,u,e,y,H,i,l,E⟩;have j:=ResR.lt l;have i:∀b,some b∈u->w.heap.size<=b:=fun b a=>(i b a).resolve_right (fun h=>by have m:F0 ps=true:=h.1; rw[z] at m; cases m);refine⟨v,[],e,y,trivial,(fun b a=>nomatch a),ResR.frz (fun t k c=>⟨c.1,c.2.1,by simp⟩) (d _) (fun b a t=>⟨.inr (i b a),(j b a).g,by simp⟩) l,IOR.up (fun k c=>⟨c.1,c.2.1,by simp,c.2.2.2⟩) E⟩
mutual
def Ax(id ver:Nat)(fr:Bool)(t:Ty)(xs:List (j5 t)):AV->Option AV
 | .os i v=>bif Nat.beq i id then(bif Nat.beq v ver then some (.d fr (.sl t) xs) else none) else some (.os i v)
 | .pel i v k s off=>bif Nat.beq i id then none else some (.pel i v k s off)
 | .agg l=>R6 .agg (Ff id ver fr t xs l)
 | .tup l=>R6 .tup (Ff id ver fr t xs l)
 | .fn f l=>R6 (.fn f) (Ff id ver fr t xs l)
 | .ptr i off=>bif Nat.beq i id then none else some (.ptr i off)
 | .v x=>some (.v x)
 | .d fr t x=>some (.d fr t x)
 | .ow T fr t x=>some (.ow T fr t x)
 | .ob T l=>some (.ob T l)
 | .og i=>bif Nat.beq i id then some (.d fr (.sl t) xs) else some (.og i)
 | .gel i k=>bif Nat.beq i id then none else some (.gel i k)
def Ff(id ver:Nat)(fr:Bool)(t:Ty)(xs:List (j5 t)):List AV->Option (List AV)
 | []=>some []
 | a :: r=>match Ax id ver fr t xs a with
   | some b=>R6 (b :: ·) (Ff id ver fr t xs r)
   | none=>none
end
def Fg(id ver:Nat)(fr:Bool)(t:Ty)(xs:List (j5 t)):List (Nat×Sl)->List (Nat×Sl)
 | []=>[]
 | (k,s) :: r=>match Ax id ver fr t xs s.a with
   | some b=>(k,⟨s.p,b⟩) :: Fg id ver fr t xs r
   | none=>Fg id ver fr t xs r
def Ay(id ver:Nat)(fr:Bool)(t:Ty)(xs:List (j5 t)):List (Nat×Ob)->Option (List (Nat×Ob))
 | []=>some []
 | (k,o) :: r=>bif Nat.beq k id then Ay id ver fr t xs r else(match o with
   | .box T cs=>match Ff id ver fr t xs cs with
     | some cs'=>R6 ((k,.box T cs') :: ·) (Ay id ver fr t xs r)
     | none=>none
   | o=>R6 ((k,o) :: ·) (Ay id ver fr t xs r))
def IE:List (Nat×Sl)->Bool
 | []=>true
 | (k,_) :: r=>(r.all fun x=>!Nat.beq x.1 k)&&IE r
def GF(id:Nat)(st:St):Option St:=match b9 st.o id with
 | some (.arr _ fr t xs ver)=>bif IE st.e then(match Ay id ver (fr||D3 t) t xs st.o with
   | some o=>some ⟨Fg id ver (fr||D3 t) t xs st.e,o⟩
   | none=>none) else none
 | some (.grd _ _ fr t xs none)=>bif IE st.e then(match Ay id 0 (fr||D3 t) (.sl t) xs st.o with
   | some o=>some ⟨Fg id 0 (fr||D3 t) (.sl t) xs st.e,o⟩
   | none=>none) else none
 | _=>none
section
variable {X:Cx} {G:Gh} {id ver:Nat} {fr:Bool} {t:Ty} {xs:List (j5 t)}
def Fh(G:Gh)(id:Nat)(o:List (Nat×Ob)):Gh:=⟨G.ρ,G.γ,fun k=>G.K k∨G.γ id=some k∨(H7 (b9 G.o id)=true/\G.δ id k),G.w,o,G.B,G.δ⟩
theorem Fi{o:List (Nat×Ob)}:∀{l r:List (Nat×Ob)},Ay id ver fr t xs l=some r->∀i,(i=id->b9 r i=none)/\(i≠id->match b9 l i with
  | some (.box T cs)=>∃cs',Ff id ver fr t xs cs=some cs'/\b9 r i=some (.box T cs')
  | some o=>b9 r i=some o
  | none=>b9 r i=none)
 | [],r,h,i=>by
   simp only[Ay,oi] at h;subst h;exact⟨fun _=>rfl,fun _=>rfl⟩
 | (k,ob) :: l,r,h,i=>by
   unfold Ay at h;rw[ce] at h;split at h
   ·rename_i a;have a:=nb a;obtain⟨b,c⟩:=Fi (o:=o) h i;refine⟨b,fun hi=>?_⟩;rw[lK,if_neg (by omega)]
    grind
   ·rename_i a;have a:k≠id:=fun e=>a (by simp_all);split at h
    ·rename_i T cs;split at h
     ·rename_i cs' g;obtain⟨z,hz,rfl⟩:=U3 h;obtain⟨b,c⟩:=Fi (o:=o) hz i;refine⟨fun hi=>?_,fun hi=>?_⟩
      ·rw[lK,if_neg (by rw[hi]; exact a)]; exact b hi
      ·rw[lK,lK];by_cases e:k=i
       ·rw[if_pos e,if_pos e]; exact⟨cs',g,rfl⟩
       ·rw[if_neg e,if_neg e]; exact c hi
     ·cases h
    ·rename_i d;obtain⟨z,hz,rfl⟩:=U3 h;obtain⟨b,c⟩:=Fi (o:=o) hz i;refine⟨fun hi=>?_,fun hi=>?_⟩
     ·rw[lK,if_neg (by rw[hi]; exact a)]; exact b hi
     ·rw[lK,lK];by_cases e:k=i
      ·rw[if_pos e,if_pos e];cases ob with
       | box T cs=>exact(d T cs rfl).elim
       | arr T f j x v=>rfl
       | grd T m f j x h=>rfl
      ·rw[if_neg e,if_neg e]; exact c hi
def KJ(G:Gh)(id ver:Nat)(fr:Bool)(t:Ty)(xs:List (j5 t))(o':List (Nat×Ob)):Prop:=∀u,AVR G (.os id ver) u∨AVR G (.og id) u->AVR (Fh G id o') (.d fr (.sl t) xs) u
mutual
theorem SZ{o':List (Nat×Ob)}(g:KJ G id ver fr t xs o')(hz:Ay id ver fr t xs G.o=some o'):∀{a b:AV} {u:Value},Ax id ver fr t xs a=some b->AVR G a u->AVR (Fh G id o') b u
 | .os i v,b,u,h,c=>by
   unfold Ax at h;rw[ce] at h;have E:=c;obtain⟨P,w,n,F,m,q,j,r,H⟩:=c;split at h
   ·rename_i hi;have hi:=nb hi;subst hi;rw[ce] at h;split at h
    ·rename_i V;have V:=nb V;subst V;cases h;exact g u (.inl E)
    grind
   ·rename_i hi;cases h;have hi:i≠id:=fun e=>hi (by simp_all);have:=(Fi (o:=G.o) hz i).2 hi;rw[j] at this;exact⟨P,w,n,F,m,q,this,r,H⟩
 | .og i,b,u,h,c=>by
   unfold Ax at h;rw[ce] at h;have E:=c;obtain⟨P,⟨w,Te1,n,F,m,y,j⟩,r⟩:=c;split at h
   ·rename_i hi;have hi:=nb hi;subst hi;cases h;exact g u (.inr E)
   ·rename_i hi;cases h;have hi:i≠id:=fun e=>hi (by simp_all);have:=(Fi (o:=G.o) hz i).2 hi;rw[j] at this;exact⟨P,⟨w,Te1,n,F,m,y,this⟩,r⟩
 | .gel i k,b,u,h,c=>by
   unfold Ax at h;rw[ce] at h;obtain⟨⟨w,Te1,n,F,m,y,j⟩,r⟩:=c;split at h
   ·cases h
   ·rename_i hi;cases h;have hi:i≠id:=fun e=>hi (by simp_all);have:=(Fi (o:=G.o) hz i).2 hi;rw[j] at this;exact⟨⟨w,Te1,n,F,m,y,this⟩,r⟩
 | .pel i v k s off,b,u,h,c=>by
   unfold Ax at h;rw[ce] at h;obtain⟨P,w,n,F,m,q,j,r,H⟩:=c;split at h
   ·cases h
   ·rename_i hi;cases h;have hi:i≠id:=fun e=>hi (by simp_all);have:=(Fi (o:=G.o) hz i).2 hi;rw[j] at this;exact⟨P,w,n,F,m,q,this,r,H⟩
 | .ptr i off,b,u,h,c=>by
   unfold Ax at h;rw[ce] at h;obtain⟨⟨w,X,j⟩,r⟩:=c;split at h
   ·cases h
   ·rename_i hi;cases h;have hi:i≠id:=fun e=>hi (by simp_all);have:=(Fi (o:=G.o) hz i).2 hi;rw[j] at this;obtain⟨T,_,H⟩:=this;exact⟨⟨w,T,H⟩,r⟩
 | .agg l,b,u,h,c=>by
   unfold Ax at h;obtain⟨z,j,rfl⟩:=U3 h;obtain⟨Q,e,c⟩:=c;exact⟨Q,e,OA g hz j c⟩
 | .tup l,b,u,h,c=>by
   unfold Ax at h;obtain⟨z,j,rfl⟩:=U3 h;obtain⟨Q,e,c⟩:=c;exact⟨Q,e,OA g hz j c⟩
 | .fn f l,b,u,h,c=>by
   unfold Ax at h;obtain⟨z,j,rfl⟩:=U3 h;obtain⟨Q,e,c⟩:=c;exact⟨Q,e,OA g hz j c⟩
 | .v x,b,u,h,c=>by unfold Ax at h; cases h; exact c
 | .d f t' x,b,u,h,c=>by
   unfold Ax at h; cases h;exact RT.up c (fun k W=>⟨.inl W.1,W.2⟩)
 | .ow ..,b,u,h,c=>c.elim
 | .ob ..,b,u,h,c=>c.elim
theorem OA{o':List (Nat×Ob)}(c:KJ G id ver fr t xs o')(hz:Ay id ver fr t xs G.o=some o'):∀{as' bs:List AV} {us:List Value},Ff id ver fr t xs as'=some bs->AVRs G as' us->AVRs (Fh G id o') bs us
 | [],bs,us,h,hu=>by
   simp only[Ff,oi] at h;subst h; exact hu
 | a :: r,bs,us,h,⟨u,us',e,h1,h2⟩=>by
   unfold Ff at h;split at h
   ·rename_i b f;obtain⟨z,d,rfl⟩:=U3 h;exact⟨u,us',e,SZ c hz f h1,OA c hz d h2⟩
   grind
end
theorem y0n{T:TypeId}{i:Bool}(S:Sat X G)(h:b9 G.o id=some (.arr T i t xs ver))(m:fr=(i||D3 t))(o':List (Nat×Ob)):KJ G id ver fr t xs o':=fun u s=>by
 rcases s with ⟨P,F,v,E,l,g,d,H,j⟩ | ⟨_,⟨_,_,_,_,_,_,d⟩,_⟩
 ·rw[h] at d;cases d;rw[j rfl];obtain⟨z,r,q,w⟩:=S.obs id _ h;refine SY r (q.mapR (fun c x n=>?_)) (fun b f=>⟨.inr (.inl f),fun _=>w b f⟩);subst m;by_cases y:D3 t=true
  ·grind[RT.free]
  ·exact RT.up n (fun k a=>⟨.inl a.1,fun e=>a.2 (by grind)⟩)
 grind
theorem w0F{a:Type}{R:List Value->a->Prop}:∀{vs:List Value} {xs:List a},vs.length=xs.length->(∀(k:Nat) v x,vs[k]?=some v->xs[k]?=some x->R [v] x)->AllR R vs xs
 | [],[],_,_=>rfl
 | v :: vs,x :: xs,hl,h=>⟨[v],vs,rfl,h 0 v x rfl rfl,w0F (by grind) (fun k e d c b=>h (k+1) e d c b)⟩
 | [],_ :: _,hl,_=>by grind
 | _ :: _,[],hl,_=>by grind
theorem y0m{T Te:TypeId}{r:Bool}{xs:List (List (j5 t))}(S:Sat X G)(n:b9 G.o id=some (.grd T Te r t xs none))(z:fr=(r||D3 t))(o':List (Nat×Ob)):KJ G id ver fr (.sl t) xs o':=fun u H=>by
 rcases H with ⟨h0,T1,V,t1,w,m,Y,h2,l⟩ | ⟨_,_,l⟩
 ·grind
 ·rw[l];obtain⟨y,bs,F,f,W⟩:=S.obs id _ n;refine SY (t:=.sl t) F (w0F f.len (fun k v x Q i=>?_)) (fun b a=>⟨.inr (.inl a),fun _=>W b a⟩);have g:k<xs.length:=by
   rcases Nat.lt_or_ge k xs.length with h | h
   ·exact h
   ·rw[List.getElem?_eq_none h] at i; cases i
  obtain⟨cs,j,q,P⟩:=f.row k g (fun h=>by cases h);have ev:y.getD k (.bool false)=v:=by rw[gq,Q]; rfl
  have s:xs.getD k []=x:=by rw[gq,i]; rfl
  rw[ev,s] at j;rw[s] at q;refine SY j (q.mapR (fun c x E=>?_)) (fun b a=>⟨.inr (.inr ⟨by rw[n]; rfl,(f.blk b).2 ⟨k,g,(fun h=>by cases h),a⟩⟩),fun _=>P b a⟩);subst z;by_cases g:D3 t=true
  ·grind[RT.free]
  ·exact RT.up E (fun k d=>⟨.inl d.1,fun e=>d.2 (by grind)⟩)
theorem YW{aH:Ob}{o':List (Nat×Ob)}(S:Sat X G)(ho:b9 G.o id=some aH)(F:∀k,G.γ id=some k->UF G.w k/\G.B<=k)(W:KJ G id ver fr t xs o')(hz:Ay id ver fr t xs G.o=some o')(aI:Nat.blt id 500000=true):Sat X (Fh G id o'):=by
 have H:=Fi (o:=G.o) hz;have d:∀i m,b9 o' i=some m->i≠id/\∃n,b9 G.o i=some n:=fun i m h=>by
  grind
 have P:∀i,H7 (b9 o' i)=true->i≠id/\H7 (b9 G.o i)=true:=fun i r=>by
  grind[NV,hi]
 refine⟨S.base,S.os,S.tape,S.output,S.size,S.block,?_,?_,?_,?_,?_,?_,?_,?_⟩
 ·intro i m h;obtain⟨hi,n,l⟩:=d i m h;have:=(H i).2 hi;rw[l] at this;have y:=S.obs i n l;cases n with
  | box Y aB =>
    obtain⟨E,e1,e2⟩:=this;have h:b9 o' i=some m:=h;rw[e2] at h;cases h;obtain⟨b,us,Q,s,z,g4⟩:=y;exact⟨b,us,Q,s,z,OA W hz e1 g4⟩
  | arr Y aJ t1 aA aK =>
    simp only at this;have h:b9 o' i=some m:=h;rw[this] at h;cases h;obtain⟨cs,Q,s,z⟩:=y;exact⟨cs,Q,s.mapR (fun c x hr=>RT.up hr (fun k a=>⟨.inl a.1,a.2⟩)),z⟩
  | grd Y Te1 aJ t1 aA aG =>
    simp only at this;have h:b9 o' i=some m:=h;rw[this] at h;cases h;obtain⟨vs,bs,Q,s,z⟩:=y;refine⟨vs,bs,Q,⟨s.len,s.blk,s.inj,fun k a hh=>?_,s.one⟩,z⟩;obtain⟨cs,r1,r2,r3⟩:=s.row k a hh;exact⟨cs,r1,r2.mapR (fun c x hr=>RT.up hr (fun k a=>⟨.inl a.1,a.2⟩)),r3⟩
 ·intro i i' m n b h h' q aC;obtain⟨_,u,l⟩:=d i m h;obtain⟨_,o2,h2⟩:=d i' n h';exact S.inj i i' u o2 b l h2 q aC
 ·intro i m b h q a;obtain⟨hi,u,l⟩:=d i m h;rcases a with a | a | ⟨r,a⟩
  ·exact S.imm i u b l q a
  ·exact hi (S.inj i id u _ b l ho q a)
  ·exact(S.sep id b a r).2.2.1 i u l q
 ·intro i m b h q;obtain⟨_,u,l⟩:=d i m h;exact S.own i u b l q
 ·intro k a;rcases a with a | a | ⟨r,a⟩
  ·exact S.klt k a
  ·exact(F k a).1.g
  ·exact(S.duf a r).g
 ·intro k a;rcases a with a | a | ⟨r,a⟩
  ·exact S.kfrom k a
  ·exact .inr (by rw[<- S.base.1]; exact(F k a).2)
  ·obtain⟨T,Te,f,t,xs,aL,e⟩:=NV r;obtain⟨vs,bs,_,hR,_⟩:=S.obs id _ e;obtain⟨j,V,hh,q⟩:=(hR.blk k).1 a;obtain⟨_,_,_,h3⟩:=hR.row j V hh;exact .inr (by rw[<- S.base.1]; exact h3 k q)
 ·intro i b q r;obtain⟨hi,r⟩:=P i r;obtain⟨s1,s2,s3,s4⟩:=S.sep i b q r;refine⟨s1,?_,fun j o V aF=>?_,fun j V aD=>s4 j V (P j aD).2⟩
  ·rintro(a | a | ⟨aM,a⟩)
   ·grind
   ·grind
   grind
  ·obtain⟨_,u,l⟩:=d j o V;exact s3 j u l aF
 ·intro i v hv;obtain⟨⟨Y,aB,l⟩,h2⟩:=S.pin i v hv;have hi:500000+i≠id:=fun e=>by
   have:id<500000:=by simpa using aI
   omega
  have:=(H (500000+i)).2 hi;rw[l] at this;obtain⟨E,_,e⟩:=this;exact⟨⟨Y,E,e⟩,h2⟩
theorem KK:∀{e:List (Nat×Sl)},IE e=true->∀{k:Nat} {s:Sl},b9 (Fg id ver fr t xs e) k=some s->∃a,b9 e k=some ⟨s.p,a⟩/\Ax id ver fr t xs a=some s.a
 | [],_,k,s,h=>by cases h
 | (j,s0) :: r,hn,k,s,h=>by
   simp only[IE,ba,List.all_eq_true,Bool.not_eq_true'] at hn;unfold Fg at h;split at h
   ·rename_i b f;rw[lK] at h ⊢;split at h
    ·rename_i e;cases h;exact⟨s0.a,by simp_all,f⟩
    ·rename_i e;rw[if_neg e];exact KK hn.2 h
   ·obtain⟨a,g,c⟩:=KK hn.2 h;refine⟨a,?_,c⟩;rw[lK];split
    ·rename_i e;exfalso;have:∀{e:List (Nat×Sl)},(∀x∈e,Nat.beq x.1 j=false)->b9 e j=none:=by
      intro e
      induction e with
      | nil=>intro _; rfl
      | cons y r l =>
        intro m;obtain⟨d,v⟩:=y;rw[lK,if_neg]
        ·grind
        ·intro i
         simp_all
     grind
    omega
end
theorem YX{X:Cx}{st st':St}{id:Nat}(h:GF id st=some st')(l:Nat.blt id 500000=true){G:Gh}{a:Act}(S:Sat X G)(u:G.o=st.o)(i:EnvR X.n G st.e a):∃G',Sat X G'/\G'.o=st'.o/\G'.w=G.w/\EnvR X.n G' st'.e a:=by
 unfold GF at h;split at h
 ·rename_i T z t y ver d;rw[ce] at h;split at h
  ·rename_i r;split at h
   ·rename_i j hz;cases h;rw[<- u] at d hz;have c:=y0n S d rfl j;obtain⟨P,m,E,g⟩:=S.obs id _ d;refine⟨Fh G id j,YW S d (fun k f=>⟨by grind[Gk],g k f⟩) c hz l,rfl,rfl,i.defers,i.size,fun k s f=>?_⟩;obtain⟨b,q,F⟩:=KK r f;obtain⟨v,Q⟩:=i.val k _ q
    grind[SZ]
   grind
  grind
 ·rename_i T W z t y d;rw[ce] at h;split at h
  ·rename_i r;split at h
   ·rename_i j hz;cases h;rw[<- u] at d hz;have c:=y0m (ver:=0) S d rfl j;obtain⟨V,H,m,x,g⟩:=S.obs id _ d;refine⟨Fh G id j,YW S d (fun k f=>⟨by grind[Gk],g k f⟩) c hz l,rfl,rfl,i.defers,i.size,fun k s f=>?_⟩;obtain⟨b,q,F⟩:=KK r f;obtain⟨v,Q⟩:=i.val k _ q
    grind[SZ]
   grind
  grind
 grind
theorem fz{X:Cx}{st:St}{c:Code}{Q:Exit->Act->World->Prop}(id:Nat)(st':St)(h:GF id st=some st')(e:Nat.blt id 500000=true)(k:VX X st' c Q):VX X st c Q:=fun G a S l f=>by
 obtain⟨i,g,d,j,b⟩:=YX h e S l f;have:=k i a g d b
 grind
theorem UD{X:Cx}{st:St}{c:Code}{Q:Exit->Act->World->Prop}{ρ:Type}{r:ρ}(H:none=some r):VX X st c Q:=by cases H
def KL:List Par->Bool
 | []=>true
 | .dat (.int _) :: r=>KL r
 | .dat .bool :: r=>KL r
 | .dat .str :: r=>KL r
 | _=>false
def sc:(ps:List Par)->r9 ps->List Value
 | [],_=>[]
 | .dat (.int k) :: r,x=>.int k x.1 :: sc r x.2
 | .dat .bool :: r,x=>.bool x.1 :: sc r x.2
 | .dat .str :: r,x=>.string x.1 :: sc r x.2
 | _ :: r,x=>sc r x.2
theorem Ta{K:Nat->Prop}{w:World}:∀{ps:List Par} {x:r9 ps} {vs:List Value} {go:Option Nat},KL ps=true->ArgsR K w go ps x vs->vs=sc ps x/\go=none
 | [],x,vs,go,_,h=>h
 | .dat (.int k) :: r,x,vs,go,hs,⟨v,us,e,a,h⟩=>by
   obtain⟨b,c⟩:=Ta (ps:=r) hs h;refine⟨?_,c⟩;rw[e,b];have a:=a.1;simp only[List.cons.injEq,and_true] at a;rw[a]; rfl
 | .dat .bool :: r,x,vs,go,hs,⟨v,us,e,a,h⟩=>by
   obtain⟨b,c⟩:=Ta (ps:=r) hs h;refine⟨?_,c⟩;rw[e,b];have a:[v]=_:=a;simp only[List.cons.injEq,and_true] at a;rw[a]; rfl
 | .dat .str :: r,x,vs,go,hs,⟨v,us,e,a,h⟩=>by
   obtain⟨b,c⟩:=Ta (ps:=r) hs h;refine⟨?_,c⟩;rw[e,b];have a:=a.1;simp only[List.cons.injEq,and_true] at a;rw[a]; rfl
theorem Tb{K:Nat->Prop}{w:World}{go:Option Nat}:∀{ps:List Par} (z:B6 ps),KL ps=true->IOR K w go ps z
 | [],_,_=>trivial
 | .dat (.int _) :: r,z,h=>Tb (ps:=r) z h
 | .dat .bool :: r,z,h=>Tb (ps:=r) z h
 | .dat .str :: r,z,h=>Tb (ps:=r) z h
theorem B0M{P:Program}{f:FuncId}{ps:List Par}{ρ:Type}[Inhabited ρ]{F:r9 ps->Option ρ}{t:Ty}{D:ρ->j5 t}{Z:ρ->B6 ps}(a:KL ps=true)(g:Ar P f=true)
  (h:∀x r w,F x=some r->wfs ps x->Calls P f (sc ps x).toArray w fun en w'=>∃v,en=.returned v/\Ext w w'/\RT (fun _=>False) w' t [v] (D r)):Ok P (j9 f ps F (fun r=>.d true t (D r)) Z):=by
 refine⟨g,fun x n w s q K o c=>?_⟩;obtain⟨rfl,rfl⟩:=Ta a c;refine Calls.mono (h x _ w (u0y n) c.wfs) ?_;rintro en w' ⟨v,e,j,m⟩;exact⟨v,[],e,WE.of_ext j,trivial,(fun b i=>nomatch i),⟨RT.up m (fun k l=>l.elim),rfl⟩,Tb _ a⟩
theorem H0E{K:Nat->Prop}{w:World}{k:IntKind}{x:Int}(h:lo k<=x/\x<=hi k):RT K w (.int k) [.int k x] x:=⟨rfl,h⟩
theorem H0D{K:Nat->Prop}{w:World}{s:ByteArray}(h:s.size<=9223372036854775807):RT K w .str [.string s] s:=⟨rfl,h⟩
end Go.Proofs.Xv
end
section
namespace Go.Proofs.Xl
instance M0n{α β:Type}[Inhabited α]:Inhabited (α ⊕ β):=⟨.inl default⟩
def FG{α β:Type}:Option (α ⊕ β)->Bool
 | some (.inl _)=>true
 | _=>false
def Qn{α β:Type}:Option (α ⊕ β)->Bool
 | some (.inr _)=>true
 | _=>false
def vL{α β:Type}[Inhabited α]:Option (α ⊕ β)->α
 | some (.inl a)=>a
 | _=>default
def vR{α β:Type}[Inhabited β]:Option (α ⊕ β)->β
 | some (.inr b)=>b
 | _=>default
def two{α β γ:Type}(f:α->γ)(g:β->γ):α ⊕ β->γ
 | .inl a=>f a
 | .inr b=>g b
end Go.Proofs.Xl
namespace Go.Proofs.Xv
open Go Go.RowKit Go.Proofs.Sv Go.Proofs.Xl
def Qk(f:FuncId)(ps:List Par){α β:Type}[Inhabited α](F:r9 ps->Option (α ⊕ β))(R:α->AV)(z:B6 ps):Ct:=⟨f,ps,fun x=>⟨FG (F x)=true,R (vL (F x)),z⟩⟩
def Ql(f:FuncId)(ps:List Par){α β:Type}[Inhabited β](F:r9 ps->Option (α ⊕ β))(R:β->AV)(z:B6 ps):Ct:=⟨f,ps,fun x=>⟨Qn (F x)=true,R (vR (F x)),z⟩⟩
theorem L0R{P:Program}{f:FuncId}{ps:List Par}{d e:Type}[Inhabited (d ⊕ e)][Inhabited d]{F:r9 ps->Option (d ⊕ e)}{g:d->AV}{RB:e->AV}{z:B6 ps}(h:Ok P (j9 f ps F (two g RB) (fun _=>z))):Ok P (Qk f ps F g z):=by
 refine⟨h.1,fun x c w k i K j l=>?_⟩;have c:FG (F x)=true:=c;cases hF:F x with
 | none=>rw[hF] at c; cases c
 | some s =>
   cases s with
   | inr b=>rw[hF] at c; cases c
   | inl a =>
     have:=h.2 x (show(F x).isSome=true by grind) w k i K j l;simp only[j9,Qk] at this ⊢;rw[hF] at this ⊢;exact this
theorem L0Q{P:Program}{f:FuncId}{ps:List Par}{e d:Type}[Inhabited (e ⊕ d)][Inhabited d]{F:r9 ps->Option (e ⊕ d)}{l:e->AV}{RB:d->AV}{z:B6 ps}(h:Ok P (j9 f ps F (two l RB) (fun _=>z))):Ok P (Ql f ps F RB z):=by
 refine⟨h.1,fun x c w j g K i k=>?_⟩;have c:Qn (F x)=true:=c;cases hF:F x with
 | none=>rw[hF] at c; cases c
 | some s =>
   cases s with
   | inl b=>rw[hF] at c; cases c
   | inr a =>
     have:=h.2 x (show(F x).isSome=true by grind) w j g K i k;simp only[j9,Ql] at this ⊢;rw[hF] at this ⊢;exact this
theorem sp{X:Cx}{st:St}{c:Code}{Q:Exit->Act->World->Prop}{ρ:Type}{r:ρ}{b:Bool}{d a:Option ρ}(H:(if b=true then d else a)=some r)(e:d=some r->VX X st c Q)(f:a=some r->VX X st c Q):VX X st c Q:=by
 grind
end Go.Proofs.Xv
end
section
namespace Go.Proofs.Xv
open Go Go.RowKit Go.Proofs.Sv Go.Proofs.Xl
abbrev Z(e:List (Nat×Sl))(o:List (Nat×Ob)):St:=⟨e,o⟩
abbrev R(i:Nat):AV:=.ptr i 0
abbrev O(i:Nat):AV:=.os i 0
abbrev A(T:TypeId)(t:Ty)(xs:List (j5 t))(v:Nat):Ob:=.arr T true t xs v
abbrev K(T:TypeId)(t:Ty)(x:j5 t):Ob:=.box T (o8 false t x)
class HG(P:Program)(Γ:outParam o5):Prop where
 h:w9 P Γ
class HT(P:Program)(T:outParam (List Ct)):Prop where
 h:∀c∈T,Ok P c
def Tc(st:St):List Nat:=st.e.map Prod.fst
section
variable {P:Program} {n:Nat} {y:World×(Nat->Prop)×(Nat->Prop)×(Nat->Value->Prop)×Nat} {st:St} {Q:Exit->Act->World->Prop} {Γ:o5} {T:List Ct} {ρ α:Type} {r:ρ}
theorem zD[a:HG P Γ][c:HT P T][e:K9 P](S:α->St){V:Prop}[Decidable V]{x:α}{f:α->Option ρ}{id:Nat}{l:List Oper}{b:Bool}(H:gd V (lt x f)=some r)(d:∀v,f v=some r->FX (cx P n y) (S v) .normal Q)(h:O5 b n Γ T l (Tc (S x)) st=some (V,S x):=by kernel_rfl):VX (cx P n y) st (.region id l.toArray b) Q:=zd a.h c.h _ S H h d
theorem qB[a:HG P Γ][d:HT P T][g:K9 P](st':St){V:Prop}[Decidable V]{e:Option ρ}{id:Nat}{l:List Oper}{b:Bool}{c:Code}(H:gd V e=some r)(f:e=some r->VX (cx P n y) st' c Q)(h:O5 b n Γ T l (Tc st') st=some (V,st'):=by kernel_rfl):VX (cx P n y) st (.seq (.region id l.toArray b) c) Q:=qb a.h d.h _ st' H h f
theorem qC[a:HG P Γ][d:HT P T][g:K9 P](S:α->St){x:α}{f:α->Option ρ}{id:Nat}{l:List Oper}{b:Bool}{c:Code}(H:lt x f=some r)(e:∀v,f v=some r->VX (cx P n y) (S v) c Q)(h:O5 b n Γ T l (Tc (S x)) st=some (True,S x):=by kernel_rfl):VX (cx P n y) st (.seq (.region id l.toArray b) c) Q:=qc a.h d.h _ S H h e
theorem qD[a:HG P Γ][d:HT P T][g:K9 P](S:α->St){V:Prop}[Decidable V]{x:α}{f:α->Option ρ}{id:Nat}{l:List Oper}{b:Bool}{c:Code}(H:gd V (lt x f)=some r)(e:∀v,f v=some r->VX (cx P n y) (S v) c Q)(h:O5 b n Γ T l (Tc (S x)) st=some (V,S x):=by kernel_rfl):VX (cx P n y) st (.seq (.region id l.toArray b) c) Q:=qd a.h d.h _ S H h e
theorem cD{X:Cx}{c:Operand}{a d:Code}{b:Bool}{f e:Option ρ}(H:(if b=true then f else e)=some r)(g:f=some r->VX X st a Q)(i:e=some r->VX X st d Q)(h:KH st c=some b:=by kernel_rfl):VX X st (.cond c a d) Q:=cd H h g i
theorem jN{X:Cx}{b:Type}(r:ρ)(E:b->St)(J:b->Option ρ){a d:Code}(h:∀s,J s=some r->VX X (E s) d Q)(k:∀Q',(∀{s st'},J s=some r->(h:GD st' (E s)=some (E s):=by kernel_rfl)->FX X st' .normal Q')->(∀{st' id},FX X st' (.exit id) Q->FX X st' (.exit id) Q')->(∀{st'},FX X st' .ret Q->FX X st' .ret Q')->VX X st a Q'):VX X st (.seq a d) Q:=jn r E J h (fun Q' n e t=>k Q' (fun H h=>n H h) e t)
theorem lX{X:Cx}{c:Type}(E:c->St)(d:c){F:(c->Option ρ)->c->Option ρ}{a:Code}(H:lp F d=some r)
 (b:∀Q' (g:c->Option ρ),(∀{s st'},g s=some r->(h:GD st' (E s)=some (E s):=by kernel_rfl)->FX X st' .normal Q')->(∀{st' id},FX X st' (.exit id) Q->FX X st' (.exit id) Q')->(∀{st'},FX X st' .ret Q->FX X st' .ret Q')->∀s,F g s=some r->VX X (E s) a Q') (f:GD st (E d)=some (E d):=by kernel_rfl):VX X st (.loop a) Q:=lx E d H f (fun Q' g n e t s H=>b Q' g (fun H h=>n H h) e t s H)
def Td:List Nat->St->Option St
 | [],st=>some st
 | i :: r,st=>bif Nat.blt i 500000 then(GF i st).bind (Td r) else none
theorem M0o{X:Cx}{c:Code}{Q:Exit->Act->World->Prop}:∀(ids:List Nat) {st st':St},Td ids st=some st'->VX X st' c Q->VX X st c Q
 | [],st,st',h,k=>by cases h; exact k
 | i :: r,st,st',h,k=>by
   unfold Td at h;cases hid:Nat.blt i 500000 with
   | false=>grind
   | true =>
     rw[hid] at h;cases hz:GF i st with
     | none=>grind
     | some s =>
       rw[hz] at h;exact fz i s hz hid (M0o r h k)
theorem fZs{X:Cx}{c:Code}(a:List Nat)(st':St)(k:VX X st' c Q)(h:Td a st=some st':=by kernel_rfl):VX X st c Q:=M0o a h k
theorem fZ{X:Cx}{c:Code}(id:Nat)(st':St)(k:VX X st' c Q)(h:GF id st=some st':=by kernel_rfl)(a:Nat.blt id 500000=true:=by kernel_rfl):VX X st c Q:=fz id st' h a k
end
def Tf(X:Cx)(Γ:o5)(rs:List ResultVar)(ps:List Par){ρ:Type}(R:ρ->AV)(Z:ρ->B6 ps)(r:ρ)(x:Exit)(Q:Exit->Act->World->Prop):Prop :=
 ∀{st:St} {e:ρ},some e=some r->(h:Oy Γ st rs ps (R e) (Z e)=some (R e,Z e):=by kernel_rfl)->FX X st x Q
theorem okL{P:Program}{Γ:o5}[g:HG P Γ]{f:FuncId}{ps:List Par}{ρ:Type}[Inhabited ρ]{F:r9 ps->Option ρ}{R:ρ->AV}{Z:ρ->B6 ps}{d:Func}{c:Code}{n:Nat}(rs:List ResultVar)
  (l:P.funcs[f]?=some d) (m:d.ntmps=n) (k:d.results=rs.toArray)
  (h:∀y x r,F x=some r->∀Q,Tf (cx P n y) Γ rs ps R Z r .normal Q->Tf (cx P n y) Γ rs ps R Z r .ret Q->VX (cx P n y) ⟨K3 0 ps x,H4 0 ps x⟩ c Q)
  (j:d.body=some c:=by rfl) (i:Ar P f=true:=by kernel_rfl) (e:(Nat.ble ps.length n&&Z5 ps)=true:=by rfl):Ok P (j9 f ps F R Z) :=
 okl g.h rs l m j k i e (fun y x r H Q a b=>h y x r H Q (fun H h=>a H h) (fun H h=>b H h))
end Go.Proofs.Xv
end
section
namespace Go.Proofs.Xv
open Go Go.Proofs Go.Proofs.Sv
def YY(P:Program)(T:TypeId):Nat->List (Nat×Nat)->List (Option (Nat×Bool))
 | _,[]=>[]
 | k,_ :: r=>NS P T k :: YY P T (k+1) r
theorem B0W{P:Program}{T:TypeId}:∀{l:List (Nat×Nat)} {k:Nat},YY P T k l=l.map (fun x=>some (x.1,true))->RU P T k l
 | [],_,_=>trivial
 | _ :: _,_,h=>⟨(List.cons.inj h).1,B0W (List.cons.inj h).2⟩
abbrev I0M:=(Option (Nat×Nat×Option Value)×Bool×Bool×Bool)×Bool×Option (List (Nat×Nat))×Bool×List (Option (Nat×Bool))×Bool×Option (List (Bool×Bool))×Option TypeDesc
def YZ(P:Program)(x:Nat×TI):I0M :=
 ((RG P x.1,CT x.2.zero.cells.toList x.2.size,Nat.blt 0 x.2.size,ones x.2.zero.cells.toList),match x.2.kd with
 | .agg pl e _=>(BB P x.1,Kl P x.1,NU P x.1,YY P x.1 0 pl,(!e||XM P x.1),XN P x.1,none)
 | .arr _ _=>(BB P x.1,none,true,[],true,none,P.underlying x.1)
 | .oth=>(X4 P x.1,none,true,[],true,none,none)
 | _=>(X4 P x.1,none,true,[],true,none,P.underlying x.1))
def Za(P:Program)(x:Nat×TI):I0M :=
 ((some (x.2.size,x.2.bytes,some x.2.zero),true,true,true),match x.2.kd with
 | .agg pl _ ag=>(true,some pl,true,pl.map (fun x=>some (x.1,true)),true,some (ag.map fun b=>(b,!b)),none)
 | .arr m E=>(true,none,true,[],true,none,some (.array m E))
 | .sl E=>(true,none,true,[],true,none,some (.slice E))
 | .str=>(true,none,true,[],true,none,some .string)
 | .bool=>(true,none,true,[],true,none,some .bool)
 | .int k=>(true,none,true,[],true,none,some (.int k))
 | .ptr=>(true,none,true,[],true,none,some (.pointer (P.pointee x.1)))
 | .oth=>(true,none,true,[],true,none,none))
theorem K0d{P:Program}{x:Nat×TI}(h:YZ P x=Za P x):Ii P x.1 x.2:=by
 obtain⟨T,c,b,zero,f,k⟩:=x;unfold YZ Za at h;simp only[pj] at h;obtain⟨⟨i,d,e,j⟩,a⟩:=h;refine⟨i,d,e,j,?_⟩;cases f <;> simp only[pj] at a <;> unfold RW
 ·exact⟨a.1,a.2.1,a.2.2.1,B0W a.2.2.2.1,fun g=>by simpa [g] using a.2.2.2.2.1,a.2.2.2.2.2.1⟩
 ·exact⟨a.1,a.2.2.2.2.2.2⟩
 ·exact⟨a.1,a.2.2.2.2.2.2⟩
 ·exact⟨a.1,a.2.2.2.2.2.2⟩
 ·exact⟨a.1,a.2.2.2.2.2.2⟩
 ·exact⟨a.1,a.2.2.2.2.2.2⟩
 ·exact a.1
 ·exact⟨a.1,a.2.2.2.2.2.2⟩
theorem QJ{P:Program}{Γ:o5}(h:Γ.map (YZ P)=Γ.map (Za P)):w9 P Γ:=by
 induction Γ with
 | nil=>exact D0h
 | cons x r a =>
   simp only[List.map_cons,List.cons.injEq] at h;exact tK (K0d h.1) (a h.2)
end Go.Proofs.Xv
end
