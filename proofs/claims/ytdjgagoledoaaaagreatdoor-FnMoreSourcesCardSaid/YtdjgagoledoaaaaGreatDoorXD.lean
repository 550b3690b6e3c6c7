/- Calls by contracts. Over any program. -/
import Derived.Test.YtdjgagoledoaaaaGreatDoorXA
import Derived.KernelRfl
set_option maxHeartbeats 0
section
namespace Go.Proofs.Xv
open Go Go.RowKit Go.Proofs.Sv
theorem Sat.after{X:Cx}{G:Gh}(S:Sat X G){w':World}{go:Option Nat}(n:WE go G.w w'){K':Nat->Prop}(hK:∀k,G.K k->K' k)(aA:∀k,K' k->UFg w' X.w0.heap.size k)(s:∀k,K' k->X.K0 k∨X.base<=k)
  (aC:∀id o b,b9 G.o id=some o->G.γ id=some b->¬K' b) (aD:∀id b,G.δ id b->H7 (b9 G.o id)=true->¬K' b) {a:List (Nat×Ob)}
  (hu:(go=none/\a=[])∨∃id b T cs0 t,∃z:j5 t,go=some b/\a=[(id,Ob.box T (p9 false t z))]/\b9 G.o id=some (.box T cs0)/\G.γ id=some b/\∃us,Blk w' b us T/\RT K' w' t us z) :
  Sat X ⟨G.ρ,G.γ,K',w',a++G.o,G.B,G.δ⟩/\GLe G ⟨G.ρ,G.γ,K',w',a++G.o,G.B,G.δ⟩:=by
 have W:∀k,G.K k->go≠some k:=fun k m e=>by
  grind
 have P:∀k,G.K k->k<G.w.heap.size->w'.heap[k]?=G.w.heap[k]?:=fun k m hl=>n.block k hl (W k m)
 -- where the objects stand
 have Q:∀i,(∃T cs0 t,∃z:j5 t,b9 (a++G.o) i=some (.box T (p9 false t z))/\b9 G.o i=some (.box T cs0)/\go=G.γ i/\(∃b us,G.γ i=some b/\Blk w' b us T/\RT K' w' t us z))∨(b9 (a++G.o) i=b9 G.o i/\∀o b,b9 G.o i=some o->G.γ i=some b->go≠some b):=fun i=>by
  rcases hu with ⟨rfl,rfl⟩ | ⟨id,b,T,cs0,t,z,rfl,rfl,g,hγ,us,hB,hR⟩
  ·grind
  ·by_cases e:id=i
   ·subst e;exact .inl ⟨T,cs0,t,z,by rw[List.cons_append,lK,if_pos rfl],g,hγ.symm,b,us,hγ,hB,hR⟩
   ·refine .inr ⟨by rw[List.cons_append,lK,if_neg e]; rfl,fun o b' d E e'=>?_⟩;cases e';exact e (S.inj id i _ _ b g d hγ E)
 have l:GLe G ⟨G.ρ,G.γ,K',w',a++G.o,G.B,G.δ⟩:=by
  refine⟨rfl,fun k m hl=>⟨hK k m,P k m hl⟩,fun i T cs hi=>⟨rfl,?_⟩,fun i T Te fr t xs V hi=>⟨rfl,?_⟩,fun i T fr t xs aB hi=>?_⟩
  ·grind
  ·grind
  ·grind
 have f:∀i o,b9 (a++G.o) i=some o->∃o',b9 G.o i=some o':=fun i o h=>by
  grind
 have F:∀i,H7 (b9 (a++G.o) i)=true->H7 (b9 G.o i)=true:=fun i h=>by
  rcases Q i with ⟨T',_,t,z,q,_⟩ | ⟨q,_⟩
  ·rw[q] at h; cases h
  grind
 refine⟨⟨S.base,n.os.trans S.os,n.tape.trans S.tape,n.output.trans S.output,Nat.le_trans S.size n.size,fun k m hi=>?_,?_,?_,?_,?_,aA,s,fun i b u hg=>?_,fun i v h=>(S.pin i v h).mono l⟩,l⟩
 rotate_right
 ·have hg:=F i hg;obtain⟨s1,s2,s3,s4⟩:=S.sep i b u hg
  grind
 ·refine(n.block k (Nat.lt_of_lt_of_le m S.size) (fun e=>?_)).trans (S.block k m hi);rcases hu with ⟨rfl,_⟩ | ⟨id,b,T,cs0,t,z,rfl,_,g,hγ,_⟩
  ·cases e
  ·cases e;rcases S.own id _ k g hγ with h | h
   ·omega
   grind
 ·intro i o g;rcases Q i with ⟨T,cs0,t,z,q,H,_,b,us,h3,h4,h5⟩ | ⟨q,H⟩
  ·rw[q] at g;cases g;obtain⟨b',aF,r,y,_⟩:=S.obs i _ H;rw[h3] at r;cases r;exact⟨b,us,h3,y,h4,AM (RT.up h5 (fun k m=>⟨m,(fun e=>by cases e)⟩))⟩
  ·have d:b9 G.o i=some o:=by rw[<- q]; exact g
   have:=S.obs i o d;cases o with
   | box T cs =>
     obtain⟨b,us,r,y,Y,g4⟩:=this;exact⟨b,us,r,y,Y.we n (fun j hj e=>by grind),g4.mono l⟩
   | arr T fr t xs aB =>
     obtain⟨cs,r,y,Y⟩:=this;exact⟨cs,r.we n (fun j hj e=>H _ j d e hj),y.mapR (fun c x hr=>RT.same (w:=G.w) l.hR hr),Y⟩
   | grd T Te fr t xs V =>
     obtain⟨vs,bs,r,y,Y⟩:=this;refine⟨vs,bs,r.we n (fun j hj e=>H _ j d e hj),y.up l (fun _=>Iff.rfl) n (fun b u F=>?_),Y⟩;rcases hu with ⟨rfl,_⟩ | ⟨id,b',T,cs0,t,z,rfl,_,ho2,hγ,_⟩
     ·grind
     ·cases F;exact(S.sep i b u (by rw[d]; rfl)).2.2.1 id _ ho2 hγ
 ·intro i i' o o' b g d u E;obtain⟨o1,q⟩:=f i o g;obtain⟨o2,H⟩:=f i' o' d;exact S.inj i i' o1 o2 b q H u E
 ·grind
 ·intro i o b g u;obtain⟨o1,q⟩:=f i o g;exact S.own i o1 b q u
theorem Sat.add{X:Cx}{G:Gh}(S:Sat X G){id:Nat}{ob:Ob}{r:Value}{g:Option Nat}(hd:b9 G.o id=none)(hg:∀b,g=some b->(X.w0.heap.size<=b∨X.io b)/\¬G.K b/\(∀i o,b9 G.o i=some o->G.γ i≠some b)/\∀i,G.δ i b->H7 (b9 G.o i)=true->False)
  (aB:GLe G (G.put id ob r g G.w)->ObR (G.put id ob r g G.w) id ob):Sat X (G.put id ob r g G.w)/\GLe G (G.put id ob r g G.w):=by
 have d:∀i,b9 (G.put id ob r g G.w).o i=if id=i then some ob else b9 G.o i:=fun i=>lK _ _ _ _
 have E:∀i o,b9 G.o i=some o->¬id=i:=fun i o h e=>by grind
 have f:GLe G (G.put id ob r g G.w):=by
  refine⟨rfl,fun k s _=>⟨s,rfl⟩,fun i T y hi=>?_,fun i T Te z t F n hi=>?_,fun i T z t F H hi=>?_⟩
  ·grind[Gh.put]
  ·grind[Gh.put]
  ·have e:=E i _ hi;rw[d,if_neg e];simp only[Gh.put,if_neg (Ne.symm e)]
   grind
 refine⟨⟨S.base,S.os,S.tape,S.output,S.size,S.block,?_,?_,?_,?_,S.klt,S.kfrom,fun i b c q=>?_,fun i v h=>(S.pin i v h).mono f⟩,f⟩
 rotate_right
 ·obtain⟨hn,c⟩:=c;rw[d,if_neg (Ne.symm hn)] at q;obtain⟨s1,Y,s3,s4⟩:=S.sep i b c q;refine⟨s1,Y,fun j o a x=>?_,fun j x aA=>?_⟩
  ·grind[Gh.put]
  ·obtain⟨aC,x⟩:=x
   grind
 ·intro i o a;rw[d] at a;by_cases e:id=i
  ·grind
  ·rw[if_neg e] at a;have:=S.obs i o a;cases o with
   | box T y =>
     obtain⟨b,us,W,u,P,h4⟩:=this;exact⟨b,us,by grind[Gh.put],by grind[Gh.put],P,h4.mono f⟩
   | arr T z t F H =>
     obtain⟨y,W,u,P⟩:=this;exact⟨y,by grind[Gh.put],u,by grind[Gh.put]⟩
   | grd T Te z t F n =>
     obtain⟨vs,bs,W,u,P⟩:=this;exact⟨vs,bs,by grind[Gh.put],u.up f (fun b=>⟨fun h=>h.2,fun h=>⟨Ne.symm e,h⟩⟩) (WE.refl (g:=none) _) (fun _ _ h=>by cases h),by grind[Gh.put]⟩
 ·intro i V o o' b a m c l;rw[d] at a m;simp only[Gh.put] at c l;by_cases e:i=id
  ·grind
  ·rw[if_neg e] at c;rw[if_neg (Ne.symm e)] at a;by_cases Q:V=id
   ·grind
   ·rw[if_neg Q] at l;rw[if_neg (Ne.symm Q)] at m;exact S.inj i V o o' b a m c l
 ·intro i o b a c s;rw[d] at a;simp only[Gh.put] at c s;by_cases e:i=id
  ·grind
  ·rw[if_neg e] at c;rw[if_neg (Ne.symm e)] at a;exact S.imm i o b a c s
 ·intro i o b a c;rw[d] at a;simp only[Gh.put] at c;by_cases e:i=id
  ·grind
  ·rw[if_neg e] at c;rw[if_neg (Ne.symm e)] at a;exact S.own i o b a c
mutual
def G6(d:Nat):Nat->AV->AV×List (Nat×Ob)×Nat
 | j,.ow T fr t xs=>(.os (1000*j+d) 0,[(1000*j+d,.arr T fr t xs 0)],j+1)
 | j,.ob T xs=>match M9 d j xs with | (ys,o,k)=>(.ptr (1000*k+d) 0,(1000*k+d,.box T ys) :: o,k+1)
 | j,.agg xs=>match M9 d j xs with | (ys,o,k)=>(.agg ys,o,k)
 | j,.tup xs=>match M9 d j xs with | (ys,o,k)=>(.tup ys,o,k)
 | j,.v x=>(.v x,[],j)
 | j,.d fr t x=>(.d fr t x,[],j)
 | j,a=>(a,[],j)
def M9(d:Nat):Nat->List AV->List AV×List (Nat×Ob)×Nat
 | j,[]=>([],[],j)
 | j,a :: r=>match G6 d j a with
   | (b,o,k)=>match M9 d k r with | (s,o',k')=>(b :: s,o'++o,k')
end
theorem XH{a:Type}{l m:List (Nat×a)}{i:Nat}(h:∀x∈l,x.1≠i):b9 (l++m) i=b9 m i:=by
 induction l with
 | nil=>rfl
 | cons x r b =>
   obtain⟨d,v⟩:=x;rw[List.cons_append,lK,if_neg (h (d,v) (by simp))]
   grind
structure XI(X:Cx)(d j k:Nat)(G:Gh)(obs:List (Nat×Ob))(gs:List (Option Nat))(G':Gh):Prop where
 sat:Sat X G'
 le:GLe G G'
 w:G'.w=G.w
 K:G'.K=G.K
 o:G'.o=obs++G.o
 jk:j<=k
 num:∀x∈obs,∃i,j<=i/\i<k/\x.1=1000*i+d
 far:∀b,some b ∉ gs->(∀i o,b9 G.o i=some o->G.γ i≠some b)->∀i o,b9 G'.o i=some o->G'.γ i≠some b
 dl:∀i b,G'.δ i b->H7 (b9 G'.o i)=true->G.δ i b/\H7 (b9 G.o i)=true
def RW(X:Cx)(G:Gh)(gs:List (Option Nat)):Prop:=∀b,some b∈gs->X.w0.heap.size<=b/\¬G.K b/\(∀i o,b9 G.o i=some o->G.γ i≠some b)/\∀i,G.δ i b->H7 (b9 G.o i)=true->False
theorem m0Q:∀{g h:List (Option Nat)},CQ (g++h)->CQ g/\CQ h/\∀b,some b∈g->some b ∉ h
 | [],h,k=>⟨trivial,k,fun _ a=>by cases a⟩
 | x :: r,h,⟨k1,k2⟩=>by
   obtain⟨d,f,i⟩:=m0Q k2;refine⟨⟨fun b a c=>k1 b a (by simp[c]),d⟩,f,fun b a c=>?_⟩;rcases List.mem_cons.1 a with e | a
   ·exact k1 b e.symm (by simp[c])
   grind
theorem XJ{X:Cx}{d j:Nat}{G:Gh}(S:Sat X G){b:List (Option Nat)}:XI X d j j G [] b G :=
 ⟨S,GLe.refl G,rfl,rfl,rfl,Nat.le_refl _,(fun _ h=>by cases h),(fun _ _ h=>h),fun _ _ h a=>⟨h,a⟩⟩
mutual
theorem i0b{X:Cx}{d:Nat}{K:Bool->Nat->Prop}:∀(a:AV) {j k:Nat} {b:AV} {obs:List (Nat×Ob)} {G:Gh} {u:Value} {gs:List (Option Nat)},G6 d j a=(b,obs,k)->Sat X G->(∀fr i,K fr i->rg G fr i)->ResR K G.w a u gs->CQ gs->RW X G gs->(∀x∈obs,b9 G.o x.1=none) ->
  ∃G',XI X d j k G obs gs G'/\AVR G' b u
 | .ow T fr t xs,j,k,b,obs,G,u,gs,h,S,hK,hR,hN,hF,hfr=>by
   simp only[G6,pj] at h;obtain⟨rfl,rfl,rfl⟩:=h;obtain⟨g,cs,rfl,E,hO,hA⟩:=hR;have hd:=hfr _ (List.mem_singleton.2 rfl);have f:=S.add (id:=1000*j+d) (ob:=.arr T fr t xs 0) (r:=u) (g:=g) hd (fun b m=>let h:=hF b (by grind); ⟨.inl h.1,h.2⟩) (fun z=>⟨cs,by grind[Gh.put],hA.mapR (fun c x hr=>RT.same (w:=G.w) (fun k hk _=>⟨hK fr k hk,rfl⟩) hr),fun b e=>by simp only[Gh.put,if_true] at e ⊢; subst e; exact Nat.le_trans S.le (hF b (by simp)).1⟩);refine⟨_,⟨f.1,f.2,rfl,rfl,rfl,Nat.le_succ _,fun x F=>?_,fun b m q i o hi=>?_,fun i b m n=>?_⟩,E,T,fr,t,xs,0,?_,Nat.le_refl _,fun _=>by simp[Gh.put]⟩
   ·cases List.mem_singleton.1 F;exact⟨j,Nat.le_refl _,Nat.lt_succ_self _,rfl⟩
   ·rw[show(Gh.put G (1000*j+d) (.arr T fr t xs 0) u g G.w).o=(1000*j+d,.arr T fr t xs 0) :: G.o from rfl,lK] at hi
    grind[Gh.put]
   ·obtain⟨hn,m⟩:=m;rw[show(Gh.put G (1000*j+d) (.arr T fr t xs 0) u g G.w).o=(1000*j+d,.arr T fr t xs 0) :: G.o from rfl,lK,if_neg (Ne.symm hn)] at n;exact⟨m,n⟩
   ·rw[show(Gh.put G (1000*j+d) (.arr T fr t xs 0) u g G.w).o=(1000*j+d,.arr T fr t xs 0) :: G.o from rfl,lK]; simp
 | .agg xs,j,k,b,obs,G,u,gs,h,S,hK,⟨us,e,hR⟩,hN,hF,hfr=>by
   simp only[G6] at h;cases f:M9 d j xs with
   | mk H r =>
     obtain⟨o,s⟩:=r;rw[f] at h;simp only[pj] at h;obtain⟨rfl,rfl,rfl⟩:=h;obtain⟨G',E,W⟩:=RX xs f S hK hR hN hF hfr;exact⟨G',E,us,e,W⟩
 | .tup xs,j,k,b,obs,G,u,gs,h,S,hK,⟨us,e,hR⟩,hN,hF,hfr=>by
   simp only[G6] at h;cases f:M9 d j xs with
   | mk H r =>
     obtain⟨o,s⟩:=r;rw[f] at h;simp only[pj] at h;obtain⟨rfl,rfl,rfl⟩:=h;obtain⟨G',E,W⟩:=RX xs f S hK hR hN hF hfr;exact⟨G',E,us,e,W⟩
 | .v x,j,k,b,obs,G,u,gs,h,S,hK,⟨hR,e⟩,hN,hF,hfr=>by
   simp only[G6,pj] at h;obtain⟨rfl,rfl,rfl⟩:=h;exact⟨G,XJ S,hR⟩
 | .d fr t x,j,k,b,obs,G,u,gs,h,S,hK,⟨hR,e⟩,hN,hF,hfr=>by
   simp only[G6,pj] at h;obtain⟨rfl,rfl,rfl⟩:=h;exact⟨G,XJ S,RT.same (w:=G.w) (fun k hk _=>⟨hK fr k hk,rfl⟩) hR⟩
 | .ptr _ _,_,_,_,_,_,_,_,_,_,_,hR,_,_,_=>hR.elim
 | .pel _ _ _ _ _,_,_,_,_,_,_,_,_,_,_,hR,_,_,_=>hR.elim
 | .os _ _,_,_,_,_,_,_,_,_,_,_,hR,_,_,_=>hR.elim
 | .fn _ _,_,_,_,_,_,_,_,_,_,_,hR,_,_,_=>hR.elim
 | .gel _ _,_,_,_,_,_,_,_,_,_,_,hR,_,_,_=>hR.elim
 | .og _,_,_,_,_,_,_,_,_,_,_,hR,_,_,_=>hR.elim
 | .ob T xs,j,k,b,obs,G,u,gs,h,S,hK,⟨b0,us,gs',eg,hu,hB,hR⟩,hN,hF,hfr=>by
   subst eg;simp only[G6] at h;cases f:M9 d j xs with
   | mk H r =>
     obtain⟨o,s⟩:=r;rw[f] at h;simp only[pj] at h;obtain⟨rfl,rfl,rfl⟩:=h;obtain⟨n1,n2⟩:=hN;have V:=JN xs f;have z:=JO xs f;obtain⟨Q,l,A1⟩:=RX xs f S hK hR n2 (fun b m=>hF b (by grind)) (fun x F=>hfr x (by grind));obtain⟨f1,f2,f3,f4⟩:=hF b0 (by simp);have hd:b9 Q.o (1000*s+d)=none:=by
      rw[l.o,XH]
      ·simp_all
      ·intro y hy e;obtain⟨i',aC,aB,aA⟩:=V y hy;rw[aA] at e;omega
     have f:=l.sat.add (id:=1000*s+d) (ob:=.box T H) (r:=u) (g:=some b0) hd (fun b m=>by
      cases m;exact⟨.inl f1,by rw[l.K]; exact f2,l.far b0 (n1 b0 rfl) f3,fun i hi P=>f4 i (l.dl i b0 hi P).1 (l.dl i b0 hi P).2⟩) (fun z=>⟨b0,us,by simp[Gh.put],by simp[Gh.put,hu],by show Blk Q.w b0 us T; rw[l.w]; exact hB,A1.mono z⟩)
     have Y:(Gh.put Q (1000*s+d) (.box T H) u (some b0) Q.w).o=(1000*s+d,.box T H) :: Q.o:=rfl;refine⟨_,⟨f.1,GLe.trans l.le f.2 (by rw[l.w]; exact Nat.le_refl _),l.w,l.K,by rw[Y,l.o]; rfl,by omega,fun x F=>?_,fun b m q i o hi=>?_,fun i b m n=>?_⟩,⟨T,H,by rw[Y,lK,if_pos rfl]⟩,b0,by simp[Gh.put,hu],by rw[hu]⟩
     ·rcases List.mem_cons.1 F with rfl | F
      ·exact⟨s,by omega,by omega,rfl⟩
      ·obtain⟨i,E,W,h3⟩:=l.num x F;exact⟨i,E,by omega,h3⟩
     ·rw[Y,lK] at hi;simp only[Gh.put];by_cases e:i=1000*s+d
      ·grind
      ·rw[if_neg e];rw[if_neg (Ne.symm e)] at hi;exact l.far b (fun h=>m (by simp[h])) q i o hi
     ·obtain⟨hn,m⟩:=m;rw[Y,lK,if_neg (Ne.symm hn)] at n;exact l.dl i b m n
theorem RX{X:Cx}{d:Nat}{K:Bool->Nat->Prop}:∀(as':List AV) {j k:Nat} {bs:List AV} {obs:List (Nat×Ob)} {G:Gh} {us:List Value} {gs:List (Option Nat)},M9 d j as'=(bs,obs,k)->Sat X G->(∀fr i,K fr i->rg G fr i)->ResRs K G.w as' us gs->CQ gs->RW X G gs->(∀x∈obs,b9 G.o x.1=none) ->
  ∃G',XI X d j k G obs gs G'/\AVRs G' bs us
 | [],j,k,bs,obs,G,us,gs,h,S,hK,⟨hR,e⟩,hN,hF,hfr=>by
   simp only[M9,pj] at h;obtain⟨rfl,rfl,rfl⟩:=h;exact⟨G,XJ S,hR⟩
 | a :: r,j,k,bs,obs,G,us,gs,h,S,hK,⟨u,us',g1,g2,e1,e2,hR1,hR2⟩,hN,hF,hfr=>by
   subst e1; subst e2;simp only[M9] at h;cases hp:G6 d j a with
   | mk b q =>
     obtain⟨o,W⟩:=q;rw[hp] at h;simp only at h;cases hp2:M9 d W r with
     | mk s q =>
       obtain⟨o',k2⟩:=q;rw[hp2] at h;simp only[pj] at h;obtain⟨rfl,rfl,rfl⟩:=h;obtain⟨n1,n2,n3⟩:=m0Q hN;obtain⟨V,c,A1⟩:=i0b a hp S hK hR1 n1 (fun b g=>hF b (by simp[g])) (fun x l=>hfr x (by simp[l]));have P:RW X V g2:=fun b g=>by
        obtain⟨f1,f2,f3,f4⟩:=hF b (by simp[g]);exact⟨f1,by rw[c.K]; exact f2,c.far b (fun h=>n3 b h g) f3,fun i hi m=>f4 i (c.dl i b hi m).1 (c.dl i b hi m).2⟩
       have z:∀x∈o',b9 V.o x.1=none:=fun x l=>by
        obtain⟨i,aB,aA,H⟩:∃i,W<=i/\i<k2/\x.1=1000*i+d:=by
         exact JN r hp2 x l
        rw[c.o,XH]
        ·grind
        ·intro y hy e;obtain⟨i',Y,T,F⟩:=c.num y hy;rw[F,H] at e;omega
       obtain⟨G2,f,A2⟩:=RX r hp2 c.sat (fun fr i hi=>by obtain⟨E,n⟩:=hK fr i hi; exact⟨by rw[c.K]; exact E,fun e=>by rw[c.le.hB]; exact n e⟩) (by rw[c.w]; exact hR2) n2 P z;refine⟨G2,⟨f.sat,?_,f.w.trans c.w,f.K.trans c.K,?_,Nat.le_trans c.jk f.jk,?_,?_,fun i b g v=>c.dl i b (f.dl i b g v).1 (f.dl i b g v).2⟩,u,us',rfl,A1.mono f.le,A2⟩
       ·exact GLe.trans c.le f.le (by rw[c.w]; exact Nat.le_refl _)
       ·rw[f.o,c.o,List.append_assoc]
       ·intro x l;rcases List.mem_append.1 l with l | l
        ·obtain⟨i,E,n,Q⟩:=f.num x l;exact⟨i,Nat.le_trans c.jk E,n,Q⟩
        ·obtain⟨i,E,n,Q⟩:=c.num x l;exact⟨i,E,Nat.lt_of_lt_of_le n f.jk,Q⟩
       ·intro b g t;exact f.far b (fun h=>g (by simp[h])) (c.far b (fun h=>g (by simp[h])) t)
theorem XK{d:Nat}:∀(a:AV) {j k:Nat} {b:AV} {obs:List (Nat×Ob)},G6 d j a=(b,obs,k)->(∀x∈obs,∃i,j<=i/\i<k/\x.1=1000*i+d)/\j<=k
 | .ow T fr t xs,j,k,b,obs,h=>by
   simp only[G6,pj] at h;obtain⟨rfl,rfl,rfl⟩:=h;refine⟨fun x e=>?_,Nat.le_succ _⟩;cases List.mem_singleton.1 e;exact⟨j,Nat.le_refl _,Nat.lt_succ_self _,rfl⟩
 | .agg xs,j,k,b,obs,h=>by
   simp only[G6] at h;cases hp:M9 d j xs with
   | mk l r =>
     obtain⟨o,g⟩:=r;rw[hp] at h;simp only[pj] at h;obtain⟨rfl,rfl,rfl⟩:=h;exact⟨JN xs hp,JO xs hp⟩
 | .tup xs,j,k,b,obs,h=>by
   simp only[G6] at h;cases hp:M9 d j xs with
   | mk l r =>
     obtain⟨o,g⟩:=r;rw[hp] at h;simp only[pj] at h;obtain⟨rfl,rfl,rfl⟩:=h;exact⟨JN xs hp,JO xs hp⟩
 | .v x,j,k,b,obs,h=>by simp only[G6,pj] at h; grind
 | .d fr t x,j,k,b,obs,h=>by simp only[G6,pj] at h; grind
 | .ptr _ _,j,k,b,obs,h=>by simp only[G6,pj] at h; grind
 | .pel _ _ _ _ _,j,k,b,obs,h=>by simp only[G6,pj] at h; grind
 | .os _ _,j,k,b,obs,h=>by simp only[G6,pj] at h; grind
 | .fn _ _,j,k,b,obs,h=>by simp only[G6,pj] at h; grind
 | .gel _ _,j,k,b,obs,h=>by simp only[G6,pj] at h; grind
 | .og _,j,k,b,obs,h=>by simp only[G6,pj] at h; grind
 | .ob T xs,j,k,b,obs,h=>by
   simp only[G6] at h;cases hp:M9 d j xs with
   | mk l r =>
     obtain⟨o,g⟩:=r;rw[hp] at h;simp only[pj] at h;obtain⟨rfl,rfl,rfl⟩:=h;have c:=JN xs hp;have f:=JO xs hp;refine⟨fun x e=>?_,by omega⟩;rcases List.mem_cons.1 e with rfl | e
     ·exact⟨g,f,by omega,rfl⟩
     ·obtain⟨i,n,q,m⟩:=c x e;exact⟨i,n,by omega,m⟩
theorem JO{d:Nat}:∀(as':List AV) {j k:Nat} {bs:List AV} {obs:List (Nat×Ob)},M9 d j as'=(bs,obs,k)->j<=k
 | [],j,k,bs,obs,h=>by simp only[M9,pj] at h; omega
 | a :: r,j,k,bs,obs,h=>by
   simp only[M9] at h;cases hp:G6 d j a with
   | mk b q =>
     obtain⟨o,c⟩:=q;rw[hp] at h;simp only at h;cases hp2:M9 d c r with
     | mk s q =>
       obtain⟨e,f⟩:=q;rw[hp2] at h;simp only[pj] at h;obtain⟨rfl,rfl,rfl⟩:=h;exact Nat.le_trans (XK a hp).2 (JO r hp2)
theorem JN{d:Nat}:∀(as':List AV) {j k:Nat} {bs:List AV} {obs:List (Nat×Ob)},M9 d j as'=(bs,obs,k)->∀x∈obs,∃i,j<=i/\i<k/\x.1=1000*i+d
 | [],j,k,bs,obs,h=>by simp only[M9,pj] at h; grind
 | a :: r,j,k,bs,obs,h=>by
   simp only[M9] at h;cases hp:G6 d j a with
   | mk b q =>
     obtain⟨o,l⟩:=q;rw[hp] at h;simp only at h;cases hp2:M9 d l r with
     | mk s q =>
       obtain⟨m,n⟩:=q;rw[hp2] at h;simp only[pj] at h;obtain⟨rfl,rfl,rfl⟩:=h;intro x c;rcases List.mem_append.1 c with c | c
       ·obtain⟨i,g,e,f⟩:=JN r hp2 x c;exact⟨i,Nat.le_trans (XK a hp).2 g,e,f⟩
       ·obtain⟨i,g,e,f⟩:=(XK a hp).1 x c;exact⟨i,g,Nat.lt_of_lt_of_le e (JO r hp2),f⟩
end
def FV:(ps:List Par)->B0 ps->List AV
 | [],_=>[]
 | .io _ t :: _,z=>p9 false t z
 | .dat _ :: r,z=>FV r z
 | .agg _ :: r,z=>FV r z
 | .fn _ _ :: r,z=>FV r z
 | .nof _ :: r,z=>FV r z
 | .nil :: r,z=>FV r z
 | .os _ _ :: r,z=>FV r z
def Am(o:List (Nat×Ob))(ps:List Par)(z:B0 ps):Option Nat->List (Nat×Ob)
 | none=>[]
 | some id=>match b9 o id with
   | some (.box T _)=>[(id,.box T (FV ps z))]
   | _=>[]
def Cc{α:Type}:List α->Bool
 | []=>true
 | _ :: _=>false
theorem NH{c:Type}{l:List c}(h:Cc l=true):l=[]:=by cases l with
 | nil=>rfl
 | cons a b=>cases h
def isNone{α:Type}:Option α->Bool
 | none=>true
 | some _=>false
def CR(o:List (Nat×Ob)):List (Nat×Ob)->Bool
 | []=>true
 | (i,_) :: r=>AQ o i&&CR o r
def FW(i:Nat):List Nat->Bool
 | []=>true
 | x :: r=>!Nat.beq x i&&FW i r
def NI(l:List Nat):Option Nat->Bool
 | none=>true
 | some i=>FW i l
def RY:List Par->List AV->Bool
 | .fn f _ :: r,.fn f' _ :: s=>Nat.beq f f'&&RY r s
 | .nof f :: r,.fn f' _ :: s=>Nat.beq f f'&&RY r s
 | _ :: r,_ :: s=>RY r s
 | _,_=>true
/- Data that lead Z2 new memory alone, or nowhere. -/
mutual
def Bu:AV->Bool
 | .d fr t _=>fr||D2 t
 | .ow _ fr t _=>fr||D2 t
 | .ob _ xs=>JP xs
 | .agg xs=>JP xs
 | .tup xs=>JP xs
 | _=>true
def JP:List AV->Bool
 | []=>true
 | a :: r=>Bu a&&JP r
end
mutual
theorem ResR.fresh{K K':Bool->Nat->Prop}{w:World}(f:∀fr k,K true k->K' fr k):∀{a:AV} {u:Value} {gs:List (Option Nat)},Bu a=true->ResR K w a u gs->ResR K' w a u gs
 | .v _,_,_,_,h=>h
 | .d fr t x,u,gs,hf,⟨h,e⟩=>by
   refine⟨?_,e⟩;simp only[Bu,Bool.or_eq_true] at hf
   grind[RT.up,RT.free]
 | .ow T fr t xs,u,gs,hf,⟨g,cs,h1,h2,h3,h4⟩=>by
   refine⟨g,cs,h1,h2,h3,h4.mapR (fun c x h=>?_)⟩;simp only[Bu,Bool.or_eq_true] at hf
   grind[RT.up,RT.free]
 | .agg xs,u,gs,hf,⟨us,e,h⟩=>⟨us,e,ResRs.fresh f (by grind[Bu]) h⟩
 | .ob T xs,u,gs,hf,⟨b,us,gs',e1,e2,h1,h⟩=>⟨b,us,gs',e1,e2,h1,ResRs.fresh f (by grind[Bu]) h⟩
 | .tup xs,u,gs,hf,⟨us,e,h⟩=>⟨us,e,ResRs.fresh f (by grind[Bu]) h⟩
theorem ResRs.fresh{K K':Bool->Nat->Prop}{w:World}(b:∀fr k,K true k->K' fr k):∀{as':List AV} {us:List Value} {gs:List (Option Nat)},JP as'=true->ResRs K w as' us gs->ResRs K' w as' us gs
 | [],_,_,_,h=>h
 | a :: r,us,gs,hf,⟨u,us',g1,g2,e1,e2,h1,h2⟩=>by
   simp only[JP,ba] at hf;exact⟨u,us',g1,g2,e1,e2,ResR.fresh b hf.1 h1,ResRs.fresh b hf.2 h2⟩
end
def RZ(o:List (Nat×Ob))(q:Prop)(rv:AV)(l:List Nat):Option Nat->Option (Prop×AV×List (Nat×Ob)×List Nat)
 | some id=>match rv,b9 o id with
   | .ow T fr t xs,some (.arr _ _ _ _ ver)=>bif D2 t&&Cc l then some (q,.os id (ver+1),[(id,.arr T fr t xs (ver+1))],[id]) else none
   | _,_=>none
 | none=>none
def HK(o:List (Nat×Ob))(d f:Nat)(as':List AV):List Ct->Option (Prop×AV×List (Nat×Ob)×List Nat)
 | []=>none
 | c :: r=>bif Nat.beq c.f f&&RY c.ps as' then(match K5 o c.ps as' with
   | some (x,l,io)=>match c.res x with
     | ⟨q,rv,z⟩=>bif F1 c.ps then RZ o q rv l io else(match G6 d 0 rv with
       | (av,obs,_)=>bif NI l io&&CR o obs&&(Cc l||(Bu rv&&isNone io)) then some (q,av,obs++Am o c.ps z io,(obs.map Prod.fst)++(l++io.toList)) else none)
   | none=>none) else HK o d f as' r
def CS(T:List Ct)(st:St)(p:Pa)(d:Nat):Op->Option (Prop×AV×List (Nat×Ob)×List Nat)
 | .call ⟨.value x,xs,_⟩=>match rd st p x,L5 st p xs.toList with
   | some (.fn f caps),some as'=>HK st.o d f (as'++caps) T
   | _,_=>none
 | _=>none
def Cl(X:Cx)(G:Gh)(a:Act)(op:Op)(ty:TypeId)(av:AV)(obs:List (Nat×Ob)):Prop :=
 ∃f vs,(∀dst pos after g,(execOp a.eval ⟨dst,op,ty,pos,after,g⟩).run X.P G.w=.ok (.enter f vs) G.w) /\
  Calls X.P f vs G.w fun en w'=>∃v G',en=.returned v/\G'.w=w'/\Sat X G'/\GLe G G'/\G'.o=obs++G.o/\AVR G' av v
theorem i0Y{o:List (Nat×Ob)}:∀{l:List (Nat×Ob)},CR o l=true->∀x∈l,b9 o x.1=none
 | [],_,_,h=>by cases h
 | (i,b) :: r,h,x,hx=>by
   simp only[CR,ba] at h;rcases List.mem_cons.1 hx with rfl | hx
   ·grind[FR]
   ·exact i0Y h.2 x hx
theorem HL{i:Nat}:∀{l:List Nat},FW i l=true->i ∉ l
 | [],_,h=>by cases h
 | x :: r,h,hx=>by
   simp only[FW,ba,Bool.not_eq_true'] at h;rcases List.mem_cons.1 hx with rfl | hx
   ·simp at h
   ·exact HL h.2 hx
theorem IOR.get{K:Nat->Prop}{w:World}{b:Nat}:∀{ps:List Par} {z:B0 ps} {Ka:Nat->Prop} {wa:World} {x:r7 ps} {vs:List Value},¬F1 ps=true->IOR K w (some b) ps z->ArgsR Ka wa (some b) ps x vs->∃t,∃z':j5 t,∃T us cs0,FV ps z=p9 false t z'/\Blk w b us T/\RT K w t us z'/\Blk wa b cs0 T
 | [],_,_,_,_,_,_,_,h=>by cases h.2
 | .os _ _ :: r,_,_,_,_,_,hv,_,_=>(hv rfl).elim
 | .io T t :: r,z,_,_,x,vs,_,⟨b',cs,e,hB,hR⟩,⟨b2,cs2,us,_,e2,_,hB2,_⟩=>by cases e; cases e2; exact⟨t,z,T,cs,_,rfl,hB,hR,hB2⟩
 | .dat _ :: r,z,_,_,x,vs,hv,h,⟨_,_,_,_,k⟩=>IOR.get (ps:=r) hv h k
 | .agg _ :: r,z,_,_,x,vs,hv,h,⟨_,_,_,_,k⟩=>IOR.get (ps:=r) hv h k
 | .fn _ _ :: r,z,_,_,x,vs,hv,h,⟨_,_,_,_,k⟩=>IOR.get (ps:=r) hv h k
 | .nof _ :: r,z,_,_,x,vs,hv,h,⟨_,_,k⟩=>IOR.get (ps:=r) hv h k
 | .nil :: r,z,_,_,x,vs,hv,h,⟨_,_,k⟩=>IOR.get (ps:=r) hv h k
theorem XL{o:List (Nat×Ob)}:∀{ps:List Par} {as':List AV} {x:r7 ps} {l:List Nat} {io:Option Nat},K5 o ps as'=some (x,l,io)->∀id∈l,∃ob,b9 o id=some ob
 | [],[],x,l,io,h=>by
   simp only[K5,oi,pj] at h
   grind
 | [],_ :: _,x,l,io,h=>by grind[K5]
 | _ :: _,[],x,l,io,h=>by grind[K5]
 | p :: r,a :: as',x,l,io,h=>by
   simp only[K5] at h;split at h
   ·rename_i g d i b;split at h
    ·rename_i y m j c;have f:=XL c;have e:∀id∈d,∃ob,b9 o id=some ob:=by
      unfold Cb at b;split at b
      ·split at b
       ·grind[oi,pj,FU]
       grind
      ·split at b
       ·grind[oi,pj,FU]
       grind
      ·rw[ce] at b;split at b
       ·split at b
        ·grind[oi,pj,FU]
        grind
       grind
      ·grind
      ·grind
      ·grind
      ·grind
      ·cases b
     grind
    grind
   grind
theorem r0g{X:Cx}{G:Gh}(S:Sat X G){d:Nat}{aK:List AV}{us:List Value}(hA:AVRs G aK us){ps:List Par}(aM:¬F1 ps=true){x:r7 ps}{l:List Nat}{f:Option Nat}(E:K5 G.o ps aK=some (x,l,f))(aH:NI l f=true) :
  (∀k,X5 G l k->k<G.w.heap.size)/\∃go,ArgsR (X5 G l) G.w go ps x us/\∀(res:r7 ps->FT ps),CR G.o (G6 d 0 (res x).r).2.1=true/\(Cc l||(Bu (res x).r&&isNone f))=true->∀(en:Ending) (w':World),
  (∃v gs,en=.returned v/\WE go G.w w'/\CQ gs/\(∀b,some b∈gs->G.w.heap.size<=b∨(F1 ps=true/\go=some b))/\ResR (fun fr=>NG fr (X5 G l) G.w w' gs) w' (res x).r v gs /\
    IOR (fun k=>(X5 G l k∨G.w.heap.size<=k)/\UFg w' G.w.heap.size k/\some k ∉ gs/\go≠some k) w' go ps (res x).z) ->
  ∃v G',en=.returned v/\G'.w=w'/\Sat X G'/\GLe G G'/\G'.o=((G6 d 0 (res x).r).2.1++Am G.o ps (res x).z f)++G.o/\AVR G' (G6 d 0 (res x).r).1 v:=by
 have aA:=XL E;obtain⟨_,go,aI,aL⟩:=JM S aA E (fun _ h=>h) (fun i hi=>by subst hi; exact HL aH) hA;have aR:∀k,X5 G l k->k<G.w.heap.size:=by
  rintro k (h | ⟨id,aJ,c⟩)
  ·exact(S.klt k h).lt
  ·obtain⟨ob,F⟩:=aA id aJ;have:=S.obs id ob F;cases ob with
   | box T cs=>obtain⟨b,us,a,n,q,h4⟩:=this; rw[c] at a; cases a; exact(Xp q).lt
   | arr T fr t xs aU=>obtain⟨cs,a,n,_⟩:=this; rw[c] at a; exact(FO a).lt
   | grd T Te fr t xs aF=>obtain⟨vs,bs,a,_⟩:=this; rw[c] at a; exact(FO a).lt
 have aS:∀k,G.K k->go≠some k:=fun k c e=>by
  rcases aL with ⟨_,Y⟩ | ⟨id,b,T',cs',_,Y,ho',hγ'⟩ | ⟨_,_,_,_,_,_,_,_,_,Y⟩
  ·grind
  ·rw[Y] at e; cases e; exact S.imm id _ _ ho' hγ' c
  grind
 refine⟨aR,go,aI,fun res aG en w' aC=>?_⟩;obtain⟨v,gs,rfl,hw,hN,s,hR,aV⟩:=aC;have hc:(NI l f=true/\CR G.o (G6 d 0 (res x).r).2.1=true)/\(Cc l||(Bu (res x).r&&isNone f))=true:=⟨⟨aH,aG.1⟩,aG.2⟩;have s:∀b,some b∈gs->G.w.heap.size<=b:=fun b m=>(s b m).resolve_right (fun h=>aM h.1);have aX:∀id o b,b9 G.o id=some o->G.γ id=some b->b<G.w.heap.size:=fun id o b F m=>by
  have:=S.obs id o F;cases o with
  | box T cs=>obtain⟨b',us,a,n,q,h4⟩:=this; rw[m] at a; cases a; exact q.lt
  | arr T fr t xs aU=>obtain⟨cs,a,n,_⟩:=this; exact a.lt b m
  | grd T Te fr t xs aF=>obtain⟨vs,bs,a,_⟩:=this; exact a.lt b m
 -- the region that data may lead to now
 let K':Nat->Prop:=fun k=>G.K k∨(G.w.heap.size<=k/\UF w' k/\some k ∉ gs)
 have aZ:l=[]->∀k,X5 G l k->G.K k:=fun W k c=>by
  subst W;rcases c with h | ⟨id,aJ,_⟩
  ·exact h
  grind
 have aB:l=[]∨(Bu (res x).r=true/\f=none):=by
  have:=hc.2;simp only[Bool.or_eq_true,ba] at this;rcases this with h | ⟨a,n⟩
  ·grind[NH]
  ·refine .inr ⟨a,?_⟩;cases f with
   | none=>rfl
   | some i=>cases n
 obtain⟨KR,aO,hR⟩:∃KR:Bool->Nat->Prop,(∀fr k,KR fr k->K' k/\(fr=true->G.B<=k))/\ResR KR w' (res x).r v gs:=by
  rcases aB with W | ⟨aD,_⟩
  ·refine⟨_,fun fr k c=>?_,hR⟩;obtain⟨a | a,n,q⟩:=c
   ·grind
   ·exact⟨.inr ⟨a,n.2 a,q⟩,fun _=>Nat.le_trans S.le (Nat.le_trans S.size a)⟩
  ·refine⟨fun _=>NG true (X5 G l) G.w w' gs,fun fr k c=>?_,ResR.fresh (fun _ _ h=>h) aD hR⟩;obtain⟨a | a,n,q⟩:=c
   ·grind
   ·exact⟨.inr ⟨a,n.2 a,q⟩,fun _=>Nat.le_trans S.le (Nat.le_trans S.size a)⟩
 have u:(go=none/\Am G.o ps (res x).z f=[])∨∃id b T Q t,∃z:j5 t,go=some b/\Am G.o ps (res x).z f=[(id,Ob.box T (p9 false t z))]/\b9 G.o id=some (.box T Q)/\G.γ id=some b/\∃us,Blk w' b us T/\RT K' w' t us z:=by
  rcases aL with ⟨rfl,rfl⟩ | ⟨id,b,T,cs,rfl,rfl,F,hγ⟩ | ⟨_,_,_,_,_,_,_,_,_,e⟩
  rotate_right
  ·grind
  ·exact .inl ⟨rfl,rfl⟩
  ·obtain⟨t,z',T',aQ,Q,e,hB,aN,H⟩:=IOR.get aM aV aI;obtain⟨b',aY,a,n,q,h4⟩:=S.obs id _ F;rw[hγ] at a;cases a;have aP:T=T':=by
    unfold Blk at q H;rw[q] at H;simp only[oi,Obj.cells.injEq] at H;exact H.2.1
   subst aP;refine .inr ⟨id,b,T,cs,t,z',rfl,?_,F,hγ,aQ,hB,RT.same (w:=w') (fun k c _=>⟨?_,rfl⟩) aN⟩
   ·grind[Am]
   ·obtain⟨a | a,n,q,h4⟩:=c
    ·grind
    ·exact .inr ⟨a,n.2 a,q⟩
 obtain⟨S1,L1⟩:=Sat.after S hw (K':=K') (fun k c=>.inl c) (by
  rintro k (h | h)
  ·exact(S.klt k h).same hw.size (hw.block k (S.klt k h).lt (aS k h))
  ·exact h.2.1.g) (by
  rintro k (h | h)
  ·exact S.kfrom k h
  ·exact .inr (Nat.le_trans S.base.2 (Nat.le_trans S.size h.1))) (by
  rintro id o b F m (h | h)
  ·exact S.imm id o b F m h
  grind) (by
  rintro id b m V (h | h)
  ·exact(S.sep id b m V).2.1 h
  ·have:=S.dlt m V; omega) u
 have aT:∀i o,b9 (Am G.o ps (res x).z f++G.o) i=some o->∃o',b9 G.o i=some o':=fun i o h=>by
  rcases u with ⟨_,e⟩ | ⟨id,b,T,Q,t,z,_,e,F,_⟩
  ·rw[e] at h; exact⟨o,h⟩
  ·rw[e,List.cons_append,lK] at h;by_cases Y:id=i
   ·subst Y; exact⟨_,F⟩
   ·rw[if_neg Y] at h; exact⟨o,h⟩
 have aW:∀i,H7 (b9 (Am G.o ps (res x).z f++G.o) i)=true->H7 (b9 G.o i)=true:=fun i h=>by
  rcases u with ⟨_,e⟩ | ⟨id,b,T,Q,t,z,_,e,F,_⟩
  ·grind
  ·rw[e,List.cons_append,lK] at h;by_cases Y:id=i
   ·rw[if_pos Y] at h; cases h
   grind
 have hF:RW X ⟨G.ρ,G.γ,K',w',Am G.o ps (res x).z f++G.o,G.B,G.δ⟩ gs:=fun b m=>by
  refine⟨Nat.le_trans S.size (s b m),?_,fun i o hi e=>?_,fun i hi V=>?_⟩
  ·rintro(h | h)
   ·have:=(S.klt b h).lt; have:=s b m; omega
   grind
  ·grind
  ·have:=S.dlt hi (aW i V);have:=s b m;omega
 have aD:∀y∈(G6 d 0 (res x).r).2.1,b9 (Am G.o ps (res x).z f++G.o) y.1=none:=fun y hy=>by
  grind[i0Y,b9,Am]
 obtain⟨G',P,hv⟩:=i0b (K:=KR) (res x).r (d:=d) (j:=0) rfl S1 aO hR hN hF aD;refine⟨v,G',rfl,P.w,P.sat,GLe.trans L1 P.le hw.size,?_,hv⟩;rw[P.o,List.append_assoc]
theorem i0P{X:Cx}{G:Gh}(S:Sat X G){d f:Nat}{aA:List AV}{us:List Value}(hA:AVRs G aA us):∀{T:List Ct},(∀c∈T,Ok X.P c)->∀{q:Prop} {av:AV} {obs:List (Nat×Ob)} {fp:List Nat},HK G.o d f aA T=some (q,av,obs,fp)->q ->
  Al X.P f=true/\Calls X.P f us.toArray G.w fun en w'=>∃v G',en=.returned v/\G'.w=w'/\Sat X G'/\GLe G G'/\G'.o=obs++G.o/\AVR G' av v
 | [],_,q,av,obs,fp,h,_=>by cases h
 | c :: r,hT,q,av,obs,fp,h,hq=>by
   have hr:=i0P S (d:=d) hA (T:=r) (fun c Q=>hT c (by grind)) (f:=f) (q:=q) (av:=av) (obs:=obs) (fp:=fp);simp only[HK,ce] at h;split at h
   ·rename_i Y;rw[ba] at Y;have Y:=nb Y.1;split at h
    ·rename_i x l io a;by_cases F:F1 c.ps=true
     ·rw[if_pos F] at h;unfold RZ at h;split at h
      ·rename_i id;split at h
       ·rename_i T fr t xs E' aF t' aG j aH ho;rw[ce] at h;split at h
        ·rename_i u;rw[ba] at u;have H:=NH u.2;subst H;simp only[oi,pj] at h;obtain⟨rfl,rfl,rfl,_⟩:=h;obtain⟨V,z⟩:=hT c (by simp);refine⟨by grind,?_⟩;have W:=XL a;obtain⟨_,go,y,E⟩:=JM S W a (fun _ h=>h) (fun i hi h=>by cases h) hA;have E:go=G.γ id:=by
          rcases E with ⟨e,_⟩ | ⟨id',b,T',cs',e,_,ho',_⟩ | ⟨id',_,_,_,_,_,e,hg,_⟩
          ·cases e
          ·grind
          ·grind
         subst E;obtain⟨_,_,_,aJ⟩:=S.obs id _ ho;have s:∀k,X5 G [] k->k<G.w.heap.size:=by
          rintro k (h | ⟨id,aM,hk⟩)
          ·exact(S.klt k h).lt
          ·grind
         rw[<- Y];refine Calls.mono (z x hq G.w us (G.γ id) (X5 G []) s y) ?_;rintro en w' ⟨v,gs,rfl,hw,hN,aK,hR,aO⟩;rw[aH] at hR;obtain⟨g,cs,rfl,aB,hO,aI⟩:=hR;have aD:∀b,g=some b->G.γ id=some b∨G.w.heap.size<=b:=fun b hb=>by
          grind
         have m:=S.put (id:=id) (ob:=.arr T fr t xs (j+1)) (r:=v) (g:=g) (w':=w') (go:=G.γ id) ⟨(fun T cs h=>by grind),(fun T aF t' aG aN h=>by grind),by rw[ho]; rfl⟩
          (fun b hb=>⟨⟨_,ho⟩,hb⟩) hw aD
          (fun aL=>⟨cs,by grind[Gh.put],aI.mapR (fun c x h=>RT.free u.1 h),fun b e=>by
            simp only[Gh.put,if_true] at e ⊢;rcases aD b e with h | h
            ·exact aJ b h
            ·exact Nat.le_trans S.le (Nat.le_trans S.size h)⟩)
         exact⟨v,_,rfl,rfl,m.1,m.2,rfl,aB,T,fr,t,xs,j+1,by rw[show(Gh.put G id (.arr T fr t xs (j+1)) v g w').o=(id,.arr T fr t xs (j+1)) :: G.o from rfl,lK]; simp,Nat.le_refl _,fun _=>by simp[Gh.put]⟩
        ·cases h
       ·cases h
      ·cases h
     rw[if_neg F] at h;split at h
     ·rename_i Q;simp only[ba] at Q;simp only[oi,pj] at h;obtain⟨rfl,rfl,rfl,_⟩:=h;obtain⟨V,z⟩:=hT c (by simp);refine⟨by grind,?_⟩;obtain⟨s,go,y,aC⟩:=r0g S (d:=d) hA F a Q.1.1;rw[<- Y];exact Calls.mono (z x hq G.w us go (X5 G l) s y) (fun en w' n=>aC c.res ⟨Q.1.2,Q.2⟩ en w' n)
     grind
    grind
   grind
theorem k0F{X:Cx}{G:Gh}{a:Act}{st:St}{p:Pa}{T:List Ct}(F:∀c∈T,Ok X.P c)(S:Sat X G)(V:G.o=st.o)(k:EnvR X.n G st.e a)(s:PathP p a){t:Op}{ty:TypeId}{d:Nat}{q:Prop}{r:AV}{obs:List (Nat×Ob)}{fp:List Nat}
  (h:CS T st p d t=some (q,r,obs,fp)) (W:q):Cl X G a t ty r obs:=by
 unfold CS at h;split at h
 ·rename_i x l Ts;split at h
  ·rename_i f m E Y v;obtain⟨cs,w,u⟩:=C7 k s Y;have Q:=AO k s v;rw[<- V] at h;obtain⟨i,b⟩:=i0P S (AVRs.app u Q) F h W;refine⟨f,_,fun z H j g=>?_,b⟩
   haveI:Rr X.P f:=⟨i⟩
   have y:l.map a.eval=(l.toList.map a.eval).toArray:=by grind
   simp only[execOp,resolve,y,w];simp[Deferred.ofValue,invoke,Xj]
  grind
 grind
def Bv(Γ:o4)(st:St)(p:Pa)(d:Nat):Op->Option (Prop×AV×List (Nat×Ob)×List Nat)
 | .load T x=>match rd st p x,b9 Γ T with
   | some (.gel id k),some ⟨_,_,_,.sl _,_⟩=>match b9 st.o id with
     | some (.grd T0 Te fr t xs none)=>bif AQ st.o d then some (k<xs.length,.os d 0,[(d,.arr Te fr t (xs.getD k []) 0),(id,.grd T0 Te fr t xs (some k))],[d,id]) else none
     | _=>none
   | _,_=>none
 | .slice T x l h none=>match rd st p x,S8 st p l,S8 st p h,b9 Γ T with
   | some (.os id ver),some lo,some none,some ⟨_,_,_,.sl E,_⟩=>match b9 Γ E,b9 st.o id with
     | some te,some (.arr E' fr t xs ver')=>bif Nat.beq ver ver'&&Nat.beq te.size (sz t) then some (NF (lo.getD 0) xs.length xs.length,.os id (ver+1),[(id,.arr E' fr t (HJ xs lo none) (ver+1))],[id]) else none
     | _,_=>none
   | _,_,_,_=>none
 | _=>none
def Cd(Γ:o4)(st:St)(p:Pa):Op->Option (Prop×List (Nat×Ob)×List Nat)
 | .store T x y=>match rd st p x,rd st p y,b9 Γ T with
   | some (.gel id k),some (.os d ver),some ti=>match b9 st.o id,b9 st.o d with
     | some (.grd T0 Te fr t xs (some k')),some (.arr Te' fr' t' l ver')=>match X3 (.sl t') (.sl t) l with
       | some l'=>bif Nat.beq ver ver'&&Nat.beq Te Te'&&Nat.beq ti.size 1 then some (k<xs.length/\k=k',[(id,.grd T0 Te (fr&&fr') t (xs.set k l') none),(d,.arr Te' fr' t' [] (ver+1))],[id,d]) else none
       | none=>none
     | _,_=>none
   | _,_,_=>none
 | _=>none
def Ml(X:Cx)(G:Gh)(a:Act)(op:Op)(ty:TypeId)(av:AV)(obs:List (Nat×Ob)):Prop :=
 ∃v G',(∀dst pos after g,(execOp a.eval ⟨dst,op,ty,pos,after,g⟩).run X.P G.w=.ok (.value v) G'.w)/\Sat X G'/\GLe G G'/\G'.o=obs++G.o/\AVR G' av v
def Ul(X:Cx)(G:Gh)(a:Act)(op:Op)(ty:TypeId)(obs:List (Nat×Ob)):Prop :=
 ∃G',(∀dst pos after g,(execOp a.eval ⟨dst,op,ty,pos,after,g⟩).run X.P G.w=.ok .skip G'.w)/\Sat X G'/\GLe G G'/\G'.o=obs++G.o
theorem v0N{a:Type}{l:List a}{k:Nat}(b:k<l.length)(z:a):l[k]?=some (l.getD k z):=by grind
section
variable {X:Cx} {G:Gh} {a:Act} {st:St} {Γ:o4} {p:Pa}
theorem D0j(S:Sat X G){id d k:Nat}{n Te:TypeId}{fr:Bool}{t:Ty}{xs:List (List (j5 t))}(F:b9 G.o id=some (.grd n Te fr t xs none))(hd:b9 G.o d=none)(u:k<xs.length){vs:List Value}{l:Nat->Option Nat}
  (Y:Own G.w n 1 (G.γ id) (G.ρ id) xs.length vs) (f:Rows G id Te fr t xs none vs l) (V:∀b,G.γ id=some b->G.B<=b) :
  ∃G',Sat X G'/\GLe G G'/\G'.w=G.w/\G'.o=[(d,.arr Te fr t (xs.getD k []) 0),(id,.grd n Te fr t xs (some k))]++G.o/\AVR G' (.os d 0) (vs.getD k (.bool false)):=by
 have aA:¬id=d:=fun e=>by grind
 obtain⟨W,r1,r2,r3⟩:=f.row k u (fun h=>by cases h);have s:∀b j,j<xs.length->l j=some b->(X.w0.heap.size<=b∨X.io b)/\¬G.K b/\(∀i o,b9 G.o i=some o->G.γ i≠some b)/\∀i,G.δ i b->H7 (b9 G.o i)=true->id=i:=fun b j a c=>S.sep id b ((f.blk b).2 ⟨j,a,(fun h=>by cases h),c⟩) (by rw[F]; rfl)
 have h1:=S.grd (id:=id) (T':=n) (Te':=Te) (fr':=fr) (t':=t) (xs':=xs) (hole':=some k) (D:=fun b=>∃j,j<xs.length/\j≠k/\l j=some b) (w':=G.w) (go:=none) F (fun _ e=>by cases e) (WE.refl _)
  (fun b ⟨j,a,_,c⟩=>by
    grind)
  (fun z=>⟨vs,l,Y,⟨f.len,fun b=>⟨fun h=>?_,fun⟨j,a,hh,c⟩=>.inl ⟨rfl,j,a,(fun e=>hh (by rw[e])),c⟩⟩,fun j Q b a x _ _ c E=>f.inj j Q b a x (fun h=>by cases h) (fun h=>by cases h) c E,fun j a _=>f.row j a (fun h=>by cases h),f.one⟩,V⟩)
 ·obtain⟨S1,T⟩:=h1;have q:∀i,b9 (G.grd id (.grd n Te fr t xs (some k)) (fun b=>∃j,j<xs.length/\j≠k/\l j=some b) G.w).o i=if id=i then some (.grd n Te fr t xs (some k)) else b9 G.o i:=fun i=>lK _ _ _ _
  have h2:=S1.add (id:=d) (ob:=.arr Te fr t (xs.getD k []) 0) (r:=vs.getD k (.bool false)) (g:=l k) (by grind)
   (fun b c=>by
     obtain⟨s1,P,H,s4⟩:=s b k u c;refine⟨s1,P,fun i o hi=>?_,fun i hi v=>?_⟩
     ·rw[q] at hi;by_cases e:id=i
      ·subst e; exact H _ _ F
      ·rw[if_neg e] at hi; exact H i o hi
     ·rw[q] at v;rcases hi with ⟨_,j,a,m,y⟩ | ⟨hi,hib⟩
      ·exact m (f.inj j k b a u (fun h=>by cases h) (fun h=>by cases h) y c)
      ·rw[if_neg (Ne.symm hi)] at v;exact hi (s4 i hib v).symm)
   (fun z=>⟨W,by simp only[Gh.put,if_true]; exact r1,r2,fun b e=>by simp only[Gh.put,if_true] at e ⊢; exact r3 b e⟩)
  obtain⟨S2,L2⟩:=h2;refine⟨_,S2,T.trans L2 (Nat.le_refl _),rfl,rfl,f.one _ ?_,Te,fr,t,xs.getD k [],0,by rw[show ∀G0:Gh,(Gh.put G0 d (.arr Te fr t (xs.getD k []) 0) (vs.getD k (.bool false)) (l k) G0.w).o=(d,.arr Te fr t (xs.getD k []) 0) :: G0.o from fun _=>rfl,lK]; simp,Nat.le_refl _,fun _=>by simp[Gh.put]⟩;exact List.mem_of_getElem? (v0N (by rw[f.len]; exact u) _)
 ·rcases h with ⟨_,j,a,m,c⟩ | ⟨h,_⟩
  ·exact⟨j,a,(fun e=>m (Option.some.inj e).symm),c⟩
  ·exact(h rfl).elim
theorem y0z{w:World}{E s:Nat}{g:Option Nat}{d:Option Addr}{n a:Nat}{cs:List Value}(h:Own w E s g (.slice d n a) n cs){k:Nat}(i:k<=n):∃g',(g'=none∨g'=g)/\n<=a/\Own w E s g' (.slice (if a=k then d else d.map (·.add (k*s))) (n-k) (a-k)) (n-k) (cs.drop (k*s)):=by
 have f:=h.clen;rcases h with ⟨rfl,rfl,rfl,p,e⟩ | ⟨b,o,c,cur,rfl,e,h1,h2,h3,h4,rfl⟩
 ·cases e;have:k=0:=by omega
  subst this;exact⟨none,.inl rfl,Nat.le_refl _,.inl ⟨rfl,rfl,by simp,d,by simp⟩⟩
 ·cases e;by_cases j:a=k
  ·refine⟨none,.inl rfl,h2,.inl ⟨rfl,by omega,?_,some ⟨b,o,none⟩,?_⟩⟩
   ·grind
   grind
  ·refine⟨some b,.inr rfl,h2,.inr ⟨b,o+k*s,a-k,cur,rfl,?_,h1,by omega,by omega,?_,?_⟩⟩
   ·grind[Addr.add]
   ·have:=Nat.mul_le_mul_right s (show k<=a by omega)
    grind[Nat.sub_mul]
   grind[List.drop_take,List.drop_drop,Nat.sub_mul]
theorem k0V(Q:w9 X.P Γ)(S:Sat X G)(hE:EnvR X.n G st.e a)(hp:PathP p a){T E m ty id ver:Nat}{s0 y0:Nat}{z0:Value}{aD:Ty}{x:Operand}{l h:Option Operand}{lo:Option Int}{fr:Bool}{t:Ty}{xs:List (j5 t)}{s:TI}
  (hT:b9 Γ T=some ⟨s0,y0,z0,.sl E,aD⟩) (aA:b9 Γ E=some s) (W:b9 G.o id=some (.arr m fr t xs ver)) (hs:s.size=sz t) (hx:AVR G (.os id ver) (a.eval x)) (hl:S8 st p l=some lo) (hh:S8 st p h=some none) (hq:NF (lo.getD 0) xs.length xs.length) :
  Ml X G a (.slice T x l h none) ty (.os id (ver+1)) [(id,.arr m fr t (HJ xs lo none) (ver+1))]:=by
 obtain⟨_,T1,aM,t1,aP,aJ,g1,g2,g3⟩:=hx;rw[W] at g1;cases g1;have hu:=g3 rfl;obtain⟨cs,hO,hA,aF⟩:=S.obs id _ W;obtain⟨q,d,hv⟩:=hO.len;rw[hv] at hO hu;have hU:=(Q T _ hT).2.2.2.2.2;have hI:Info X.P E s.size s.bytes s.zero:=⟨(Q E _ aA).1⟩;obtain⟨aN,i,h2,h3,h5⟩:=hI.get;have H:HJ xs lo none=xs.drop (lo.getD 0).toNat:=by
  rw[w0k xs lo none hq];simp
 rw[H];have aC:h=none:=by
  rcases RP hE hp hh with ⟨j,_⟩ | ⟨y,n,k,_,Y,_⟩
  ·exact j
  ·cases Y
 subst aC;have aG:(∃n k,l=some n/\a.eval n=.int k (lo.getD 0))∨(l=none/\lo.getD 0=0):=by
  rcases RP hE hp hl with ⟨j,Y⟩ | ⟨y,n,k,j,Y,e3⟩
  ·grind
  ·grind
 generalize lo.getD 0=l0 at *
 obtain⟨q1,q2,q3⟩:=hq;have hk:l0.toNat<=xs.length:=by omega
 obtain⟨g',F,aI,aH⟩:=y0z hO hk;have V:∀v z f g,(execOp a.eval ⟨v,.slice T x l none none,ty,z,f,g⟩).run X.P G.w=.ok (.value (.slice (if d=l0.toNat then q else q.map (·.add (l0.toNat*sz t))) (xs.length-l0.toNat) (d-l0.toNat))) G.w:=by
  intro v z f g;rcases aG with ⟨n1,k1,rfl,j⟩ | ⟨rfl,j⟩
  ·have r2:=run_sliceBound (P:=X.P) (w:=G.w) k1 l0 xs.length .sliceB q1 q2;simp[execOp,hu,Instr.sliceAt,Instr.slice,Instr.sliceBounds,run_underlying hU,Result.andThen,X2 G.w i,h2,hs,j,r2]
  ·simp[execOp,hu,Instr.sliceAt,Instr.slice,Instr.sliceBounds,run_underlying hU,Result.andThen,X2 G.w i,h2,hs,j]
 have h:=S.put (id:=id) (ob:=.arr m fr t (xs.drop l0.toNat) (ver+1)) (r:=.slice (if d=l0.toNat then q else q.map (·.add (l0.toNat*sz t))) (xs.length-l0.toNat) (d-l0.toNat)) (g:=g') (w':=G.w) (go:=G.γ id) ⟨(fun T cs h=>by grind),(fun T aK t' aL aO h=>by grind),by rw[W]; rfl⟩
  (fun b u=>⟨⟨_,W⟩,u⟩) (WE.refl _) (fun b u=>by
    rcases F with h | h
    ·rw[h] at u; cases u
    ·exact .inl (h ▸ u))
  (fun aB=>⟨cs.drop (l0.toNat*sz t),by simp only[Gh.put,if_true,List.length_drop]; exact aH,(AllR.takeD (fun c y hy=>RT.len hy) l0.toNat hA).2.mapR (fun c x hr=>RT.same (w:=G.w) aB.hR hr),fun b e=>by
    simp only[Gh.put,if_true] at e ⊢;rcases F with h | h
    ·rw[h] at e; cases e
    ·exact aF b (h ▸ e)⟩)
 exact⟨_,G.put id (.arr m fr t (xs.drop l0.toNat) (ver+1)) (.slice (if d=l0.toNat then q else q.map (·.add (l0.toNat*sz t))) (xs.length-l0.toNat) (d-l0.toNat)) g' G.w,V,h.1,h.2,rfl,rfl,m,fr,t,xs.drop l0.toNat,ver+1,by rw[show(Gh.put G id (.arr m fr t (xs.drop l0.toNat) (ver+1)) _ _ _).o=(id,.arr m fr t (xs.drop l0.toNat) (ver+1)) :: G.o from rfl,lK]; simp,Nat.le_refl _,fun _=>by simp[Gh.put]⟩
theorem s0G(aA:w9 X.P Γ)(S:Sat X G)(ho:G.o=st.o)(hE:EnvR X.n G st.e a)(hp:PathP p a){op:Op}{ty:TypeId}{d:Nat}{q:Prop}{r:AV}{obs:List (Nat×Ob)}{l:List Nat}
  (h:Bv Γ st p d op=some (q,r,obs,l)) (hq:q):Ml X G a op ty r obs:=by
 unfold Bv at h;split at h
 ·rename_i T x;split at h
  ·rename_i id k s0 y0 z0 E Y h1 h2;split at h
   ·rename_i T0 Te fr t xs H;rw[ce] at h;split at h
    ·rename_i F;simp only[oi,pj] at h;obtain⟨rfl,rfl,rfl,_⟩:=h;rw[<- ho] at H F;have W:=C7 hE hp h1;obtain⟨_,b,o,n,c,y,W⟩:=W;obtain⟨m,bs,z,hR,hB⟩:=S.obs id _ H;have V:G.γ id=some b:=by
      rcases z with ⟨_,hn,_⟩ | ⟨b',o',cap,cur,V,f,_⟩
      ·omega
      ·rw[y] at f;simp only[Value.slice.injEq,oi,Addr.mk.injEq] at f;rw[V,f.1.1]
     have j:At G.w b o m:=by rw[V] at z; obtain⟨o0,c0,e0,j⟩:=z.at; rw[y] at e0; cases e0; exact j
     have s:=v0N (by rw[hR.len]; exact hq:k<m.length) (.bool false);have u:At G.w b (o+k) [m.getD k (.bool false)]:=by
      intro i v f;cases i with
      | zero =>
        simp only[List.getElem?_cons_zero,oi] at f;subst f;have:=j k _ s;omega
      | succ i=>grind
     obtain⟨v,aC,f⟩:=q0C (ty:=ty) (cs:=[.v (m.getD k (.bool false))]) (av:=.v (m.getD k (.bool false))) hE (aA _ _ h2) W u ⟨_,[],rfl,rfl,rfl⟩ rfl;have f:v=_:=f;subst f;obtain⟨G',S',L',hw,aB,hr⟩:=D0j S H (FR F) hq z hR hB;exact⟨_,G',fun aF aG Q g=>by grind,S',L',aB,hr⟩
    grind
   grind
  grind
 ·rename_i T x l0 h0;split at h
  ·rename_i id aH lo s0 y0 z0 E Y h1 h2 H h4;split at h
   ·rename_i te E' fr t xs aD h5 h6;rw[ce] at h;split at h
    ·rename_i F;rw[ba] at F
     grind[oi,pj,nb,k0V,C7]
    grind
   grind
  grind
 grind
theorem x0Z{vs:List Value}{k j:Nat}{u z:Value}(a:k<vs.length):(B3 vs k [u]).getD j z=if j=k then u else vs.getD j z:=by
 grind[B3]
theorem E0M(aS:w9 X.P Γ)(S:Sat X G){id d k ver:Nat}{T0 Te T ty:TypeId}{fr fr':Bool}{t:Ty}{xs:List (List (j5 t))}{l:List (j5 t)}{x y:Operand}{ti:TI}(hT:b9 Γ T=some ti)(hs:ti.size=1)
  (ho:b9 G.o id=some (.grd T0 Te fr t xs (some k))) (Y:b9 G.o d=some (.arr Te fr' t l ver)) (hk:k<xs.length) (hx:AVR G (.gel id k) (a.eval x)) (hy:AVR G (.os d ver) (a.eval y)) :
  Ul X G a (.store T x y) ty [(id,.grd T0 Te (fr&&fr') t (xs.set k l) none),(d,.arr Te fr' t [] (ver+1))]:=by
 haveI:Info X.P T ti.size ti.bytes ti.zero:=⟨(aS T _ hT).1⟩
 have F:¬d=id:=fun e=>by grind
 obtain⟨_,b,o,n,c,aM,aW⟩:=hx;obtain⟨y0,T1,bM,t1,bK,bD,g1,g2,g3⟩:=hy;rw[Y] at g1;cases g1;have bB:=g3 rfl;obtain⟨cs,aU,hA,bL⟩:=S.obs d _ Y;have aK:Own G.w Te (sz t) (G.γ d) (a.eval y) l.length cs:=by rw[bB]; exact aU
 -- the row lets go of its block
 have h1:=S.put (id:=d) (ob:=.arr Te fr' t [] (ver+1)) (r:=.slice none 0 0) (g:=none) (w':=G.w) (go:=none) ⟨(fun T cs h=>by grind),(fun T fr' t' xs' bJ h=>by grind),by rw[Y]; rfl⟩
  (fun _ e=>by cases e) (WE.refl _) (fun _ e=>by cases e) (fun aL=>⟨[],by simp only[Gh.put,if_true]; exact Own.nil,rfl,fun b e=>by grind[Gh.put]⟩)
 generalize hG1:G.put d (.arr Te fr' t [] (ver+1)) (.slice none 0 0) none G.w=G1 at h1;obtain⟨S1,L1⟩:=h1;have aI:G1.w=G.w:=by rw[<- hG1]; rfl
 have bC:G1.K=G.K:=by rw[<- hG1]; rfl
 have aZ:G1.B=G.B:=by rw[<- hG1]; rfl
 have E:∀i,b9 G1.o i=if d=i then some (.arr Te fr' t [] (ver+1)) else b9 G.o i:=fun i=>by rw[<- hG1]; exact lK _ _ _ _
 have W:∀i,i≠d->G1.ρ i=G.ρ i:=fun i hi=>by grind[Gh.put]
 have Q:∀i,i≠d->G1.γ i=G.γ i:=fun i hi=>by rw[<- hG1]; simp only[Gh.put,if_neg hi]
 have bF:G1.γ d=none:=by rw[<- hG1]; simp only[Gh.put,if_true]
 have aJ:∀i b,G1.δ i b↔i≠d/\G.δ i b:=fun i b=>by rw[<- hG1]; exact Iff.rfl
 have s:b9 G1.o id=some (.grd T0 Te fr t xs (some k)):=by rw[E,if_neg F]; exact ho
 obtain⟨vs,bs,hO,hR,hB⟩:=S1.obs id _ s;have hb:G1.γ id=some b:=by
  rcases hO with ⟨_,hn,_⟩ | ⟨f,o',cap,cur,hb,q,_⟩
  ·omega
  ·rw[W id (Ne.symm F),aM] at q;simp only[Value.slice.injEq,oi,Addr.mk.injEq] at q;rw[hb,q.1.1]
 have aR:G.γ id=some b:=by rw[<- Q id (Ne.symm F)]; exact hb
 -- the store
 have aN:=hO;rw[hb] at aN;rcases aN with ⟨h,_⟩ | ⟨f,o',cap,cur,m,hv2,k1,k2,k3,k4,k5⟩
 ·cases h
 cases m;have V:G1.ρ id=.slice (some ⟨b,o,none⟩) n c:=(W id (Ne.symm F)).trans aM;have bA:o'=o:=by rw[V] at hv2; cases hv2; rfl
 subst bA;have bG:cur.toList.length=o'+cap:=by rw[Array.length_toList,k4,Nat.mul_one]
 have H:(a.eval y).cells.toList=[a.eval y]:=by
  have:=y0;cases q:a.eval y <;> rw[q] at this <;> first | rfl | (simp[Value.oneCell'] at this)
 have aX:Blk G.w b cur.toList T0:=by unfold Blk; rw[Array.toArray_toList]; rw[aI] at k1; exact k1
 have aV:=Rt (P:=X.P) (T:=T) (o:=o'+k) (v:=a.eval y) H (by rw[hs]; rfl) (RE (fun u hu=>by cases List.mem_singleton.1 hu; exact y0)) aX (by simp only[List.length_singleton]; omega);have hW:=Ny G.w b (B3 cur.toList (o'+k) [a.eval y]).toArray;have aB:k<vs.length:=by rw[hR.len]; exact hk
 have aC:Own (G.w.setRow b (B3 cur.toList (o'+k) [a.eval y]).toArray) T0 1 (G1.γ id) (G1.ρ id) xs.length (B3 vs k [a.eval y]):=by
  rw[hb] at hO ⊢;have:=Own.set (w':=G.w.setRow b (B3 cur.toList (o'+k) [a.eval y]).toArray) (k:=k) (vs:=[a.eval y]) hO V hk rfl (fun bE aH=>by
   rw[k1] at aH;cases aH;rw[Nat.mul_one]
   grind[setRow_heap])
  rwa [Nat.mul_one] at this
 have aY:∀f,G.γ d=some f->(X.w0.heap.size<=f∨X.io f)/\¬G.K f/\(∀i o,b9 G1.o i=some o->G1.γ i≠some f)/\∀i,G1.δ i f->H7 (b9 G1.o i)=true->False:=fun f m=>by
  refine⟨S.own d _ f Y m,S.imm d _ f Y m,fun i o hi hg=>?_,fun i hi hg=>?_⟩
  ·by_cases e:i=d
   ·grind
   ·rw[E,if_neg (Ne.symm e)] at hi;rw[Q i e] at hg;exact e (S.inj i d _ _ f hi Y hg m)
  ·obtain⟨e,hi⟩:=(aJ i f).1 hi;rw[E,if_neg (Ne.symm e)] at hg;exact(S.sep i f hi hg).2.2.1 d _ Y m
 have h2:=S1.grd (id:=id) (T':=T0) (Te':=Te) (fr':=fr&&fr') (t':=t) (xs':=xs.set k l) (hole':=none) (D:=fun f=>G1.δ id f∨G.γ d=some f) (w':=G.w.setRow b (B3 cur.toList (o'+k) [a.eval y]).toArray) (go:=some b) s (fun f e=>by grind) (by grind[WE.of_wr])
  (fun f m=>by
    rcases m with m | m
    ·obtain⟨s1,s2,s3,s4⟩:=S1.sep id f m (by rw[s]; rfl)
     grind
    grind)
  (fun aL=>by
    refine⟨B3 vs k [a.eval y],fun j=>if j=k then G.γ d else bs j,by rw[List.length_set]; exact aC,⟨?_,fun f=>⟨fun h=>?_,fun h=>?_⟩,fun j j' f z aD _ _ aF aG=>?_,fun j z _=>?_,fun v q=>?_⟩,hB⟩
    ·grind[List.length_set,B3,List.length_append,List.length_take,List.length_drop,List.length_singleton]
    ·have h':G1.δ id f∨G.γ d=some f:=by
      rcases h with ⟨_,h⟩ | ⟨h,_⟩
      ·exact h
      ·omega
     rcases h' with h' | h'
     ·obtain⟨j,z,bI,aA⟩:=(hR.blk f).1 h'
      grind
     ·exact⟨k,by grind,(fun h=>by cases h),by grind⟩
    ·obtain⟨j,z,_,aA⟩:=h;rw[List.length_set] at z;refine .inl ⟨rfl,?_⟩;by_cases e:j=k
     ·grind
     ·rw[if_neg e] at aA; exact .inl ((hR.blk f).2 ⟨j,z,(fun h=>e (Option.some.inj h).symm),aA⟩)
    ·rw[List.length_set] at z aD;have bH:∀i,i<xs.length->i≠k->bs i=some f->G.γ d=some f->False:=fun i hi aO aT aQ=>(aY f aQ).2.2.2 id ((hR.blk f).2 ⟨i,hi,(fun h=>aO (Option.some.inj h).symm),aT⟩) (by rw[s]; rfl);by_cases e:j=k
     ·grind
     ·by_cases e':j'=k
      ·grind
      ·rw[if_neg e] at aF; rw[if_neg e'] at aG;exact hR.inj j j' f z aD (fun h=>e (Option.some.inj h).symm) (fun h=>e' (Option.some.inj h).symm) aF aG
    ·rw[List.length_set] at z;simp only[x0Z aB];by_cases e:j=k
     ·subst e;simp only[if_true];have eg:(xs.set j l).getD j []=l:=by simp[z]
      rw[eg];refine⟨cs,aK.we (w':=G.w.setRow b (B3 cur.toList (o'+j) [a.eval y]).toArray) (WE.of_wr hW) (fun i hi e=>?_),hA.mapR (fun c x hr=>?_),fun f m=>show G1.B<=f from by grind⟩
      ·grind
      ·refine RT.up (RT.same (K':=rg G fr') (w:=G.w) (fun i hi hl=>⟨hi,?_⟩) hr) (fun i hi=>⟨show G1.K i from by rw[bC]; exact hi.1,fun e=>show G1.B<=i from ?_⟩)
       ·exact hW.block i (fun e=>S.imm id _ b ho aR (by rw[<- e]; exact hi.1))
       ·rw[ba] at e; rw[aZ]; exact hi.2 e.2
     ·simp only[if_neg e];obtain⟨aP,r1,r2,r3⟩:=hR.row j z (fun h=>e (Option.some.inj h).symm);have eg:(xs.set k l).getD j []=xs.getD j []:=by simp[List.getElem?_set_ne (Ne.symm e)]
      rw[eg];refine⟨aP,r1.we (WE.of_wr (by rw[aI]; exact hW)) (fun i hi e'=>?_),r2.mapR (fun c x hr=>RT.up (RT.same (w:=G1.w) aL.hR hr) (fun i hi=>⟨hi.1,fun e=>hi.2 (by grind)⟩)),r3⟩;cases hi;exact(S1.sep id b ((hR.blk b).2 ⟨j,z,(fun h=>e (Option.some.inj h).symm),e'⟩) (by rw[s]; rfl)).2.2.1 id _ s hb
    ·unfold B3 at q;rcases List.mem_append.1 q with q | q
     ·rcases List.mem_append.1 q with q | q
      ·exact hR.one v (List.mem_of_mem_take q)
      grind
     ·exact hR.one v (List.mem_of_mem_drop q))
 obtain⟨S2,L2⟩:=h2;refine⟨_,RV aW aV,S2,L1.trans L2 (by grind),?_⟩;rw[<- hG1];rfl
theorem p0k(j:w9 X.P Γ)(S:Sat X G)(ho:G.o=st.o)(F:EnvR X.n G st.e a)(hp:PathP p a){c:Op}{ty:TypeId}{q:Prop}{obs:List (Nat×Ob)}{l:List Nat}
  (h:Cd Γ st p c=some (q,obs,l)) (hq:q):Ul X G a c ty obs:=by
 unfold Cd at h;split at h
 ·rename_i T x y;split at h
  ·rename_i id k d i V h1 w h3;split at h
   ·rename_i s Y v t W H Te' f E u b Q r;split at h
    ·rename_i m z;rw[ce] at h;split at h
     ·rename_i g;simp only[ba] at g
      grind[oi,pj,nb,DK,E0M,C7]
     grind
    grind
   grind
  grind
 grind
end
def L0u:Op->Bool
 | .move _ | .assign _ | .nilCheck _ | .pick .. | .binOp .. | .unOp .. | .convert .. | .fieldAddr .. | .field .. | .load .. | .indexAddr .. | .index .. | .extract .. | .makeFunc .. | .build .. | .slice ..=>true
 | .call ⟨.builtin .len,_,_⟩ | .call ⟨.builtin .min,_,_⟩ | .call ⟨.builtin .max,_,_⟩=>true
 | _=>false
def L0w:Op->Bool
 | .alloc _ | .box .. | .makeSlice .. | .buildSlice .. | .call ⟨.builtin .append,_,_⟩=>true
 | _=>false
def L0t:Op->Bool
 | .store ..=>true
 | _=>false
def X6(Γ:o4)(T:List Ct)(st:St)(p:Pa)(o:Oper):Option (Prop×Option AV×List (Nat×Ob)×List Nat):=match o.dst with
 | some d=>bif L0u o.op then(match I0 Γ st p o.op with
   | some (q,r,l)=>some (q,some r,[],l)
   | none=>match Bv Γ st p d o.op with
     | some (q,r,obs,l)=>some (q,some r,obs,l)
     | none=>none) else bif L0w o.op then(match AR Γ st p d o.op with
     | some (q,r,w,l)=>some (q,some r,[w],l)
     | none=>none) else match CS T st p d o.op with
       | some (q,r,obs,l)=>some (q,some r,obs,l)
       | none=>none
 | none=>bif L0t o.op then(match Ca Γ st p o.op with
   | some (q,w,l)=>some (q,none,[w],l)
   | none=>match Cd Γ st p o.op with
     | some (q,obs,l)=>some (q,none,obs,l)
     | none=>none) else match CS T st p 0 o.op with
     | some (q,_,obs,l)=>some (q,none,obs,l)
     | none=>none
def Bw(all:List Oper)(e:List (Nat×Sl))(o:Oper):Option Pa:=match o.guard with
 | none=>some []
 | some (j,b)=>match B6 all j with
   | some oj=>match oj.dst with
     | some dj=>match b9 e dj with
       | some ⟨q,.d _ .bool _⟩=>some ((dj,b) :: q)
       | _=>none
     | none=>none
   | none=>none
def FY(e:List (Nat×Sl)):Pa->Prop
 | []=>True
 | (s,b) :: r=>(match b9 e s with
   | some ⟨q,.d _ .bool x⟩=>if Ry q r=true then x=b else True
   | _=>True)/\FY e r
def Ce(dst:Option Nat)(p:Pa)(av:Option AV)(e:List (Nat×Sl)):List (Nat×Sl):=match dst,av with
 | some d,some a=>(d,⟨p,a⟩) :: e
 | _,_=>e
def N0(P:Program)(ops:Array Oper)(Q:Exit->Act->World->Prop)(o:Oper)(K:Act->World->Prop)(a:Act)(w:World):Prop :=
 if Region.wanted o (yielded ops a.tmps) then o.wp P a w K Q else K (a.put o.dst undef) w
section
variable {X:Cx} {G:Gh} {a:Act} {st:St} {Γ:o4} {T:List Ct}
theorem q0V(d:EnvR X.n G st.e a):∀{p:Pa},PathP p a->FY st.e p
 | [],_=>trivial
 | (s,b) :: r,h=>by
   have k:=h (s,b) (by simp);have g:PathP r a:=fun x j=>h x (by grind);refine⟨?_,q0V d g⟩;split
   ·rename_i q f x i;split
    ·rename_i c;have:=Bt ((d.val s _ i).1 (g.sub c))
     grind
    grind
   grind
theorem Sb{d:Nat}{v:Value}(b:d<a.tmps.size)(t:Nat):(a.put (some d) v).tmps.getD t undef=if d=t then v else a.tmps.getD t undef:=by
 unfold Act.put;by_cases h:d=t
 ·simp_all
 ·simp[h]
theorem q0d{d:Option Nat}{v:Value}:(a.put d v).tmps.size=a.tmps.size/\(a.put d v).defers=a.defers:=by
 cases d <;> simp[Act.put]
theorem m0H{d:Nat}{v:Value}(c:d<a.tmps.size){p:Pa}(h:∀x∈p,x.1≠d):PathP p (a.put (some d) v)↔PathP p a:=by
 constructor <;> intro k x b
 ·have:=k x b;rw[Sb c,if_neg (Ne.symm (h x b))] at this; omega
 ·rw[Sb c,if_neg (Ne.symm (h x b))]; exact k x b
theorem EnvR.put{g:Gh}{d:Nat}{v:Value}{p:Pa}{r:AV}(f:EnvR X.n g st.e a)(i:d<X.n)(j:∀x∈p,x.1≠d)(h:∀t s,b9 st.e t=some s->∀x∈s.p,x.1≠d)
  (k:(PathP p a->AVR g r v)/\(¬PathP p a->v=undef)):EnvR X.n g ((d,⟨p,r⟩) :: st.e) (a.put (some d) v):=by
 have c:d<a.tmps.size:=by rw[f.size]; exact i
 refine⟨by rw[q0d.2]; exact f.defers,by rw[q0d.1]; exact f.size,fun t s b=>?_⟩;rw[lK] at b;rw[Sb c];by_cases e:d=t
 ·rw[if_pos e] at b ⊢
  grind[m0H]
 ·rw[if_neg e] at b ⊢;rw[m0H c (h t s b)];exact f.val t s b
theorem XM{ops:Array Oper}{all:List Oper}(f:ops=all.toArray){j b:Nat}{c:Oper}(d:B6 all j=some c)(g:c.dst=some b):yielded ops a.tmps j=match a.tmps.getD b undef with
  | .bool v=>some v
  | _=>none:=by
 subst f;rw[V3] at d;unfold yielded;have e:(all.toArray[j]?).bind (·.dst)=some b:=by simp[d,g]
 rw[e];simp only[Option.bind_some];rw[Array.getD_eq_getD_getElem?]
 grind[undef]
theorem s0c{ops:Array Oper}{all:List Oper}(s:ops=all.toArray)(m:EnvR X.n G st.e a){o:Oper}{p:Pa}(c:Bw all st.e o=some p) :
  (Region.wanted o (yielded ops a.tmps)=true/\PathP p a)∨(Region.wanted o (yielded ops a.tmps)=false/\¬PathP p a):=by
 unfold Bw at c;split at c
 ·rename_i w;simp only[oi] at c; subst c;exact .inl ⟨by grind[Region.wanted],fun x z=>by cases z⟩
 ·rename_i j b w;split at c
  ·rename_i E v;split at c
   ·rename_i k t;split at c
    ·rename_i q f x r;simp only[oi] at c; subst c;have g:=XM (a:=a) s v t;have l:=m.val k _ r;by_cases i:PathP q a
     ·have e:=Bt (l.1 i);rw[e] at g;simp only at g;by_cases u:x=b
      ·subst u;refine .inl ⟨by grind[Region.wanted],fun y d=>?_⟩;rcases List.mem_cons.1 d with rfl | h
       ·exact e
       ·exact i y h
      ·refine .inr ⟨by grind[Region.wanted],fun h=>?_⟩;have:=h (k,b) (by simp)
       grind
     ·have e:=l.2 i;rw[e] at g;simp only[undef] at g;exact .inr ⟨by grind[Region.wanted],fun h=>i (fun y d=>h y (by grind))⟩
    grind
   grind
  grind
theorem NJ(H:w9 X.P Γ)(hT:∀c∈T,Ok X.P c){ops:Array Oper}{all:List Oper}(ha:ops=all.toArray){Q:Exit->Act->World->Prop}(S:Sat X G)(ho:G.o=st.o)(i:EnvR X.n G st.e a){o:Oper}{p:Pa}{q:Prop}{av:Option AV}{obs:List (Nat×Ob)}{fp:List Nat}
  (hp:Bw all st.e o=some p) (h:X6 Γ T st p o=some (q,av,obs,fp)) (V:FY st.e p->q) (hg:p=[]∨obs=[]) (hd:∀d,o.dst=some d->d<X.n/\(∀x∈p,x.1≠d)/\∀t s,b9 st.e t=some s->∀x∈s.p,x.1≠d)
  {K:Act->World->Prop} (Y:∀a' G',Sat X G'->GLe G G'->G'.o=obs++st.o->EnvR X.n G' (Ce o.dst p av st.e) a'->K a' G'.w):N0 X.P ops Q o K a G.w:=by
 unfold N0;rcases s0c ha i hp with ⟨hw,k⟩ | ⟨hw,k⟩
 ·rw[if_pos hw];have V:=V (q0V i k);unfold X6 at h;split at h
  ·rename_i d b;obtain⟨z,u,y⟩:=hd d b;rw[ce] at h;split at h
   ·split at h
    ·rename_i q' r l m;simp only[oi,pj] at h;obtain⟨rfl,rfl,rfl,_⟩:=h;obtain⟨v,g,W⟩:=s0B H S ho i k (ty:=o.type) m V;unfold Oper.wp;have:=g o.dst o.pos o.after o.guard;rw[show(execOp a.eval o).run X.P G.w=.ok (.value v) G.w from this];show K (a.put o.dst v) G.w;rw[b];refine Y _ G S (GLe.refl G) (by grind) ?_;rw[b];exact EnvR.put i z u y ⟨fun _=>W,fun h=>(h k).elim⟩
    ·split at h
     ·rename_i q' r F l m;simp only[oi,pj] at h;obtain⟨rfl,rfl,rfl,_⟩:=h;obtain⟨v,G',g,E,j,hO,W⟩:=s0G H S ho i k (ty:=o.type) m V;unfold Oper.wp;have:=g o.dst o.pos o.after o.guard;rw[show(execOp a.eval o).run X.P G.w=.ok (.value v) G'.w from this];show K (a.put o.dst v) G'.w;rw[b];refine Y _ G' E j (by grind) ?_;rw[b];exact EnvR.put (i.mono j) z u y ⟨fun _=>W,fun h=>(h k).elim⟩
     grind
   ·rw[ce] at h;split at h
    ·split at h
     ·rename_i q' r w l m;simp only[oi,pj] at h;obtain⟨rfl,rfl,rfl,_⟩:=h;obtain⟨v,G',g,E,j,hO,W⟩:=s0D H S ho i k (ty:=o.type) m V;unfold Oper.wp;have:=g o.dst o.pos o.after o.guard;rw[show(execOp a.eval o).run X.P G.w=.ok (.value v) G'.w from this];show K (a.put o.dst v) G'.w;rw[b];refine Y _ G' E j (by grind) ?_;rw[b];exact EnvR.put (i.mono j) z u y ⟨fun _=>W,fun h=>(h k).elim⟩
     grind
    ·split at h
     ·rename_i q' r F l m;simp only[oi,pj] at h;obtain⟨rfl,rfl,rfl,_⟩:=h;obtain⟨f,vs,g,hc⟩:=k0F hT S ho i k (ty:=o.type) m V;unfold Oper.wp;have:=g o.dst o.pos o.after o.guard;rw[show(execOp a.eval o).run X.P G.w=.ok (.enter f vs) G.w from this];refine Calls.mono hc ?_;rintro en w' ⟨v,G',rfl,rfl,E,j,hO,W⟩;show K (a.put o.dst v) G'.w;rw[b];refine Y _ G' E j (by grind) ?_;rw[b];exact EnvR.put (i.mono j) z u y ⟨fun _=>W,fun h=>(h k).elim⟩
     grind
  ·rename_i b;rw[ce] at h;split at h
   ·split at h
    ·rename_i q' w l m;simp only[oi,pj] at h;obtain⟨rfl,rfl,rfl,_⟩:=h;obtain⟨G',g,E,j,hO⟩:=s0z H S ho i k (ty:=o.type) m V;unfold Oper.wp;have:=g o.dst o.pos o.after o.guard;rw[show(execOp a.eval o).run X.P G.w=.ok .skip G'.w from this];show K (a.put o.dst undef) G'.w;rw[b];refine Y _ G' E j (by grind) ?_;rw[b];exact i.mono j
    ·split at h
     ·rename_i q' F l m;simp only[oi,pj] at h;obtain⟨rfl,rfl,rfl,_⟩:=h;obtain⟨G',g,E,j,hO⟩:=p0k H S ho i k (ty:=o.type) m V;unfold Oper.wp;have:=g o.dst o.pos o.after o.guard;rw[show(execOp a.eval o).run X.P G.w=.ok .skip G'.w from this];show K (a.put o.dst undef) G'.w;rw[b];refine Y _ G' E j (by grind) ?_;rw[b];exact i.mono j
     grind
   ·split at h
    ·rename_i q' r F l m;simp only[oi,pj] at h;obtain⟨rfl,rfl,rfl,_⟩:=h;obtain⟨f,vs,g,hc⟩:=k0F hT S ho i k (ty:=o.type) m V;unfold Oper.wp;have:=g o.dst o.pos o.after o.guard;rw[show(execOp a.eval o).run X.P G.w=.ok (.enter f vs) G.w from this];refine Calls.mono hc ?_;rintro en w' ⟨v,G',rfl,rfl,E,j,hO,W⟩;show K (a.put o.dst v) G'.w;rw[b];refine Y _ G' E j (by grind) ?_;rw[b];exact i.mono j
    grind
 ·rw[if_neg (by grind)];have aA:obs=[]:=by
   rcases hg with rfl | h
   ·exact(k (fun x hx=>by cases hx)).elim
   ·exact h
  subst aA;refine Y _ G S (GLe.refl G) (by grind) ?_;cases b:o.dst with
  | none=>cases av <;> exact i
  | some d =>
    obtain⟨z,u,y⟩:=hd d b;have:∃r,av=some r:=by
     unfold X6 at h;rw[b] at h;simp only[ce] at h;split at h
     ·grind
     ·grind
    obtain⟨r,rfl⟩:=this;exact EnvR.put i z u y ⟨fun h=>(k h).elim,fun _=>rfl⟩
end
section
variable {e e':List (Nat×Sl)} {o o':List (Nat×Ob)}
theorem CT{x:Operand}{p:Pa}(h:∀t,x=.tmp t->b9 e t=b9 e' t):rd ⟨e,o⟩ p x=rd ⟨e',o'⟩ p x:=by
 cases x with
 | tmp t=>simp only[rd,h t rfl]
 | _=>rfl
theorem HM{p:Pa}:∀{xs:List Operand},(∀t,.tmp t∈xs->b9 e t=b9 e' t)->L5 ⟨e,o⟩ p xs=L5 ⟨e',o'⟩ p xs
 | [],_=>rfl
 | x :: r,h=>by
   unfold L5;rw[CT (o:=o) (o':=o') (p:=p) (x:=x) (fun t a=>h t (by grind)),HM (xs:=r) (fun t a=>h t (by grind))]
theorem XN{v:AV}{cs:List AV}{l:List Nat}(h:X4 o v=some (cs,l))(i:∀id∈l,b9 o id=b9 o' id):X4 o' v=some (cs,l)/\BZ o' v=BZ o v:=by
 unfold X4 at h;split at h
 ·rename_i id a;split at h
  ·rename_i T c d;simp only[oi,pj] at h;obtain⟨rfl,rfl⟩:=h
   grind[X4,BZ]
  grind
 ·rename_i id e k s a;split at h
  ·rename_i T f t g b d;rw[ce] at h;split at h
   ·rename_i j;simp only[oi,pj] at h;obtain⟨rfl,rfl⟩:=h
    grind[X4,BZ]
   grind
  grind
 ·simp only[oi,pj] at h;obtain⟨rfl,rfl⟩:=h;exact⟨rfl,rfl⟩
 grind
theorem v0J{Γ:o4}{T:TypeId}{v r:AV}{n:Int}{q:Prop}{l:List Nat}(h:JL Γ o T v n=some (q,r,l))(a:∀id∈l,b9 o id=b9 o' id):JL Γ o' T v n=some (q,r,l):=by
 unfold JL at h ⊢;split at h
 ·exact h
 ·grind
 ·exact h
 ·grind
 omega
theorem s0r{d a:(t:Ty)->List AV->Option (j5 t×List Nat×Bool)}(g:∀{t:Ty} {cs:List AV} {x:j5 t} {l:List Nat} {b:Bool},d t cs=some (x,l,b)->(∀id∈l,b9 o id=b9 o' id)->a t cs=some (x,l,b))
  {t:Ty} {c:AV} {x:j5 t} {l:List Nat} {b:Bool} (h:AL o d t c=some (x,l,b)) (s:∀id∈l,b9 o id=b9 o' id):AL o' a t c=some (x,l,b):=by
 unfold AL at h;split at h
 ·grind[AL]
 ·exact h
 ·rename_i e id j;split at h
  ·rename_i T m u n f k;rw[ce] at h;split at h
   ·rename_i z;split at h
    ·rename_i y r;simp only[oi,pj] at h;obtain⟨rfl,rfl,rfl⟩:=h
     grind[AL]
    grind
   grind
  grind
 ·rename_i e id i;split at h
  ·rename_i T cs k;split at h
   ·rename_i q w E v;simp only[oi,pj] at h;obtain⟨rfl,rfl,rfl⟩:=h
    grind[hi,AL]
   grind
  grind
 grind
theorem HN:∀(n:Nat) {t:Ty} {cs:List AV} {x:j5 t} {l:List Nat} {fl:Bool},F5 o n t cs=some (x,l,fl)->(∀id∈l,b9 o id=b9 o' id)->F5 o' n t cs=some (x,l,fl):=by
 intro n
 induction n with
 | zero=>grind[F5]
 | succ n d =>
   intro t cs x l fl h c;cases t with
   | pr a b =>
     unfold F5 at h ⊢
     grind
   | _ =>
     unfold F5 at h ⊢
     grind[s0r]
theorem k0y{v:AV}{t:Ty}{b:List (j5 t)}{a:List Nat}{c:Bool}(h:CP o v=some ⟨t,b,a,c⟩)(d:∀id∈a,b9 o id=b9 o' id):CP o' v=some ⟨t,b,a,c⟩:=by
 unfold CP at h
 grind[id,CP]
theorem FZ{d:Nat}(h:b9 o d=b9 o' d):AQ o' d=AQ o d:=by grind[AQ]
theorem XO:∀{ps:List Par} {as':List AV} {x:r7 ps} {l:List Nat} {io:Option Nat},K5 o ps as'=some (x,l,io)->(∀id∈l,b9 o id=b9 o' id)->(∀i,io=some i->b9 o i=b9 o' i)->K5 o' ps as'=some (x,l,io)
 | [],[],x,l,io,h,_,_=>h
 | [],_ :: _,x,l,io,h,_,_=>by grind[K5]
 | _ :: _,[],x,l,io,h,_,_=>by grind[K5]
 | p :: r,a :: as',x,l,io,h,hl,hio=>by
   simp only[K5] at h ⊢;split at h
   ·rename_i Q k g b;split at h
    ·rename_i y m j w;have z:l=k++m/\((g=none/\io=j)∨(∃i,g=some i/\j=none/\io=some i)):=by
      split at h
      ·grind
      ·grind
      ·cases h
     obtain⟨rfl,d⟩:=z;have f:∀id∈k,b9 o id=b9 o' id:=fun id q=>hl id (by grind);have v:Cb o' p a=some (Q,k,g):=by
      unfold Cb at b;split at b
      ·split at b
       ·rename_i c;simp only[oi,pj] at b;obtain⟨rfl,rfl,rfl⟩:=b
        grind[Cb,HN]
       grind
      ·split at b
       ·rename_i c;simp only[oi,pj] at b;obtain⟨rfl,rfl,rfl⟩:=b
        grind[Cb,HN]
       grind
      ·rw[ce] at b;split at b
       ·rename_i F;split at b
        ·rename_i c;simp only[oi,pj] at b;obtain⟨rfl,rfl,rfl⟩:=b;simp only[Cb,HN 24 c f,F,cond_true]
        grind
       grind
      ·exact b
      ·rename_i T t id _;split at b
       ·rename_i W Y u;rw[ce] at b;split at b
        ·rename_i H;split at b
         ·rename_i V c;simp only[oi,pj] at b;obtain⟨rfl,rfl,rfl⟩:=b;rcases d with ⟨e,_⟩ | ⟨i',e,_,rfl⟩
          ·cases e
          cases e;have n:=hio id rfl;rw[u] at n;simp only[Cb,<- n,H,cond_true,HN 24 c f]
         grind
        grind
       grind
      ·rename_i E t id P _;split at b
       ·rename_i E' fr t' xs s u;rw[ce] at b;split at b
        ·rename_i hb;split at b
         ·rename_i V X;simp only[oi,pj] at b;obtain⟨rfl,rfl,rfl⟩:=b;rcases d with ⟨e,_⟩ | ⟨i',e,_,rfl⟩
          ·cases e
          cases e;have n:=hio id rfl
          grind[Cb]
         grind
        grind
       grind
      ·exact b
      ·cases b
     have G:=XO w (fun id q=>hl id (by grind)) (fun i hi=>by
      grind)
     grind
    grind
   grind
theorem e0Y:∀{l:List (Nat×Ob)},(∀x∈l,b9 o x.1=b9 o' x.1)->CR o' l=CR o l
 | [],_=>rfl
 | (i,b) :: r,h=>by
   simp only[CR];rw[FZ (h (i,b) (by simp)),e0Y (fun x a=>h x (by grind))]
theorem i0Q{d f:Nat}{k:List AV}:∀{T:List Ct} {q:Prop} {av:AV} {obs:List (Nat×Ob)} {fp:List Nat},HK o d f k T=some (q,av,obs,fp)->(∀id∈fp,b9 o id=b9 o' id)->HK o' d f k T=some (q,av,obs,fp)
 | [],q,av,obs,fp,h,_=>by cases h
 | c :: r,q,av,obs,fp,h,ho=>by
   simp only[HK,ce] at h ⊢;split at h
   ·rename_i s;rw[if_pos s];split at h
    ·rename_i x l m a;by_cases e:F1 c.ps=true
     ·rw[if_pos e] at h;unfold RZ at h;split at h
      ·rename_i id;split at h
       ·rename_i T Q t W X w V E H n j;rw[ce] at h;split at h
        ·rename_i v;simp only[oi,pj] at h;obtain⟨rfl,rfl,rfl,rfl⟩:=h;have g:=NH (ba _ _ ▸ v).2;subst g;have b:b9 o id=b9 o' id:=ho id (by simp);rw[XO a (fun _ h=>by cases h) (fun i hi=>by grind)];simp only[e,if_true,RZ,n,<- b,j,v,cond_true]
        grind
       grind
      grind
     rw[if_neg e] at h;simp only[if_neg e];split at h
     ·rename_i y;have u:=y;simp only[oi,pj] at h;obtain⟨rfl,rfl,rfl,rfl⟩:=h;have P:∀id∈l,b9 o id=b9 o' id:=fun id G=>ho id (by grind);have b:∀i,m=some i->b9 o i=b9 o' i:=fun i hi=>ho i (by grind);rw[XO a P b];simp only;rw[e0Y (o:=o) (fun x F=>ho x.1 (List.mem_append.2 (.inl (List.mem_map_of_mem F)))),if_pos u];have:Am o' c.ps (c.res x).z m=Am o c.ps (c.res x).z m:=by
       cases m with
       | none=>rfl
       | some i=>simp only[Am,b i rfl]
      grind
     grind
    grind
   ·rename_i s;rw[if_neg s];exact i0Q h ho
def B0D(xs:List Operand):List Nat:=xs.filterMap fun | .tmp t=>some t | _=>none
theorem m0U{xs:List Operand}{t:Nat}(h:.tmp t∈xs):t∈B0D xs:=List.mem_filterMap.2 ⟨_,h,rfl⟩
theorem XP{p:Pa}{x:Option Operand}(h:∀t,x=some (.tmp t)->b9 e t=b9 e' t):S8 ⟨e,o⟩ p x=S8 ⟨e',o'⟩ p x:=by
 cases x with
 | none=>rfl
 | some y =>
   grind[S8,CT]
theorem g0Y{p:Pa}{pl:List (Nat×Nat)}:∀{ps:List (Nat×Operand)} {cs:List AV},(∀t,.tmp t∈ps.map (·.2)->b9 e t=b9 e' t)->AP ⟨e,o⟩ p pl cs ps=AP ⟨e',o'⟩ p pl cs ps
 | [],_,_=>rfl
 | (i,x) :: r,cs,h=>by
   unfold AP;rw[CT (o:=o) (o':=o') (p:=p) (x:=x) (fun t a=>h t (by grind))];have b:=fun cs=>g0Y (p:=p) (pl:=pl) (ps:=r) (cs:=cs) (fun t a=>h t (by grind))
   simp_all
theorem g0S{p:Pa}{t:Ty}:∀{ps:List (Nat×Operand)} {k:Nat} {ys:List (j5 t)×Bool},(∀s,.tmp s∈ps.map (·.2)->b9 e s=b9 e' s)->DN ⟨e,o⟩ p t k ps=some ys->DN ⟨e',o'⟩ p t k ps=some ys
 | [],_,_,_,h=>h
 | (i,x) :: r,k,ys,hs,h=>by
   unfold DN at h ⊢;rw[ce] at h ⊢;split at h
   ·rename_i hi;rw[if_pos hi];rw[<- CT (o:=o) (o':=o') (p:=p) (x:=x) (fun t l=>hs t (by grind))];split at h
    ·rename_i v n;split at h
     ·rename_i j m;simp only;split at h
      ·rename_i y f c;rw[HN 24 c (fun _ h=>by cases h)];simp only;split at h
       ·rename_i d g a;rw[g0S (fun s b=>hs s (by grind)) a];exact h
       grind
      grind
     omega
    omega
   grind
theorem s0C{Γ:o4}{p:Pa}{d:Op}{q:Prop}{r:AV}{l:List Nat}(g:∀t,.tmp t∈d.operands.toList->b9 e t=b9 e' t)(h:I0 Γ ⟨e,o⟩ p d=some (q,r,l))(u:∀id∈l,b9 o id=b9 o' id):I0 Γ ⟨e',o'⟩ p d=some (q,r,l):=by
 have R:∀(p:Pa) (x:Operand),x∈d.operands.toList->rd ⟨e',o'⟩ p x=rd ⟨e,o⟩ p x:=fun p x F=>(CT (fun t i=>g t (by grind))).symm;unfold I0 at h;split at h
 ·grind[I0,Op.operands]
 ·grind[I0,Op.operands]
 ·rename_i x;simp only[I0,R _ x (by simp[Op.operands])];split at h
  ·grind[oi,pj,XN]
  omega
 ·grind[I0,Op.operands]
 ·grind[I0,Op.operands]
 ·grind[I0,Op.operands]
 ·grind[I0,Op.operands]
 ·rename_i x;simp only[I0,R _ x (by simp[Op.operands])]
  grind
 ·rename_i x f;simp only[I0,R _ x (by simp[Op.operands])];split at h
  ·rename_i v H Q V b s W P;split at h
   ·rename_i w E c z n m;split at h
    ·rename_i G k;simp only[oi,pj] at h;obtain⟨rfl,rfl,rfl⟩:=h;simp only[n,(XN m u).1,k]
    grind
   grind
  omega
 ·rename_i x;simp only[I0,R _ x (by simp[Op.operands])];split at h
  ·grind[oi,pj,XN]
  omega
 ·grind[I0,Op.operands,v0J]
 ·grind[I0,Op.operands]
 ·grind[I0,Op.operands]
 ·grind[I0,Op.operands]
 ·grind[L5,HM,Op.operands,I0]
 ·rename_i T a;have:∀b c,AP ⟨e',o'⟩ p b c a.toList=AP ⟨e,o⟩ p b c a.toList:=fun b c=>(g0Y (fun t i=>g t (by grind[Op.operands]))).symm
  grind[I0]
 ·grind[S8,XP,Op.operands,I0]
 ·rename_i j y;have:L5 ⟨e',o'⟩ p j.toList=L5 ⟨e,o⟩ p j.toList:=(HM (fun t i=>g t (by grind[Op.operands,Call.operands]))).symm;simp only[I0,this]
  grind
 ·grind[L5,HM,Op.operands,Call.operands,I0]
 ·grind[L5,HM,Op.operands,Call.operands,I0]
 grind
end
section
variable {e e':List (Nat×Sl)} {o o':List (Nat×Ob)}
theorem s0E{Γ:o4}{p:Pa}{d:Nat}{f:Op}{q:Prop}{r:AV}{w:Nat×Ob}{l:List Nat}(g:∀t,.tmp t∈f.operands.toList->b9 e t=b9 e' t)(h:AR Γ ⟨e,o⟩ p d f=some (q,r,w,l))(c:∀id∈l,b9 o id=b9 o' id):AR Γ ⟨e',o'⟩ p d f=some (q,r,w,l):=by
 have R:∀(x:Operand),x∈f.operands.toList->rd ⟨e',o'⟩ p x=rd ⟨e,o⟩ p x:=fun x W=>(CT (fun t H=>g t (by grind))).symm;unfold AR at h;split at h
 ·simp only[AR];split at h
  ·split at h
   ·rw[ce] at h ⊢;split at h
    ·rename_i b;have a:=h;simp only[oi,pj] at h;obtain⟨_,_,_,rfl⟩:=h;rw[FZ (c d (by simp)),if_pos b]; exact a
    grind
   omega
  omega
 ·rename_i T x;simp only[AR,R x (by simp[Op.operands])];split at h
  ·split at h
   ·rw[ce] at h ⊢;split at h
    ·rename_i b;have a:=h;simp only[oi,pj] at h;obtain⟨_,_,_,rfl⟩:=h;rw[FZ (c d (by simp)),if_pos b]; exact a
    grind
   omega
  omega
 ·rename_i T x y;simp only[AR,R x (by simp[Op.operands]),R y (by simp[Op.operands])];split at h
  ·split at h
   ·split at h
    ·rw[ce] at h ⊢;split at h
     ·rename_i b;have a:=h;simp only[oi,pj] at h;obtain⟨_,_,_,rfl⟩:=h;rw[FZ (c d (by simp)),if_pos b]; exact a
     grind
    ·split at h
     ·split at h
      ·rename_i G;rw[HN 24 G (fun _ h=>by cases h)];simp only;rw[ce] at h ⊢;split at h
       ·rename_i b;have a:=h;simp only[oi,pj] at h;obtain⟨_,_,_,rfl⟩:=h;rw[FZ (c d (by simp)),if_pos b]; exact a
       grind
      grind
     omega
   omega
  omega
 ·rename_i T n m;simp only[AR];split at h
  ·split at h
   ·split at h
    ·rename_i k Q;rw[g0S (e':=e') (o':=o') (fun s F=>g s (by grind[Op.operands])) Q];simp only;rw[ce] at h ⊢;split at h
     ·rename_i b;have a:=h;simp only[oi,pj] at h;obtain⟨_,_,_,rfl⟩:=h;rw[FZ (c d (by simp)),if_pos b]; exact a
     grind
    grind
   omega
  omega
 ·rename_i k V;have:L5 ⟨e',o'⟩ p k.toList=L5 ⟨e,o⟩ p k.toList:=(HM (fun t H=>g t (by grind[Op.operands,Call.operands]))).symm;simp only[AR,this];split at h
  ·split at h
   ·rename_i E z i;split at h
    ·rename_i v X;rw[ce] at h;split at h
     ·rename_i b;have a:=h;simp only[oi,pj] at h;obtain⟨_,_,_,rfl⟩:=h;have P:=c _ List.mem_cons_self;simp only at z;rw[z] at P;have u:=k0y (o':=o') i (fun id j=>c id (by grind))
      grind
     grind
    grind
   grind
  ·split at h
   ·rename_i E i;split at h
    ·rename_i v;rw[ce] at h;split at h
     ·rename_i b;have a:=h;simp only[oi,pj] at h;obtain⟨_,_,_,rfl⟩:=h;have u:=k0y (o':=o') i (fun id j=>c id (by grind));simp only[E,u,v,FZ (c d (by simp))]
      grind
     grind
    grind
   grind
  omega
 grind
theorem s0A{Γ:o4}{p:Pa}{a:Op}{q:Prop}{w:Nat×Ob}{l:List Nat}(g:∀t,.tmp t∈a.operands.toList->b9 e t=b9 e' t)(h:Ca Γ ⟨e,o⟩ p a=some (q,w,l))(j:∀id∈l,b9 o id=b9 o' id):Ca Γ ⟨e',o'⟩ p a=some (q,w,l):=by
 have R:∀(x:Operand),x∈a.operands.toList->rd ⟨e',o'⟩ p x=rd ⟨e,o⟩ p x:=fun x n=>(CT (fun t m=>g t (by grind))).symm;unfold Ca at h;split at h
 ·rename_i T x y;simp only[Ca,R x (by simp[Op.operands]),R y (by simp[Op.operands])];split at h
  ·grind
  ·split at h
   ·rename_i b i;split at h
    ·rename_i k;rw[ce] at h;split at h
     ·rename_i f;have d:=h;simp only[oi,pj] at h;obtain⟨_,_,rfl⟩:=h;have c:=j _ (List.mem_singleton.2 rfl);simp only at b;rw[b] at c;simp only[<- c,i,HN (o':=o') 24 k (fun _ h=>by cases h),f,cond_true]; exact d
     grind
    grind
   grind
  omega
 grind
theorem k0G{T:List Ct}{p:Pa}{d:Nat}{a:Op}{q:Prop}{r:AV}{obs:List (Nat×Ob)}{fp:List Nat}(c:∀t,.tmp t∈a.operands.toList->b9 e t=b9 e' t)(h:CS T ⟨e,o⟩ p d a=some (q,r,obs,fp))(b:∀id∈fp,b9 o id=b9 o' id):CS T ⟨e',o'⟩ p d a=some (q,r,obs,fp):=by
 unfold CS at h
 grind[L5,HM,Op.operands,Call.operands,rd,CT,CS,i0Q]
theorem I0T{Γ:o4}{st:St}{p:Pa}{d:Nat}{a:Op}{r:Prop×AV×List (Nat×Ob)×List Nat}(h:Bv Γ st p d a=some r):I0 Γ st p a=none:=by
 unfold Bv at h
 grind[I0,X4]
theorem E0R{Γ:o4}{st:St}{p:Pa}{a:Op}{r:Prop×List (Nat×Ob)×List Nat}(h:Cd Γ st p a=some r):Ca Γ st p a=none:=by
 unfold Cd at h
 grind[Ca]
theorem s0H{Γ:o4}{p:Pa}{d:Nat}{a:Op}{q:Prop}{r:AV}{obs:List (Nat×Ob)}{l:List Nat}(b:∀t,.tmp t∈a.operands.toList->b9 e t=b9 e' t)(h:Bv Γ ⟨e,o⟩ p d a=some (q,r,obs,l))(j:∀id∈l,b9 o id=b9 o' id):Bv Γ ⟨e',o'⟩ p d a=some (q,r,obs,l):=by
 have R:∀(x:Operand),x∈a.operands.toList->rd ⟨e',o'⟩ p x=rd ⟨e,o⟩ p x:=fun x v=>(CT (fun t f=>b t (by grind))).symm;unfold Bv at h;split at h
 ·rename_i T x;simp only[Bv,R x (by simp[Op.operands])];split at h
  ·rename_i w u;split at h
   ·rename_i k;rw[ce] at h;split at h
    ·rename_i i;have m:=h;simp only[oi,pj] at h;obtain⟨_,_,_,rfl⟩:=h;have g:=j _ (List.mem_cons_of_mem _ (List.mem_singleton.2 rfl));simp only at k;rw[k] at g;simp only at i;simp only[<- g,FZ (j d (by simp)),i,cond_true];exact m
    grind
   grind
  omega
 ·rename_i T x l c;have s:S8 ⟨e',o'⟩ p l=S8 ⟨e,o⟩ p l:=(XP (fun t f=>b t (by grind[Op.operands]))).symm;have n:S8 ⟨e',o'⟩ p c=S8 ⟨e,o⟩ p c:=(XP (fun t f=>b t (by grind[Op.operands]))).symm;simp only[Bv,R x (by simp[Op.operands]),s,n]
  grind
 grind
theorem p0l{Γ:o4}{p:Pa}{a:Op}{q:Prop}{obs:List (Nat×Ob)}{l:List Nat}(b:∀t,.tmp t∈a.operands.toList->b9 e t=b9 e' t)(h:Cd Γ ⟨e,o⟩ p a=some (q,obs,l))(d:∀id∈l,b9 o id=b9 o' id):Cd Γ ⟨e',o'⟩ p a=some (q,obs,l):=by
 have R:∀(x:Operand),x∈a.operands.toList->rd ⟨e',o'⟩ p x=rd ⟨e,o⟩ p x:=fun x f=>(CT (fun t c=>b t (by grind))).symm;unfold Cd at h;split at h
 ·rename_i T x y;simp only[Cd,R x (by simp[Op.operands]),R y (by simp[Op.operands])];split at h
  ·grind
  omega
 grind
theorem k0E{Γ:o4}{T:List Ct}{p:Pa}{x:Oper}{q:Prop}{av:Option AV}{obs:List (Nat×Ob)}{fp:List Nat}(c:∀t,.tmp t∈x.op.operands.toList->b9 e t=b9 e' t)(h:X6 Γ T ⟨e,o⟩ p x=some (q,av,obs,fp))(b:∀id∈fp,b9 o id=b9 o' id) :
  X6 Γ T ⟨e',o'⟩ p x=some (q,av,obs,fp):=by
 unfold X6 at h ⊢;split at h
 ·rw[ce] at h ⊢;split at h
  ·rename_i a;rw[if_pos a]
   grind[oi,pj,s0C,s0H,I0T]
  ·rename_i a;rw[if_neg a];rw[ce] at h ⊢;split at h
   ·rename_i a;rw[if_pos a]
    grind[oi,pj,s0E]
   ·rename_i a;rw[if_neg a]
    grind[oi,pj,k0G]
 ·rw[ce] at h ⊢;split at h
  ·rename_i a;rw[if_pos a]
   grind[oi,pj,s0A,p0l,E0R]
  ·rename_i a;rw[if_neg a]
   grind[oi,pj,k0G]
end
structure A4 where
 o:Oper
 p:Pa
 av:Option AV
 obs:List (Nat×Ob)
 fp:List Nat
def Sc(e:List (Nat×Sl))(p:Pa)(q:Prop):Prop:=match p with
 | []=>q
 | x :: r=>FY e (x :: r)->q
def HO(Γ:o4)(T:List Ct)(all:List Oper):List Oper->St->List A4->(St->List A4->Prop)->Prop
 | [],st,rs,K=>K st rs
 | o :: r,st,rs,K=>match Bw all st.e o with
   | some p=>match X6 Γ T st p o with
     | some (q,av,obs,fp)=>bif Cc p||Cc obs then(Sc st.e p q/\HO Γ T all r ⟨Ce o.dst p av st.e,obs++st.o⟩ (⟨o,p,av,obs,fp⟩ :: rs) K) else False
     | none=>False
   | none=>False
def I1(n:Nat):Nat->List Nat->List Oper->Bool
 | _,_,[]=>true
 | i,seen,o :: r=>(match o.dst with
   | some d=>Nat.blt d n&&FW d seen
   | none=>true)&&(match o.guard with
   | some (j,_)=>Nat.blt j i
   | none=>true)&&I1 n (i+1) (match o.dst with
   | some d=>d :: seen
   | none=>seen) r
def C2(st:St)(R:A4):St:=⟨Ce R.o.dst R.p R.av st.e,R.obs++st.o⟩
def Ga(Γ:o4)(T:List Ct)(all:List Oper):St->List A4->Prop
 | _,[]=>True
 | st,R :: r=>Bw all st.e R.o=some R.p/\(∃q,X6 Γ T st R.p R.o=some (q,R.av,R.obs,R.fp)/\(FY st.e R.p->q))/\(R.p=[]∨R.obs=[])/\Ga Γ T all (C2 st R) r
theorem AS{Γ:o4}{T:List Ct}{all:List Oper}{K:St->List A4->Prop}:∀{ops:List Oper} {st:St} {rs:List A4},HO Γ T all ops st rs K->∃recs:List A4,recs.map (·.o)=ops/\Ga Γ T all st recs/\K (recs.foldl C2 st) (recs.reverse++rs)
 | [],st,rs,h=>⟨[],rfl,trivial,h⟩
 | o :: r,st,rs,h=>by
   unfold HO at h;split at h
   ·rename_i p c;split at h
    ·rename_i q l a i e;rw[ce] at h;split at h
     ·rename_i k;obtain⟨b,f⟩:=h;obtain⟨recs,m,g,d⟩:=AS f;refine⟨⟨o,p,l,a,i⟩ :: recs,by grind,⟨c,⟨q,e,?_⟩,?_,g⟩,by simp only[List.foldl_cons,List.reverse_cons,List.append_assoc,List.singleton_append]; exact d⟩
      ·intro j;cases p with
       | nil=>exact b
       | cons x r=>exact b j
      ·rw[Bool.or_eq_true] at k
       grind[NH]
     grind
    grind
   grind
theorem XQ{a:Type}{l:List a}{j:Nat}{x:a}(h:B6 l j=some x):l[j]?=some x:=by grind[V3]
section
variable {X:Cx} {Γ:o4} {T:List Ct}
theorem HP(u:w9 X.P Γ)(hT:∀c∈T,Ok X.P c){ops:Array Oper}{all:List Oper}(ha:ops=all.toArray){Q:Exit->Act->World->Prop}{rest:List Oper}:∀(recs:List A4) (i:Nat) (seen:List Nat) (st:St) (G:Gh) (a:Act),(∀j,j<recs.length->recs[j]?.map (·.o)=all[i+j]?)->I1 X.n i seen (recs.map (·.o))=true ->
  (∀j oj dj,j<i->all[j]?=some oj->oj.dst=some dj->dj∈seen)->(∀t s,b9 st.e t=some s->∀x∈s.p,x.1∈seen)->Ga Γ T all st recs->Sat X G->G.o=st.o->EnvR X.n G st.e a ->
  (∀G' a',Sat X G'->G'.o=(recs.foldl C2 st).o->EnvR X.n G' (recs.foldl C2 st).e a'->wpList X.P ops Q rest a' G'.w)->wpList X.P ops Q (recs.map (·.o)++rest) a G.w
 | [],i,seen,st,G,a,_,_,_,_,_,S,ho,hE,hK=>hK G a S ho hE
 | R :: r,i,seen,st,G,a,hall,hreg,hseen,hpath,⟨hp,⟨q,hab,hq⟩,hg,hrun⟩,S,ho,hE,hK=>by
   simp only[List.map_cons,I1,ba] at hreg;obtain⟨⟨g,l⟩,z⟩:=hreg;have k:∀d,R.o.dst=some d->d<X.n/\d ∉ seen:=fun d f=>by
    rw[f] at g;simp only[ba] at g;exact⟨by simp_all,HL g.2⟩
   have F:∀x∈R.p,x.1∈seen:=by
    unfold Bw at hp;split at hp
    ·grind
    ·rename_i j b H;rw[H] at l;have m:j<i:=by simpa using l
     split at hp
     ·rename_i oj hj;split at hp
      ·rename_i dj aA;split at hp
       ·rename_i q' f' x' hs;simp only[oi] at hp; rw[<- hp];intro y W;rcases List.mem_cons.1 W with rfl | W
        ·grind[XQ]
        ·exact hpath dj _ hs y W
       grind
      grind
     grind
   have f:∀d,R.o.dst=some d->d<X.n/\(∀x∈R.p,x.1≠d)/\∀t s,b9 st.e t=some s->∀x∈s.p,x.1≠d:=fun d f=>⟨(k d f).1,fun x v e=>(k d f).2 (e ▸ F x v),fun t s E x v e=>(k d f).2 (e ▸ hpath t s E x v)⟩
   have aB:=NJ (K:=wpList X.P ops Q (r.map (·.o)++rest)) u hT ha (Q:=Q) S ho hE hp hab hq hg f (fun a' G' S' _ V Y=>by
    refine HP u hT ha r (i+1) _ (C2 st R) G' a' (fun j hj=>?_) z ?_ ?_ hrun S' V Y hK
    ·have:=hall (j+1) (by grind);simp only[List.getElem?_cons_succ] at this;rw[this]; congr 1; omega
    ·intro j oj dj hj h1 h2;rcases Nat.lt_or_ge j i with h | h
     ·grind
     ·have m:j=i:=by omega
      subst m;have h0:=hall 0 (by simp)
      grind
    ·intro t s E x v;have aC:x.1∈seen->x.1∈(match R.o.dst with | some d=>d :: seen | none=>seen):=fun h=>by
      grind
     simp only[C2,Ce] at E
     grind[lK])
   grind[wpList,N0]
theorem D0u(l:w9 X.P Γ)(v:∀c∈T,Ok X.P c){ops:Array Oper}{all:List Oper}(r:ops=all.toArray){Q:Exit->Act->World->Prop}(recs:List A4)(i:Nat)(b:List Nat)(st:St)(G:Gh)(a:Act)(g:∀j,recs[j]?.map (·.o)=all[i+j]?)(k:I1 X.n i b (recs.map (·.o))=true)
  (f:∀j oj dj,j<i->all[j]?=some oj->oj.dst=some dj->dj∈b) (d:∀t s,b9 st.e t=some s->∀x∈s.p,x.1∈b) (h:Ga Γ T all st recs) (S:Sat X G) (u:G.o=st.o) (m:EnvR X.n G st.e a)
  (q:∀G' a',Sat X G'->G'.o=(recs.foldl C2 st).o->EnvR X.n G' (recs.foldl C2 st).e a'->Q .normal a' G'.w):wpList X.P ops Q (recs.map (·.o)) a G.w:=by
 have:=HP (rest:=[]) l v r recs i b st G a (fun j _=>g j) k f d h S u m q
 rwa [List.append_nil] at this
end
def A0(D:Nat->Bool):Nat->List A4->St->St
 | _,[],st=>st
 | i,R :: r,st=>A0 D (i+1) r (if D i=true then C2 st R else st)
def DO(R:A4)(t:Nat):Prop:=R.o.dst=some t
def Gb(R:A4)(id:Nat):Prop:=∃x∈R.obs,x.1=id
theorem Se(st:St)(R:A4)(t:Nat)(h:¬DO R t):b9 (C2 st R).e t=b9 st.e t:=by
 simp only[C2,Ce];split
 ·rename_i d a b _;rw[lK,if_neg (fun e=>h (by rw[<- e]; exact b))]
 ·rfl
theorem Sf(st:St)(R:A4)(id:Nat)(h:¬Gb R id):b9 (C2 st R).o id=b9 st.o id:=by
 simp only[C2];exact XH (fun x a e=>h ⟨x,a,e⟩)
theorem m0q{st st':St}{R:A4}{t:Nat}(h:b9 st.e t=b9 st'.e t):b9 (C2 st R).e t=b9 (C2 st' R).e t:=by
 simp only[C2,Ce]
 grind[lK]
theorem y0O{b:Type}{l m a:List (Nat×b)}{i:Nat}(h:b9 m i=b9 a i):b9 (l++m) i=b9 (l++a) i:=by
 induction l with
 | nil=>exact h
 | cons x r c =>
   grind[lK]
theorem m0p{st st':St}{R:A4}{id:Nat}(h:b9 st.o id=b9 st'.o id):b9 (C2 st R).o id=b9 (C2 st' R).o id:=y0O h
theorem NK{D b:Nat->Bool}{t:Nat}:∀{recs:List A4} {i:Nat} {st st':St},(∀j R,recs[j]?=some R->DO R t->D (i+j)=b (i+j))->b9 st.e t=b9 st'.e t->b9 (A0 D i recs st).e t=b9 (A0 b i recs st').e t
 | [],_,_,_,_,h=>h
 | R :: r,i,st,st',hD,h=>by
   simp only[A0];refine NK (fun j c d a=>by have:=hD (j+1) c (by grind) a; rwa [show i+(j+1)=i+1+j by omega] at this) ?_;by_cases a:DO R t
   ·have:=hD 0 R rfl a;simp only[Nat.add_zero] at this
    grind[m0q]
   grind[Se]
theorem NL{D b:Nat->Bool}{id:Nat}:∀{recs:List A4} {i:Nat} {st st':St},(∀j R,recs[j]?=some R->Gb R id->D (i+j)=b (i+j))->b9 st.o id=b9 st'.o id->b9 (A0 D i recs st).o id=b9 (A0 b i recs st').o id
 | [],_,_,_,_,h=>h
 | R :: r,i,st,st',hD,h=>by
   simp only[A0];refine NL (fun j c d a=>by have:=hD (j+1) c (by grind) a; rwa [show i+(j+1)=i+1+j by omega] at this) ?_;by_cases a:Gb R id
   ·have:=hD 0 R rfl a;simp only[Nat.add_zero] at this
    grind[m0p]
   grind[Sf]
theorem XR{D:Nat->Bool}{t:Nat}{R:A4}:∀{recs:List A4} {i j:Nat} {st st':St},recs[j]?=some R->DO R t->R.av≠none->D (i+j)=true->(∀k R',j<k->recs[k]?=some R'->DO R' t->D (i+k)=false)->b9 (A0 D i recs st).e t=b9 (C2 st' R).e t
 | R0 :: r,i,0,st,st',hj,hw,hav,hD,hl=>by
   simp only[List.getElem?_cons_zero,oi] at hj; subst hj;simp only[Nat.add_zero] at hD;simp only[A0,hD,if_true];have f:b9 (A0 D (i+1) r (C2 st R0)).e t=b9 (C2 st R0).e t:=by
    have:∀{recs:List A4} {i:Nat} {st:St},(∀k R',recs[k]?=some R'->DO R' t->D (i+k)=false)->b9 (A0 D i recs st).e t=b9 st.e t:=by
     intro recs
     induction recs with
     | nil=>intro i st _; rfl
     | cons c m l =>
       intro i st h;simp only[A0];rw[l (fun k R' d b=>by have:=h (k+1) R' (by grind) b; rwa [show i+(k+1)=i+1+k by omega] at this)];split
       ·rename_i g;refine Se st c t (fun b=>?_);have:=h 0 c rfl b
        grind
       ·rfl
    exact this (fun k R' d b=>by have:=hl (k+1) R' (by omega) (by grind) b; rwa [show i+(k+1)=i+1+k by omega] at this)
   rw[f];unfold DO at hw;simp only[C2,Ce,hw];cases h:R0.av with
   | none=>grind
   | some a=>simp only[lK,if_true]
 | R0 :: r,i,j+1,st,st',hj,hw,hav,hD,hl=>by
   simp only[A0];exact XR (j:=j) (by grind) hw hav (by grind) (fun k R' n d b=>by have:=hl (k+1) R' (by omega) (by grind) b; rwa [show i+(k+1)=i+1+k by omega] at this)
theorem o0D{a:Type}{l m b:List (Nat×a)}{i:Nat}(h:∃x∈l,x.1=i):b9 (l++m) i=b9 (l++b) i:=by
 induction l with
 | nil=>grind
 | cons x r c =>
   obtain⟨d,v⟩:=x;rw[List.cons_append,List.cons_append,lK,lK]
   grind
theorem XS{D:Nat->Bool}{id:Nat}{R:A4}:∀{recs:List A4} {i j:Nat} {st st':St},recs[j]?=some R->Gb R id->D (i+j)=true->(∀k R',j<k->recs[k]?=some R'->Gb R' id->D (i+k)=false)->b9 (A0 D i recs st).o id=b9 (C2 st' R).o id
 | R0 :: r,i,0,st,st',hj,hw,hD,hl=>by
   simp only[List.getElem?_cons_zero,oi] at hj; subst hj;simp only[Nat.add_zero] at hD;simp only[A0,hD,if_true];have d:b9 (A0 D (i+1) r (C2 st R0)).o id=b9 (C2 st R0).o id:=by
    have:∀{recs:List A4} {i:Nat} {st:St},(∀k R',recs[k]?=some R'->Gb R' id->D (i+k)=false)->b9 (A0 D i recs st).o id=b9 st.o id:=by
     intro recs
     induction recs with
     | nil=>intro i st _; rfl
     | cons b g f =>
       intro i st h;simp only[A0];rw[f (fun k R' c a=>by have:=h (k+1) R' (by grind) a; rwa [show i+(k+1)=i+1+k by omega] at this)];split
       ·rename_i e;refine Sf st b id (fun a=>?_);have:=h 0 b rfl a
        grind
       ·rfl
    exact this (fun k R' c a=>by have:=hl (k+1) R' (by omega) (by grind) a; rwa [show i+(k+1)=i+1+k by omega] at this)
   rw[d];exact o0D hw
 | R0 :: r,i,j+1,st,st',hj,hw,hD,hl=>by
   simp only[A0];exact XS (j:=j) (by grind) hw (by grind) (fun k R' l c a=>by have:=hl (k+1) R' (by omega) (by grind) a; rwa [show i+(k+1)=i+1+k by omega] at this)
theorem XT{D:Nat->Bool}:∀{recs:List A4} {i:Nat} {st:St},(∀j,j<recs.length->D (i+j)=true)->A0 D i recs st=recs.foldl C2 st
 | [],_,_,_=>rfl
 | R :: r,i,st,h=>by
   have a:=h 0 (by simp);simp only[Nat.add_zero] at a;simp only[A0,a,if_true,List.foldl_cons];exact XT (fun j b=>by have:=h (j+1) (by grind); rwa [show i+(j+1)=i+1+j by omega] at this)
theorem XU{Γ:o4}{T:List Ct}{all:List Oper}:∀{recs:List A4} {i:Nat} {st:St} {j:Nat} {R:A4},Ga Γ T all st recs->recs[j]?=some R ->
  ∃sj,sj=A0 (fun k=>decide (k<i+j)) i recs st/\Bw all sj.e R.o=some R.p/\(∃q,X6 Γ T sj R.p R.o=some (q,R.av,R.obs,R.fp)/\(FY sj.e R.p->q))/\(R.p=[]∨R.obs=[])
 | [],_,_,j,_,_,h=>by grind
 | R0 :: r,i,st,0,R,⟨h1,h2,h3,h4⟩,h=>by
   simp only[List.getElem?_cons_zero,oi] at h; subst h;have:∀{recs:List A4} {i j:Nat} {st:St},i<=j->A0 (fun k=>decide (k<i)) j recs st=st:=by
    intro recs
    induction recs with
    | nil=>intro i j st _; rfl
    | cons R r b =>
      intro i j st a;simp only[A0];rw[if_neg (by grind)];exact b (by omega)
   simp_all
 | R0 :: r,i,st,j+1,R,⟨h1,h2,h3,h4⟩,h=>by
   obtain⟨sj,e,c,d,f⟩:=XU (i:=i+1) (j:=j) h4 (by simpa using h)
   grind[A0]
def O3(o:Oper):List Nat:=o.after.toList.filterMap fun e=>bif Region.binds .any e then some e.on else none
def O4:Nat->List Oper->Bool
 | _,[]=>true
 | i,o :: r=>(O3 o).all (fun k=>Nat.blt k i)&&O4 (i+1) r
def H3:List (List Nat)->List Oper->List (List Nat)
 | acc,[]=>acc
 | acc,o :: r=>H3 (acc++[O3 o++(O3 o).flatMap fun k=>(B6 acc k).getD []]) r
def M3(x:Nat):List Nat->Bool
 | []=>false
 | y :: r=>Nat.beq x y||M3 x r
theorem P2{x:Nat}:∀{l:List Nat},M3 x l=true↔x∈l
 | []=>by simp[M3]
 | y :: r=>by
   simp only[M3,Bool.or_eq_true,List.mem_cons,P2 (l:=r)]
   simp_all
theorem Z3{o:Oper}{k:Nat}:k∈O3 o↔∃e∈o.after,Region.binds .any e=true/\e.on=k:=by
 unfold O3
 grind
def DP(D:Nat->Bool)(all:List Oper):Prop:=∀i o,all[i]?=some o->D i=true->∀k∈O3 o,D k=true
theorem Sg{all:List Oper}:∀{rest:List Oper} {acc:List (List Nat)},(∀j:Nat,rest[j]?=all[acc.length+j]?)->O4 acc.length rest=true ->
  (∀(i:Nat) (l:List Nat),acc[i]?=some l->(∀k∈l,k<i)/\∀D,DP D all->∀o,all[i]?=some o->(∀k∈O3 o,D k=true)->∀k∈l,D k=true) ->
  ∀(i:Nat) (l:List Nat),(H3 acc rest)[i]?=some l->(∀k∈l,k<i)/\∀D,DP D all->∀o,all[i]?=some o->(∀k∈O3 o,D k=true)->∀k∈l,D k=true
 | [],acc,_,_,h=>h
 | o :: r,acc,hall,hb,h=>by
   simp only[O4,ba,List.all_eq_true] at hb;simp only[H3];refine Sg (fun j=>?_) (by grind) (fun i l hi=>?_)
   ·have:=hall (j+1);simp only[List.getElem?_cons_succ] at this;rw[this]; congr 1; simp; omega
   ·rcases Nat.lt_or_ge i acc.length with q | hge
    ·rw[List.getElem?_append_left q] at hi;exact h i l hi
    ·have u:i=acc.length:=by
      rcases Nat.eq_or_lt_of_le hge with e | e
      ·exact e.symm
      ·rw[List.getElem?_eq_none (by simp; omega)] at hi; cases hi
     subst u;simp only[List.getElem?_concat_length,oi] at hi;subst hi;have w:∀k:Nat,k∈O3 o->k<acc.length:=fun k w=>by simp_all
     refine⟨fun k f=>?_,fun D y F c s k f=>?_⟩
     ·grind[V3,List.getElem?_eq_getElem]
     ·have v:=hall 0;simp only[List.getElem?_cons_zero,Nat.add_zero] at v;rw[<- v] at c;cases c;rcases List.mem_append.1 f with z | z
      ·grind
      ·obtain⟨m,x,n⟩:=List.mem_flatMap.1 z;rw[V3] at n;have b:=w m x;rw[List.getElem?_eq_getElem b] at n;have t:=s m x;obtain⟨g,a⟩:∃g,all[m]?=some g:=by
        grind
       exact(h m acc[m] (List.getElem?_eq_getElem b)).2 D y g a (fun E d=>y m g a t E d) k n
end Go.Proofs.Xv
end
section
set_option maxHeartbeats 0
namespace Go.Proofs.Xv
open Go Go.RowKit Go.Proofs.Sv
theorem Sat.congr{X:Cx}{G:Gh}(S:Sat X G){o':List (Nat×Ob)}(h:∀i,b9 o' i=b9 G.o i):Sat X { G with o:=o' }/\GLe G { G with o:=o' }:=by
 have c:GLe G { G with o:=o' }:=⟨rfl,fun k y _=>⟨y,rfl⟩,fun i T r hi=>⟨rfl,T,r,(h i).trans hi⟩,fun i T u e t f d hi=>⟨rfl,T,u,e,t,f,d,(h i).trans hi⟩,fun i T e t f j hi=>⟨T,e,t,f,j,(h i).trans hi,Nat.le_refl _,fun _=>rfl⟩⟩;have a:∀i o,b9 o' i=some o->b9 G.o i=some o:=fun i o hi=>(h i).symm.trans hi;refine⟨⟨S.base,S.os,S.tape,S.output,S.size,S.block,fun i o hi=>?_,fun i s o w b hi l=>S.inj i s o w b (a i o hi) (a s w l),fun i o b hi=>S.imm i o b (a i o hi),fun i o b hi=>S.own i o b (a i o hi),S.klt,S.kfrom,fun i b z W=>?_,fun i v h=>(S.pin i v h).mono c⟩,c⟩
 rotate_right
 ·obtain⟨Q,P,Y,V⟩:=S.sep i b z (by grind)
  grind
 have:=S.obs i o (a i o hi);cases o with
 | box T r=>obtain⟨b,H,n,m,q,F⟩:=this; exact⟨b,H,n,m,q,F.mono c⟩
 | arr T e t f j=>exact this
 | grd T u e t f d =>
   obtain⟨E,x,n,m,q⟩:=this;exact⟨E,x,n,m.up c (fun _=>Iff.rfl) (WE.refl (g:=none) _) (fun _ _ h=>by cases h),q⟩
theorem EnvR.congr{n:Nat}{G:Gh}{e e':List (Nat×Sl)}{a:Act}(h:EnvR n G e a)(c:∀t,b9 e' t=b9 e t):EnvR n G e' a :=
 ⟨h.defers,h.size,fun t s b=>h.val t s (by grind)⟩
theorem g0R{all:List Oper}{e e':List (Nat×Sl)}{o:Oper}{p:Pa}(h:Bw all e o=some p)(a:∀x∈p,b9 e x.1=b9 e' x.1):Bw all e' o=some p:=by
 unfold Bw at h ⊢;split at h
 ·exact h
 grind[oi,b9,List.mem_cons_self]
theorem XV{e e':List (Nat×Sl)}:∀{p:Pa},(∀x∈p,b9 e x.1=b9 e' x.1)->FY e p->FY e' p
 | [],_,_=>trivial
 | (s,b) :: r,h,⟨h1,h2⟩=>by
   refine⟨?_,XV (fun x a=>h x (by grind)) h2⟩
   simp_all
def XW(R:A4):List Nat:=B0D R.o.op.operands.toList++R.p.map Prod.fst
def NM(l m:List Nat):Bool:=l.all fun x=>!M3 x m
def CU(bs:List (List Nat))(i:Nat)(A:A4)(k:Nat)(B:A4):Bool :=
 (match A.o.dst with
   | some d=>(!M3 d (XW B)||(M3 i ((B6 bs k).getD [])||M3 k ((B6 bs i).getD [])))&&(!M3 d (B.p.map Prod.fst)||M3 i ((B6 bs k).getD []))
   | none=>true)&&(NM (A.obs.map Prod.fst) (B.fp++B.obs.map Prod.fst)||(M3 i ((B6 bs k).getD [])||M3 k ((B6 bs i).getD [])))
def JQ(f:Nat->A4->Bool):Nat->List A4->Bool
 | _,[]=>true
 | i,R :: r=>f i R&&JQ f (i+1) r
theorem NN{f:Nat->A4->Bool}:∀{recs:List A4} {i:Nat},JQ f i recs=true->∀j R,recs[j]?=some R->f (i+j) R=true
 | [],_,_,j,R,h=>by grind
 | R0 :: r,i,h,0,R,hj=>by
   grind[JQ]
 | R0 :: r,i,h,j+1,R,hj=>by
   simp only[JQ,ba] at h;have:=NN h.2 j R (by grind)
   grind
def XX(A:A4):Bool:=match A.o.dst with
 | some d=>!M3 d (A.p.map Prod.fst)
 | none=>true
def DQ(bs:List (List Nat))(recs:List A4):Bool:=JQ (fun i A=>XX A&&JQ (fun k B=>Nat.beq i k||CU bs i A k B) 0 recs) 0 recs
theorem Gc{a:List (List Nat)}{recs:List A4}(h:DQ a recs=true){i k:Nat}{A B:A4}(hi:recs[i]?=some A)(c:recs[k]?=some B)(d:i≠k):CU a i A k B=true:=by
 have b:=NN h i A hi;rw[ba] at b;have e:=NN b.2 k B c
 simp_all
theorem Si{n:Nat}:∀{l:List Oper} {i:Nat} {seen:List Nat},I1 n i seen l=true->(∀(j:Nat) (o:Oper) (d:Nat),l[j]?=some o->o.dst=some d->d<n/\d ∉ seen)/\(∀(j k:Nat) (o o':Oper) (d:Nat),l[j]?=some o->l[k]?=some o'->o.dst=some d->o'.dst=some d->j=k)
 | [],_,_,_=>⟨fun j o d h=>by grind,fun j k o o' d h=>by grind⟩
 | o0 :: r,i,seen,h=>by
   simp only[I1,ba] at h;obtain⟨⟨a,_⟩,c⟩:=h;obtain⟨f,m⟩:=Si c;have e:∀d,d∈seen->d∈(match o0.dst with | some d=>d :: seen | none=>seen):=fun d b=>by
    grind
   have g:∀d,o0.dst=some d->d<n/\d ∉ seen:=fun d b=>by
    rw[b] at a;simp only[ba] at a;exact⟨by simp_all,HL a.2⟩
   grind
theorem XY{b:Type}{p a:b->Bool}:∀{l:List b},(∀x,a x=true->p x=true)->(∃x∈l,p x=true/\a x=false)->(l.filter a).length < (l.filter p).length
 | [],_,⟨x,hx,_⟩=>by cases hx
 | y :: r,h,⟨x,hx,h1,h2⟩=>by
   have d:∀l:List b,(l.filter a).length<=(l.filter p).length:=fun l=>by
    induction l with
    | nil=>grind
    | cons z s c =>
      grind
   rcases List.mem_cons.1 hx with rfl | hx
   ·grind
   ·have c:=XY h ⟨x,hx,h1,h2⟩;simp only[List.filter_cons];by_cases hz:a y=true
    ·rw[if_pos hz,if_pos (h y hz)]; simp only[List.length_cons]; omega
    ·rw[if_neg hz];split
     ·simp only[List.length_cons]; omega
     ·exact c
theorem XZ{D:Nat->Bool}{t:Nat}{s:Sl}:∀{recs:List A4} {i:Nat} {st:St},b9 (A0 D i recs st).e t=some s->b9 st.e t=some s∨∃k R,recs[k]?=some R/\D (i+k)=true/\s.p=R.p
 | [],_,_,h=>.inl h
 | R :: r,i,st,h=>by
   simp only[A0] at h;rcases XZ h with a | ⟨k,R',h1,h2,h3⟩
   ·by_cases b:D i=true
    ·rw[if_pos b] at a;simp only[C2,Ce] at a;split at a
     ·rw[lK] at a;split at a
      ·cases a;exact .inr ⟨0,R,rfl,b,rfl⟩
      grind
     grind
    grind
   ·exact .inr ⟨k+1,R',by grind,by grind,h3⟩
theorem w0L{Γ:o4}{T:List Ct}{st:St}{p:Pa}{o:Oper}{d:Nat}{q:Prop}{av:Option AV}{obs:List (Nat×Ob)}{fp:List Nat}(h:X6 Γ T st p o=some (q,av,obs,fp))(a:o.dst=some d):av≠none:=by
 grind[X6]
section
variable {X:Cx} {Γ:o4} {T:List Ct}
theorem q0T(aY:w9 X.P Γ)(hT:∀c∈T,Ok X.P c){l:List Oper}{recs:List A4}{st:St}{Q:Exit->Act->World->Prop}(hl:recs.map (·.o)=l)(aS:Ga Γ T l st recs)(aT:∀t s,b9 st.e t=some s->s.p=[])
  (aJ:I1 X.n 0 [] l=true) (aA:O4 0 l=true) (E:DQ (H3 [] l) recs=true) (hK:∀G' a',Sat X G'->G'.o=(recs.foldl C2 st).o->EnvR X.n G' (recs.foldl C2 st).e a'->Q .normal a' G'.w) :
  ∀(fuel:Nat) (listed:Array Bool) (G:Gh) (a:Act),((List.range l.length).filter fun i=>!listed.getD i true).length<=fuel->listed.size=l.length->DP (fun k=>listed.getD k false) l->Sat X G->(∀id,b9 G.o id=b9 (A0 (fun k=>listed.getD k false) 0 recs st).o id) ->
   EnvR X.n G (A0 (fun k=>listed.getD k false) 0 recs st).e a->wpAny X.P .any l.toArray Q fuel listed a G.w:=by
 have bS:recs.length=l.length:=by rw[<- hl]; simp
 have bB:∀(j:Nat) (R:A4),recs[j]?=some R->l[j]?=some R.o:=fun j R h=>by rw[<- hl,List.getElem?_map,h]; rfl
 have bH:∀(j:Nat) (o:Oper),l[j]?=some o->∃R,recs[j]?=some R/\R.o=o:=fun j o h=>by
  rw[<- hl,List.getElem?_map] at h;cases hr:recs[j]? with
  | none=>rw[hr] at h; cases h
  | some R=>rw[hr] at h; cases h; exact⟨R,rfl,rfl⟩
 have bJ:=Sg (all:=l) (rest:=l) (acc:=[]) (fun j=>by simp) aA (fun i m h=>by grind);have aD:=Si aJ;have aL:∀(i:Nat) (o:Oper) (k:Nat),l[i]?=some o->k∈O3 o->k<i:=by
  have:∀{m:List Oper} {i:Nat},O4 i m=true->∀j o k,m[j]?=some o->k∈O3 o->k<i+j:=by
   intro m
   induction m with
   | nil=>grind
   | cons o0 r ih =>
     intro i h j o k hj v;simp only[O4,ba,List.all_eq_true] at h;cases j with
     | zero=>simp only[List.getElem?_cons_zero,oi] at hj; simp_all
     | succ j=>grind
  intro i o k u h2;have:=this aA i o k u h2; omega
 -- all is done: the end
 have aC:∀(listed:Array Bool) (G:Gh) (a:Act),(∀i,i<l.length->listed.getD i false=true)->Sat X G->(∀id,b9 G.o id=b9 (A0 (fun k=>listed.getD k false) 0 recs st).o id)->EnvR X.n G (A0 (fun k=>listed.getD k false) 0 recs st).e a->Q .normal a G.w:=by
  intro listed G a aI S hO hE;rw[XT (fun j hj=>by grind)] at hO hE;obtain⟨S',L'⟩:=S.congr (o':=(recs.foldl C2 st).o) (fun i=>(hO i).symm);exact hK ⟨G.ρ,G.γ,G.K,G.w,(recs.foldl C2 st).o,G.B,G.δ⟩ a S' rfl (hE.mono L')
 intro fuel
 induction fuel with
 | zero =>
   intro listed G a hf bF aB S hO hE;have aQ:(List.range l.length).filter (fun i=>!listed.getD i true)=[]:=List.eq_nil_of_length_eq_zero (by omega);have aI:∀i,i<l.length->listed.getD i true=true:=fun i hi=>by
    cases h:listed.getD i true with
    | true=>rfl
    | false =>
      have:i∈(List.range l.length).filter (fun i=>!listed.getD i true):=List.mem_filter.2 ⟨List.mem_range.2 hi,by grind⟩;rw[aQ] at this; cases this
   refine⟨?_,aC listed G a (fun i hi=>?_) S hO hE⟩
   ·grind[Region.ready,hi,mem_ready,Nat.lt_or_ge,List.getElem?_eq_none]
   grind
 | succ fuel ih =>
   intro listed G a hf bF aB S hO hE;refine⟨fun hr=>aC listed G a ?_ S hO hE,fun i hi=>?_⟩
   · -- nothing is ready: all is done
     intro i
     induction i using Nat.strongRecOn with
     | ind i bC =>
       intro hi;cases h:listed.getD i false with
       | true=>rfl
       | false =>
         have:i∈Region.ready .any l.toArray listed:=mem_ready.2 ⟨by
          grind,l[i],by grind,fun e he hb=>bC e.on (aL i l[i] e.on (List.getElem?_eq_getElem hi) (Z3.2 ⟨e,he,hb,rfl⟩)) (by have:=aL i l[i] e.on (List.getElem?_eq_getElem hi) (Z3.2 ⟨e,he,hb,rfl⟩); omega)⟩
         rw[hr] at this; cases this
   ·obtain⟨aM,o,ho,bO⟩:=mem_ready.1 hi;rw[List.getElem?_toArray] at ho;obtain⟨R,hR,rfl⟩:=bH i o ho;have aN:i<l.length:=by
     rcases Nat.lt_or_ge i l.length with h | h
     ·exact h
     ·grind
    have bL:listed.getD i false=false:=by
     have hs:i<listed.size:=by omega
     rw[Array.getD_eq_getD_getElem?,Array.getElem?_eq_getElem hs] at aM ⊢;exact aM
    -- what stands ahead of i is done
    have bU:∀k∈((B6 (H3 [] l) i).getD []),k<i/\listed.getD k false=true:=by
     intro k v;rw[V3] at v;cases hb:(H3 [] l)[i]? with
     | none=>grind
     | some m =>
       grind[Z3]
    have bQ:∀k,listed.getD k false=true->k<l.length->∀m∈((B6 (H3 [] l) k).getD []),m<k/\listed.getD m false=true:=by
     intro k v g m hm;rw[V3] at hm;cases hb:(H3 [] l)[k]? with
     | none=>grind
     | some b =>
       rw[hb] at hm;obtain⟨g1,g2⟩:=bJ k b hb;exact⟨g1 m hm,g2 _ aB l[k] (List.getElem?_eq_getElem g) (fun k' aX=>aB k l[k] (List.getElem?_eq_getElem g) v k' aX) m hm⟩
    have bK:∀k,k<l.length->∀m∈((B6 (H3 [] l) k).getD []),m<k:=by
     intro k g m hm;rw[V3] at hm;cases hb:(H3 [] l)[k]? with
     | none=>grind
     | some b=>grind
    -- ordered with i: done exactly if earlier in the text
    have aF:∀k,k<l.length->k≠i->(M3 k ((B6 (H3 [] l) i).getD [])||M3 i ((B6 (H3 [] l) k).getD []))=true->listed.getD k false=decide (k<i):=by
     intro k g bM h;rw[Bool.or_eq_true] at h;rcases h with h | h
     ·grind[P2]
     ·grind[P2]
    obtain⟨sj,aG,bD,⟨q,aO,hq⟩,hg⟩:=XU (i:=0) aS hR;rw[Nat.zero_add] at aG
    -- the slots and objects that i looks at are as in the text's order
    have aP:∀t,t∈XW R->b9 sj.e t=b9 (A0 (fun k=>listed.getD k false) 0 recs st).e t:=by
     intro t ht;rw[aG];refine NK (fun k R' v H=>?_) rfl;rw[Nat.zero_add];by_cases f:k=i
     ·grind
     ·have F:=Gc E v hR f;have g:k<l.length:=by
       rcases Nat.lt_or_ge k l.length with h | h
       ·exact h
       ·grind
      simp only[CU,ba] at F;have H:R'.o.dst=some t:=H;rw[H] at F;simp only[ba] at F;have u:=F.1.1;rw[Bool.or_eq_true] at u;rcases u with u | u
      ·grind[P2]
      ·exact(aF k g f (by omega)).symm
    have bG:∀id,id∈R.fp++R.obs.map Prod.fst->b9 sj.o id=b9 G.o id:=by
     intro id aK;rw[hO,aG];refine NL (fun k R' v H=>?_) rfl;rw[Nat.zero_add];by_cases f:k=i
     ·grind
     ·have F:=Gc E v hR f;have g:k<l.length:=by
       rcases Nat.lt_or_ge k l.length with h | h
       ·exact h
       ·grind
      simp only[CU,ba] at F;have u:=F.2;rw[Bool.or_eq_true] at u;obtain⟨y,hy,bA⟩:=H;rcases u with u | u
      ·grind[NM,List.all_eq_true,List.mem_map_of_mem,P2]
      ·exact(aF k g f (Bool.or_comm _ _ ▸ u)).symm
    have aR:∀x∈R.p,b9 sj.e x.1=b9 (A0 (fun k=>listed.getD k false) 0 recs st).e x.1:=fun x hx=>aP x.1 (List.mem_append.2 (.inr (List.mem_map_of_mem hx)));have aW:=g0R bD aR;have aH:X6 Γ T ⟨(A0 (fun k=>listed.getD k false) 0 recs st).e,G.o⟩ R.p R.o=some (q,R.av,R.obs,R.fp) :=
     k0E (e:=sj.e) (o:=sj.o) (fun t ht=>aP t (List.mem_append.2 (.inl (m0U ht)))) aO (fun id aK=>bG id (List.mem_append.2 (.inl aK)))
    have hd:∀d,R.o.dst=some d->d<X.n/\(∀x∈R.p,x.1≠d)/\∀t s,b9 (A0 (fun k=>listed.getD k false) 0 recs st).e t=some s->∀x∈s.p,x.1≠d:=by
     intro d hd;refine⟨(aD.1 i R.o d ho hd).1,fun x hx e=>?_,fun t s ht x hx e=>?_⟩
     ·have u:=NN E i R hR;rw[Nat.zero_add,ba] at u
      grind[XX,P2]
     ·rcases XZ ht with h | ⟨k,Rk,v,Y,hsp⟩
      ·grind
      ·rw[Nat.zero_add] at Y;have f:i≠k:=fun e'=>by grind
       have g:k<l.length:=by
        rcases Nat.lt_or_ge k l.length with h | h
        ·exact h
        ·grind
       have F:=Gc E hR v f;simp only[CU,ba,hd] at F;have h2:=F.1.2;rw[Bool.or_eq_true] at h2
       grind[P2]
    have V:∀k,(listed.setIfInBounds i true).getD k false=if k=i then true else listed.getD k false:=fun k=>by
     by_cases f:k=i
     ·subst f;have hs:k<listed.size:=by omega
      simp[hs]
     ·rw[if_neg f]; exact getD_set_ne false (Ne.symm f)
    have bT:=NJ (st:=⟨(A0 (fun k=>listed.getD k false) 0 recs st).e,G.o⟩) (K:=wpAny X.P .any l.toArray Q fuel (listed.setIfInBounds i true)) aY hT (ops:=l.toArray) (all:=l) rfl (Q:=Q) S rfl hE aW aH (fun F=>hq (XV (fun x hx=>(aR x hx).symm) F)) hg hd (fun a' G' S' _ bI bE=>by
     refine ih (listed.setIfInBounds i true) G' a' ?_ (by grind) ?_ S' ?_ ?_
     ·have:((List.range l.length).filter fun j=>!(listed.setIfInBounds i true).getD j true).length < ((List.range l.length).filter fun j=>!listed.getD j true).length:=by
       refine XY (fun j hj=>?_) ⟨i,List.mem_range.2 aN,by grind,?_⟩
       ·by_cases bN:i=j
        ·grind
        grind
       ·grind
      omega
     ·intro k o v Y m hm;simp only[V] at Y ⊢;by_cases aZ:m=i
      ·grind
      ·rw[if_neg aZ];by_cases f:k=i
       ·subst f;rw[ho] at v;cases v;obtain⟨e,he,bR,rfl⟩:=Z3.1 hm
        grind
       ·rw[if_neg f] at Y;exact aB k o v Y m hm
     ·intro id;rw[bI];by_cases H:Gb R id
      ·rw[XS (D:=fun k=>(listed.setIfInBounds i true).getD k false) (st':=⟨[],G.o⟩) hR H (by grind) (fun k Rk aV v W=>?_)]
       ·rfl
       ·rw[Nat.zero_add];simp only[V,if_neg (show k≠i by omega)];have g:k<l.length:=by
         rcases Nat.lt_or_ge k l.length with h | h
         ·exact h
         ·grind
        have F:=Gc E v hR (show k≠i by omega);simp only[CU,ba] at F;have u:=F.2;rw[Bool.or_eq_true] at u;obtain⟨y,hy,bA⟩:=W;obtain⟨z,hz,bP⟩:=H;rcases u with u | u
        ·simp only[NM,List.all_eq_true] at u
         grind[List.mem_map_of_mem,P2]
        grind
      ·have e1:=Sf ⟨[],G.o⟩ R id H;simp only[C2] at e1;rw[e1,hO];refine NL (fun k Rk v W=>?_) rfl;rw[Nat.zero_add];simp only[V];rw[if_neg (fun e=>by grind)]
     ·refine bE.congr (fun t=>?_);by_cases H:DO R t
      ·have aU:=w0L aO H;rw[XR (D:=fun k=>(listed.setIfInBounds i true).getD k false) (st':=⟨(A0 (fun k=>listed.getD k false) 0 recs st).e,G.o⟩) hR H aU (by grind) (fun k Rk aV v W=>by
        have:=aD.2 i k R.o Rk.o t ho (bB k Rk v) H W;omega)]
       rfl
      ·have e1:=Se ⟨(A0 (fun k=>listed.getD k false) 0 recs st).e,G.o⟩ R t H;simp only[C2] at e1;rw[e1];refine NK (fun k Rk v W=>?_) rfl;rw[Nat.zero_add];simp only[V];rw[if_neg (fun e=>by grind)])
    grind[wpOp,N0]
end
end Go.Proofs.Xv
end
section
namespace Go.Proofs.Xv
open Go Go.RowKit Go.Proofs.Sv
def VX(X:Cx)(st:St)(c:Code)(Q:Exit->Act->World->Prop):Prop:=∀G a,Sat X G->G.o=st.o->EnvR X.n G st.e a->c.wp X.P Q a G.w
def FX(X:Cx)(st:St)(x:Exit)(Q:Exit->Act->World->Prop):Prop:=∀G a,Sat X G->G.o=st.o->EnvR X.n G st.e a->Q x a G.w
def Gd(e:List (Nat×Sl)):List Nat->List (Nat×Sl)
 | []=>[]
 | t :: r=>match b9 e t with
   | some ⟨[],a⟩=>(t,⟨[],a⟩) :: Gd e r
   | _=>Gd e r
def NO:List Nat->List (Nat×Ob)->List (Nat×Ob)
 | _,[]=>[]
 | seen,(i,b) :: r=>bif M3 i seen then NO seen r else(i,b) :: NO (i :: seen) r
def cut(keep:List Nat)(st:St):St:=⟨Gd st.e keep,NO [] st.o⟩
theorem Sj{e:List (Nat×Sl)}:∀{keep:List Nat} {t:Nat} {s:Sl},b9 (Gd e keep) t=some s->b9 e t=some s/\s.p=[]
 | [],t,s,h=>by cases h
 | k :: r,t,s,h=>by
   unfold Gd at h;split at h
   ·rename_i a b;rw[lK] at h;split at h
    ·grind
    ·exact Sj h
   ·exact Sj h
theorem Ya:∀{o:List (Nat×Ob)} {seen:List Nat} {i:Nat},i ∉ seen->b9 (NO seen o) i=b9 o i
 | [],_,_,_=>rfl
 | (j,b) :: r,seen,i,h=>by
   unfold NO;rw[ce,lK];split
   ·rename_i c;have:¬j=i:=fun e=>h (by grind[P2]);rw[if_neg this];exact Ya h
   ·rw[lK];split
    ·rfl
    ·rename_i a;exact Ya (by grind)
theorem Ge{X:Cx}{st:St}{G:Gh}{a:Act}(b:List Nat)(S:Sat X G)(g:G.o=st.o)(c:EnvR X.n G st.e a):∃G',Sat X G'/\G'.o=(cut b st).o/\G'.w=G.w/\EnvR X.n G' (cut b st).e a:=by
 obtain⟨f,h⟩:=S.congr (o':=(cut b st).o) (fun i=>by rw[g]; exact Ya (by simp));refine⟨_,f,rfl,rfl,c.defers,c.size,fun t s d=>?_⟩;obtain⟨j,_⟩:=Sj d;have:=(c.mono h).val t s j;omega
def J5(e:List (Nat×Sl)):Bool:=e.all fun x=>Cc x.2.p
theorem AT{e:List (Nat×Sl)}(h:J5 e=true):∀t s,b9 e t=some s->s.p=[]:=by
 intro t s a;have:∃x∈e,x.2=s:=by
  induction e with
  | nil=>cases a
  | cons y r b =>
    obtain⟨d,v⟩:=y;rw[lK] at a;split at a
    ·simp_all
    grind[J5]
 obtain⟨x,c,rfl⟩:=this
 grind[J5,List.all_eq_true,NH]
section
variable {X:Cx} {st:St} {Q:Exit->Act->World->Prop}
theorem vQ{x y:Code}(h:VX X st x (Rl X.P y Q)):VX X st (.seq x y) Q:=fun G a S c b=>wp_seq (h G a S c b)
theorem vB{id:Nat}{c:Code}(h:VX X st c (Nu id Q)):VX X st (.block id c) Q:=fun G a S d b=>wp_block (h G a S d b)
theorem vK(h:FX X st .normal Q):VX X st .skip Q:=fun G a S c b=>wp_skip (h G a S c b)
theorem j0(h:FX X st .ret Q):VX X st .ret Q:=fun G a S c b=>wp_ret (h G a S c b)
theorem vE{id:Nat}(h:FX X st (.exit id) Q):VX X st (.exit id) Q:=fun G a S c b=>wp_exit (h G a S c b)
theorem Yb{c:Operand}{x y:Code}{f b:Bool}(l:rd st [] c=some (.d f .bool b))(j:b=true->VX X st x Q)(k:b=false->VX X st y Q):VX X st (.cond c x y) Q:=fun G a S i g=>by
 have e:=Bt (C7 g (p:=[]) (fun _ h=>by cases h) l);exact wp_cond_split e (fun h=>j h G a S i g) (fun h=>k h G a S i g)
theorem t0h{c:Operand}{x y:Code}{f:Bool}(b:rd st [] c=some (.d f .bool true))(a:VX X st x Q):VX X st (.cond c x y) Q:=Yb b (fun _=>a) (fun h=>by cases h)
theorem t0i{c:Operand}{x y:Code}{f:Bool}(b:rd st [] c=some (.d f .bool false))(a:VX X st y Q):VX X st (.cond c x y) Q:=Yb b (fun h=>by cases h) (fun _=>a)
theorem fQ{y:Code}(h:VX X st y Q):FX X st .normal (Rl X.P y Q):=fun G a S c b=>h G a S c b
theorem fE{y:Code}{id:Nat}(h:FX X st (.exit id) Q):FX X st (.exit id) (Rl X.P y Q):=fun G a S c b=>h G a S c b
theorem fR{y:Code}(h:FX X st .ret Q):FX X st .ret (Rl X.P y Q):=fun G a S c b=>h G a S c b
theorem fK{id:Nat}(h:FX X st .normal Q):FX X st .normal (Nu id Q):=fun G a S c b=>h G a S c b
theorem l8{id:Nat}(h:FX X st .ret Q):FX X st .ret (Nu id Q):=fun G a S c b=>h G a S c b
theorem fX{id b:Nat}(c:Nat.beq b id=true)(h:FX X st .normal Q):FX X st (.exit b) (Nu id Q):=fun G a S e d=>by
 have:b=id:=by simpa using c
 show(if b=id then Q .normal a G.w else Q (.exit b) a G.w);rw[if_pos this]; exact h G a S e d
theorem n0l{id b:Nat}(e:Nat.beq b id=false)(h:FX X st (.exit b) Q):FX X st (.exit b) (Nu id Q):=fun G a S d c=>by
 have:¬b=id:=fun h=>by simp_all
 show(if b=id then Q .normal a G.w else Q (.exit b) a G.w);rw[if_neg this]; exact h G a S d c
theorem z0Y{Γ:o4}{T:List Ct}(k:w9 X.P Γ)(H:∀c∈T,Ok X.P c){id:Nat}{l:List Oper}(b:List Nat)(o:I1 X.n 0 [] l=true)(y:J5 st.e=true)
  (h:HO Γ T l l st [] fun st' _=>FX X (cut b st') .normal Q):VX X st (.region id l.toArray false) Q:=by
 intro G a S V z;obtain⟨d,e1,u,r⟩:=AS h;refine wp_region_lit ?_;have:=D0u k H (ops:=l.toArray) (all:=l) rfl (Q:=Q) d 0 [] st G a (fun j=>by grind) (by grind) (fun j oj dj Y=>by omega) (fun t s ht x hx=>by grind[AT]) u S V z
  (fun W E v i m=>by
    obtain⟨q,F,f,w,g⟩:=Ge b v i m;have:=r q E F f g
    grind)
 grind
theorem C0o{Γ:o4}{T:List Ct}(u:w9 X.P Γ)(hT:∀c∈T,Ok X.P c)[F:J7 X.P]{id:Nat}{l:List Oper}(d:List Nat)(b:(I1 X.n 0 [] l&&O4 0 l)=true)(q:J5 st.e=true)
  (h:HO Γ T l l st [] fun st' rs=>DQ (H3 [] l) rs.reverse=true/\FX X (cut d st') .normal Q):VX X st (.region id l.toArray true) Q:=by
 intro G a S ho hE;rw[ba] at b;obtain⟨recs,e1,V,x,z⟩:=AS h;rw[List.append_nil,List.reverse_reverse] at x;refine wp_region_any F.h ?_;have f:Ext G.w { G.w with drawn:=G.w.drawn+1 }:=(Below.refl _ _).drew;obtain⟨S1,E⟩:=S.ext f;have:=q0T u hT (Q:=Q) (l:=l) (recs:=recs) (st:=st) e1 V (AT q) b.1 b.2 x (fun G' a' W t v=>by
   obtain⟨y,S2,g,Y,s⟩:=Ge d W t v;have:=z y a' S2 g s
   grind) l.length (Array.replicate l.length false) { G with w:={ G.w with drawn:=G.w.drawn+1 } } a
  (by grind) (by simp) (fun i o _ hD=>by
    by_cases hi:i<l.length
    ·simp_all
    grind) S1 (fun id=>by
    have:∀{recs:List A4} {i:Nat} {st:St},(∀j,(Array.replicate l.length false).getD j false=false)->A0 (fun k=>(Array.replicate l.length false).getD k false) i recs st=st:=by
     intro recs
     induction recs with
     | nil=>intro i st _; rfl
     | cons R r H=>grind[A0]
    rw[this (fun j=>by by_cases m:j<l.length <;> simp[m])]
    grind) (by
    have:∀{recs:List A4} {i:Nat} {st:St},(∀j,(Array.replicate l.length false).getD j false=false)->A0 (fun k=>(Array.replicate l.length false).getD k false) i recs st=st:=by
     intro recs
     induction recs with
     | nil=>intro i st _; rfl
     | cons R r H=>grind[A0]
    rw[this (fun j=>by by_cases m:j<l.length <;> simp[m])];exact hE.mono E)
 omega
end
def Gf:Option Ob->Nat->Prop
 | some (.arr _ _ _ _ v),ver=>v=ver
 | _,_=>False
theorem Yc{b:Option Ob}{ver:Nat}(h:Gf b ver):∃T fr t xs,b=some (.arr T fr t xs ver):=by
 unfold Gf at h
 grind
def NP:Option Ob->Prop
 | some (.box _ _)=>True
 | _=>False
theorem q0E{b:Option Ob}(h:NP b):∃T cs,b=some (.box T cs):=by
 unfold NP at h
 grind
def Sk:Option Ob->Prop
 | none=>True
 | _=>False
theorem v0F{b:Option Ob}(h:Sk b):b=none:=by
 grind[Sk]
def HQ:Value->Prop
 | .slice none 0 0=>True
 | _=>False
theorem Yd{u:Value}(h:HQ u):u=.slice none 0 0:=by
 grind[HQ]
def Ye:(t:Ty)->j5 t->Prop
 | .sl _,x=>x=[]
 | _,_=>False
theorem D0K{K:Nat->Prop}{w:World}:∀{t:Ty} {x:j5 t},Ye t x->RT K w t [.slice none 0 0] x
 | .sl _,x,h=>by
   have h:x=[]:=h;subst h;exact⟨none,0,rfl,Nat.le_refl _,by omega,.inl rfl⟩
def Yf:Option Ob->Prop
 | some (.grd ..)=>True
 | _=>False
theorem v0D{b:Option Ob}(h:Yf b):∃T Te fr t xs hole,b=some (.grd T Te fr t xs hole):=by
 unfold Yf at h
 grind
def Yg:Option Nat->Prop
 | none=>True
 | some _=>False
theorem m0P{h:Option Nat}(k:Yg h):h=none:=by
 cases h with
 | none=>rfl
 | some _=>exact k.elim
/- The first value may be taken for the second one. -/
mutual
def N1(o o':List (Nat×Ob)):AV->AV->Prop
 | .d fr t x,b=>match b with
   | .d fr' t' y=>(fr'=true->fr=true)/\X3 t t' x=some y
   | _=>False
 | .v x,b=>match b with
   | .v y=>x=y
   | .os id ver=>HQ x/\Sk (b9 o id)/\Gf (b9 o' id) ver
   | .d _ t y=>HQ x/\Ye t y
   | _=>False
 | .os id ver,b=>match b with
   | .os id' ver'=>id=id'/\Gf (b9 o id) ver/\Gf (b9 o' id) ver'
   | _=>False
 | .ptr id off,b=>match b with
   | .ptr id' off'=>id=id'/\off=off'/\NP (b9 o' id)
   | _=>False
 | .agg xs,b=>match b with
   | .agg ys=>Cf o o' xs ys
   | _=>False
 | .tup xs,b=>match b with
   | .tup ys=>Cf o o' xs ys
   | _=>False
 | .fn f xs,b=>match b with
   | .fn g ys=>f=g/\Cf o o' xs ys
   | _=>False
 | .og id,b=>match b with
   | .og id'=>id=id'/\Yf (b9 o' id)
   | _=>False
 | _,_=>False
def Cf(o o':List (Nat×Ob)):List AV->List AV->Prop
 | [],ys=>match ys with
   | []=>True
   | _=>False
 | a :: r,ys=>match ys with
   | b :: s=>N1 o o' a b/\Cf o o' r s
   | _=>False
end
def Yh(o o':List (Nat×Ob)):Option Ob->Ob->Prop
 | some (.box T cs),.box T' cs'=>T=T'/\Cf o o' cs cs'
 | some (.arr T fr t xs _),.arr T' fr' t' ys _=>T=T'/\(fr'=true->fr=true)/\X3 (.sl t) (.sl t') xs=some ys
 | none,.arr _ _ _ ys _=>ys=[]
 | some (.grd T Te fr t xs h),.grd T' Te' fr' t' ys h'=>T=T'/\Te=Te'/\Yg h/\Yg h'/\(fr'=true->fr=true)/\X3 (.sl (.sl t)) (.sl (.sl t')) xs=some ys
 | _,_=>False
def Yi(o o':List (Nat×Ob))(b:AV):Option Sl->Prop
 | some ⟨[],a⟩=>N1 o o' a b
 | _=>False
def Yj:Pa->Prop
 | []=>True
 | _=>False
theorem I0x{q:Pa}(h:Yj q):q=[]:=by
 grind[Yj]
def Sm(o o':List (Nat×Ob))(e:List (Nat×Sl)):List (Nat×Sl)->Prop
 | []=>True
 | (t,s) :: r=>Yj s.p/\Yi o o' s.a (b9 e t)/\Sm o o' e r
def NQ(o o':List (Nat×Ob)):List (Nat×Ob)->Prop
 | []=>True
 | (i,b) :: r=>Yh o o' (b9 o i) b/\NQ o o' r
def pins(o':List (Nat×Ob)):List (Nat×Ob)->Prop
 | []=>True
 | (i,.box _ _) :: r=>(bif Nat.ble 500000 i then NP (b9 o' i) else True)/\pins o' r
 | (_,.arr ..) :: r=>pins o' r
 | (_,.grd ..) :: r=>pins o' r
def NR(st st':St):Prop:=Sm st.o st'.o st.e st'.e/\NQ st.o st'.o st'.o/\pins st'.o st.o
def Z2(G:Gh)(o':List (Nat×Ob)):Gh :=
 ⟨fun i=>match b9 G.o i with | some _=>G.ρ i | none=>.slice none 0 0,fun i=>match b9 G.o i with | some _=>G.γ i | none=>none,G.K,G.w,o',G.B,G.δ⟩
theorem HR{G:Gh}{o':List (Nat×Ob)}{i:Nat}{b:Ob}(h:b9 G.o i=some b):(Z2 G o').ρ i=G.ρ i:=by grind[Z2]
theorem Sn{G:Gh}{o':List (Nat×Ob)}{i:Nat}{b:Ob}(h:b9 G.o i=some b):(Z2 G o').γ i=G.γ i:=by grind[Z2]
theorem q0F{G:Gh}{o':List (Nat×Ob)}{i:Nat}(h:b9 G.o i=none):(Z2 G o').ρ i=.slice none 0 0:=by grind[Z2]
theorem q0G{G:Gh}{o':List (Nat×Ob)}{i:Nat}(h:b9 G.o i=none):(Z2 G o').γ i=none:=by grind[Z2]
mutual
theorem n0y{G:Gh}{o':List (Nat×Ob)}:∀{a b:AV} {u:Value},N1 G.o o' a b->AVR G a u->AVR (Z2 G o') b u
 | .d m t x,b,u,h,c=>by
   unfold N1 at h;split at h
   ·obtain⟨i,g⟩:=h;obtain⟨e,rfl⟩:=DK g;subst e;exact RT.up c (fun k n=>⟨n.1,fun e=>n.2 (i e)⟩)
   grind
 | .v x,b,u,h,c=>by
   have c:u=x:=c;unfold N1 at h;split at h
   ·exact c.trans h
   ·obtain⟨j,i,g⟩:=h;have j:=Yd j;have i:=v0F i;obtain⟨T,m,t,l,g⟩:=Yc g;subst c;subst j;exact⟨rfl,T,m,t,l,_,g,Nat.le_refl _,fun _=>(q0F i).symm⟩
   ·obtain⟨j,i⟩:=h;have j:=Yd j;subst c;subst j;exact D0K i
   grind
 | .os id ver,b,u,h,⟨j,T,m,t,l,ver',k1,k2,k3⟩=>by
   unfold N1 at h;split at h
   ·obtain⟨rfl,i,g⟩:=h;obtain⟨E,r,y,q,i⟩:=Yc i;obtain⟨z,s,F,w,g⟩:=Yc g;rw[k1] at i;cases i;exact⟨j,_,_,_,_,_,g,Nat.le_refl _,fun _=>(k3 rfl).trans (HR k1).symm⟩
   grind
 | .ptr id off,b,u,h,⟨⟨T,cs,k1⟩,b',k2,k3⟩=>by
   unfold N1 at h;split at h
   ·obtain⟨rfl,rfl,g⟩:=h;exact⟨q0E g,b',(HR k1).trans k2,k3⟩
   grind
 | .agg l,b,u,h,⟨us,e,c⟩=>by
   unfold N1 at h;split at h
   ·exact⟨us,e,NS h c⟩
   grind
 | .tup l,b,u,h,⟨us,e,c⟩=>by
   unfold N1 at h;split at h
   ·exact⟨us,e,NS h c⟩
   grind
 | .fn f l,b,u,h,⟨us,e,c⟩=>by
   unfold N1 at h;split at h
   ·obtain⟨rfl,h⟩:=h;exact⟨us,e,NS h c⟩
   grind
 | .pel _ _ _ _ _,b,u,h,c=>by grind[N1]
 | .gel _ _,b,u,h,c=>by grind[N1]
 | .og id,b,u,h,⟨j,⟨T,Te,m,t,l,hole,k1⟩,k2⟩=>by
   unfold N1 at h;split at h
   ·obtain⟨rfl,g⟩:=h;exact⟨j,v0D g,k2.trans (HR k1).symm⟩
   grind
 | .ow _ _ _ _,b,u,h,c=>c.elim
 | .ob _ _,b,u,h,c=>c.elim
theorem NS{G:Gh}{o':List (Nat×Ob)}:∀{as' bs:List AV} {us:List Value},Cf G.o o' as' bs->AVRs G as' us->AVRs (Z2 G o') bs us
 | [],bs,us,h,hu=>by
   unfold Cf at h;split at h
   ·exact hu
   grind
 | a :: r,bs,us,h,⟨u,us',e,k1,k2⟩=>by
   unfold Cf at h;split at h
   ·exact⟨u,us',e,n0y h.1 k1,NS h.2 k2⟩
   grind
end
theorem Yk{o o':List (Nat×Ob)}:∀{l:List (Nat×Ob)} {i:Nat} {b:Ob},NQ o o' l->b9 l i=some b->Yh o o' (b9 o i) b
 | [],_,_,_,h=>by cases h
 | (j,c) :: r,i,b,h,hl=>by
   rw[lK] at hl;split at hl
   ·rename_i e; subst e; cases hl; exact h.1
   ·exact Yk h.2 hl
theorem w0i{o o':List (Nat×Ob)}{e:List (Nat×Sl)}:∀{l:List (Nat×Sl)} {t:Nat} {s:Sl},Sm o o' e l->b9 l t=some s->s.p=[]/\Yi o o' s.a (b9 e t)
 | [],_,_,_,h=>by cases h
 | (j,c) :: r,t,s,h,hl=>by
   rw[lK] at hl;split at hl
   ·rename_i e; subst e; cases hl; exact⟨I0x h.1,h.2.1⟩
   ·exact w0i h.2.2 hl
theorem So{o':List (Nat×Ob)}:∀{l:List (Nat×Ob)} {i:Nat} {T:TypeId} {cs:List AV},pins o' l->b9 l (500000+i)=some (.box T cs)->NP (b9 o' (500000+i))
 | [],_,_,_,_,h=>by cases h
 | (j,.arr ..) :: r,i,_,_,h,hl=>by
   rw[lK] at hl;split at hl
   ·cases hl
   ·exact So (l:=r) h hl
 | (j,.grd ..) :: r,i,_,_,h,hl=>by
   rw[lK] at hl;split at hl
   ·cases hl
   ·exact So (l:=r) h hl
 | (j,.box ..) :: r,i,_,_,h,hl=>by
   rw[lK] at hl;split at hl
   ·rename_i e; subst e;have:=h.1
    simp_all
   ·exact So h.2 hl
theorem z0n{X:Cx}{G:Gh}{o':List (Nat×Ob)}(S:Sat X G)(h:NQ G.o o' o')(V:pins o' G.o):Sat X (Z2 G o'):=by
 have g:∀{i:Nat} {b:Nat},(Z2 G o').γ i=some b->(∃c,b9 G.o i=some c)/\G.γ i=some b:=fun {i b} u=>by
  cases hl:b9 G.o i with
  | none=>grind[q0G]
  | some c=>grind[Sn]
 have W:∀i,H7 (b9 o' i)=true->H7 (b9 G.o i)=true:=fun i hg=>by
  obtain⟨T,Q,n,t,m,d,e⟩:=NA hg;have a:=Yk h e;cases hl:b9 G.o i with
  | none=>rw[hl] at a; exact a.elim
  | some c =>
    rw[hl] at a;cases c with
    | box T r=>exact a.elim
    | arr T n t m w=>exact a.elim
    | grd T Q n t m d=>rfl
 refine⟨S.base,S.os,S.tape,S.output,S.size,S.block,?_,?_,?_,?_,S.klt,S.kfrom,fun i b u hg=>?_,fun i v hv=>?_⟩
 rotate_right
 rotate_right
 ·obtain⟨s1,s2,s3,s4⟩:=S.sep i b u (W i hg);exact⟨s1,s2,fun j o ho hj=>by grind,fun j hj aA=>s4 j hj (W j aA)⟩
 ·obtain⟨⟨T,r,l⟩,b,f,y⟩:=S.pin i v hv;exact⟨q0E (So V l),b,(HR l).trans f,y⟩
 ·intro id o ho;have a:=Yk h ho;cases hl:b9 G.o id with
  | none =>
    rw[hl] at a;cases o with
    | box T r=>exact a.elim
    | grd T Q n t m d=>exact a.elim
    | arr T n t m w =>
      have hx:m=[]:=a;subst hx;refine⟨[],?_,rfl,fun b u=>by grind⟩;rw[q0G hl,q0F hl];exact .inl ⟨rfl,rfl,rfl,none,rfl⟩
  | some c =>
    rw[hl] at a;have:=S.obs id c hl;cases c with
    | box T r =>
      cases o with
      | arr z n t m w=>exact a.elim
      | grd T Q n t m d=>exact a.elim
      | box z F =>
        obtain⟨rfl,a⟩:=a;obtain⟨b,us,l,f,y,H⟩:=this;exact⟨b,us,(Sn hl).trans l,(HR hl).trans f,y,NS a H⟩
    | arr T n t m w =>
      cases o with
      | box z F=>exact a.elim
      | arr z E t' ys P =>
        obtain⟨rfl,l,f⟩:=a;obtain⟨e,rfl⟩:=DK f;cases e;obtain⟨r,k1,q,k3⟩:=this;refine⟨r,?_,q.mapR (fun c x hr=>RT.up hr (fun k s=>⟨s.1,fun e=>s.2 (l e)⟩)),fun b u=>k3 b (g u).2⟩;rw[Sn hl,HR hl];exact k1
      | grd T Q n t m d=>exact a.elim
    | grd T Q n t m d =>
      cases o with
      | box z F=>exact a.elim
      | arr z E t' ys P=>exact a.elim
      | grd z Te' E t' ys aC =>
        obtain⟨rfl,rfl,e1,Y,l,f⟩:=a;have e1:=m0P e1;have Y:=m0P Y;subst e1; subst Y;obtain⟨e,rfl⟩:=DK f;cases e;obtain⟨vs,bs,k1,q,k3⟩:=this;refine⟨vs,bs,by rw[Sn hl,HR hl]; exact k1,⟨q.len,q.blk,q.inj,fun k s hh=>?_,q.one⟩,fun b u=>k3 b (g u).2⟩;obtain⟨r,r1,r2,r3⟩:=q.row k s hh;exact⟨r,r1,r2.mapR (fun c x hr=>RT.up hr (fun k s=>⟨s.1,fun e=>s.2 (l e)⟩)),r3⟩
 ·intro i i' o1 o2 b l f y H;obtain⟨⟨c,a⟩,y⟩:=g y;obtain⟨⟨c',aB⟩,H⟩:=g H;exact S.inj i i' c c' b a aB y H
 ·intro i o1 b l f;obtain⟨⟨c,a⟩,f⟩:=g f;exact S.imm i c b a f
 ·intro i o1 b l f;obtain⟨⟨c,a⟩,f⟩:=g f;exact S.own i c b a f
theorem Yl{X:Cx}{G:Gh}{st st':St}{a:Act}(h:NR st st')(S:Sat X G)(l:G.o=st.o)(b:EnvR X.n G st.e a):∃G',Sat X G'/\G'.o=st'.o/\G'.w=G.w/\EnvR X.n G' st'.e a:=by
 obtain⟨g,d,f⟩:=h;rw[<- l] at g d f;refine⟨Z2 G st'.o,z0n S d f,rfl,rfl,b.defers,b.size,fun t s i=>?_⟩;obtain⟨k,c⟩:=w0i g i;rw[k];refine⟨fun _=>?_,fun j=>(j (fun _ h=>by cases h)).elim⟩;unfold Yi at c;split at c
 ·rename_i q m;exact n0y c ((b.val t _ m).1 (fun _ h=>by cases h))
 grind
section
variable {X:Cx} {st:St} {Q:Exit->Act->World->Prop}
def Sq(X:Cx){σ:Type}(E:σ->St)(J:σ->Prop)(μ:σ->Nat)(s:σ)(Q:Exit->Act->World->Prop):Exit->Act->World->Prop
 | .normal,a,w=>∃s',μ s'<μ s/\J s'/\∃G,Sat X G/\G.o=(E s').o/\G.w=w/\EnvR X.n G (E s').e a
 | e,a,w=>Q e a w
theorem C0n{c:Code}(st':St)(h:NR st st')(k:VX X st' c Q):VX X st c Q:=fun G a S i e=>by
 obtain⟨g,f,b,j,d⟩:=Yl h S i e;have:=k g a f b d
 grind
theorem C0m{b:Code}{f:Type}(E:f->St)(J:f->Prop)(d:f->Nat)(g:f)(v:J g)(h:NR st (E g))
  (c:∀s,J s->VX X (E s) b (Sq X E J d s Q)):VX X st (.loop b) Q:=by
 intro G a S q k;obtain⟨y,F,l,i,j⟩:=Yl h S q k;refine wp_loop_ghost (fun m a w=>∃s,d s=m/\J s/\∃G,Sat X G/\G.o=(E s).o/\G.w=w/\EnvR X.n G (E s).e a) (d g) ⟨g,rfl,v,y,F,l,i,j⟩ ?_;rintro m a w ⟨s,rfl,z,G,S,q,rfl,k⟩;refine wp_mono (c s z G a S q k) ?_;intro x V T t;cases x with
 | normal =>
   obtain⟨r,P,u,H⟩:=t;exact⟨d r,P,r,rfl,u,H⟩
 | _=>exact t
theorem E0k{b:Type}{E:b->St}{J:b->Prop}{d:b->Nat}{s:b}(c:b)(m:J c)(g:d c<d s)(l:NR st (E c)):FX X st .normal (Sq X E J d s Q):=fun G a S n i=>by
 obtain⟨k,j,e,h,f⟩:=Yl l S n i;exact⟨c,g,m,k,j,e,h,f⟩
theorem n0k{b:Type}{E:b->St}{J:b->Prop}{d:b->Nat}{s:b}{id:Nat}(h:FX X st (.exit id) Q):FX X st (.exit id) (Sq X E J d s Q):=fun G a S e c=>h G a S e c
theorem o0P{b:Type}{E:b->St}{J:b->Prop}{d:b->Nat}{s:b}(h:FX X st .ret Q):FX X st .ret (Sq X E J d s Q):=fun G a S e c=>h G a S e c
end
def K6:Nat->(ps:List Par)->r7 ps->List (Nat×Sl)
 | _,[],_=>[]
 | i,.dat t :: r,x=>(i,⟨[],.d false t x.1⟩) :: K6 (i+1) r x.2
 | i,.agg t :: r,x=>(i,⟨[],.agg (p9 false t x.1)⟩) :: K6 (i+1) r x.2
 | i,.fn f c :: r,x=>(i,⟨[],.fn f (p9 false c x.1)⟩) :: K6 (i+1) r x.2
 | i,.nof f :: r,x=>(i,⟨[],.fn f []⟩) :: K6 (i+1) r x.2
 | i,.nil :: r,x=>(i,⟨[],.v (.pointer none)⟩) :: K6 (i+1) r x.2
 | i,.io _ _ :: r,x=>(i,⟨[],.ptr (500000+i) 0⟩) :: K6 (i+1) r x.2
 | i,.os _ _ :: r,x=>(i,⟨[],.os (500000+i) 0⟩) :: K6 (i+1) r x.2
def H4:Nat->(ps:List Par)->r7 ps->List (Nat×Ob)
 | _,[],_=>[]
 | i,.io T t :: _,x=>[(500000+i,.box T (p9 false t x.1))]
 | i,.os E t :: _,x=>[(500000+i,.arr E true t x.1 0)]
 | i,.dat _ :: r,x=>H4 (i+1) r x.2
 | i,.agg _ :: r,x=>H4 (i+1) r x.2
 | i,.fn _ _ :: r,x=>H4 (i+1) r x.2
 | i,.nof _ :: r,x=>H4 (i+1) r x.2
 | i,.nil :: r,x=>H4 (i+1) r x.2
def r4:Nat->List Par->Option Nat->Option (Nat×Value)
 | _,[],_=>none
 | i,.io _ _ :: _,some b=>some (i,.pointer (some ⟨b,0,none⟩))
 | _,.os _ _ :: _,_=>none
 | i,_ :: r,go=>r4 (i+1) r go
def Cg:List Par->Bool
 | []=>true
 | .io _ _ :: _=>false
 | .os _ _ :: _=>false
 | .dat _ :: r=>Cg r
 | .agg _ :: r=>Cg r
 | .fn _ _ :: r=>Cg r
 | .nof _ :: r=>Cg r
 | .nil :: r=>Cg r
def Z4:List Par->Bool
 | []=>true
 | .io _ _ :: r=>Cg r
 | .os _ _ :: r=>Cg r
 | .dat _ :: r=>Z4 r
 | .agg _ :: r=>Z4 r
 | .fn _ _ :: r=>Z4 r
 | .nof _ :: r=>Z4 r
 | .nil :: r=>Z4 r
theorem HS:∀{ps:List Par} {i:Nat} {x:r7 ps},Cg ps=true->H4 i ps x=[]
 | [],_,_,_=>rfl
 | .io _ _ :: _,_,_,h=>by cases h
 | .os _ _ :: _,_,_,h=>by cases h
 | .dat _ :: r,i,x,h=>HS (ps:=r) (i:=i+1) h
 | .agg _ :: r,i,x,h=>HS (ps:=r) (i:=i+1) h
 | .fn _ _ :: r,i,x,h=>HS (ps:=r) (i:=i+1) h
 | .nof _ :: r,i,x,h=>HS (ps:=r) (i:=i+1) h
 | .nil :: r,i,x,h=>HS (ps:=r) (i:=i+1) h
theorem JR{K:Nat->Prop}{w:World}{go:Option Nat}:∀{ps:List Par} {z:B0 ps},Cg ps=true->IOR K w go ps z
 | [],_,_=>trivial
 | .io _ _ :: _,_,h=>by cases h
 | .os _ _ :: _,_,h=>by cases h
 | .dat _ :: r,z,h=>JR (ps:=r) h
 | .agg _ :: r,z,h=>JR (ps:=r) h
 | .fn _ _ :: r,z,h=>JR (ps:=r) h
 | .nof _ :: r,z,h=>JR (ps:=r) h
 | .nil :: r,z,h=>JR (ps:=r) h
theorem JS:∀{ps:List Par},Cg ps=true->¬F1 ps=true
 | [],_=>fun e=>by cases e
 | .io _ _ :: _,h=>by cases h
 | .os _ _ :: _,h=>by cases h
 | .dat _ :: r,h=>JS (ps:=r) h
 | .agg _ :: r,h=>JS (ps:=r) h
 | .fn _ _ :: r,h=>JS (ps:=r) h
 | .nof _ :: r,h=>JS (ps:=r) h
 | .nil :: r,h=>JS (ps:=r) h
theorem JT{K:Nat->Prop}{w:World}{go:Option Nat}:∀{ps:List Par} {z:B0 ps},Z4 ps=true->F1 ps=true->IOR K w go ps z
 | [],_,_,_=>trivial
 | .io _ _ :: r,_,h,g=>(JS (ps:=r) h g).elim
 | .os _ _ :: r,_z,h,_=>JR (ps:=r) h
 | .dat _ :: r,_z,h,g=>JT (ps:=r) h g
 | .agg _ :: r,_z,h,g=>JT (ps:=r) h g
 | .fn _ _ :: r,_z,h,g=>JT (ps:=r) h g
 | .nof _ :: r,_z,h,g=>JT (ps:=r) h g
 | .nil :: r,_z,h,g=>JT (ps:=r) h g
theorem HU:∀{ps:List Par},Cg ps=true->Z4 ps=true
 | [],_=>rfl
 | .io _ _ :: _,h=>by cases h
 | .os _ _ :: _,h=>by cases h
 | .dat _ :: r,h=>HU (ps:=r) h
 | .agg _ :: r,h=>HU (ps:=r) h
 | .fn _ _ :: r,h=>HU (ps:=r) h
 | .nof _ :: r,h=>HU (ps:=r) h
 | .nil :: r,h=>HU (ps:=r) h
def HV(o:Option (Nat×Value)):Nat->Value->Prop:=fun i v=>o=some (i,v)
def An:List Par->List Value->Value
 | .io _ _ :: _,v :: _=>v
 | .os _ _ :: _,v :: _=>v
 | _ :: r,_ :: us=>An r us
 | _,_=>undef
def CV(K:Nat->Prop)(w:World)(go:Option Nat)(r0:Value)(B:Nat)(o:List (Nat×Ob)):Gh:=⟨fun _=>r0,fun _=>go,K,w,o,B,fun _ _=>False⟩
@[reducible] def cx (P:Program) (n:Nat) (y:World×(Nat->Prop)×(Nat->Prop)×(Nat->Value->Prop)×Nat):Cx:=⟨P,n,y.1,y.2.1,y.2.2.1,y.2.2.2.1,y.2.2.2.2⟩
def L6(ps:List Par)(w:World):Nat:=bif F1 ps then 0 else w.heap.size
theorem Ym{ps:List Par}{w:World}(h:¬F1 ps=true):L6 ps w=w.heap.size:=by
 grind[L6]
theorem k0D{ps:List Par}{w:World}(h:F1 ps=true):L6 ps w=0:=by
 grind[L6]
theorem w0y(ps:List Par)(w:World):L6 ps w<=w.heap.size:=by
 by_cases h:F1 ps=true
 ·rw[k0D h]; exact Nat.zero_le _
 ·rw[Ym h]; exact Nat.le_refl _
theorem Sr{K:Nat->Prop}{w:World}{go:Option Nat}{r0:Value}{B:Nat}{o:List (Nat×Ob)}{t:Ty}{us:List Value}{x:j5 t}(h:RT K w t us x):RT (rg (CV K w go r0 B o) false) (CV K w go r0 B o).w t us x :=
 RT.up h (fun _ a=>⟨a,fun e=>by cases e⟩)
theorem Gg{K:Nat->Prop}{w:World}:∀{ps:List Par} {i:Nat} {x:r7 ps} {vs:List Value} {go:Option Nat},ArgsR K w go ps x vs ->
  (H4 i ps x=[]/\go=none/\r4 i ps go=none/\¬F1 ps=true)∨(∃j b T t z cs,H4 i ps x=[(500000+j,.box T (p9 false t z))]/\go=some b/\r4 i ps go=some (j,.pointer (some ⟨b,0,none⟩))/\An ps vs=.pointer (some ⟨b,0,none⟩)/\Blk w b cs T/\RT K w t cs z/\¬K b) ∨
    ∃j E t,∃xs:List (j5 t),∃cs,H4 i ps x=[(500000+j,.arr E true t xs 0)]/\r4 i ps go=none/\(An ps vs).oneCell'=true/\Own w E (sz t) go (An ps vs) xs.length cs/\AllR (RT K w t) cs xs/\(∀b,go=some b->¬K b)/\F1 ps=true
 | [],i,x,vs,go,h=>.inl ⟨rfl,h.2,rfl,fun e=>by cases e⟩
 | .dat t :: r,i,x,vs,go,⟨v,us,e,_,h⟩=>by
   subst e;have:=Gg (i:=i+1) h;cases go <;> exact this
 | .agg t :: r,i,x,vs,go,⟨v,us,e,_,h⟩=>by
   subst e;have:=Gg (i:=i+1) h;cases go <;> exact this
 | .fn f t :: r,i,x,vs,go,⟨v,us,e,_,h⟩=>by
   subst e;have:=Gg (i:=i+1) h;cases go <;> exact this
 | .nof f :: r,i,x,vs,go,⟨us,e,h⟩=>by
   subst e;have:=Gg (i:=i+1) h;cases go <;> exact this
 | .nil :: r,i,x,vs,go,⟨us,e,h⟩=>by
   subst e;have:=Gg (i:=i+1) h;cases go <;> exact this
 | .io T t :: r,i,x,vs,go,⟨b,cs,us,e,hgo,h1,h2,h3,h⟩=>by
   subst hgo;subst e;exact .inr (.inl ⟨i,b,T,t,x.1,cs,rfl,rfl,rfl,rfl,h2,h3,h1⟩)
 | .os E t :: r,i,x,vs,go,⟨v,cs,us,e,h1,h2,h3,h4,h⟩=>by
   subst e;exact .inr (.inr ⟨i,E,t,x.1,cs,rfl,(by cases go <;> rfl),h2,h3,h4,h1,rfl⟩)
theorem DR{K:Nat->Prop}{w:World}{o:List (Nat×Ob)}{g0:Option Nat}{r0:Value}{B:Nat}:∀{ps:List Par} {i:Nat} {x:r7 ps} {vs:List Value} {go:Option Nat},Z4 ps=true->ArgsR K w go ps x vs->(H4 i ps x≠[]->An ps vs=r0)->(∀z∈H4 i ps x,b9 o z.1=some z.2) ->
  ∀t s,b9 (K6 i ps x) t=some s->i<=t/\s.p=[]/\∃u,vs[t-i]?=some u/\AVR (CV K w g0 r0 B o) s.a u
 | [],i,x,vs,go,_,h,_,_,t,s,ht=>by cases ht
 | .dat ty :: r,i,x,vs,go,hn,⟨v,us,e,h1,h⟩,hg,hz,t,s,ht=>by
   subst e;unfold K6 at ht;rw[lK] at ht;split at ht
   ·rename_i e; subst e; cases ht; exact⟨Nat.le_refl _,rfl,v,by simp,Sr h1⟩
   ·obtain⟨l,c,u,m,d⟩:=DR (ps:=r) (i:=i+1) hn h hg hz t s ht;exact⟨by omega,c,u,by grind,d⟩
 | .agg ty :: r,i,x,vs,go,hn,⟨v,us,e,h1,h⟩,hg,hz,t,s,ht=>by
   subst e;unfold K6 at ht;rw[lK] at ht;split at ht
   ·rename_i e; subst e; cases ht; exact⟨Nat.le_refl _,rfl,_,by simp,v,rfl,AM (Sr h1)⟩
   ·obtain⟨l,c,u,m,d⟩:=DR (ps:=r) (i:=i+1) hn h hg hz t s ht;exact⟨by omega,c,u,by grind,d⟩
 | .fn f ty :: r,i,x,vs,go,hn,⟨v,us,e,h1,h⟩,hg,hz,t,s,ht=>by
   subst e;unfold K6 at ht;rw[lK] at ht;split at ht
   ·rename_i e; subst e; cases ht; exact⟨Nat.le_refl _,rfl,_,by simp,v,rfl,AM (Sr h1)⟩
   ·obtain⟨l,c,u,m,d⟩:=DR (ps:=r) (i:=i+1) hn h hg hz t s ht;exact⟨by omega,c,u,by grind,d⟩
 | .nof f :: r,i,x,vs,go,hn,⟨us,e,h⟩,hg,hz,t,s,ht=>by
   subst e;unfold K6 at ht;rw[lK] at ht;split at ht
   ·rename_i e; subst e; cases ht; exact⟨Nat.le_refl _,rfl,_,by simp,[],rfl,rfl⟩
   ·obtain⟨l,c,u,m,d⟩:=DR (ps:=r) (i:=i+1) hn h hg hz t s ht;exact⟨by omega,c,u,by grind,d⟩
 | .nil :: r,i,x,vs,go,hn,⟨us,e,h⟩,hg,hz,t,s,ht=>by
   subst e;unfold K6 at ht;rw[lK] at ht;split at ht
   ·rename_i e; subst e; cases ht; exact⟨Nat.le_refl _,rfl,_,by simp,rfl⟩
   ·obtain⟨l,c,u,m,d⟩:=DR (ps:=r) (i:=i+1) hn h hg hz t s ht;exact⟨by omega,c,u,by grind,d⟩
 | .io T ty :: r,i,x,vs,go,hn,⟨b,cs,us,e,hgo,h1,h2,h3,h⟩,hg,hz,t,s,ht=>by
   subst e;have k:Value.pointer (some ⟨b,0,none⟩)=r0:=hg (fun e=>by cases e);unfold K6 at ht;rw[lK] at ht;split at ht
   ·rename_i e; subst e; cases ht;exact⟨Nat.le_refl _,rfl,_,by simp,⟨_,_,hz _ (List.mem_singleton.2 rfl)⟩,b,k.symm,rfl⟩
   ·have j:H4 (i+1) r x.2=[]:=HS hn;obtain⟨l,c,u,m,d⟩:=DR (ps:=r) (i:=i+1) (HU hn) h (fun e=>(e j).elim) (fun z g=>by rw[j] at g; cases g) t s ht;exact⟨by omega,c,u,by grind,d⟩
 | .os E ty :: r,i,x,vs,go,hn,⟨v,cs,us,e,h1,h2,h3,h4,h⟩,hg,hz,t,s,ht=>by
   subst e;have k:v=r0:=hg (fun e=>by cases e);unfold K6 at ht;rw[lK] at ht;split at ht
   ·rename_i e; subst e; cases ht;exact⟨Nat.le_refl _,rfl,_,by simp,h2,_,_,_,_,_,hz _ (List.mem_singleton.2 rfl),Nat.le_refl _,fun _=>k⟩
   ·have j:H4 (i+1) r x.2=[]:=HS hn;obtain⟨l,c,u,m,d⟩:=DR (ps:=r) (i:=i+1) (HU hn) h (fun e=>(e j).elim) (fun z g=>by rw[j] at g; cases g) t s ht;exact⟨by omega,c,u,by grind,d⟩
theorem ArgsR.len{K:Nat->Prop}{w:World}:∀{ps:List Par} {x:r7 ps} {vs:List Value} {go:Option Nat},ArgsR K w go ps x vs->vs.length=ps.length
 | [],x,vs,go,h=>by rw[h.1]; rfl
 | .dat t :: r,x,vs,go,⟨v,us,e,_,h⟩=>by rw[e,List.length_cons,h.len]; rfl
 | .agg t :: r,x,vs,go,⟨v,us,e,_,h⟩=>by rw[e,List.length_cons,h.len]; rfl
 | .fn f t :: r,x,vs,go,⟨v,us,e,_,h⟩=>by rw[e,List.length_cons,h.len]; rfl
 | .nof f :: r,x,vs,go,⟨us,e,h⟩=>by rw[e,List.length_cons,h.len]; rfl
 | .nil :: r,x,vs,go,⟨us,e,h⟩=>by rw[e,List.length_cons,h.len]; rfl
 | .io T t :: r,x,vs,go,⟨b,cs,us,e,_,_,_,_,h⟩=>by rw[e,List.length_cons,h.len]; rfl
 | .os E t :: r,x,vs,go,⟨v,cs,us,e,_,_,_,_,h⟩=>by rw[e,List.length_cons,h.len]; rfl
theorem m0s{P:Program}{n:Nat}{K:Nat->Prop}{w:World}{ps:List Par}{x:r7 ps}{vs:List Value}{go:Option Nat}(m:∀k,K k->k<w.heap.size)(h:ArgsR K w go ps x vs) :
  Sat (cx P n ⟨w,fun k=>go=some k,K,HV (r4 0 ps go),L6 ps w⟩) (CV K w go (An ps vs) (L6 ps w) (H4 0 ps x)):=by
 have m:∀k,K k->UFg w w.heap.size k:=fun k d=>⟨m k d,fun h=>absurd (m k d) (Nat.not_lt.2 h)⟩;have q:∀i,(CV K w go (An ps vs) (L6 ps w) (H4 0 ps x)).γ i=go:=fun _=>rfl;have g:=w0y ps w;rcases Gg (i:=0) h with ⟨l,F,r,_⟩ | ⟨j,b,T,t,z,cs,l,F,r,hr,h1,h2,h3⟩ | ⟨j,E,t,xs,cs,l,r,h1,h2,h3,h4,hv⟩
 ·have a:∀i o,b9 (CV K w go (An ps vs) (L6 ps w) (H4 0 ps x)).o i=some o->False:=fun i o e=>by
   have:b9 (H4 0 ps x) i=some o:=e;rw[l] at this; cases this
  refine⟨⟨rfl,g⟩,rfl,rfl,rfl,Nat.le_refl _,fun _ _ _=>rfl,fun i o e=>(a i o e).elim,fun i _ o _ _ e=>(a i o e).elim,fun i o _ e=>(a i o e).elim,fun i o _ e=>(a i o e).elim,m,fun k d=>.inl d,fun _ _ h=>h.elim,fun i v e=>?_⟩;have:r4 0 ps go=some (i,v):=e
  grind
 ·subst F;have a:∀i o,b9 (CV K w (some b) (An ps vs) (L6 ps w) (H4 0 ps x)).o i=some o->i=500000+j/\o=.box T (p9 false t z):=fun i o e=>by
   have:b9 (H4 0 ps x) i=some o:=e;rw[l,lK] at this;split at this
   ·grind
   ·cases this
  refine⟨⟨rfl,g⟩,rfl,rfl,rfl,Nat.le_refl _,fun _ _ _=>rfl,fun i o e=>?_,fun i y o u _ e f _ _=>(a i o e).1.trans (a y u f).1.symm,fun i o s e f d=>?_,fun i o s e f=>.inr (by grind),m,fun k d=>.inl d,fun _ _ h=>h.elim,fun i v e=>?_⟩
  ·obtain⟨rfl,rfl⟩:=a i o e;exact⟨b,cs,rfl,hr,h1,AM (Sr h2)⟩
  ·rw[q] at f; cases f; exact h3 d
  ·have:r4 0 ps (some b)=some (i,v):=e;rw[r] at this;cases this;refine⟨⟨T,p9 false t z,?_⟩,b,hr,rfl⟩;show b9 (H4 0 ps x) _=_;rw[l,lK,if_pos rfl]
 ·have a:∀i o,b9 (CV K w go (An ps vs) (L6 ps w) (H4 0 ps x)).o i=some o->i=500000+j/\o=.arr E true t xs 0:=fun i o e=>by
   have:b9 (H4 0 ps x) i=some o:=e;rw[l,lK] at this;split at this
   ·grind
   ·cases this
  have G:=k0D (w:=w) hv;refine⟨⟨rfl,g⟩,rfl,rfl,rfl,Nat.le_refl _,fun _ _ _=>rfl,fun i o e=>?_,fun i y o u _ e f _ _=>(a i o e).1.trans (a y u f).1.symm,fun i o s e f d=>?_,fun i o s e f=>.inr (by grind),m,fun k d=>.inl d,fun _ _ h=>h.elim,fun i v e=>?_⟩
  ·obtain⟨rfl,rfl⟩:=a i o e;exact⟨cs,h2,h3.mapR (fun c x H=>RT.up H (fun k d=>⟨d,fun _=>by show L6 ps w<=k; omega⟩)),fun b _=>by show L6 ps w<=b; omega⟩
  ·rw[q] at f; exact h4 s f d
  ·have:r4 0 ps go=some (i,v):=e;rw[r] at this;cases this
/- A value as the wanted result: on what condition, the rows handed over, the objects that become data. -/
mutual
def N2(o:List (Nat×Ob)):AV->AV->Option (Prop×List (Option Nat)×List Nat)
 | a,.ow T fr t xs=>match a with
   | .os id ver=>match b9 o id with
     | some (.arr T' fr' t' ys ver')=>bif Nat.beq ver ver'&&Nat.beq T' T then some ((fr=true->fr'=true)/\X3 (.sl t') (.sl t) ys=some xs,[some id],[]) else none
     | _=>none
   | .v x=>some (HQ x/\xs=[],[none],[])
   | _=>none
 | a,.d fr t x=>match F5 o 24 t [a] with
   | some (y,l,fl)=>some ((fr=true->fl=true)/\y=x,[],l)
   | none=>none
 | a,.ob T rs=>match a with
   | .ptr id 0=>match b9 o id with
     | some (.box T' cs)=>bif Nat.beq T' T then(match CW o cs rs with
       | some (q,m,f)=>some (q,some id :: m,f)
       | none=>none) else none
     | _=>none
   | _=>none
 | a,.v x=>match a with
   | .v y=>some (y=x,[],[])
   | _=>none
 | a,.agg rs=>match a with
   | .agg as'=>CW o as' rs
   | _=>none
 | a,.tup rs=>match a with
   | .tup as'=>CW o as' rs
   | _=>none
 | _,_=>none
def CW(o:List (Nat×Ob)):List AV->List AV->Option (Prop×List (Option Nat)×List Nat)
 | as',[]=>match as' with
   | []=>some (True,[],[])
   | _=>none
 | as',r :: rs=>match as' with
   | a :: t=>match N2 o a r with
     | some (q,m,f)=>match CW o t rs with
       | some (q',m',f')=>some (q/\q',m++m',f++f')
       | none=>none
     | none=>none
   | []=>none
end
def X7(G:Gh)(mv:List (Option Nat)):List (Option Nat):=mv.map fun o=>o.bind G.γ
def Yn(G:Gh)(mv:List (Option Nat)):Prop:=∀id,some id∈mv->∃o,b9 G.o id=some o
mutual
theorem Ss{X:Cx}{G:Gh}(S:Sat X G){K':Nat->Prop}(E:∀k,G.K k->K' k){Kf:Bool->Nat->Prop}(s:∀fr k,rk G K' fr k->Kf fr k):∀{a r:AV} {u:Value} {q:Prop} {mv:List (Option Nat)} {fz:List Nat},N2 G.o a r=some (q,mv,fz)->q->(∀id∈fz,(∃o,b9 G.o id=some o)->∀b,G.γ id=some b->K' b)->AVR G a u ->
  ResR Kf G.w r u (X7 G mv)/\Yn G mv
 | a,.ow T fr t xs,u,q,mv,fz,h,hq,hz,f=>by
   unfold N2 at h;split at h
   ·rename_i id aF;split at h
    ·rename_i T' aC t' ys aA H;rw[ce] at h;split at h
     ·rename_i V;simp only[ba] at V;have Q:=nb V.1;have P:=nb V.2;subst Q; subst P;simp only[oi,pj] at h;obtain⟨rfl,rfl,rfl⟩:=h;obtain⟨g,m⟩:=hq;obtain⟨e,rfl⟩:=DK m;cases e;obtain⟨h0,T1,aD,t1,aG,aB,k1,k2,k3⟩:=f;rw[H] at k1;cases k1;have f:=k3 rfl;subst f;obtain⟨cs,Y,F,g3⟩:=S.obs id _ H;exact⟨⟨G.γ id,cs,rfl,h0,Y,F.mapR (fun c x hr=>RT.up hr (fun k j=>s fr k ⟨E k j.1,fun e=>j.2 (g e)⟩))⟩,fun i hi=>by
       grind⟩
     grind
    grind
   ·rename_i x;simp only[oi,pj] at h;obtain⟨rfl,rfl,rfl⟩:=h;obtain⟨g,rfl⟩:=hq;have g:=Yd g;have f:u=x:=f;subst f;subst g;exact⟨⟨none,[],rfl,rfl,.inl ⟨rfl,rfl,rfl,none,rfl⟩,rfl⟩,fun i hi=>by grind⟩
   grind
 | a,.d fr t x,u,q,mv,fz,h,hq,hz,f=>by
   unfold N2 at h;split at h
   ·rename_i y l fl hd;simp only[oi,pj] at h;obtain⟨rfl,rfl,rfl⟩:=h;obtain⟨g,rfl⟩:=hq;exact⟨⟨RT.up (DL S E 24 hd (fun id n=>hz id n (FU 24 hd id n)) ⟨u,[],rfl,f,rfl⟩) (fun k j=>s fr k ⟨j.1,fun e=>j.2 (g e)⟩),rfl⟩,fun i hi=>by cases hi⟩
   grind
 | a,.ob T rs,u,q,mv,fz,h,hq,hz,f=>by
   unfold N2 at h;split at h
   ·rename_i id;split at h
    ·rename_i T' cs H;rw[ce] at h;split at h
     ·rename_i W;have W:=nb W;subst W;split at h
      ·rename_i q1 m1 f1 g;simp only[oi,pj] at h;obtain⟨rfl,rfl,rfl⟩:=h;obtain⟨_,b,hb,rfl⟩:=f;obtain⟨b',z,Y,F,g3,g4⟩:=S.obs id _ H;rw[hb] at F;cases F;obtain⟨a1,a2⟩:=Su S E s g hq hz g4;refine⟨⟨b,z,X7 G m1,by grind[X7],rfl,g3,a1⟩,fun i hi=>?_⟩;rcases List.mem_cons.1 hi with e | hi
       ·grind
       ·exact a2 i hi
      grind
     grind
    grind
   grind
 | a,.v x,u,q,mv,fz,h,hq,hz,f=>by
   unfold N2 at h;split at h
   ·simp only[oi,pj] at h;obtain⟨rfl,rfl,rfl⟩:=h;exact⟨⟨(show u=_ from f).trans hq,rfl⟩,fun i hi=>by cases hi⟩
   grind
 | a,.agg rs,u,q,mv,fz,h,hq,hz,f=>by
   unfold N2 at h;split at h
   ·obtain⟨z,e,f⟩:=f;obtain⟨g,m⟩:=Su S E s h hq hz f;exact⟨⟨z,e,g⟩,m⟩
   grind
 | a,.tup rs,u,q,mv,fz,h,hq,hz,f=>by
   unfold N2 at h;split at h
   ·obtain⟨z,e,f⟩:=f;obtain⟨g,m⟩:=Su S E s h hq hz f;exact⟨⟨z,e,g⟩,m⟩
   grind
 | a,.ptr _ _,u,q,mv,fz,h,hq,hz,f=>by grind[N2]
 | a,.pel _ _ _ _ _,u,q,mv,fz,h,hq,hz,f=>by grind[N2]
 | a,.os _ _,u,q,mv,fz,h,hq,hz,f=>by grind[N2]
 | a,.fn _ _,u,q,mv,fz,h,hq,hz,f=>by grind[N2]
 | a,.gel _ _,u,q,mv,fz,h,hq,hz,f=>by grind[N2]
 | a,.og _,u,q,mv,fz,h,hq,hz,f=>by grind[N2]
theorem Su{X:Cx}{G:Gh}(S:Sat X G){K':Nat->Prop}(l:∀k,G.K k->K' k){Kf:Bool->Nat->Prop}(j:∀fr k,rk G K' fr k->Kf fr k):∀{as' rs:List AV} {us:List Value} {q:Prop} {mv:List (Option Nat)} {fz:List Nat},CW G.o as' rs=some (q,mv,fz)->q->(∀id∈fz,(∃o,b9 G.o id=some o)->∀b,G.γ id=some b->K' b)->AVRs G as' us ->
  ResRs Kf G.w rs us (X7 G mv)/\Yn G mv
 | as',[],us,q,mv,fz,h,hq,hz,hu=>by
   unfold CW at h;split at h
   ·simp only[oi,pj] at h;obtain⟨rfl,rfl,rfl⟩:=h;exact⟨⟨hu,rfl⟩,fun i hi=>by cases hi⟩
   grind
 | as',r :: rs,us,q,mv,fz,h,hq,hz,hu=>by
   unfold CW at h;split at h
   ·rename_i a t;split at h
    ·rename_i P z H E;split at h
     ·rename_i F m Q v;simp only[oi,pj] at h;obtain⟨rfl,rfl,rfl⟩:=h;obtain⟨u,g,e,d,f⟩:=hu;obtain⟨n,s⟩:=Ss S l j E hq.1 (fun id c=>hz id (by grind)) d;obtain⟨x,y⟩:=Su S l j v hq.2 (fun id c=>hz id (by grind)) f;refine⟨⟨u,g,X7 G z,X7 G m,e,by simp[X7],n,x⟩,fun i hi=>?_⟩;rcases List.mem_append.1 hi with h | h
      ·exact s i h
      ·exact y i h
     grind
    grind
   grind
end
def Z5(o:List (Nat×Ob)):Nat->(ps:List Par)->B0 ps->Option (Prop×List Nat×Option Nat)
 | _,[],_=>some (True,[],none)
 | i,.io T t :: _,z=>match b9 o (500000+i) with
   | some (.box T' cs)=>bif Nat.beq T' T then(match F5 o 24 t cs with
     | some (y,l,_)=>some (y=z,l,some (500000+i))
     | none=>none) else none
   | _=>none
 | i,.dat _ :: r,z=>Z5 o (i+1) r z
 | i,.agg _ :: r,z=>Z5 o (i+1) r z
 | i,.fn _ _ :: r,z=>Z5 o (i+1) r z
 | i,.nof _ :: r,z=>Z5 o (i+1) r z
 | i,.nil :: r,z=>Z5 o (i+1) r z
 | i,.os _ _ :: r,z=>Z5 o (i+1) r z
def NT(Γ:o4)(st:St):ResultVar->Option (Prop×AV)
 | .tmp t=>match b9 st.e t with
   | some ⟨[],a⟩=>some (True,a)
   | _=>none
 | .cell t ty=>match b9 st.e t with
   | some ⟨[],p⟩=>match X4 st.o p with
     | some (cs,_)=>match b9 Γ ty with
       | some ti=>match JJ ti cs with
         | some a=>some (BZ st.o p,a)
         | none=>none
       | none=>none
     | none=>none
   | _=>none
def HW(Γ:o4)(st:St):List ResultVar->Option (Prop×List AV)
 | []=>some (True,[])
 | r :: rs=>match NT Γ st r with
   | some (q,a)=>match HW Γ st rs with
     | some (q',l)=>some (q/\q',a :: l)
     | none=>none
   | none=>none
def HX(tmps:Array Value):ResultVar->Sem Value
 | .tmp t=>pure (tmps.getD t undef)
 | .cell a t=>do loadVar t (<- asAddr (tmps.getD a undef))
theorem r0X{X:Cx}{Γ:o4}(z:w9 X.P Γ){G:Gh}{st:St}{a:Act}(S:Sat X G)(ho:G.o=st.o)(F:EnvR X.n G st.e a){r:ResultVar}{q:Prop}{b:AV}(h:NT Γ st r=some (q,b))(Q:q) :
  ∃v,(HX a.tmps r).run X.P G.w=.ok v G.w/\AVR G b v:=by
 unfold NT at h;split at h
 ·rename_i t;split at h
  ·rename_i a0 x;simp only[oi,pj] at h;obtain⟨rfl,rfl⟩:=h;exact⟨_,rfl,(F.val t _ x).1 (fun _ h=>by cases h)⟩
  grind
 ·rename_i t f;split at h
  ·rename_i p x;split at h
   ·rename_i cs l E;split at h
    ·rename_i j s;split at h
     ·rename_i av d;simp only[oi,pj] at h;obtain⟨rfl,rfl⟩:=h;rw[<- ho] at E Q;obtain⟨bk,o,Y,hp,i,y⟩:=Xy S E Q ((F.val t _ x).1 (fun _ h=>by cases h));obtain⟨hi,aA,_,_,m⟩:=z _ _ s;have m:=B0V m;have k:∀v,(loadVar f ⟨bk,o,none⟩).run X.P G.w=.ok v G.w->(HX a.tmps (.cell t f)).run X.P G.w=.ok v G.w:=fun v hv=>by
       grind[undef,Array.getD_eq_getD_getElem?,HX,asAddr]
      unfold JJ at d;rw[ce] at d;split at d
      ·rename_i T;rw[ce] at d;split at d
       ·rename_i g;simp only[oi] at d; subst d;have g:=Nat.le_of_ble_eq_true g
        haveI:Rq X.P f:=⟨m.1 T⟩
        haveI:Info X.P f j.size j.bytes j.zero:=⟨hi⟩
        have H:=y.len;exact⟨_,k _ (i0m (by grind) (Xu i j.size)),Y.take j.size,rfl,(y.take _).1⟩
       grind
      ·rename_i T;split at d
       ·rename_i c r;simp only[oi] at d; subst d
        haveI:Ro X.P f:=⟨m.2 (by grind)⟩
        obtain⟨u,V,rfl,W,_⟩:=y;exact⟨u,k _ (i0l (by simpa using i 0 u rfl)),W⟩
       grind
     grind
    grind
   grind
  grind
theorem Yo{X:Cx}{Γ:o4}(c:w9 X.P Γ){G:Gh}{st:St}{a:Act}(S:Sat X G)(g:G.o=st.o)(f:EnvR X.n G st.e a):∀{rs:List ResultVar} {q:Prop} {bs:List AV},HW Γ st rs=some (q,bs)->q ->
  ∃vs,(rs.mapM (HX a.tmps)).run X.P G.w=.ok vs G.w/\AVRs G bs vs/\vs.length=rs.length
 | [],q,bs,h,hq=>by
   simp only[HW,oi,pj] at h;obtain⟨rfl,rfl⟩:=h;exact⟨[],rfl,rfl,rfl⟩
 | r :: rs,q,bs,h,hq=>by
   unfold HW at h;split at h
   ·rename_i x b k;split at h
    ·rename_i t l i;simp only[oi,pj] at h;obtain⟨rfl,rfl⟩:=h;obtain⟨v,m,j⟩:=r0X c S g f k hq.1;obtain⟨vs,s,d,u⟩:=Yo c S g f i hq.2;exact⟨v :: vs,by simp_all,⟨v,vs,rfl,j,d⟩,by grind⟩
    grind
   grind
def Yp:List AV->AV
 | [a]=>a
 | as'=>.tup as'
def M0l:List Value->Value
 | [v]=>v
 | vs=>.tuple vs.toArray
theorem Yq{G:Gh}{c:List AV}{vs:List Value}(h:AVRs G c vs):AVR G (Yp c) (M0l vs):=by
 match c,vs,h with
 | [],vs,h=>have h:vs=[]:=h; subst h; exact⟨[],rfl,rfl⟩
 | [a],vs,⟨u,us,e,h1,d⟩=>have d:us=[]:=d; subst d; subst e; exact h1
 | a :: b :: r,vs,⟨u,us,e,h1,u2,us2,e2,d,h3⟩=>subst e2; subst e; exact⟨u :: u2 :: us2,rfl,u,_,rfl,h1,u2,us2,rfl,d,h3⟩
theorem Yr{b:Func}{rs:List ResultVar}(d:b.results=rs.toArray){P:Program}{a:Array Value}{w:World}{vs:List Value}(h:(rs.mapM (HX a)).run P w=.ok vs w):(results b a).run P w=.ok (M0l vs) w:=by
 have c:results b a=(do
   let vs <- Array.mapM (HX a) rs.toArray
   pure (if h:vs.size=1 then vs[0] else .tuple vs)):=by
  unfold results;rw[d];congr 1
 have:(Array.mapM (HX a) rs.toArray).run P w=.ok vs.toArray w:=by
  rw[List.mapM_toArray];simp[h,Result.andThen]
 rw[c];simp only[Sem.run_bind,this,Result.andThen]
 match vs with
 | []=>rfl
 | [v]=>rfl
 | v :: u :: r=>rfl
def onceN:List (Option Nat)->Bool
 | []=>true
 | none :: r=>onceN r
 | some i :: r=>notInS i r&&onceN r
where notInS (i:Nat):List (Option Nat)->Bool
 | []=>true
 | none :: r=>notInS i r
 | some j :: r=>!(Nat.beq i j)&&notInS i r
def NU(mv:List (Option Nat)):List Nat->Bool
 | []=>true
 | i :: r=>onceN.notInS i mv&&NU mv r
theorem NV{i:Nat}:∀{l:List (Option Nat)},onceN.notInS i l=true->some i ∉ l
 | [],_=>by simp
 | none :: r,h=>by
   have:=NV (l:=r) h;simpa using this
 | some j :: r,h=>by
   simp only[onceN.notInS,ba,Bool.not_eq_true'] at h;have:=NV h.2;simp only[List.mem_cons,oi,not_or];exact⟨fun e=>by simp_all,this⟩
theorem r0o{mv:List (Option Nat)}:∀{l:List Nat},NU mv l=true->∀i∈l,some i ∉ mv
 | j :: r,h,i,hi=>by
   simp only[NU,ba] at h;rcases List.mem_cons.1 hi with rfl | hi
   ·grind[NV]
   ·exact r0o h.2 i hi
theorem Sw{X:Cx}{G:Gh}(S:Sat X G):∀{mv:List (Option Nat)},onceN mv=true->Yn G mv->CQ (X7 G mv)
 | [],_,_=>trivial
 | none :: r,h,ha=>⟨(fun b e=>by cases e),Sw S (mv:=r) h (fun i hi=>ha i (List.mem_cons_of_mem _ hi))⟩
 | some i :: r,h,ha=>by
   simp only[onceN,ba] at h;refine⟨fun b e f=>?_,Sw S h.2 (fun i hi=>ha i (List.mem_cons_of_mem _ hi))⟩;have e:G.γ i=some b:=e;obtain⟨o,d,a⟩:=List.mem_map.1 f;cases o with
   | none=>grind
   | some j =>
     have a:G.γ j=some b:=a;obtain⟨_,g⟩:=ha i (by simp);obtain⟨_,c⟩:=ha j (List.mem_cons_of_mem _ d);have:=S.inj i j _ _ b g c e a
     grind[NV]
def Sx(f:Nat->Bool):Option Nat->Bool
 | none=>true
 | some i=>f i
/- Data that lead nowhere. -/
mutual
def DS:AV->Bool
 | .d _ t _=>D2 t
 | .ow _ _ t _=>D2 t
 | .ob _ xs=>JU xs
 | .agg xs=>JU xs
 | .tup xs=>JU xs
 | _=>true
def JU:List AV->Bool
 | []=>true
 | a :: r=>DS a&&JU r
end
mutual
theorem ResR.kf{K K':Bool->Nat->Prop}{w:World}:∀{a:AV} {u:Value} {gs:List (Option Nat)},DS a=true->ResR K w a u gs->ResR K' w a u gs
 | .v _,_,_,_,h=>h
 | .d fr t x,u,gs,hf,⟨h,e⟩=>⟨RT.free (by grind[DS]) h,e⟩
 | .ow T fr t xs,u,gs,hf,⟨g,cs,h1,h2,h3,h4⟩=>⟨g,cs,h1,h2,h3,h4.mapR (fun c x h=>RT.free (by grind[DS]) h)⟩
 | .agg xs,u,gs,hf,⟨us,e,h⟩=>⟨us,e,ResRs.kf (by grind[DS]) h⟩
 | .ob T xs,u,gs,hf,⟨b,us,gs',e1,e2,h1,h⟩=>⟨b,us,gs',e1,e2,h1,ResRs.kf (by grind[DS]) h⟩
 | .tup xs,u,gs,hf,⟨us,e,h⟩=>⟨us,e,ResRs.kf (by grind[DS]) h⟩
theorem ResRs.kf{K K':Bool->Nat->Prop}{w:World}:∀{as':List AV} {us:List Value} {gs:List (Option Nat)},JU as'=true->ResRs K w as' us gs->ResRs K' w as' us gs
 | [],_,_,_,h=>h
 | a :: r,us,gs,hf,⟨u,us',g1,g2,e1,e2,h1,h2⟩=>by
   simp only[JU,ba] at hf;exact⟨u,us',g1,g2,e1,e2,ResR.kf hf.1 h1,ResRs.kf hf.2 h2⟩
end
def Gi(Γ:o4)(st:St)(rs:List ResultVar)(r:AV)(ps:List Par)(z:B0 ps):Prop :=
 match HW Γ st rs with
 | some (q0,as')=>match N2 st.o (Yp as') r with
   | some (q,mv,fz)=>match Z5 st.o 0 ps z with
     | some (q',fz',pin)=>bif onceN mv&&NU mv (fz++fz')&&Sx (fun i=>FW i (fz++fz')) pin&&(!F1 ps||DS r)&&Sx (fun i=>onceN.notInS i mv) pin then q0/\q/\q' else False
     | none=>False
   | none=>False
 | none=>False
def JV(c:Ct)(x:r7 c.ps)(w:World)(go:Option Nat)(K:Nat->Prop)(en:Ending)(w':World):Prop :=
 ∃v gs,en=.returned v/\WE go w w'/\CQ gs/\(∀b,some b∈gs->w.heap.size<=b∨(F1 c.ps=true/\go=some b))/\ResR (fun fr=>NG fr K w w' gs) w' (c.res x).r v gs /\
  IOR (fun k=>(K k∨w.heap.size<=k)/\UFg w' w.heap.size k/\some k ∉ gs/\go≠some k) w' go c.ps (c.res x).z
theorem HY{X:Cx}{G:Gh}(S:Sat X G){K' Kf:Nat->Prop}(c:∀k,G.K k->K' k)(a:∀k,K' k->Kf k){go:Option Nat}:∀{ps:List Par} {i:Nat} {z:B0 ps} {q:Prop} {fz:List Nat} {pin:Option Nat},¬F1 ps=true->Z5 G.o i ps z=some (q,fz,pin)->q->X.pin=HV (r4 i ps go)->((∃b,go=some b)∨pin=none) ->
  (∀id∈fz,(∃o,b9 G.o id=some o)->∀b,G.γ id=some b->K' b)->IOR Kf G.w go ps z/\∀id,pin=some id->∃T cs,b9 G.o id=some (.box T cs)/\G.γ id=go
 | .os _ _ :: _,_,_,_,_,_,hv,_,_,_,_,_=>(hv rfl).elim
 | [],i,z,q,fz,pin,_,h,hq,_,_,_=>by
   simp only[Z5,oi,pj] at h;obtain⟨_,_,rfl⟩:=h;exact⟨trivial,fun _ e=>by cases e⟩
 | .io T t :: r,i,z,q,fz,pin,_,h,hq,hp,hg,hz=>by
   unfold Z5 at h;split at h
   ·rename_i P cs F;rw[ce] at h;split at h
    ·rename_i g;have g:=nb g;subst g;split at h
     ·rename_i y l Q j;simp only[oi,pj] at h;obtain⟨rfl,rfl,rfl⟩:=h;obtain rfl:=hq;rcases hg with ⟨b,rfl⟩ | hg
      ·obtain⟨_,W,x,E⟩:=S.pin i (.pointer (some ⟨b,0,none⟩)) (by rw[hp]; rfl);cases E;obtain⟨V,v,H,m,n,u⟩:=S.obs _ _ F;rw[x] at m;cases m;exact⟨⟨b,v,rfl,n,RT.up (DL S c 24 j (fun id d=>hz id d (FU 24 j id d)) u) (fun k s=>a k s.1)⟩,fun id e=>by grind⟩
      grind
     grind
    grind
   grind
 | .dat t :: r,i,z,q,fz,pin,hv,h,hq,hp,hg,hz=>HY (ps:=r) (i:=i+1) S c a hv h hq (by cases go <;> exact hp) hg hz
 | .agg t :: r,i,z,q,fz,pin,hv,h,hq,hp,hg,hz=>HY (ps:=r) (i:=i+1) S c a hv h hq (by cases go <;> exact hp) hg hz
 | .fn f t :: r,i,z,q,fz,pin,hv,h,hq,hp,hg,hz=>HY (ps:=r) (i:=i+1) S c a hv h hq (by cases go <;> exact hp) hg hz
 | .nof f :: r,i,z,q,fz,pin,hv,h,hq,hp,hg,hz=>HY (ps:=r) (i:=i+1) S c a hv h hq (by cases go <;> exact hp) hg hz
 | .nil :: r,i,z,q,fz,pin,hv,h,hq,hp,hg,hz=>HY (ps:=r) (i:=i+1) S c a hv h hq (by cases go <;> exact hp) hg hz
theorem JW{K:Nat->Prop}{w:World}{o:List (Nat×Ob)}:∀{ps:List Par} {i:Nat} {x:r7 ps} {vs:List Value} {go:Option Nat} {z:B0 ps} {q:Prop} {fz:List Nat} {pin:Option Nat},¬F1 ps=true->ArgsR K w go ps x vs->Z5 o i ps z=some (q,fz,pin)->(go=none/\pin=none)∨∃b j,go=some b/\pin=some j
 | .os _ _ :: _,_,_,_,_,_,_,_,_,hv,_,_=>(hv rfl).elim
 | [],i,x,vs,go,z,q,fz,pin,_,ha,h=>by
   simp only[Z5,oi,pj] at h;exact .inl ⟨ha.2,h.2.2.symm⟩
 | .io T t :: r,i,x,vs,go,z,q,fz,pin,_,⟨b,_,_,_,hg,_⟩,h=>by
   grind[Z5]
 | .dat t :: r,i,x,vs,go,z,q,fz,pin,hv,⟨_,_,_,_,ha⟩,h=>JW (ps:=r) (i:=i+1) hv ha h
 | .agg t :: r,i,x,vs,go,z,q,fz,pin,hv,⟨_,_,_,_,ha⟩,h=>JW (ps:=r) (i:=i+1) hv ha h
 | .fn f t :: r,i,x,vs,go,z,q,fz,pin,hv,⟨_,_,_,_,ha⟩,h=>JW (ps:=r) (i:=i+1) hv ha h
 | .nof f :: r,i,x,vs,go,z,q,fz,pin,hv,⟨_,_,ha⟩,h=>JW (ps:=r) (i:=i+1) hv ha h
 | .nil :: r,i,x,vs,go,z,q,fz,pin,hv,⟨_,_,ha⟩,h=>JW (ps:=r) (i:=i+1) hv ha h
theorem Ys{P:Program}{n:Nat}{Γ:o4}(aN:w9 P Γ){c:Ct}{x:r7 c.ps}{w:World}{K:Nat->Prop}{go:Option Nat}{vs:List Value}(aM:Z4 c.ps=true)(ha:ArgsR K w go c.ps x vs)
  {fn:Func} {rs:List ResultVar} (hr:fn.results=rs.toArray) {st:St} (h:Gi Γ st rs (c.res x).r c.ps (c.res x).z) :
  ∀G a,Sat (cx P n ⟨w,fun k=>go=some k,K,HV (r4 0 c.ps go),L6 c.ps w⟩) G->G.o=st.o->EnvR n G st.e a->a.defers=[]/\∃v,(results fn a.tmps).run P G.w=.ok v G.w/\JV c x w go K (.returned v) G.w:=by
 intro G a S ho hE;unfold Gi at h;split at h
 ·rename_i q0 aS h0;split at h
  ·rename_i q y fz i;split at h
   ·rename_i q' aD aQ H;rw[ce] at h;split at h
    ·rename_i u;simp only[ba] at u;obtain⟨⟨⟨⟨aF,aK⟩,aB⟩,aG⟩,aC⟩:=u;obtain⟨aJ,hq,aH⟩:=h;obtain⟨us,e1,hu,_⟩:=Yo (X:=cx P n ⟨w,fun k=>go=some k,K,HV (r4 0 c.ps go),L6 c.ps w⟩) aN S ho hE h0 aJ;rw[<- ho] at i H;have aP:=r0o aK;obtain⟨_,l⟩:=Ss (K':=fun _=>True) (Kf:=fun _ _=>True) S (fun _ _=>trivial) (fun _ _ _=>trivial) i hq (fun _ _ _ _ _=>trivial) (Yq hu);have E:∀k,some k∈X7 G y->∃id,some id∈y/\G.γ id=some k:=fun k d=>by
      obtain⟨o,i,H⟩:=List.mem_map.1 d;cases o with
      | none=>cases H
      | some id=>grind
     by_cases m:F1 c.ps=true
     ·obtain⟨hR,_⟩:=Ss (K':=fun _=>True) (Kf:=fun _ _=>True) S (fun _ _=>trivial) (fun _ _ _=>trivial) i hq (fun _ _ _ _ _=>trivial) (Yq hu);rw[m,Bool.not_true,Bool.false_or] at aG;refine⟨hE.defers,_,Yr hr e1,_,X7 G y,rfl,⟨S.os,S.tape,S.output,S.size,fun k d hg=>S.block k d hg⟩,Sw S aF l,fun b u=>?_,ResR.kf aG hR,JT aM m⟩;obtain⟨j,W,Q⟩:=E b u;obtain⟨_,F⟩:=l j W;rcases S.own j _ b F Q with h | h
      ·grind
      grind
     have aI:=Ym (w:=w) m;have Y:=JW m ha H;obtain⟨_,s⟩:=HY (K':=fun _=>True) (Kf:=fun _=>True) (go:=go) S (fun _ _=>trivial) (fun _ _=>trivial) m H aH rfl (by
      grind) (fun _ _ _ _ _=>trivial)
     have aR:∀id∈fz++aD,∀o,b9 G.o id=some o->∀k,G.γ id=some k->w.heap.size<=k/\UFg G.w w.heap.size k/\some k ∉ X7 G y/\go≠some k:=fun id aA o f k d=>by
      have aL:go≠some k:=fun e=>by
       rcases Y with ⟨h,_⟩ | ⟨b,j,h,hj⟩
       ·grind
       ·obtain⟨T,cs,k1,k2⟩:=s j hj;have:=S.inj id j _ _ k f k1 d (k2.trans e);subst this;rw[hj] at aB;exact HL aB aA
      refine⟨?_,?_,?_,aL⟩
      ·rcases S.own id o k f d with h | h
       ·exact h
       grind
      ·have:=S.obs id o f;cases o with
       | box T cs=>obtain⟨b',us,i,H,h3,h4⟩:=this; rw[d] at i; cases i; exact(Xp h3).g
       | arr T fr t xs aT=>obtain⟨cs,i,H,_⟩:=this; rw[d] at i; exact(FO i).g
       | grd T Te fr t xs aO=>obtain⟨vs,bs,i,_⟩:=this; rw[d] at i; exact(FO i).g
      ·intro hm;obtain⟨j,W,Q⟩:=E k hm;obtain⟨_,F⟩:=l j W;have:=S.inj id j _ _ k f F d Q
       grind
     have aU:∀k,G.K k->(K k∨w.heap.size<=k)/\UFg G.w w.heap.size k/\some k ∉ X7 G y/\go≠some k:=fun k d=>by
      refine⟨by
       have h:K k∨L6 c.ps w<=k:=S.kfrom k d
       rwa [aI] at h,S.klt k d,fun hm=>?_,fun e=>?_⟩
      ·obtain⟨j,W,Q⟩:=E k hm;obtain⟨_,F⟩:=l j W;exact S.imm j _ k F Q d
      ·rcases Y with ⟨h,_⟩ | ⟨b,j,h,hj⟩
       ·grind
       ·obtain⟨T,cs,k1,k2⟩:=s j hj;exact S.imm j _ k k1 (k2.trans e) d
     let K':Nat->Prop:=fun k=>G.K k∨∃id∈fz++aD,G.γ id=some k/\∃o,b9 G.o id=some o
     have V:∀k,K' k->(K k∨w.heap.size<=k)/\UFg G.w w.heap.size k/\some k ∉ X7 G y/\go≠some k:=fun k d=>by
      grind
     obtain⟨hR,_⟩:=Ss (K':=K') (Kf:=fun fr=>NG fr K w G.w (X7 G y)) S (fun _ h=>.inl h) (fun fr k d=>by
      obtain⟨a1,a2,a3,_⟩:=V k d.1;refine⟨?_,a2,a3⟩;cases fr with
      | false =>
        grind
      | true=>exact .inr (by
        have h:G.B<=k:=d.2 rfl;have e:G.B=L6 c.ps w:=S.base.1;omega)) i hq (fun id aA ⟨o,f⟩ b u=>.inr ⟨id,by grind,u,o,f⟩) (Yq hu)
     obtain⟨hI,_⟩:=HY (K':=K') (Kf:=fun k=>(K k∨w.heap.size<=k)/\UFg G.w w.heap.size k/\some k ∉ X7 G y/\go≠some k) (go:=go) S (fun _ h=>.inl h) V m H aH rfl (by
      grind) (fun id aA ⟨o,f⟩ b u=>.inr ⟨id,by grind,u,o,f⟩)
     refine⟨hE.defers,_,Yr hr e1,_,X7 G y,rfl,⟨S.os,S.tape,S.output,S.size,fun k d hg=>S.block k d hg⟩,Sw S aF l,fun b u=>?_,hR,hI⟩;obtain⟨j,W,Q⟩:=E b u;obtain⟨_,F⟩:=l j W;rcases S.own j _ b F Q with h | h
     ·grind
     ·have h:go=some b:=h;rcases Y with ⟨h',_⟩ | ⟨b',i',h',hj⟩
      ·grind
      ·obtain⟨T,cs,k1,k2⟩:=s i' hj;have:=S.inj i' j _ _ b k1 F (k2.trans h) Q;subst this;rw[hj] at aC;exact(NV aC W).elim
    grind
   grind
  grind
 grind
def wfs:(ps:List Par)->r7 ps->Prop
 | [],_=>True
 | .dat t :: r,x=>wf t x.1/\wfs r x.2
 | .agg t :: r,x=>wf t x.1/\wfs r x.2
 | .fn _ c :: r,x=>wf c x.1/\wfs r x.2
 | .nof _ :: r,x=>wfs r x.2
 | .nil :: r,x=>wfs r x.2
 | .io _ t :: r,x=>wf t x.1/\wfs r x.2
 | .os _ t :: r,x=>wf (.sl t) x.1/\wfs r x.2
theorem B0I{K:Nat->Prop}{w:World}{E s:Nat}{t:Ty}{g:Option Nat}{v:Value}{cs:List Value}{xs:List (j5 t)}(h:Own w E s g v xs.length cs)(a:AllR (RT K w t) cs xs):wf (.sl t) xs:=by
 refine⟨?_,fun x d=>?_⟩
 ·rcases h with ⟨_,h,_⟩ | ⟨b,o,cap,cur,_,_,_,h1,h2,_⟩
  ·omega
  grind[maxLen,Nat.le_trans]
 ·obtain⟨c,e⟩:=a.mem x d;exact RT.wf e
theorem ArgsR.wfs{K:Nat->Prop}{w:World}:∀{ps:List Par} {x:r7 ps} {vs:List Value} {go:Option Nat},ArgsR K w go ps x vs->Xv.wfs ps x
 | [],_x,_vs,_go,_=>trivial
 | .dat _t :: _r,_x,_vs,_go,⟨_v,_us,_e,h1,h⟩=>⟨RT.wf h1,ArgsR.wfs h⟩
 | .agg _t :: _r,_x,_vs,_go,⟨_v,_us,_e,h1,h⟩=>⟨RT.wf h1,ArgsR.wfs h⟩
 | .fn _f _t :: _r,_x,_vs,_go,⟨_v,_us,_e,h1,h⟩=>⟨RT.wf h1,ArgsR.wfs h⟩
 | .nof _f :: r,_x,_vs,_go,⟨_us,_e,h⟩=>ArgsR.wfs (ps:=r) h
 | .nil :: r,_x,_vs,_go,⟨_us,_e,h⟩=>ArgsR.wfs (ps:=r) h
 | .io _ _t :: _r,_x,_vs,_go,⟨_,_cs,_us,_e,_,_,_,h1,h⟩=>⟨RT.wf h1,ArgsR.wfs h⟩
 | .os _ _t :: _r,_x,_vs,_go,⟨_v,_cs,_us,_e,_,_,h1,h2,h⟩=>⟨B0I h1 h2,ArgsR.wfs h⟩
theorem K0L{P:Program}{Γ:o4}(V:w9 P Γ){c:Ct}{v:Func}{e:Code}{n:Nat}(rs:List ResultVar)(hf:P.funcs[c.f]?=some v)(hn:v.ntmps=n)(hb:v.body=some e)(hr:v.results=rs.toArray)(he:Al P c.f=true)(d:(Nat.ble c.ps.length n&&Z4 c.ps)=true)
  (h:∀y x,(c.res x).q->Xv.wfs c.ps x->∀Q,(∀st,Gi Γ st rs (c.res x).r c.ps (c.res x).z->FX (cx P n y) st .normal Q/\FX (cx P n y) st .ret Q)->VX (cx P n y) ⟨K6 0 c.ps x,H4 0 c.ps x⟩ e Q):Ok P c:=by
 refine⟨he,fun x hq w m H K hK l=>?_⟩;rw[ba] at d;obtain⟨d,g⟩:=d;have d:=Nat.le_of_ble_eq_true d;have aA:=l.len;refine calls_of_wp hf hb ?_;have:=h ⟨w,fun k=>H=some k,K,HV (r4 0 c.ps H),L6 c.ps w⟩ x hq l.wfs (bodyPost P v (JV c x w H K)) (fun st F=>?_) (CV K w H (An c.ps m) (L6 c.ps w) (H4 0 c.ps x)) { tmps:=m.toArray++Array.replicate (v.ntmps-m.toArray.size) undef,defers:=[] } (m0s hK l) rfl ⟨rfl,by grind,fun t s ht=>?_⟩
 ·exact this
 ·exact⟨fun G a S Y X=>Ys V g l hr F G a S Y X,fun G a S Y X=>Ys V g l hr F G a S Y X⟩
 ·obtain⟨_,a2,u,a3,a4⟩:=DR (i:=0) (o:=H4 0 c.ps x) (r0:=An c.ps m) (B:=L6 c.ps w) (g0:=H) g l (fun _=>rfl) (fun z hz=>by
   rcases Gg (i:=0) l with ⟨W,_⟩ | ⟨j,b,T,t,z',cs,W,_⟩ | ⟨j,E,t,xs,cs,W,_⟩
   ·grind
   ·rw[W] at hz ⊢;cases List.mem_singleton.1 hz;rw[lK,if_pos rfl]
   ·rw[W] at hz ⊢;cases List.mem_singleton.1 hz;rw[lK,if_pos rfl]) t s ht
  rw[a2];refine⟨fun _=>?_,fun hn=>(hn (fun _ h=>by cases h)).elim⟩;have aB:t<m.length:=by
   rcases Nat.lt_or_ge t m.length with h' | h'
   ·exact h'
   ·grind
  rw[Array.getD_eq_getD_getElem?,Array.getElem?_append_left (by omega)]
  grind
def JX:Option AV->Bool
 | some (.pel ..)=>false
 | some (.gel ..)=>false
 | _=>true
theorem Yt{o:List (Nat×Ob)}{v:AV}(h:JX (some v)=true):BZ o v:=by
 cases v <;> first | trivial | cases h
def AU(st:St)(p:Pa):Op->Bool
 | .move _ | .assign _ | .pick .. | .unOp .not .. | .fieldAddr .. | .field .. | .extract .. | .makeFunc .. | .build .. | .alloc _ | .box .. | .buildSlice ..=>true
 | .call ⟨.builtin .len,_,_⟩ | .call ⟨.builtin .min,_,_⟩ | .call ⟨.builtin .max,_,_⟩=>true
 | .load _ x | .nilCheck x | .store _ x _=>JX (rd st p x)
 | .binOp .eql .. | .binOp .neq .. | .binOp .lss .. | .binOp .leq .. | .binOp .gtr .. | .binOp .geq ..=>true
 | _=>false
theorem I0D{k a:IntKind}{b:Bool}{q:Prop}{r:AV}(h:CN k a b=some (q,r)):q:=by
 grind[CN]
theorem I0K{b:Option TI}{a:BinOp}{u v r:AV}{q:Prop}(c:(match a with | .eql | .neq | .lss | .leq | .gtr | .geq=>true | _=>false)=true)(h:NE b a u v=some (q,r)):q:=by
 unfold NE at h
 grind[I0D,oi,pj,absurd]
theorem I0P{Γ:o4}{st:St}{p:Pa}{c:Op}{q:Prop}{r:AV}{l:List Nat}(a:AU st p c=true)(h:I0 Γ st p c=some (q,r,l)):q:=by
 unfold I0 at h;split at h
 case h_5 op' T x y n =>
  split at h
  ·split at h
   ·rename_i d;simp only[oi,pj] at h;obtain⟨rfl,_⟩:=h;refine I0K ?_ d;cases op' <;> first | rfl | exact a
   grind
  grind
 case h_3 x =>
  split at h
  ·rename_i v b;split at h
   ·simp only[oi,pj] at h;obtain⟨rfl,_⟩:=h;exact Yt (by rw[<- b]; exact a)
   grind
  grind
 all_goals try (simp[AU] at a; done)
 case h_10 T x =>
  split at h
  ·rename_i v f b e;split at h
   ·split at h
    ·simp only[oi,pj] at h;obtain⟨rfl,_⟩:=h;exact Yt (by rw[<- b]; exact a)
    grind
   grind
  grind
 all_goals (repeat' (split at h))
 all_goals first
  | cases h; done
  | (simp only[oi,pj] at h; rw[<- h.1]; trivial)
  | (rw[ce] at h
     split at h
     ·grind
     ·cases h)
theorem I0R{Γ:o4}{st:St}{p:Pa}{d:Nat}{a:Op}{q:Prop}{r:AV}{w:Nat×Ob}{l:List Nat}(b:AU st p a=true)(h:AR Γ st p d a=some (q,r,w,l)):q:=by
 unfold AR at h
 grind[AU]
theorem I0O{Γ:o4}{st:St}{p:Pa}{a:Op}{q:Prop}{w:Nat×Ob}{l:List Nat}(b:AU st p a=true)(h:Ca Γ st p a=some (q,w,l)):q:=by
 unfold Ca at h
 grind[AU,JX]
theorem I0S{Γ:o4}{st:St}{p:Pa}{d:Nat}{a:Op}{r:Prop×AV×List (Nat×Ob)×List Nat}(b:AU st p a=true)(h:Bv Γ st p d a=some r):False:=by
 unfold Bv at h
 grind[AU,JX]
theorem E0Q{Γ:o4}{st:St}{p:Pa}{a:Op}{r:Prop×List (Nat×Ob)×List Nat}(b:AU st p a=true)(h:Cd Γ st p a=some r):False:=by
 unfold Cd at h
 grind[AU,JX]
theorem I0Q{Γ:o4}{T:List Ct}{st:St}{p:Pa}{o:Oper}{q:Prop}{av:Option AV}{obs:List (Nat×Ob)}{l:List Nat}(b:AU st p o.op=true)(h:X6 Γ T st p o=some (q,av,obs,l)):q:=by
 have a:∀d q r obs l,CS T st p d o.op≠some (q,r,obs,l):=fun d q r obs l a=>by
  unfold CS at a
  grind[AU]
 unfold X6 at h;split at h
 ·rw[ce] at h;split at h
  ·grind[oi,pj,I0P,I0S]
  ·rw[ce] at h
   grind[oi,pj,I0R]
 ·rw[ce] at h
  grind[oi,pj,I0O,E0Q]
def N3(Γ:o4)(T:List Ct)(all:List Oper):List Oper->St->List A4->Option (Prop×St×List A4)
 | [],st,rs=>some (True,st,rs)
 | o :: r,st,rs=>match Bw all st.e o with
   | some p=>match X6 Γ T st p o with
     | some (q,av,obs,fp)=>bif Cc p||Cc obs then(match N3 Γ T all r ⟨Ce o.dst p av st.e,obs++st.o⟩ (⟨o,p,av,obs,fp⟩ :: rs) with
       | some (V,st',rs')=>some (bif AU st p o.op then V else(Sc st.e p q/\V),st',rs')
       | none=>none) else none
     | none=>none
   | none=>none
theorem F0y{e:List (Nat×Sl)}{p:Pa}{q:Prop}(h:q):Sc e p q:=by
 unfold Sc
 grind
theorem Z6{Γ:o4}{T:List Ct}{all:List Oper}{K:St->List A4->Prop}:∀{ops:List Oper} {st:St} {rs:List A4} {V:Prop} {st':St} {rs':List A4},N3 Γ T all ops st rs=some (V,st',rs')->V->K st' rs'->HO Γ T all ops st rs K
 | [],st,rs,V,st',rs',h,hV,hK=>by
   simp only[N3,oi,pj] at h;obtain⟨_,rfl,rfl⟩:=h;exact hK
 | o :: r,st,rs,V,st',rs',h,hV,hK=>by
   unfold N3 at h;unfold HO;split at h
   ·rename_i p f
    try (rw[f]; simp only)
    split at h
    ·rename_i q m i k b
     try (rw[b]; simp only)
     rw[ce] at h ⊢;split at h
     ·rename_i g;rw[if_pos g];split at h
      ·rename_i l e j c;simp only[oi,pj] at h;obtain⟨a,rfl,rfl⟩:=h;rw[ce] at a;split at a
       ·rename_i d;subst a;exact⟨F0y (I0Q d b),Z6 c hV hK⟩
       ·subst a;exact⟨hV.1,Z6 c hV.2 hK⟩
      grind
     grind
    grind
   grind
def NW(n:Nat)(Γ:o4)(T:List Ct)(l:List Oper)(keep:List Nat)(st:St):Option (Prop×St) :=
 bif I1 n 0 [] l&&J5 st.e then(match N3 Γ T l l st [] with
  | some (V,st',_)=>some (V,cut keep st')
  | none=>none) else none
def Sy(n:Nat)(Γ:o4)(T:List Ct)(l:List Oper)(keep:List Nat)(st:St):Option (Prop×St) :=
 bif I1 n 0 [] l&&O4 0 l&&J5 st.e then(match N3 Γ T l l st [] with
  | some (V,st',rs)=>bif DQ (H3 [] l) rs.reverse then some (V,cut keep st') else none
  | none=>none) else none
section
variable {P:Program} {n:Nat} {y:World×(Nat->Prop)×(Nat->Prop)×(Nat->Value->Prop)×Nat} {st:St} {Q:Exit->Act->World->Prop} {Γ:o4} {T:List Ct}
theorem rs(b:w9 P Γ)(j:∀c∈T,Ok P c)(a:List Nat)(st':St)(V:Prop){id:Nat}{l:List Oper}{c:Code}(h:NW n Γ T l a st=some (V,st'))(f:V)(k:VX (cx P n y) st' c Q):VX (cx P n y) st (.seq (.region id l.toArray false) c) Q:=by
 unfold NW at h;rw[ce] at h;split at h
 ·rename_i d;rw[ba] at d;split at h
  ·rename_i m e i g;simp only[oi,pj] at h;obtain⟨rfl,rfl⟩:=h;exact vQ (z0Y (X:=cx P n y) b j a d.1 d.2 (Z6 g f (fQ k)))
  grind
 grind
theorem re(b:w9 P Γ)(j:∀c∈T,Ok P c)(a:List Nat)(st':St)(V:Prop){id:Nat}{l:List Oper}(h:NW n Γ T l a st=some (V,st'))(f:V)(k:FX (cx P n y) st' .normal Q):VX (cx P n y) st (.region id l.toArray false) Q:=by
 unfold NW at h;rw[ce] at h;split at h
 ·rename_i d;rw[ba] at d;split at h
  ·rename_i m e i g;simp only[oi,pj] at h;obtain⟨rfl,rfl⟩:=h;exact z0Y (X:=cx P n y) b j a d.1 d.2 (Z6 g f k)
  grind
 grind
theorem de(b:w9 P Γ)(k:∀c∈T,Ok P c)[o:J7 P](a:List Nat)(st':St)(V:Prop){id:Nat}{l:List Oper}(h:Sy n Γ T l a st=some (V,st'))(g:V)(m:FX (cx P n y) st' .normal Q):VX (cx P n y) st (.region id l.toArray true) Q:=by
 unfold Sy at h;rw[ce] at h;split at h
 ·rename_i d;rw[ba] at d;split at h
  ·rename_i q f j i;rw[ce] at h;split at h
   ·rename_i e;simp only[oi,pj] at h;obtain⟨rfl,rfl⟩:=h;exact C0o (X:=cx P n y) b k a d.1 d.2 (Z6 i g ⟨e,m⟩)
   grind
  grind
 grind
theorem ds(b:w9 P Γ)(e:∀c∈T,Ok P c)[g:J7 P](a:List Nat)(st':St)(V:Prop){id:Nat}{l:List Oper}{c:Code}(h:Sy n Γ T l a st=some (V,st'))(d:V)(f:VX (cx P n y) st' c Q):VX (cx P n y) st (.seq (.region id l.toArray true) c) Q :=
 vQ (de b e a st' V h d (fQ f))
end
theorem D0l{P:Program}:w9 P []:=fun _ _ h=>by cases h
theorem tK{P:Program}{T:TypeId}{c:TI}{Γ:o4}(h:HD P T c)(e:w9 P Γ):w9 P ((T,c) :: Γ):=fun d a b=>by
 rw[lK] at b;split at b
 ·grind
 ·exact e d a b
abbrev i64:Ty:=.int .i64
abbrev p(t:Nat)(a:AV):Nat×Sl:=(t,⟨[],a⟩)
abbrev I(x:Int):AV:=.d true (.int .i64) x
abbrev J(x:Int):AV:=.d false (.int .i64) x
abbrev B(x:Bool):AV:=.d true .bool x
abbrev C(x:Bool):AV:=.d false .bool x
abbrev S(x:ByteArray):AV:=.d true .str x
abbrev U(x:ByteArray):AV:=.d false .str x
abbrev D(t:Ty)(x:j5 t):AV:=.d false t x
abbrev N(t:Ty)(x:j5 t):AV:=.d true t x
abbrev L(t:Ty)(x:List (j5 t)):AV:=.d false (.sl t) x
abbrev M(t:Ty)(x:List (j5 t)):AV:=.d true (.sl t) x
abbrev nil:AV:=.v (.slice none 0 0)
theorem ev{Γ:o4}{st:St}{rs:List ResultVar}{r:AV}{ps:List Par}{z:B0 ps}(V:Prop)(h:Gi Γ st rs r ps z=V)(a:V):Gi Γ st rs r ps z:=h ▸ a
theorem tn{P:Program}:∀c∈([]:List Ct),Ok P c:=fun _ h=>by cases h
theorem tc{P:Program}{c:Ct}{T:List Ct}(h:Ok P c)(b:∀c∈T,Ok P c):∀c'∈c :: T,Ok P c':=fun c' a=>by
 grind
end Go.Proofs.Xv
end
section
namespace Go.Proofs.Xd
open Go Go.Proofs.Xv
theorem Jw{c:Type}{a b:List c}(d:c)(e:a.length=b.length)(h:∀i,i<a.length->a.getD i d=b.getD i d):a=b:=by
 apply List.ext_getElem?
 grind
def cnt:(t:Ty)->j5 t->Nat
 | .int _,_=>0
 | .bool,_=>0
 | .str,s=>s.size
 | .sl e,xs=>xs.length+(xs.map (cnt e)).sum
 | .pt e,x=>cnt e x
 | .pr a b,x=>cnt a x.1+cnt b x.2
theorem C0f{t:Ty}{a:List (j5 t)}{i:Nat}{d:j5 t}(h:i<a.length):cnt t (a.getD i d)<=(a.map (cnt t)).sum:=by
 rw[gq,List.getElem?_eq_getElem h];have b:∀(l:List (j5 t)) (x:j5 t),x∈l->cnt t x<=(l.map (cnt t)).sum:=by
  intro l
  induction l with
  | nil=>grind
  | cons y r c =>
    grind
 simp_all
theorem J1{a b:Ty}{x:j5 (.pr a b)}:cnt (.pr a b) x=cnt a x.1+cnt b x.2:=by grind[cnt]
theorem FI{k:IntKind}{x:Int}:cnt (.int k) x=0:=by grind[cnt]
theorem WA{x:Bool}:cnt .bool x=0:=by grind[cnt]
theorem FJ{x:ByteArray}:cnt .str x=x.size:=by grind[cnt]
theorem AF{e:Ty}{x:List (j5 e)}:cnt (.sl e) x=x.length+(x.map (cnt e)).sum:=by grind[cnt]
theorem FH{k:IntKind}{x:List Int}:cnt (.sl (.int k)) x=x.length:=by
 have:∀l:List Int,(l.map (cnt (.int k))).sum=0:=by
  intro l
  induction l with
  | nil=>rfl
  | cons a r b=>grind[cnt]
 grind[AF]
end Go.Proofs.Xd
end
section
namespace Go.Proofs.Xl
def gd{ρ:Type}(V:Prop)[Decidable V](e:Option ρ):Option ρ:=if V then e else none
def lt{α β:Type}(x:α)(f:α->β):β:=f x
def vl{α:Type}[Inhabited α](o:Option α):α:=o.getD default
def c9(x:Int):Prop := -9223372036854775808<=x/\x<=9223372036854775807
instance (x:Int):Decidable (c9 x):=inferInstanceAs (Decidable (_/\_))
def ix(i:Int)(n:Nat):Prop:=0<=i/\i < (n:Int)
instance (i:Int)(n:Nat):Decidable (ix i n):=inferInstanceAs (Decidable (_/\_))
def U7:Nat:=36893488147419103232
def I9{σ ρ:Type}(F:(σ->Option ρ)->σ->Option ρ):Nat->σ->Option ρ
 | 0,_=>none
 | n+1,s=>F (I9 F n) s
def lp{σ ρ:Type}(F:(σ->Option ρ)->σ->Option ρ)(s:σ):Option ρ:=I9 F U7 s
theorem L0{ρ:Type}{V:Prop}[Decidable V]{e:Option ρ}{r:ρ}(h:gd V e=some r):V/\e=some r:=by
 grind[gd]
theorem gP{ρ:Type}{V:Prop}[Decidable V]{e:Option ρ}(h:V):gd V e=e:=if_pos h
theorem vS{a:Type}[Inhabited a](x:a):vl (some x)=x:=rfl
theorem u0t{a:Type}[Inhabited a]{o:Option a}(h:o.isSome=true):o=some (vl o):=by cases o with
 | none=>cases h
 | some x=>rfl
end Go.Proofs.Xl
namespace Go.Proofs.Xv
open Go Go.RowKit Go.Proofs.Sv Go.Proofs.Xl
def Q6{α β:Type}(f:α->β):Option α->Option β
 | some x=>some (f x)
 | none=>none
theorem S9{b a:Type}{f:b->a}{o:Option b}{y:a}(h:Q6 f o=some y):∃x,o=some x/\f x=y:=by
 cases o with
 | none=>cases h
 | some x=>exact⟨x,rfl,by cases h; rfl⟩
def Yu(o o':List (Nat×Ob))(x:Value)(id ver:Nat):Option AV:=match x with
 | .slice none 0 0=>match b9 o id with
   | none=>match b9 o' id with
     | some (.arr _ _ _ _ v)=>bif Nat.beq v ver then some (.os id ver) else none
     | _=>none
   | _=>none
 | _=>none
def Yv(x:Value)(fr:Bool)(e:Ty):Option AV:=match x with
 | .slice none 0 0=>some (.d fr (.sl e) [])
 | _=>none
def Yw(o o':List (Nat×Ob))(id ver id' ver':Nat):Option AV:=bif Nat.beq id id' then(match b9 o id with
    | some (.arr _ _ _ _ v)=>match b9 o' id with
      | some (.arr _ _ _ _ v')=>bif Nat.beq v ver&&Nat.beq v' ver' then some (.os id' ver') else none
      | _=>none
    | _=>none) else none
def wkP(o':List (Nat×Ob))(id off:Nat):Option AV:=match b9 o' id with
 | some (.box _ _)=>some (.ptr id off)
 | _=>none
def wkG(o':List (Nat×Ob))(id:Nat):Option AV:=match b9 o' id with
 | some (.grd ..)=>some (.og id)
 | _=>none
mutual
def Z7(o o':List (Nat×Ob)):AV->AV->Option AV
 | .d fr t x,b=>match b with
   | .d fr' t' _=>bif !fr'||fr then Q6 (.d fr' t') (X3 t t' x) else none
   | _=>none
 | .v x,b=>match b with
   | .v _=>some (.v x)
   | .os id ver=>Yu o o' x id ver
   | .d fr (.sl e) _=>Yv x fr e
   | _=>none
 | .os id ver,b=>match b with
   | .os id' ver'=>Yw o o' id ver id' ver'
   | _=>none
 | .ptr id off,b=>match b with
   | .ptr _ _=>wkP o' id off
   | _=>none
 | .agg xs,b=>match b with
   | .agg ys=>Q6 .agg (Gj o o' xs ys)
   | _=>none
 | .tup xs,b=>match b with
   | .tup ys=>Q6 .tup (Gj o o' xs ys)
   | _=>none
 | .fn f xs,b=>match b with
   | .fn _ ys=>Q6 (.fn f) (Gj o o' xs ys)
   | _=>none
 | .og id,b=>match b with
   | .og _=>wkG o' id
   | _=>none
 | _,_=>none
def Gj(o o':List (Nat×Ob)):List AV->List AV->Option (List AV)
 | [],ys=>match ys with
   | []=>some []
   | _=>none
 | a :: r,ys=>match ys with
   | b :: s=>match Z7 o o' a b with
     | some x=>Q6 (x :: ·) (Gj o o' r s)
     | none=>none
   | _=>none
end
def Yx(o o':List (Nat×Ob)):Option Ob->Ob->Option Ob
 | some (.box T cs),.box _ cs'=>Q6 (.box T) (Gj o o' cs cs')
 | some (.arr T fr t xs _),.arr _ fr' t' _ v'=>bif !fr'||fr then Q6 (fun z=>.arr T fr' t' z v') (X3 (.sl t) (.sl t') xs) else none
 | none,.arr T fr t _ v=>some (.arr T fr t [] v)
 | some (.grd T Te fr t xs none),.grd _ _ fr' t' _ none=>bif !fr'||fr then Q6 (fun z=>.grd T Te fr' t' z none) (X3 (.sl (.sl t)) (.sl (.sl t')) xs) else none
 | _,_=>none
def Sz(o o':List (Nat×Ob))(e:List (Nat×Sl)):List (Nat×Sl)->Option (List (Nat×Sl))
 | []=>some []
 | (t,s) :: r=>match s.p,b9 e t with
   | [],some ⟨[],a⟩=>match Z7 o o' a s.a with
     | some x=>Q6 ((t,⟨[],x⟩) :: ·) (Sz o o' e r)
     | none=>none
   | _,_=>none
def SA(o o':List (Nat×Ob)):List (Nat×Ob)->Option (List (Nat×Ob))
 | []=>some []
 | (i,b) :: r=>match Yx o o' (b9 o i) b with
   | some x=>Q6 ((i,x) :: ·) (SA o o' r)
   | none=>none
def JY(o':List (Nat×Ob)):List (Nat×Ob)->Bool
 | []=>true
 | (i,.box _ _) :: r=>(bif Nat.ble 500000 i then(match b9 o' i with | some (.box _ _)=>true | _=>false) else true)&&JY o' r
 | (_,.arr ..) :: r=>JY o' r
 | (_,.grd ..) :: r=>JY o' r
def Gk(a b:St):Option St:=match Sz a.o b.o a.e b.e with
 | some e=>match SA a.o b.o b.o with
   | some o=>bif JY b.o a.o then some ⟨e,o⟩ else none
   | none=>none
 | none=>none
theorem F0v{o o':List (Nat×Ob)}{x:Value}{id ver:Nat}(h:Yu o o' x id ver=some (.os id ver)):HQ x/\Sk (b9 o id)/\Gf (b9 o' id) ver:=by
 unfold Yu at h;split at h
 ·split at h
  ·rename_i b;split at h
   ·rename_i c;rw[ce] at h;split at h
    ·rename_i a;have:=nb a;subst this;rw[b,c];exact⟨trivial,trivial,rfl⟩
    grind
   grind
  grind
 grind
theorem F0t{o o':List (Nat×Ob)}{id ver b a:Nat}(h:Yw o o' id ver b a=some (.os b a)):id=b/\Gf (b9 o id) ver/\Gf (b9 o' id) a:=by
 unfold Yw at h;rw[ce] at h;split at h
 ·rename_i c;split at h
  ·rename_i i;split at h
   ·rename_i f;rw[ce] at h;split at h
    ·rename_i d;rw[ba] at d;have e:=nb d.1;have g:=nb d.2;subst e; subst g;rw[i,f];exact⟨nb c,rfl,rfl⟩
    grind
   grind
  grind
 grind
theorem F0w{x:Value}{fr:Bool}{e:Ty}{y:j5 (.sl e)}(h:Yv x fr e=some (.d fr (.sl e) y)):HQ x/\Ye (.sl e) y:=by
 unfold Yv at h;split at h
 ·simp only[oi,AV.d.injEq,heq_eq_eq,true_and] at h;exact⟨trivial,h.symm⟩
 grind
theorem Yy{a b:Bool}(h:(!a||b)=true):a=true->b=true:=by
 grind
mutual
theorem z0W{o o':List (Nat×Ob)}:∀{a b:AV},Z7 o o' a b=some b->N1 o o' a b
 | .d fr t x,b,h=>by
   unfold Z7 at h;unfold N1;split at h
   ·rename_i g i y;rw[ce] at h;split at h
    ·rename_i j;obtain⟨z,c,e⟩:=S9 h
     grind
    grind
   grind
 | .v x,b,h=>by
   unfold Z7 at h
   grind[N1,F0v,F0w]
 | .os id ver,b,h=>by
   unfold Z7 at h
   grind[N1,F0t]
 | .ptr id off,b,h=>by
   unfold Z7 at h;unfold N1;split at h
   ·unfold wkP at h;split at h
    ·rename_i c;simp only[oi,AV.ptr.injEq] at h;obtain⟨rfl,rfl⟩:=h;exact⟨rfl,rfl,by rw[c]; trivial⟩
    grind
   grind
 | .agg xs,b,h=>by
   unfold Z7 at h;unfold N1;split at h
   ·obtain⟨z,c,e⟩:=S9 h;simp only[AV.agg.injEq] at e;subst e;exact NX c
   grind
 | .tup xs,b,h=>by
   unfold Z7 at h;unfold N1;split at h
   ·obtain⟨z,c,e⟩:=S9 h;simp only[AV.tup.injEq] at e;subst e;exact NX c
   grind
 | .fn f xs,b,h=>by
   unfold Z7 at h;unfold N1;split at h
   ·obtain⟨z,c,e⟩:=S9 h;simp only[AV.fn.injEq] at e;obtain⟨rfl,rfl⟩:=e;exact⟨rfl,NX c⟩
   grind
 | .pel ..,b,h=>by grind[Z7]
 | .gel ..,b,h=>by grind[Z7]
 | .og id,b,h=>by
   unfold Z7 at h;unfold N1;split at h
   ·unfold wkG at h;split at h
    ·rename_i c;simp only[oi,AV.og.injEq] at h;subst h;exact⟨rfl,by rw[c]; trivial⟩
    grind
   grind
 | .ow ..,b,h=>by grind[Z7]
 | .ob ..,b,h=>by grind[Z7]
theorem NX{o o':List (Nat×Ob)}:∀{as' bs:List AV},Gj o o' as' bs=some bs->Cf o o' as' bs
 | [],bs,h=>by
   grind[Gj,Cf]
 | a :: r,bs,h=>by
   unfold Gj at h;unfold Cf;split at h
   ·split at h
    ·rename_i x c;obtain⟨z,d,b⟩:=S9 h;simp only[List.cons.injEq] at b;obtain⟨rfl,rfl⟩:=b;exact⟨z0W c,NX d⟩
    grind
   grind
end
theorem F0u{o o':List (Nat×Ob)}{a:Option Ob}{b:Ob}(h:Yx o o' a b=some b):Yh o o' a b:=by
 unfold Yx at h;split at h
 ·obtain⟨z,d,c⟩:=S9 h;simp only[Ob.box.injEq] at c;obtain⟨rfl,rfl⟩:=c;exact⟨rfl,NX d⟩
 ·rw[ce] at h;split at h
  ·rename_i e;obtain⟨z,d,c⟩:=S9 h;simp only[Ob.arr.injEq,heq_eq_eq,true_and,and_true] at c;obtain⟨rfl,rfl⟩:=c;exact⟨rfl,Yy e,d⟩
  grind
 ·simp only[oi,Ob.arr.injEq,heq_eq_eq,true_and,and_true] at h;exact h.symm
 ·rw[ce] at h;split at h
  ·rename_i e;obtain⟨z,d,c⟩:=S9 h;simp only[Ob.grd.injEq,heq_eq_eq,true_and,and_true] at c;obtain⟨rfl,rfl,rfl⟩:=c;exact⟨rfl,rfl,trivial,trivial,Yy e,d⟩
  grind
 grind
theorem t0d{o o':List (Nat×Ob)}{e:List (Nat×Sl)}:∀{l:List (Nat×Sl)},Sz o o' e l=some l->Sm o o' e l
 | [],_=>trivial
 | (t,s) :: r,h=>by
   unfold Sz at h;split at h
   ·rename_i g f;split at h
    ·rename_i x c;obtain⟨z,d,a⟩:=S9 h;simp only[List.cons.injEq,pj,true_and] at a;obtain⟨b,rfl⟩:=a;subst b;exact⟨trivial,by rw[f]; exact z0W c,t0d d⟩
    grind
   grind
theorem t0c{o o':List (Nat×Ob)}:∀{l:List (Nat×Ob)},SA o o' l=some l->NQ o o' l
 | [],_=>trivial
 | (t,s) :: r,h=>by
   unfold SA at h;split at h
   ·rename_i x b;obtain⟨z,c,a⟩:=S9 h;simp only[List.cons.injEq,pj,true_and] at a;obtain⟨rfl,rfl⟩:=a;exact⟨F0u b,t0c c⟩
   grind
theorem SB{o':List (Nat×Ob)}:∀{l:List (Nat×Ob)},JY o' l=true->pins o' l
 | [],_=>trivial
 | (_,.arr ..) :: r,h=>SB (l:=r) h
 | (_,.grd ..) :: r,h=>SB (l:=r) h
 | (i,.box _ _) :: r,h=>by
   simp only[JY,ba] at h;refine⟨?_,SB h.2⟩;have a:=h.1;rw[ce] at a ⊢;split
   ·rename_i hi;rw[if_pos hi] at a;split at a
    ·rename_i b; rw[b]; trivial
    grind
   grind
theorem Yz{a b:St}(h:Gk a b=some b):NR a b:=by
 unfold Gk at h;split at h
 ·rename_i e f;split at h
  ·rename_i o c;rw[ce] at h;split at h
   ·rename_i d;cases h;exact⟨t0d f,t0c c,SB d⟩
   grind
  grind
 grind
mutual
def Z9(o:List (Nat×Ob)):AV->AV->Option (AV×List (Option Nat)×List Nat)
 | a,.ow T fr t _=>match a with
   | .os id ver=>match b9 o id with
     | some (.arr T' fr' t' ys ver')=>bif Nat.beq ver ver'&&Nat.beq T' T&&(!fr||fr') then Q6 (fun z=>(.ow T fr t z,[some id],[])) (X3 (.sl t') (.sl t) ys) else none
     | _=>none
   | .v x=>match x with
     | .slice none 0 0=>some (.ow T fr t [],[none],[])
     | _=>none
   | _=>none
 | a,.d fr t _=>match F5 o 24 t [a] with
   | some (y,l,fl)=>bif !fr||fl then some (.d fr t y,[],l) else none
   | none=>none
 | a,.ob T rs=>match a with
   | .ptr id 0=>match b9 o id with
     | some (.box T' cs)=>bif Nat.beq T' T then(match HZ o cs rs with
       | some (x,l,m)=>some (.ob T x,some id :: l,m)
       | none=>none) else none
     | _=>none
   | _=>none
 | a,.v _=>match a with
   | .v y=>some (.v y,[],[])
   | _=>none
 | a,.agg rs=>match a with
   | .agg as'=>match HZ o as' rs with
     | some (x,l,m)=>some (.agg x,l,m)
     | none=>none
   | _=>none
 | a,.tup rs=>match a with
   | .tup as'=>match HZ o as' rs with
     | some (x,l,m)=>some (.tup x,l,m)
     | none=>none
   | _=>none
 | _,_=>none
def HZ(o:List (Nat×Ob)):List AV->List AV->Option (List AV×List (Option Nat)×List Nat)
 | as',[]=>match as' with
   | []=>some ([],[],[])
   | _=>none
 | as',r :: rs=>match as' with
   | a :: t=>match Z9 o a r with
     | some (x,m,f)=>match HZ o t rs with
       | some (xs,m',f')=>some (x :: xs,m++m',f++f')
       | none=>none
     | none=>none
   | []=>none
end
def CX(o:List (Nat×Ob)):Nat->(ps:List Par)->B0 ps->Option (B0 ps×List Nat×Option Nat)
 | _,[],z=>some (z,[],none)
 | i,.io T t :: _,_=>match b9 o (500000+i) with
   | some (.box T' cs)=>bif Nat.beq T' T then(match F5 o 24 t cs with
     | some (y,l,_)=>some (y,l,some (500000+i))
     | none=>none) else none
   | _=>none
 | i,.dat _ :: r,z=>CX o (i+1) r z
 | i,.agg _ :: r,z=>CX o (i+1) r z
 | i,.fn _ _ :: r,z=>CX o (i+1) r z
 | i,.nof _ :: r,z=>CX o (i+1) r z
 | i,.nil :: r,z=>CX o (i+1) r z
 | i,.os _ _ :: r,z=>CX o (i+1) r z
def v0f(Γ:o4)(st:St):ResultVar->Option AV
 | .tmp t=>match b9 st.e t with
   | some ⟨[],a⟩=>some a
   | _=>none
 | .cell t ty=>match b9 st.e t with
   | some ⟨[],p⟩=>bif JX (some p) then(match X4 st.o p with
     | some (cs,_)=>match b9 Γ ty with
       | some ti=>JJ ti cs
       | none=>none
     | none=>none) else none
   | _=>none
def NY(Γ:o4)(st:St):List ResultVar->Option (List AV)
 | []=>some []
 | r :: rs=>match v0f Γ st r with
   | some a=>Q6 (a :: ·) (NY Γ st rs)
   | none=>none
def NZ(Γ:o4)(st:St)(rs:List ResultVar)(ps:List Par)(r:AV)(z:B0 ps):Option (AV×B0 ps) :=
 match NY Γ st rs with
 | some as'=>match Z9 st.o (Yp as') r with
   | some (r',mv,fz)=>match CX st.o 0 ps z with
     | some (z',fz',pin)=>bif onceN mv&&NU mv (fz++fz')&&Sx (fun i=>FW i (fz++fz')) pin&&(!F1 ps||DS r')&&Sx (fun i=>onceN.notInS i mv) pin then some (r',z') else none
     | none=>none
   | none=>none
 | none=>none
mutual
theorem B0J{o:List (Nat×Ob)}:∀{a r:AV} {mv:List (Option Nat)} {fz:List Nat},Z9 o a r=some (r,mv,fz)->∃q:Prop,q/\N2 o a r=some (q,mv,fz)
 | a,.ow T fr t xs,mv,fz,h=>by
   unfold Z9 at h;unfold N2;split at h
   ·split at h
    ·rename_i k c j n i u;rw[ce] at h;split at h
     ·rename_i g;simp only[ba] at g;obtain⟨z,E,f⟩:=S9 h;simp only[pj,AV.ow.injEq,heq_eq_eq,true_and] at f;obtain⟨rfl,rfl,rfl⟩:=f;refine⟨(fr=true->c=true)/\X3 (.sl j) (.sl t) n=some z,⟨Yy g.2,E⟩,?_⟩
      grind
     grind
    grind
   ·split at h
    ·simp only[oi,pj,AV.ow.injEq,heq_eq_eq,true_and] at h;obtain⟨rfl,rfl,rfl⟩:=h;exact⟨_,⟨trivial,rfl⟩,rfl⟩
    grind
   grind
 | a,.d fr t x,mv,fz,h=>by
   unfold Z9 at h;unfold N2;split at h
   ·rename_i y l H s;rw[ce] at h;split at h
    ·rename_i G;simp only[oi,pj,AV.d.injEq,heq_eq_eq,true_and] at h;obtain⟨rfl,rfl,rfl⟩:=h
     try rw[s]
     grind
    grind
   grind
 | a,.ob T rs,mv,fz,h=>by
   unfold Z9 at h;unfold N2;split at h
   ·split at h
    ·rename_i k F u;rw[ce] at h;split at h
     ·rename_i P;split at h
      ·rename_i x l m b;simp only[oi,pj,AV.ob.injEq,true_and] at h;obtain⟨rfl,rfl,rfl⟩:=h;obtain⟨q,w,e⟩:=SC b;refine⟨q,w,?_⟩
       grind
      grind
     grind
    grind
   grind
 | a,.v x,mv,fz,h=>by
   unfold Z9 at h;unfold N2;split at h
   ·simp only[oi,pj,AV.v.injEq] at h;obtain⟨rfl,rfl,rfl⟩:=h
    grind
   grind
 | a,.agg rs,mv,fz,h=>by
   unfold Z9 at h;unfold N2;split at h
   ·split at h
    ·rename_i x l m b;simp only[oi,pj,AV.agg.injEq] at h;obtain⟨rfl,rfl,rfl⟩:=h;exact SC b
    grind
   grind
 | a,.tup rs,mv,fz,h=>by
   unfold Z9 at h;unfold N2;split at h
   ·split at h
    ·rename_i x l m b;simp only[oi,pj,AV.tup.injEq] at h;obtain⟨rfl,rfl,rfl⟩:=h;exact SC b
    grind
   grind
 | a,.ptr _ _,mv,fz,h=>by grind[Z9]
 | a,.pel ..,mv,fz,h=>by grind[Z9]
 | a,.os _ _,mv,fz,h=>by grind[Z9]
 | a,.fn _ _,mv,fz,h=>by grind[Z9]
 | a,.gel _ _,mv,fz,h=>by grind[Z9]
 | a,.og _,mv,fz,h=>by grind[Z9]
theorem SC{o:List (Nat×Ob)}:∀{as' rs:List AV} {mv:List (Option Nat)} {fz:List Nat},HZ o as' rs=some (rs,mv,fz)->∃q:Prop,q/\CW o as' rs=some (q,mv,fz)
 | as',[],mv,fz,h=>by
   unfold HZ at h;unfold CW;split at h
   ·simp only[oi,pj,true_and] at h;obtain⟨rfl,rfl⟩:=h
    grind
   grind
 | as',r :: rs,mv,fz,h=>by
   unfold HZ at h;unfold CW;split at h
   ·split at h
    ·rename_i x m f e;split at h
     ·rename_i i g l b;simp only[oi,pj,List.cons.injEq] at h;obtain⟨⟨rfl,rfl⟩,rfl,rfl⟩:=h;obtain⟨q,c,k⟩:=B0J e;obtain⟨d,a,j⟩:=SC b;refine⟨q/\d,⟨c,a⟩,?_⟩
      grind
     grind
    grind
   grind
end
theorem Ia{o:List (Nat×Ob)}:∀{ps:List Par} {i:Nat} {z:B0 ps} {fz:List Nat} {pin:Option Nat},CX o i ps z=some (z,fz,pin)->∃q:Prop,q/\Z5 o i ps z=some (q,fz,pin)
 | [],i,z,fz,pin,h=>by
   simp only[CX,oi,pj,true_and] at h;obtain⟨rfl,rfl⟩:=h;exact⟨_,trivial,rfl⟩
 | .io T t :: r,i,z',fz,pin,h=>by
   unfold CX at h;unfold Z5;split at h
   ·rename_i b a c;rw[ce] at h;split at h
    ·rename_i d;split at h
     ·rename_i y l f e;simp only[oi,pj] at h;obtain⟨rfl,rfl,rfl⟩:=h;refine⟨y=y,rfl,?_⟩
      grind
     grind
    grind
   grind
 | .dat _ :: r,i,z,fz,pin,h=>Ia (ps:=r) (i:=i+1) h
 | .agg _ :: r,i,z,fz,pin,h=>Ia (ps:=r) (i:=i+1) h
 | .fn _ _ :: r,i,z,fz,pin,h=>Ia (ps:=r) (i:=i+1) h
 | .nof _ :: r,i,z,fz,pin,h=>Ia (ps:=r) (i:=i+1) h
 | .nil :: r,i,z,fz,pin,h=>Ia (ps:=r) (i:=i+1) h
 | .os _ _ :: r,i,z,fz,pin,h=>Ia (ps:=r) (i:=i+1) h
theorem u0N{Γ:o4}{st:St}:∀{rs:List ResultVar} {as':List AV},NY Γ st rs=some as'->∃q:Prop,q/\HW Γ st rs=some (q,as')
 | [],as',h=>by
   simp only[NY,oi] at h;subst h;exact⟨_,trivial,rfl⟩
 | r :: rs,as',h=>by
   unfold NY at h;unfold HW;split at h
   ·rename_i a b;obtain⟨l,j,g⟩:=S9 h;subst g;obtain⟨q,n,i⟩:=u0N j;have:∃c:Prop,c/\NT Γ st r=some (c,a):=by
     unfold v0f at b;unfold NT;split at b
     ·split at b
      ·rename_i k;cases b;refine⟨True,trivial,?_⟩
       grind
      grind
     ·split at b
      ·rename_i k;rw[ce] at b;split at b
       ·rename_i f;split at b
        ·rename_i m;split at b
         ·rename_i s;refine⟨BZ st.o _,Yt f,?_⟩
          grind
         grind
        grind
       grind
      grind
    obtain⟨c,e,d⟩:=this;rw[d,i]
    grind
   grind
theorem SD{Γ:o4}{st:St}{rs:List ResultVar}{ps:List Par}{r:AV}{z:B0 ps}(h:NZ Γ st rs ps r z=some (r,z)):Gi Γ st rs r ps z:=by
 unfold NZ at h;split at h
 ·rename_i d f;split at h
  ·rename_i n k fz c;split at h
   ·rename_i v a b e;rw[ce] at h;split at h
    ·rename_i l;simp only[oi,pj] at h;obtain⟨rfl,rfl⟩:=h;obtain⟨o,m,t⟩:=u0N f;obtain⟨j,s,q⟩:=B0J c;obtain⟨u,g,i⟩:=Ia e
     grind[Gi]
    grind
   grind
  grind
 grind
end Go.Proofs.Xv
end
section
namespace Go.Proofs.Xv
open Go Go.RowKit Go.Proofs.Sv Go.Proofs.Xl
def H8(b:Bool)(n:Nat)(Γ:o4)(T:List Ct)(l:List Oper)(keep:List Nat)(st:St):Option (Prop×St):=bif b then Sy n Γ T l keep st else NW n Γ T l keep st
def JZ(st:St)(c:Operand):Option Bool:=match rd st [] c with
 | some (.d _ .bool b)=>some b
 | _=>none
theorem YA{st:St}{c:Operand}{b:Bool}(h:JZ st c=some b):∃f,rd st [] c=some (.d f .bool b):=by
 grind[JZ]
theorem ct{X:Cx}{st:St}{Q:Exit->Act->World->Prop}{c:Operand}{a d:Code}(b:JZ st c=some true)(h:VX X st a Q):VX X st (.cond c a d) Q:=(YA b).elim fun _ b=>t0h b h
theorem cf{X:Cx}{st:St}{Q:Exit->Act->World->Prop}{c:Operand}{a d:Code}(b:JZ st c=some false)(h:VX X st d Q):VX X st (.cond c a d) Q:=(YA b).elim fun _ b=>t0i b h
section
variable {P:Program} {n:Nat} {y:World×(Nat->Prop)×(Nat->Prop)×(Nat->Value->Prop)×Nat} {st:St} {Q:Exit->Act->World->Prop} {Γ:o4} {T:List Ct} {ρ α:Type} {r:ρ}
theorem SE(d:w9 P Γ)(f:∀c∈T,Ok P c)[i:J7 P]{a:List Nat}{st':St}{V:Prop}{id:Nat}{l:List Oper}{b:Bool}(h:H8 b n Γ T l a st=some (V,st'))(e:V)(g:FX (cx P n y) st' .normal Q):VX (cx P n y) st (.region id l.toArray b) Q:=by
 cases b with
 | true=>exact de d f a st' V h e g
 | false=>exact re d f a st' V h e g
theorem za(d:w9 P Γ)(e:∀c∈T,Ok P c)[g:J7 P](a:List Nat)(st':St){id:Nat}{l:List Oper}{b:Bool}(h:H8 b n Γ T l a st=some (True,st'))(f:FX (cx P n y) st' .normal Q):VX (cx P n y) st (.region id l.toArray b) Q :=
 SE d e h trivial f
theorem zb(d:w9 P Γ)(f:∀c∈T,Ok P c)[i:J7 P](a:List Nat)(st':St){V:Prop}[Decidable V]{e:Option ρ}{id:Nat}{l:List Oper}{b:Bool}(H:gd V e=some r)(h:H8 b n Γ T l a st=some (V,st'))(g:e=some r->FX (cx P n y) st' .normal Q):VX (cx P n y) st (.region id l.toArray b) Q :=
 SE d f h (L0 H).1 (g (L0 H).2)
theorem zc(d:w9 P Γ)(e:∀c∈T,Ok P c)[i:J7 P](a:List Nat)(S:α->St){x:α}{f:α->Option ρ}{id:Nat}{l:List Oper}{b:Bool}(H:lt x f=some r)(h:H8 b n Γ T l a st=some (True,S x))(g:∀v,f v=some r->FX (cx P n y) (S v) .normal Q):VX (cx P n y) st (.region id l.toArray b) Q :=
 SE d e h trivial (g x H)
theorem zd(d:w9 P Γ)(e:∀c∈T,Ok P c)[i:J7 P](a:List Nat)(S:α->St){V:Prop}[Decidable V]{x:α}{f:α->Option ρ}{id:Nat}{l:List Oper}{b:Bool}(H:gd V (lt x f)=some r)(h:H8 b n Γ T l a st=some (V,S x))(g:∀v,f v=some r->FX (cx P n y) (S v) .normal Q):VX (cx P n y) st (.region id l.toArray b) Q :=
 SE d e h (L0 H).1 (g x (L0 H).2)
theorem qa(d:w9 P Γ)(e:∀c∈T,Ok P c)[g:J7 P](a:List Nat)(st':St){id:Nat}{l:List Oper}{b:Bool}{c:Code}(h:H8 b n Γ T l a st=some (True,st'))(f:VX (cx P n y) st' c Q):VX (cx P n y) st (.seq (.region id l.toArray b) c) Q :=
 vQ (za d e a st' h (fQ f))
theorem qb(d:w9 P Γ)(f:∀c∈T,Ok P c)[i:J7 P](a:List Nat)(st':St){V:Prop}[Decidable V]{e:Option ρ}{id:Nat}{l:List Oper}{b:Bool}{c:Code}(H:gd V e=some r)(h:H8 b n Γ T l a st=some (V,st'))(g:e=some r->VX (cx P n y) st' c Q):VX (cx P n y) st (.seq (.region id l.toArray b) c) Q :=
 vQ (zb d f a st' H h fun H=>fQ (g H))
theorem qc(d:w9 P Γ)(e:∀c∈T,Ok P c)[i:J7 P](a:List Nat)(S:α->St){x:α}{f:α->Option ρ}{id:Nat}{l:List Oper}{b:Bool}{c:Code}(H:lt x f=some r)(h:H8 b n Γ T l a st=some (True,S x))(g:∀v,f v=some r->VX (cx P n y) (S v) c Q):VX (cx P n y) st (.seq (.region id l.toArray b) c) Q :=
 vQ (zc d e a S H h fun v H=>fQ (g v H))
theorem qd(d:w9 P Γ)(e:∀c∈T,Ok P c)[i:J7 P](a:List Nat)(S:α->St){V:Prop}[Decidable V]{x:α}{f:α->Option ρ}{id:Nat}{l:List Oper}{b:Bool}{c:Code}(H:gd V (lt x f)=some r)(h:H8 b n Γ T l a st=some (V,S x))(g:∀v,f v=some r->VX (cx P n y) (S v) c Q):VX (cx P n y) st (.seq (.region id l.toArray b) c) Q :=
 vQ (zd d e a S H h fun v H=>fQ (g v H))
theorem cd{X:Cx}{c:Operand}{a d:Code}{b:Bool}{f g:Option ρ}(H:(if b=true then f else g)=some r)(e:JZ st c=some b)(i:f=some r->VX X st a Q)(j:g=some r->VX X st d Q):VX X st (.cond c a d) Q :=
 (YA e).elim fun _ k=>Yb k (fun h=>i (by grind)) (fun h=>j (by grind))
theorem jn{X:Cx}{b:Type}(r:ρ)(E:b->St)(J:b->Option ρ){a d:Code}(h:∀s,J s=some r->VX X (E s) d Q)(k:∀Q',(∀{s st'},J s=some r->Gk st' (E s)=some (E s)->FX X st' .normal Q')->(∀{st' id},FX X st' (.exit id) Q->FX X st' (.exit id) Q')->(∀{st'},FX X st' .ret Q->FX X st' .ret Q')->VX X st a Q'):VX X st (.seq a d) Q :=
 vQ (k _ (fun H c=>fQ (C0n _ (Yz c) (h _ H))) fE fR)
theorem lx{X:Cx}{c:Type}(E:c->St)(d:c){F:(c->Option ρ)->c->Option ρ}{a:Code}(H:lp F d=some r)(e:Gk st (E d)=some (E d))
  (b:∀Q' (g:c->Option ρ),(∀{s st'},g s=some r->Gk st' (E s)=some (E s)->FX X st' .normal Q')->(∀{st' id},FX X st' (.exit id) Q->FX X st' (.exit id) Q')->(∀{st'},FX X st' .ret Q->FX X st' .ret Q')->∀s,F g s=some r->VX X (E s) a Q'):VX X st (.loop a) Q:=by
 refine C0m (fun z:Nat×c=>E z.2) (fun z=>I9 F z.1 z.2=some r) (fun z=>z.1) (U7,d) H (Yz e) ?_;rintro⟨m,s⟩ hz;cases m with
 | zero=>cases hz
 | succ m=>exact b _ (I9 F m) (fun {h st'} f i=>E0k (m,h) f (Nat.lt_succ_self m) (Yz i)) n0k o0P s hz
end
def j9(f:FuncId)(ps:List Par){ρ:Type}[Inhabited ρ](F:r7 ps->Option ρ)(R:ρ->AV)(Z:ρ->B0 ps):Ct:=⟨f,ps,fun x=>⟨(F x).isSome=true,R (vl (F x)),Z (vl (F x))⟩⟩
def N0j(X:Cx)(Γ:o4)(rs:List ResultVar)(ps:List Par){ρ:Type}(R:ρ->AV)(Z:ρ->B0 ps)(r:ρ)(x:Exit)(Q:Exit->Act->World->Prop):Prop :=
 ∀{st:St} {e:ρ},some e=some r->NZ Γ st rs ps (R e) (Z e)=some (R e,Z e)->FX X st x Q
theorem okl{P:Program}{Γ:o4}(i:w9 P Γ){f:FuncId}{ps:List Par}{ρ:Type}[Inhabited ρ]{F:r7 ps->Option ρ}{R:ρ->AV}{Z:ρ->B0 ps}{d:Func}{a:Code}{n:Nat}(rs:List ResultVar)
  (m:P.funcs[f]?=some d) (q:d.ntmps=n) (t:d.body=some a) (s:d.results=rs.toArray) (b:Al P f=true) (k:(Nat.ble ps.length n&&Z4 ps)=true)
  (h:∀y x r,F x=some r->∀Q,N0j (cx P n y) Γ rs ps R Z r .normal Q->N0j (cx P n y) Γ rs ps R Z r .ret Q->VX (cx P n y) ⟨K6 0 ps x,H4 0 ps x⟩ a Q):Ok P (j9 f ps F R Z):=by
 refine K0L (c:=j9 f ps F R Z) i rs m q t s b k (fun y x u g Q l=>?_);have o:=u0t u;refine h y x _ o Q ?_ ?_
 ·intro j e b g;cases b;exact(l j (SD g)).1
 ·intro j e b g;cases b;exact(l j (SD g)).2
mutual
def frz:AV->AV
 | .ow _ fr t xs=>.d (fr||D2 t) (.sl t) xs
 | .agg xs=>.agg (frzs xs)
 | .tup xs=>.tup (frzs xs)
 | a=>a
def frzs:List AV->List AV
 | []=>[]
 | a :: r=>frz a :: frzs r
end
mutual
def Kb:AV->Bool
 | .ob ..=>false
 | .agg xs=>Oa xs
 | .tup xs=>Oa xs
 | _=>true
def Oa:List AV->Bool
 | []=>true
 | a :: r=>Kb a&&Oa r
end
theorem SG{w:World}{T:TypeId}{t:Ty}{g:Option Nat}{u:Value}{xs:List (j5 t)}{cs:List Value}{K:Nat->Prop}(a:Own w T (sz t) g u xs.length cs)(e:AllR (RT K w t) cs xs)(k:∀b,g=some b->K b):RT K w (.sl t) [u] xs:=by
 cases g with
 | none =>
   rcases a with ⟨_,i,_,p,l⟩ | ⟨b,_,_,_,hb,_⟩
   ·have:xs=[]:=List.eq_nil_of_length_eq_zero i;subst this;exact⟨p,0,by grind,Nat.le_refl _,by omega,.inl rfl⟩
   grind
 | some b =>
   obtain⟨j,f,d,c⟩:=a.at;rcases a with ⟨h,_⟩ | ⟨b',o1,cap,cur,hb,hv2,k1,k2,k3,k4,k5⟩
   ·cases h
   ·cases hb;rw[hv2] at d; cases d;exact⟨_,f,by rw[hv2],k2,(by grind[maxLen]),.inr ⟨b,j,cs,rfl,k b rfl,c,e⟩⟩
mutual
theorem ResR.frz{K K':Bool->Nat->Prop}{w:World}(f:∀fr k,K fr k->K' fr k):∀{a:AV} {u:Value} {gs:List (Option Nat)},Kb a=true->(∀b,some b∈gs->∀fr,K' fr b)->ResR K w a u gs->ResR K' w (Xv.frz a) u []
 | .v _,_,_,_,_,h=>⟨h.1,rfl⟩
 | .d fr t x,u,gs,_,_,⟨h,_⟩=>⟨RT.up h (f fr),rfl⟩
 | .agg xs,u,gs,hn,hg,⟨us,e,h⟩=>⟨us,e,ResRs.frz f (by grind[Kb]) hg h⟩
 | .ob _ _,_,_,hn,_,_=>by grind[Kb]
 | .tup xs,u,gs,hn,hg,⟨us,e,h⟩=>⟨us,e,ResRs.frz f (by grind[Kb]) hg h⟩
 | .ow T fr t xs,u,gs,_,hg,⟨g,cs,e,_,hO,hA⟩=>by
   refine⟨SG hO (hA.mapR (fun c x j=>?_)) (fun b i=>hg b (by grind) _),rfl⟩
   grind[D2,RT.free,RT.up]
theorem ResRs.frz{K K':Bool->Nat->Prop}{w:World}(c:∀fr k,K fr k->K' fr k):∀{as':List AV} {us:List Value} {gs:List (Option Nat)},Oa as'=true->(∀b,some b∈gs->∀fr,K' fr b)->ResRs K w as' us gs->ResRs K' w (Xv.frzs as') us []
 | [],us,gs,_,_,h=>⟨h.1,rfl⟩
 | a :: r,us,gs,hn,hg,⟨u,us',g1,g2,e1,e2,h1,h2⟩=>by
   simp only[Oa,ba] at hn;exact⟨u,us',[],[],e1,rfl,ResR.frz c hn.1 (fun b d=>hg b (by grind)) h1,ResRs.frz c hn.2 (fun b d=>hg b (by grind)) h2⟩
end
theorem IOR.up{K K':Nat->Prop}{w:World}{go:Option Nat}(a:∀k,K k->K' k):∀{ps:List Par} {z:B0 ps},IOR K w go ps z->IOR K' w go ps z
 | [],_,_=>trivial
 | .io _ _ :: _,_,⟨b,cs,h1,h2,h3⟩=>⟨b,cs,h1,h2,RT.up h3 a⟩
 | .dat _ :: r,_z,h=>IOR.up (ps:=r) a h
 | .agg _ :: r,_z,h=>IOR.up (ps:=r) a h
 | .fn _ _ :: r,_z,h=>IOR.up (ps:=r) a h
 | .nof _ :: r,_z,h=>IOR.up (ps:=r) a h
 | .nil :: r,_z,h=>IOR.up (ps:=r) a h
 | .os _ _ :: r,_z,h=>IOR.up (ps:=r) a h
theorem ResR.lt{K:Bool->Nat->Prop}{w:World}:∀{a:AV} {u:Value} {gs:List (Option Nat)},ResR K w a u gs->∀b,some b∈gs->UF w b:=by
 suffices H:(∀(a:AV) {u:Value} {gs:List (Option Nat)},ResR K w a u gs->∀b,some b∈gs->UF w b) from fun {a}=>H a
 intro a;refine AV.rec (motive_1:=fun a=>∀{u:Value} {gs:List (Option Nat)},ResR K w a u gs->∀b,some b∈gs->UF w b) (motive_2:=fun l=>∀{d:List Value} {gs:List (Option Nat)},ResRs K w l d gs->∀b,some b∈gs->UF w b) ?_ ?_ ?_ ?_ ?_ ?_ ?_ ?_ ?_ ?_ ?_ ?_ ?_ ?_ a
 ·intro x u gs h b c; rw[h.2] at c; cases c
 ·intro j t x u gs h b c; rw[h.2] at c; cases c
 ·intro f i u gs h b c; obtain⟨d,_,h⟩:=h; grind
 ·intro f i u gs h b c; obtain⟨d,_,h⟩:=h; grind
 ·intro _ _ u gs h; exact h.elim
 ·intro _ _ _ _ _ u gs h; exact h.elim
 ·intro _ _ u gs h; exact h.elim
 ·intro _ _ _ u gs h; exact h.elim
 ·intro T j t f u gs h b c;obtain⟨g,s,e,_,v,_⟩:=h
  grind[List.mem_singleton,FO]
 ·intro _ _ u gs h; exact h.elim
 ·intro _ u gs h; exact h.elim
 ·intro T f i u gs h b c;obtain⟨G,d,k,e,_,E,h⟩:=h
  grind[Xp]
 ·intro d gs h b c; rw[h.2] at c; cases c
 ·intro a r m n d gs h b c;obtain⟨u,o,q,F,_,z,P,y⟩:=h
  grind
theorem TL{P:Program}{f:FuncId}{ps:List Par}{ρ:Type}[Inhabited ρ]{F:r7 ps->Option ρ}{R:ρ->AV}{Z:ρ->B0 ps}(h:Ok P (j9 f ps F R Z))(G:F1 ps=false:=by rfl)(i:∀r,Kb (R r)=true:=by intro _; rfl):Ok P (j9 f ps F (fun r=>frz (R r)) Z):=by
 refine⟨h.1,fun x z w q s K u y=>?_⟩;refine Calls.mono (h.2 x z w q s K u y) ?_;rintro H T ⟨v,t,e,E,Q,j,m,n⟩;have d:=ResR.lt m;have j:∀b,some b∈t->w.heap.size<=b:=fun b c=>(j b c).resolve_right (fun h=>by have l:F1 ps=true:=h.1; rw[G] at l; cases l);refine⟨v,[],e,E,trivial,(fun b c=>nomatch c),ResR.frz (fun o k a=>⟨a.1,a.2.1,by simp⟩) (i _) (fun b c o=>⟨.inr (j b c),(d b c).g,by simp⟩) m,IOR.up (fun k a=>⟨a.1,a.2.1,by simp,a.2.2.2⟩) n⟩
mutual
def Ao(id ver:Nat)(fr:Bool)(t:Ty)(xs:List (j5 t)):AV->Option AV
 | .os i v=>bif Nat.beq i id then(bif Nat.beq v ver then some (.d fr (.sl t) xs) else none) else some (.os i v)
 | .pel i v k s off=>bif Nat.beq i id then none else some (.pel i v k s off)
 | .agg l=>Q6 .agg (DT id ver fr t xs l)
 | .tup l=>Q6 .tup (DT id ver fr t xs l)
 | .fn f l=>Q6 (.fn f) (DT id ver fr t xs l)
 | .ptr i off=>bif Nat.beq i id then none else some (.ptr i off)
 | .v x=>some (.v x)
 | .d fr t x=>some (.d fr t x)
 | .ow T fr t x=>some (.ow T fr t x)
 | .ob T l=>some (.ob T l)
 | .og i=>bif Nat.beq i id then some (.d fr (.sl t) xs) else some (.og i)
 | .gel i k=>bif Nat.beq i id then none else some (.gel i k)
def DT(id ver:Nat)(fr:Bool)(t:Ty)(xs:List (j5 t)):List AV->Option (List AV)
 | []=>some []
 | a :: r=>match Ao id ver fr t xs a with
   | some b=>Q6 (b :: ·) (DT id ver fr t xs r)
   | none=>none
end
def Kc(id ver:Nat)(fr:Bool)(t:Ty)(xs:List (j5 t)):List (Nat×Sl)->List (Nat×Sl)
 | []=>[]
 | (k,s) :: r=>match Ao id ver fr t xs s.a with
   | some b=>(k,⟨s.p,b⟩) :: Kc id ver fr t xs r
   | none=>Kc id ver fr t xs r
def Ch(id ver:Nat)(fr:Bool)(t:Ty)(xs:List (j5 t)):List (Nat×Ob)->Option (List (Nat×Ob))
 | []=>some []
 | (k,o) :: r=>bif Nat.beq k id then Ch id ver fr t xs r else(match o with
   | .box T cs=>match DT id ver fr t xs cs with
     | some cs'=>Q6 ((k,.box T cs') :: ·) (Ch id ver fr t xs r)
     | none=>none
   | o=>Q6 ((k,o) :: ·) (Ch id ver fr t xs r))
def Oc:List (Nat×Sl)->Bool
 | []=>true
 | (k,_) :: r=>(r.all fun x=>!Nat.beq x.1 k)&&Oc r
def Gl(id:Nat)(st:St):Option St:=match b9 st.o id with
 | some (.arr _ fr t xs ver)=>bif Oc st.e then(match Ch id ver (fr||D2 t) t xs st.o with
   | some o=>some ⟨Kc id ver (fr||D2 t) t xs st.e,o⟩
   | none=>none) else none
 | some (.grd _ _ fr t xs none)=>bif Oc st.e then(match Ch id 0 (fr||D2 t) (.sl t) xs st.o with
   | some o=>some ⟨Kc id 0 (fr||D2 t) (.sl t) xs st.e,o⟩
   | none=>none) else none
 | _=>none
section
variable {X:Cx} {G:Gh} {id ver:Nat} {fr:Bool} {t:Ty} {xs:List (j5 t)}
def Ke(G:Gh)(id:Nat)(o:List (Nat×Ob)):Gh:=⟨G.ρ,G.γ,fun k=>G.K k∨G.γ id=some k∨(H7 (b9 G.o id)=true/\G.δ id k),G.w,o,G.B,G.δ⟩
theorem DU{o:List (Nat×Ob)}:∀{l r:List (Nat×Ob)},Ch id ver fr t xs l=some r->∀i,(i=id->b9 r i=none)/\(i≠id->match b9 l i with
  | some (.box T cs)=>∃cs',DT id ver fr t xs cs=some cs'/\b9 r i=some (.box T cs')
  | some o=>b9 r i=some o
  | none=>b9 r i=none)
 | [],r,h,i=>by
   simp only[Ch,oi] at h;subst h;exact⟨fun _=>rfl,fun _=>rfl⟩
 | (k,ob) :: l,r,h,i=>by
   unfold Ch at h;rw[ce] at h;split at h
   ·rename_i a;have a:=nb a;obtain⟨b,c⟩:=DU (o:=o) h i;refine⟨b,fun hi=>?_⟩;rw[lK,if_neg (by omega)]
    grind
   ·rename_i a;have a:k≠id:=fun e=>a (by simp_all);split at h
    ·rename_i T cs;split at h
     ·rename_i cs' d;obtain⟨z,hz,rfl⟩:=S9 h;obtain⟨b,c⟩:=DU (o:=o) hz i;refine⟨fun hi=>?_,fun hi=>?_⟩
      ·rw[lK,if_neg (by rw[hi]; exact a)]; exact b hi
      ·rw[lK,lK];by_cases e:k=i
       ·rw[if_pos e,if_pos e]; exact⟨cs',d,rfl⟩
       ·rw[if_neg e,if_neg e]; exact c hi
     ·cases h
    ·rename_i g;obtain⟨z,hz,rfl⟩:=S9 h;obtain⟨b,c⟩:=DU (o:=o) hz i;refine⟨fun hi=>?_,fun hi=>?_⟩
     ·rw[lK,if_neg (by rw[hi]; exact a)]; exact b hi
     ·rw[lK,lK];by_cases e:k=i
      ·rw[if_pos e,if_pos e];cases ob with
       | box T cs=>exact(g T cs rfl).elim
       | arr T f j x v=>rfl
       | grd T m f j x h=>rfl
      ·rw[if_neg e,if_neg e]; exact c hi
def Od(G:Gh)(id ver:Nat)(fr:Bool)(t:Ty)(xs:List (j5 t))(o':List (Nat×Ob)):Prop:=∀u,AVR G (.os id ver) u∨AVR G (.og id) u->AVR (Ke G id o') (.d fr (.sl t) xs) u
mutual
theorem YB{o':List (Nat×Ob)}(g:Od G id ver fr t xs o')(hz:Ch id ver fr t xs G.o=some o'):∀{a b:AV} {u:Value},Ao id ver fr t xs a=some b->AVR G a u->AVR (Ke G id o') b u
 | .os i v,b,u,h,c=>by
   unfold Ao at h;rw[ce] at h;have E:=c;obtain⟨H,w,m,y,j,q,n,r,Q⟩:=c;split at h
   ·rename_i hi;have hi:=nb hi;subst hi;rw[ce] at h;split at h
    ·rename_i V;have V:=nb V;subst V;cases h;exact g u (.inl E)
    grind
   ·rename_i hi;cases h;have hi:i≠id:=fun e=>hi (by simp_all);have:=(DU (o:=G.o) hz i).2 hi;rw[n] at this;exact⟨H,w,m,y,j,q,this,r,Q⟩
 | .og i,b,u,h,c=>by
   unfold Ao at h;rw[ce] at h;have E:=c;obtain⟨H,⟨w,Te1,m,y,j,F,n⟩,r⟩:=c;split at h
   ·rename_i hi;have hi:=nb hi;subst hi;cases h;exact g u (.inr E)
   ·rename_i hi;cases h;have hi:i≠id:=fun e=>hi (by simp_all);have:=(DU (o:=G.o) hz i).2 hi;rw[n] at this;exact⟨H,⟨w,Te1,m,y,j,F,this⟩,r⟩
 | .gel i k,b,u,h,c=>by
   unfold Ao at h;rw[ce] at h;obtain⟨⟨w,Te1,m,y,j,F,n⟩,r⟩:=c;split at h
   ·cases h
   ·rename_i hi;cases h;have hi:i≠id:=fun e=>hi (by simp_all);have:=(DU (o:=G.o) hz i).2 hi;rw[n] at this;exact⟨⟨w,Te1,m,y,j,F,this⟩,r⟩
 | .pel i v k s off,b,u,h,c=>by
   unfold Ao at h;rw[ce] at h;obtain⟨H,w,m,y,j,q,n,r,Q⟩:=c;split at h
   ·cases h
   ·rename_i hi;cases h;have hi:i≠id:=fun e=>hi (by simp_all);have:=(DU (o:=G.o) hz i).2 hi;rw[n] at this;exact⟨H,w,m,y,j,q,this,r,Q⟩
 | .ptr i off,b,u,h,c=>by
   unfold Ao at h;rw[ce] at h;obtain⟨⟨w,X,n⟩,r⟩:=c;split at h
   ·cases h
   ·rename_i hi;cases h;have hi:i≠id:=fun e=>hi (by simp_all);have:=(DU (o:=G.o) hz i).2 hi;rw[n] at this;obtain⟨T,_,Q⟩:=this;exact⟨⟨w,T,Q⟩,r⟩
 | .agg l,b,u,h,c=>by
   unfold Ao at h;obtain⟨z,n,rfl⟩:=S9 h;obtain⟨P,e,c⟩:=c;exact⟨P,e,Oe g hz n c⟩
 | .tup l,b,u,h,c=>by
   unfold Ao at h;obtain⟨z,n,rfl⟩:=S9 h;obtain⟨P,e,c⟩:=c;exact⟨P,e,Oe g hz n c⟩
 | .fn f l,b,u,h,c=>by
   unfold Ao at h;obtain⟨z,n,rfl⟩:=S9 h;obtain⟨P,e,c⟩:=c;exact⟨P,e,Oe g hz n c⟩
 | .v x,b,u,h,c=>by unfold Ao at h; cases h; exact c
 | .d f t' x,b,u,h,c=>by
   unfold Ao at h; cases h;exact RT.up c (fun k W=>⟨.inl W.1,W.2⟩)
 | .ow ..,b,u,h,c=>c.elim
 | .ob ..,b,u,h,c=>c.elim
theorem Oe{o':List (Nat×Ob)}(c:Od G id ver fr t xs o')(hz:Ch id ver fr t xs G.o=some o'):∀{as' bs:List AV} {us:List Value},DT id ver fr t xs as'=some bs->AVRs G as' us->AVRs (Ke G id o') bs us
 | [],bs,us,h,hu=>by
   simp only[DT,oi] at h;subst h; exact hu
 | a :: r,bs,us,h,⟨u,us',e,h1,h2⟩=>by
   unfold DT at h;split at h
   ·rename_i b f;obtain⟨z,d,rfl⟩:=S9 h;exact⟨u,us',e,YB c hz f h1,Oe c hz d h2⟩
   grind
end
theorem y0t{T:TypeId}{f:Bool}(S:Sat X G)(h:b9 G.o id=some (.arr T f t xs ver))(q:fr=(f||D2 t))(o':List (Nat×Ob)):Od G id ver fr t xs o':=fun u n=>by
 rcases n with ⟨F,P,l,H,s,i,d,E,w⟩ | ⟨_,⟨_,_,_,_,_,_,d⟩,_⟩
 ·rw[h] at d;cases d;rw[w rfl];obtain⟨y,m,r,j⟩:=S.obs id _ h;refine SG m (r.mapR (fun c x v=>?_)) (fun b g=>⟨.inr (.inl g),fun _=>j b g⟩);subst q;by_cases z:D2 t=true
  ·grind[RT.free]
  ·exact RT.up v (fun k a=>⟨.inl a.1,fun e=>a.2 (by grind)⟩)
 grind
theorem w0I{a:Type}{R:List Value->a->Prop}:∀{vs:List Value} {xs:List a},vs.length=xs.length->(∀(k:Nat) v x,vs[k]?=some v->xs[k]?=some x->R [v] x)->AllR R vs xs
 | [],[],_,_=>rfl
 | v :: vs,x :: xs,hl,h=>⟨[v],vs,rfl,h 0 v x rfl rfl,w0I (by grind) (fun k b c e d=>h (k+1) b c e d)⟩
 | [],_ :: _,hl,_=>by grind
 | _ :: _,[],hl,_=>by grind
theorem y0s{T Te:TypeId}{j:Bool}{xs:List (List (j5 t))}(S:Sat X G)(n:b9 G.o id=some (.grd T Te j t xs none))(Q:fr=(j||D2 t))(o':List (Nat×Ob)):Od G id ver fr (.sl t) xs o':=fun u E=>by
 rcases E with ⟨h0,T1,y,t1,V,r,h1,h2,q⟩ | ⟨_,_,q⟩
 ·grind
 ·rw[q];obtain⟨F,Y,z,i,w⟩:=S.obs id _ n;refine SG (t:=.sl t) z (w0I i.len (fun k v x P g=>?_)) (fun b a=>⟨.inr (.inl a),fun _=>w b a⟩);have f:k<xs.length:=by
   rcases Nat.lt_or_ge k xs.length with h | h
   ·exact h
   ·rw[List.getElem?_eq_none h] at g; cases g
  obtain⟨cs,l,s,H⟩:=i.row k f (fun h=>by cases h);have ev:F.getD k (.bool false)=v:=by rw[gq,P]; rfl
  have m:xs.getD k []=x:=by rw[gq,g]; rfl
  rw[ev,m] at l;rw[m] at s;refine SG l (s.mapR (fun c x W=>?_)) (fun b a=>⟨.inr (.inr ⟨by rw[n]; rfl,(i.blk b).2 ⟨k,f,(fun h=>by cases h),a⟩⟩),fun _=>H b a⟩);subst Q;by_cases f:D2 t=true
  ·grind[RT.free]
  ·exact RT.up W (fun k d=>⟨.inl d.1,fun e=>d.2 (by grind)⟩)
theorem B0Z{aF:Ob}{o':List (Nat×Ob)}(S:Sat X G)(ho:b9 G.o id=some aF)(Q:∀k,G.γ id=some k->UF G.w k/\G.B<=k)(P:Od G id ver fr t xs o')(hz:Ch id ver fr t xs G.o=some o')(aG:Nat.blt id 500000=true):Sat X (Ke G id o'):=by
 have E:=DU (o:=G.o) hz;have d:∀i m,b9 o' i=some m->i≠id/\∃n,b9 G.o i=some n:=fun i m h=>by
  grind
 have W:∀i,H7 (b9 o' i)=true->i≠id/\H7 (b9 G.o i)=true:=fun i r=>by
  grind[NA,hi]
 refine⟨S.base,S.os,S.tape,S.output,S.size,S.block,?_,?_,?_,?_,?_,?_,?_,?_⟩
 ·intro i m h;obtain⟨hi,n,l⟩:=d i m h;have:=(E i).2 hi;rw[l] at this;have y:=S.obs i n l;cases n with
  | box Y aI =>
    obtain⟨H,e1,e2⟩:=this;have h:b9 o' i=some m:=h;rw[e2] at h;cases h;obtain⟨b,us,z,u,V,g4⟩:=y;exact⟨b,us,z,u,V,Oe P hz e1 g4⟩
  | arr Y aB t1 aJ aL =>
    simp only at this;have h:b9 o' i=some m:=h;rw[this] at h;cases h;obtain⟨cs,z,u,V⟩:=y;exact⟨cs,z,u.mapR (fun c x hr=>RT.up hr (fun k a=>⟨.inl a.1,a.2⟩)),V⟩
  | grd Y Te1 aB t1 aJ aC =>
    simp only at this;have h:b9 o' i=some m:=h;rw[this] at h;cases h;obtain⟨vs,bs,z,u,V⟩:=y;refine⟨vs,bs,z,⟨u.len,u.blk,u.inj,fun k a hh=>?_,u.one⟩,V⟩;obtain⟨cs,r1,r2,r3⟩:=u.row k a hh;exact⟨cs,r1,r2.mapR (fun c x hr=>RT.up hr (fun k a=>⟨.inl a.1,a.2⟩)),r3⟩
 ·intro i i' m n b h h' q aH;obtain⟨_,s,l⟩:=d i m h;obtain⟨_,o2,h2⟩:=d i' n h';exact S.inj i i' s o2 b l h2 q aH
 ·intro i m b h q a;obtain⟨hi,s,l⟩:=d i m h;rcases a with a | a | ⟨r,a⟩
  ·exact S.imm i s b l q a
  ·exact hi (S.inj i id s _ b l ho q a)
  ·exact(S.sep id b a r).2.2.1 i s l q
 ·intro i m b h q;obtain⟨_,s,l⟩:=d i m h;exact S.own i s b l q
 ·intro k a;rcases a with a | a | ⟨r,a⟩
  ·exact S.klt k a
  ·exact(Q k a).1.g
  ·exact(S.duf a r).g
 ·intro k a;rcases a with a | a | ⟨r,a⟩
  ·exact S.kfrom k a
  ·exact .inr (by rw[<- S.base.1]; exact(Q k a).2)
  ·obtain⟨T,Te,f,t,xs,aK,e⟩:=NA r;obtain⟨vs,bs,_,hR,_⟩:=S.obs id _ e;obtain⟨j,F,hh,q⟩:=(hR.blk k).1 a;obtain⟨_,_,_,h3⟩:=hR.row j F hh;exact .inr (by rw[<- S.base.1]; exact h3 k q)
 ·intro i b q r;obtain⟨hi,r⟩:=W i r;obtain⟨s1,s2,s3,s4⟩:=S.sep i b q r;refine⟨s1,?_,fun j o F aA=>?_,fun j F aD=>s4 j F (W j aD).2⟩
  ·rintro(a | a | ⟨aM,a⟩)
   ·grind
   ·grind
   grind
  ·obtain⟨_,s,l⟩:=d j o F;exact s3 j s l aA
 ·intro i v hv;obtain⟨⟨Y,aI,l⟩,h2⟩:=S.pin i v hv;have hi:500000+i≠id:=fun e=>by
   have:id<500000:=by simpa using aG
   omega
  have:=(E (500000+i)).2 hi;rw[l] at this;obtain⟨H,_,e⟩:=this;exact⟨⟨Y,H,e⟩,h2⟩
theorem SH:∀{e:List (Nat×Sl)},Oc e=true->∀{k:Nat} {s:Sl},b9 (Kc id ver fr t xs e) k=some s->∃a,b9 e k=some ⟨s.p,a⟩/\Ao id ver fr t xs a=some s.a
 | [],_,k,s,h=>by cases h
 | (j,s0) :: r,hn,k,s,h=>by
   simp only[Oc,ba,List.all_eq_true,Bool.not_eq_true'] at hn;unfold Kc at h;split at h
   ·rename_i b f;rw[lK] at h ⊢;split at h
    ·rename_i e;cases h;exact⟨s0.a,by simp_all,f⟩
    ·rename_i e;rw[if_neg e];exact SH hn.2 h
   ·obtain⟨a,m,c⟩:=SH hn.2 h;refine⟨a,?_,c⟩;rw[lK];split
    ·rename_i e;exfalso;have:∀{e:List (Nat×Sl)},(∀x∈e,Nat.beq x.1 j=false)->b9 e j=none:=by
      intro e
      induction e with
      | nil=>intro _; rfl
      | cons y r g =>
        intro i;obtain⟨d,v⟩:=y;rw[lK,if_neg]
        ·grind
        ·intro l
         simp_all
     grind
    omega
end
theorem YC{X:Cx}{st st':St}{id:Nat}(h:Gl id st=some st')(l:Nat.blt id 500000=true){G:Gh}{a:Act}(S:Sat X G)(u:G.o=st.o)(i:EnvR X.n G st.e a):∃G',Sat X G'/\G'.o=st'.o/\G'.w=G.w/\EnvR X.n G' st'.e a:=by
 unfold Gl at h;split at h
 ·rename_i T x t F ver d;rw[ce] at h;split at h
  ·rename_i q;split at h
   ·rename_i j hz;cases h;rw[<- u] at d hz;have c:=y0t S d rfl j;obtain⟨z,m,v,f⟩:=S.obs id _ d;refine⟨Ke G id j,B0Z S d (fun k g=>⟨by grind[FO],f k g⟩) c hz l,rfl,rfl,i.defers,i.size,fun k s g=>?_⟩;obtain⟨b,r,y⟩:=SH q g;obtain⟨Q,E⟩:=i.val k _ r
    grind[YB]
   grind
  grind
 ·rename_i T W x t F d;rw[ce] at h;split at h
  ·rename_i q;split at h
   ·rename_i j hz;cases h;rw[<- u] at d hz;have c:=y0s (ver:=0) S d rfl j;obtain⟨H,P,m,V,f⟩:=S.obs id _ d;refine⟨Ke G id j,B0Z S d (fun k g=>⟨by grind[FO],f k g⟩) c hz l,rfl,rfl,i.defers,i.size,fun k s g=>?_⟩;obtain⟨b,r,y⟩:=SH q g;obtain⟨Q,E⟩:=i.val k _ r
    grind[YB]
   grind
  grind
 grind
theorem fz{X:Cx}{st:St}{c:Code}{Q:Exit->Act->World->Prop}(id:Nat)(st':St)(h:Gl id st=some st')(b:Nat.blt id 500000=true)(k:VX X st' c Q):VX X st c Q:=fun G a S j f=>by
 obtain⟨i,g,d,l,e⟩:=YC h b S j f;have:=k i a g d e
 grind
theorem N0f{X:Cx}{st:St}{c:Code}{Q:Exit->Act->World->Prop}{ρ:Type}{r:ρ}(H:none=some r):VX X st c Q:=by cases H
def Kg:List Par->Bool
 | []=>true
 | .dat (.int _) :: r=>Kg r
 | .dat .bool :: r=>Kg r
 | .dat .str :: r=>Kg r
 | _=>false
def sc:(ps:List Par)->r7 ps->List Value
 | [],_=>[]
 | .dat (.int k) :: r,x=>.int k x.1 :: sc r x.2
 | .dat .bool :: r,x=>.bool x.1 :: sc r x.2
 | .dat .str :: r,x=>.string x.1 :: sc r x.2
 | _ :: r,x=>sc r x.2
theorem SI{K:Nat->Prop}{w:World}:∀{ps:List Par} {x:r7 ps} {vs:List Value} {go:Option Nat},Kg ps=true->ArgsR K w go ps x vs->vs=sc ps x/\go=none
 | [],x,vs,go,_,h=>h
 | .dat (.int k) :: r,x,vs,go,hs,⟨v,us,e,a,h⟩=>by
   obtain⟨c,b⟩:=SI (ps:=r) hs h;refine⟨?_,b⟩;rw[e,c];have a:=a.1;simp only[List.cons.injEq,and_true] at a;rw[a]; rfl
 | .dat .bool :: r,x,vs,go,hs,⟨v,us,e,a,h⟩=>by
   obtain⟨c,b⟩:=SI (ps:=r) hs h;refine⟨?_,b⟩;rw[e,c];have a:[v]=_:=a;simp only[List.cons.injEq,and_true] at a;rw[a]; rfl
 | .dat .str :: r,x,vs,go,hs,⟨v,us,e,a,h⟩=>by
   obtain⟨c,b⟩:=SI (ps:=r) hs h;refine⟨?_,b⟩;rw[e,c];have a:=a.1;simp only[List.cons.injEq,and_true] at a;rw[a]; rfl
theorem SJ{K:Nat->Prop}{w:World}{go:Option Nat}:∀{ps:List Par} (z:B0 ps),Kg ps=true->IOR K w go ps z
 | [],_,_=>trivial
 | .dat (.int _) :: r,z,h=>SJ (ps:=r) z h
 | .dat .bool :: r,z,h=>SJ (ps:=r) z h
 | .dat .str :: r,z,h=>SJ (ps:=r) z h
theorem B0M{P:Program}{f:FuncId}{ps:List Par}{ρ:Type}[Inhabited ρ]{F:r7 ps->Option ρ}{t:Ty}{D:ρ->j5 t}{Z:ρ->B0 ps}(a:Kg ps=true)(n:Al P f=true)
  (h:∀x r w,F x=some r->wfs ps x->Calls P f (sc ps x).toArray w fun en w'=>∃v,en=.returned v/\Ext w w'/\RT (fun _=>False) w' t [v] (D r)):Ok P (j9 f ps F (fun r=>.d true t (D r)) Z):=by
 refine⟨n,fun x m w s o K q c=>?_⟩;obtain⟨rfl,rfl⟩:=SI a c;refine Calls.mono (h x _ w (u0t m) c.wfs) ?_;rintro en w' ⟨v,e,g,l⟩;exact⟨v,[],e,WE.of_ext g,trivial,(fun b j=>nomatch j),⟨RT.up l (fun k i=>i.elim),rfl⟩,SJ _ a⟩
theorem H0M{K:Nat->Prop}{w:World}{k:IntKind}{x:Int}(h:lo k<=x/\x<=hi k):RT K w (.int k) [.int k x] x:=⟨rfl,h⟩
theorem H0L{K:Nat->Prop}{w:World}{s:ByteArray}(h:s.size<=9223372036854775807):RT K w .str [.string s] s:=⟨rfl,h⟩
end Go.Proofs.Xv
end
section
namespace Go.Proofs.Xl
instance M0W{α β:Type}[Inhabited α]:Inhabited (α ⊕ β):=⟨.inl default⟩
def Mi{α β:Type}:Option (α ⊕ β)->Bool
 | some (.inl _)=>true
 | _=>false
def UX{α β:Type}:Option (α ⊕ β)->Bool
 | some (.inr _)=>true
 | _=>false
def vL{α β:Type}[Inhabited α]:Option (α ⊕ β)->α
 | some (.inl a)=>a
 | _=>default
def vR{α β:Type}[Inhabited β]:Option (α ⊕ β)->β
 | some (.inr b)=>b
 | _=>default
def two{α β γ:Type}(f:α->γ)(g:β->γ):α ⊕ β->γ
 | .inl a=>f a
 | .inr b=>g b
end Go.Proofs.Xl
namespace Go.Proofs.Xv
open Go Go.RowKit Go.Proofs.Sv Go.Proofs.Xl
def UT(f:FuncId)(ps:List Par){α β:Type}[Inhabited α](F:r7 ps->Option (α ⊕ β))(R:α->AV)(z:B0 ps):Ct:=⟨f,ps,fun x=>⟨Mi (F x)=true,R (vL (F x)),z⟩⟩
def UU(f:FuncId)(ps:List Par){α β:Type}[Inhabited β](F:r7 ps->Option (α ⊕ β))(R:β->AV)(z:B0 ps):Ct:=⟨f,ps,fun x=>⟨UX (F x)=true,R (vR (F x)),z⟩⟩
theorem O0e{P:Program}{f:FuncId}{ps:List Par}{d e:Type}[Inhabited (d ⊕ e)][Inhabited d]{F:r7 ps->Option (d ⊕ e)}{g:d->AV}{RB:e->AV}{z:B0 ps}(h:Ok P (j9 f ps F (two g RB) (fun _=>z))):Ok P (UT f ps F g z):=by
 refine⟨h.1,fun x c w l i K j k=>?_⟩;have c:Mi (F x)=true:=c;cases hF:F x with
 | none=>rw[hF] at c; cases c
 | some s =>
   cases s with
   | inr b=>rw[hF] at c; cases c
   | inl a =>
     have:=h.2 x (show(F x).isSome=true by grind) w l i K j k;simp only[j9,UT] at this ⊢;rw[hF] at this ⊢;exact this
theorem O0d{P:Program}{f:FuncId}{ps:List Par}{e d:Type}[Inhabited (e ⊕ d)][Inhabited d]{F:r7 ps->Option (e ⊕ d)}{j:e->AV}{RB:d->AV}{z:B0 ps}(h:Ok P (j9 f ps F (two j RB) (fun _=>z))):Ok P (UU f ps F RB z):=by
 refine⟨h.1,fun x c w l g K i k=>?_⟩;have c:UX (F x)=true:=c;cases hF:F x with
 | none=>rw[hF] at c; cases c
 | some s =>
   cases s with
   | inl b=>rw[hF] at c; cases c
   | inr a =>
     have:=h.2 x (show(F x).isSome=true by grind) w l g K i k;simp only[j9,UU] at this ⊢;rw[hF] at this ⊢;exact this
theorem sp{X:Cx}{st:St}{c:Code}{Q:Exit->Act->World->Prop}{ρ:Type}{r:ρ}{b:Bool}{d a:Option ρ}(H:(if b=true then d else a)=some r)(e:d=some r->VX X st c Q)(f:a=some r->VX X st c Q):VX X st c Q:=by
 grind
end Go.Proofs.Xv
end
section
namespace Go.Proofs.Xv
open Go Go.RowKit Go.Proofs.Sv Go.Proofs.Xl
abbrev Z(e:List (Nat×Sl))(o:List (Nat×Ob)):St:=⟨e,o⟩
abbrev R(i:Nat):AV:=.ptr i 0
abbrev O(i:Nat):AV:=.os i 0
abbrev A(T:TypeId)(t:Ty)(xs:List (j5 t))(v:Nat):Ob:=.arr T true t xs v
abbrev K(T:TypeId)(t:Ty)(x:j5 t):Ob:=.box T (p9 false t x)
class HG(P:Program)(Γ:outParam o4):Prop where
 h:w9 P Γ
class HT(P:Program)(T:outParam (List Ct)):Prop where
 h:∀c∈T,Ok P c
def SK(st:St):List Nat:=st.e.map Prod.fst
section
variable {P:Program} {n:Nat} {y:World×(Nat->Prop)×(Nat->Prop)×(Nat->Value->Prop)×Nat} {st:St} {Q:Exit->Act->World->Prop} {Γ:o4} {T:List Ct} {ρ α:Type} {r:ρ}
theorem zD[a:HG P Γ][d:HT P T][e:J7 P](S:α->St){V:Prop}[Decidable V]{x:α}{f:α->Option ρ}{id:Nat}{l:List Oper}{b:Bool}(H:gd V (lt x f)=some r)(c:∀v,f v=some r->FX (cx P n y) (S v) .normal Q)(h:H8 b n Γ T l (SK (S x)) st=some (V,S x):=by kernel_rfl):VX (cx P n y) st (.region id l.toArray b) Q:=zd a.h d.h _ S H h c
theorem qB[a:HG P Γ][f:HT P T][g:J7 P](st':St){V:Prop}[Decidable V]{e:Option ρ}{id:Nat}{l:List Oper}{b:Bool}{c:Code}(H:gd V e=some r)(d:e=some r->VX (cx P n y) st' c Q)(h:H8 b n Γ T l (SK st') st=some (V,st'):=by kernel_rfl):VX (cx P n y) st (.seq (.region id l.toArray b) c) Q:=qb a.h f.h _ st' H h d
theorem qC[a:HG P Γ][e:HT P T][g:J7 P](S:α->St){x:α}{f:α->Option ρ}{id:Nat}{l:List Oper}{b:Bool}{c:Code}(H:lt x f=some r)(d:∀v,f v=some r->VX (cx P n y) (S v) c Q)(h:H8 b n Γ T l (SK (S x)) st=some (True,S x):=by kernel_rfl):VX (cx P n y) st (.seq (.region id l.toArray b) c) Q:=qc a.h e.h _ S H h d
theorem qD[a:HG P Γ][e:HT P T][g:J7 P](S:α->St){V:Prop}[Decidable V]{x:α}{f:α->Option ρ}{id:Nat}{l:List Oper}{b:Bool}{c:Code}(H:gd V (lt x f)=some r)(d:∀v,f v=some r->VX (cx P n y) (S v) c Q)(h:H8 b n Γ T l (SK (S x)) st=some (V,S x):=by kernel_rfl):VX (cx P n y) st (.seq (.region id l.toArray b) c) Q:=qd a.h e.h _ S H h d
theorem cD{X:Cx}{c:Operand}{a d:Code}{b:Bool}{f e:Option ρ}(H:(if b=true then f else e)=some r)(g:f=some r->VX X st a Q)(i:e=some r->VX X st d Q)(h:JZ st c=some b:=by kernel_rfl):VX X st (.cond c a d) Q:=cd H h g i
theorem jN{X:Cx}{b:Type}(r:ρ)(E:b->St)(J:b->Option ρ){a d:Code}(h:∀s,J s=some r->VX X (E s) d Q)(k:∀Q',(∀{s st'},J s=some r->(h:Gk st' (E s)=some (E s):=by kernel_rfl)->FX X st' .normal Q')->(∀{st' id},FX X st' (.exit id) Q->FX X st' (.exit id) Q')->(∀{st'},FX X st' .ret Q->FX X st' .ret Q')->VX X st a Q'):VX X st (.seq a d) Q:=jn r E J h (fun Q' n e t=>k Q' (fun H h=>n H h) e t)
theorem lX{X:Cx}{c:Type}(E:c->St)(d:c){F:(c->Option ρ)->c->Option ρ}{a:Code}(H:lp F d=some r)
 (b:∀Q' (g:c->Option ρ),(∀{s st'},g s=some r->(h:Gk st' (E s)=some (E s):=by kernel_rfl)->FX X st' .normal Q')->(∀{st' id},FX X st' (.exit id) Q->FX X st' (.exit id) Q')->(∀{st'},FX X st' .ret Q->FX X st' .ret Q')->∀s,F g s=some r->VX X (E s) a Q') (f:Gk st (E d)=some (E d):=by kernel_rfl):VX X st (.loop a) Q:=lx E d H f (fun Q' g n e t s H=>b Q' g (fun H h=>n H h) e t s H)
def SL:List Nat->St->Option St
 | [],st=>some st
 | i :: r,st=>bif Nat.blt i 500000 then(Gl i st).bind (SL r) else none
theorem M0X{X:Cx}{c:Code}{Q:Exit->Act->World->Prop}:∀(ids:List Nat) {st st':St},SL ids st=some st'->VX X st' c Q->VX X st c Q
 | [],st,st',h,k=>by cases h; exact k
 | i :: r,st,st',h,k=>by
   unfold SL at h;cases hid:Nat.blt i 500000 with
   | false=>grind
   | true =>
     rw[hid] at h;cases hz:Gl i st with
     | none=>grind
     | some s =>
       rw[hz] at h;exact fz i s hz hid (M0X r h k)
theorem fZs{X:Cx}{c:Code}(a:List Nat)(st':St)(k:VX X st' c Q)(h:SL a st=some st':=by kernel_rfl):VX X st c Q:=M0X a h k
theorem fZ{X:Cx}{c:Code}(id:Nat)(st':St)(k:VX X st' c Q)(h:Gl id st=some st':=by kernel_rfl)(a:Nat.blt id 500000=true:=by kernel_rfl):VX X st c Q:=fz id st' h a k
end
def SM(X:Cx)(Γ:o4)(rs:List ResultVar)(ps:List Par){ρ:Type}(R:ρ->AV)(Z:ρ->B0 ps)(r:ρ)(x:Exit)(Q:Exit->Act->World->Prop):Prop :=
 ∀{st:St} {e:ρ},some e=some r->(h:NZ Γ st rs ps (R e) (Z e)=some (R e,Z e):=by kernel_rfl)->FX X st x Q
theorem okL{P:Program}{Γ:o4}[e:HG P Γ]{f:FuncId}{ps:List Par}{ρ:Type}[Inhabited ρ]{F:r7 ps->Option ρ}{R:ρ->AV}{Z:ρ->B0 ps}{d:Func}{c:Code}{n:Nat}(rs:List ResultVar)
  (i:P.funcs[f]?=some d) (j:d.ntmps=n) (k:d.results=rs.toArray)
  (h:∀y x r,F x=some r->∀Q,SM (cx P n y) Γ rs ps R Z r .normal Q->SM (cx P n y) Γ rs ps R Z r .ret Q->VX (cx P n y) ⟨K6 0 ps x,H4 0 ps x⟩ c Q)
  (l:d.body=some c:=by rfl) (m:Al P f=true:=by kernel_rfl) (g:(Nat.ble ps.length n&&Z4 ps)=true:=by rfl):Ok P (j9 f ps F R Z) :=
 okl e.h rs i j l k m g (fun y x r H Q a b=>h y x r H Q (fun H h=>a H h) (fun H h=>b H h))
end Go.Proofs.Xv
end
section
namespace Go.Proofs.Xv
open Go Go.Proofs Go.Proofs.Sv
def YD(P:Program)(T:TypeId):Nat->List (Nat×Nat)->List (Option (Nat×Bool))
 | _,[]=>[]
 | k,_ :: r=>Nx P T k :: YD P T (k+1) r
theorem C0a{P:Program}{T:TypeId}:∀{l:List (Nat×Nat)} {k:Nat},YD P T k l=l.map (fun x=>some (x.1,true))->RA P T k l
 | [],_,_=>trivial
 | _ :: _,_,h=>⟨(List.cons.inj h).1,C0a (List.cons.inj h).2⟩
abbrev I0V:=(Option (Nat×Nat×Option Value)×Bool×Bool×Bool)×Bool×Option (List (Nat×Nat))×Bool×List (Option (Nat×Bool))×Bool×Option (List (Bool×Bool))×Option TypeDesc
def YE(P:Program)(x:Nat×TI):I0V :=
 ((Rp P x.1,CL x.2.zero.cells.toList x.2.size,Nat.blt 0 x.2.size,ones x.2.zero.cells.toList),match x.2.kd with
 | .agg pl e _=>(Bs P x.1,JE P x.1,Nz P x.1,YD P x.1 0 pl,(!e||Xr P x.1),Xs P x.1,none)
 | .arr _ _=>(Bs P x.1,none,true,[],true,none,P.underlying x.1)
 | .oth=>(X1 P x.1,none,true,[],true,none,none)
 | _=>(X1 P x.1,none,true,[],true,none,P.underlying x.1))
def YF(P:Program)(x:Nat×TI):I0V :=
 ((some (x.2.size,x.2.bytes,some x.2.zero),true,true,true),match x.2.kd with
 | .agg pl _ ag=>(true,some pl,true,pl.map (fun x=>some (x.1,true)),true,some (ag.map fun b=>(b,!b)),none)
 | .arr m E=>(true,none,true,[],true,none,some (.array m E))
 | .sl E=>(true,none,true,[],true,none,some (.slice E))
 | .str=>(true,none,true,[],true,none,some .string)
 | .bool=>(true,none,true,[],true,none,some .bool)
 | .int k=>(true,none,true,[],true,none,some (.int k))
 | .ptr=>(true,none,true,[],true,none,some (.pointer (P.pointee x.1)))
 | .oth=>(true,none,true,[],true,none,none))
theorem K0s{P:Program}{x:Nat×TI}(h:YE P x=YF P x):HD P x.1 x.2:=by
 obtain⟨T,c,b,zero,f,k⟩:=x;unfold YE YF at h;simp only[pj] at h;obtain⟨⟨i,e,g,d⟩,a⟩:=h;refine⟨i,e,g,d,?_⟩;cases f <;> simp only[pj] at a <;> unfold RD
 ·exact⟨a.1,a.2.1,a.2.2.1,C0a a.2.2.2.1,fun j=>by simpa [j] using a.2.2.2.2.1,a.2.2.2.2.2.1⟩
 ·exact⟨a.1,a.2.2.2.2.2.2⟩
 ·exact⟨a.1,a.2.2.2.2.2.2⟩
 ·exact⟨a.1,a.2.2.2.2.2.2⟩
 ·exact⟨a.1,a.2.2.2.2.2.2⟩
 ·exact⟨a.1,a.2.2.2.2.2.2⟩
 ·exact a.1
 ·exact⟨a.1,a.2.2.2.2.2.2⟩
theorem Qr{P:Program}{Γ:o4}(h:Γ.map (YE P)=Γ.map (YF P)):w9 P Γ:=by
 induction Γ with
 | nil=>exact D0l
 | cons x r a =>
   simp only[List.map_cons,List.cons.injEq] at h;exact tK (K0s h.1) (a h.2)
end Go.Proofs.Xv
end
