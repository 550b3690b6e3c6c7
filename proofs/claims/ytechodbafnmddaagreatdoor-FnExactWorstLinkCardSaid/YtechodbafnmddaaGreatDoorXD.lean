/- Calls by contracts. Over any program. -/
import Derived.Test.YtechodbafnmddaaGreatDoorXA
import Derived.KernelRfl
set_option maxHeartbeats 0
section
namespace Go.Proofs.Xv
open Go Go.RowKit Go.Proofs.Sv
theorem Sat.after{X:Cx}{G:Gh}(S:Sat X G){w':World}{go:Option Nat}(n:WE go G.w w'){K':Nat->Prop}(hK:∀k,G.K k->K' k)(aA:∀k,K' k->UFg w' X.w0.heap.size k)(y:∀k,K' k->X.K0 k∨X.base<=k)
  (aC:∀id o b,b9 G.o id=some o->G.γ id=some b->¬K' b) (aF:∀id b,G.δ id b->C5 (b9 G.o id)=true->¬K' b) {a:List (Nat×Ob)}
  (hu:(go=none/\a=[])∨∃id b T cs0 t,∃z:j2 t,go=some b/\a=[(id,Ob.box T (A6 false t z))]/\b9 G.o id=some (.box T cs0)/\G.γ id=some b/\∃us,Blk w' b us T/\RT K' w' t us z) :
  Sat X ⟨G.ρ,G.γ,K',w',a++G.o,G.B,G.δ⟩/\GLe G ⟨G.ρ,G.γ,K',w',a++G.o,G.B,G.δ⟩:=by
 have Q:∀k,G.K k->go≠some k:=fun k m e=>by
  grind
 have P:∀k,G.K k->k<G.w.heap.size->w'.heap[k]?=G.w.heap[k]?:=fun k m hl=>n.block k hl (Q k m)
 -- where the objects stand
 have W:∀i,(∃T cs0 t,∃z:j2 t,b9 (a++G.o) i=some (.box T (A6 false t z))/\b9 G.o i=some (.box T cs0)/\go=G.γ i/\(∃b us,G.γ i=some b/\Blk w' b us T/\RT K' w' t us z))∨(b9 (a++G.o) i=b9 G.o i/\∀o b,b9 G.o i=some o->G.γ i=some b->go≠some b):=fun i=>by
  rcases hu with ⟨rfl,rfl⟩ | ⟨id,b,T,cs0,t,z,rfl,rfl,g,hγ,us,hB,hR⟩
  ·grind
  ·by_cases e:id=i
   ·subst e;exact .inl ⟨T,cs0,t,z,by rw[List.cons_append,lK,if_pos rfl],g,hγ.symm,b,us,hγ,hB,hR⟩
   ·refine .inr ⟨by rw[List.cons_append,lK,if_neg e]; rfl,fun o b' d F e'=>?_⟩;cases e';exact e (S.inj id i _ _ b g d hγ F)
 have l:GLe G ⟨G.ρ,G.γ,K',w',a++G.o,G.B,G.δ⟩:=by
  refine⟨rfl,fun k m hl=>⟨hK k m,P k m hl⟩,fun i T cs hi=>⟨rfl,?_⟩,fun i T Te fr t xs V hi=>⟨rfl,?_⟩,fun i T fr t xs aB hi=>?_⟩
  ·grind
  ·grind
  ·grind
 have f:∀i o,b9 (a++G.o) i=some o->∃o',b9 G.o i=some o':=fun i o h=>by
  grind
 have s:∀i,C5 (b9 (a++G.o) i)=true->C5 (b9 G.o i)=true:=fun i h=>by
  rcases W i with ⟨T',_,t,z,q,_⟩ | ⟨q,_⟩
  ·rw[q] at h; cases h
  grind
 refine⟨⟨S.base,n.os.trans S.os,n.tape.trans S.tape,n.output.trans S.output,Nat.le_trans S.size n.size,fun k m hi=>?_,?_,?_,?_,?_,aA,y,fun i b E hg=>?_,fun i v h=>(S.pin i v h).mono l⟩,l⟩
 rotate_right
 ·have hg:=s i hg;obtain⟨s1,s2,s3,s4⟩:=S.sep i b E hg
  grind
 ·refine(n.block k (Nat.lt_of_lt_of_le m S.size) (fun e=>?_)).trans (S.block k m hi);rcases hu with ⟨rfl,_⟩ | ⟨id,b,T,cs0,t,z,rfl,_,g,hγ,_⟩
  ·cases e
  ·cases e;rcases S.own id _ k g hγ with h | h
   ·omega
   grind
 ·intro i o g;rcases W i with ⟨T,cs0,t,z,q,H,_,b,us,h3,h4,h5⟩ | ⟨q,H⟩
  ·rw[q] at g;cases g;obtain⟨b',aD,r,u,_⟩:=S.obs i _ H;rw[h3] at r;cases r;exact⟨b,us,h3,u,h4,Ch (RT.up h5 (fun k m=>⟨m,(fun e=>by cases e)⟩))⟩
  ·have d:b9 G.o i=some o:=by rw[<- q]; exact g
   have:=S.obs i o d;cases o with
   | box T cs =>
     obtain⟨b,us,r,u,Y,g4⟩:=this;exact⟨b,us,r,u,Y.we n (fun j hj e=>by grind),g4.mono l⟩
   | arr T fr t xs aB =>
     obtain⟨cs,r,u,Y⟩:=this;exact⟨cs,r.we n (fun j hj e=>H _ j d e hj),u.mapR (fun c x hr=>RT.same (w:=G.w) l.hR hr),Y⟩
   | grd T Te fr t xs V =>
     obtain⟨vs,bs,r,u,Y⟩:=this;refine⟨vs,bs,r.we n (fun j hj e=>H _ j d e hj),u.up l (fun _=>Iff.rfl) n (fun b E s=>?_),Y⟩;rcases hu with ⟨rfl,_⟩ | ⟨id,b',T,cs0,t,z,rfl,_,ho2,hγ,_⟩
     ·grind
     ·cases s;exact(S.sep i b E (by rw[d]; rfl)).2.2.1 id _ ho2 hγ
 ·intro i i' o o' b g d E F;obtain⟨o1,q⟩:=f i o g;obtain⟨o2,H⟩:=f i' o' d;exact S.inj i i' o1 o2 b q H E F
 ·grind
 ·intro i o b g E;obtain⟨o1,q⟩:=f i o g;exact S.own i o1 b q E
theorem Sat.add{X:Cx}{G:Gh}(S:Sat X G){id:Nat}{ob:Ob}{r:Value}{g:Option Nat}(hd:b9 G.o id=none)(hg:∀b,g=some b->(X.w0.heap.size<=b∨X.io b)/\¬G.K b/\(∀i o,b9 G.o i=some o->G.γ i≠some b)/\∀i,G.δ i b->C5 (b9 G.o i)=true->False)
  (aB:GLe G (G.put id ob r g G.w)->ObR (G.put id ob r g G.w) id ob):Sat X (G.put id ob r g G.w)/\GLe G (G.put id ob r g G.w):=by
 have d:∀i,b9 (G.put id ob r g G.w).o i=if id=i then some ob else b9 G.o i:=fun i=>lK _ _ _ _
 have x:∀i o,b9 G.o i=some o->¬id=i:=fun i o h e=>by grind
 have f:GLe G (G.put id ob r g G.w):=by
  refine⟨rfl,fun k s _=>⟨s,rfl⟩,fun i T F hi=>?_,fun i T Te y t z q hi=>?_,fun i T y t z P hi=>?_⟩
  ·grind[Gh.put]
  ·grind[Gh.put]
  ·have e:=x i _ hi;rw[d,if_neg e];simp only[Gh.put,if_neg (Ne.symm e)]
   grind
 refine⟨⟨S.base,S.os,S.tape,S.output,S.size,S.block,?_,?_,?_,?_,S.klt,S.kfrom,fun i b c n=>?_,fun i v h=>(S.pin i v h).mono f⟩,f⟩
 rotate_right
 ·obtain⟨hn,c⟩:=c;rw[d,if_neg (Ne.symm hn)] at n;obtain⟨s1,s2,s3,s4⟩:=S.sep i b c n;refine⟨s1,s2,fun j o a H=>?_,fun j H Y=>?_⟩
  ·grind[Gh.put]
  ·obtain⟨aA,H⟩:=H
   grind
 ·intro i o a;rw[d] at a;by_cases e:id=i
  ·grind
  ·rw[if_neg e] at a;have:=S.obs i o a;cases o with
   | box T F =>
     obtain⟨b,us,Q,u,E,h4⟩:=this;exact⟨b,us,by grind[Gh.put],by grind[Gh.put],E,h4.mono f⟩
   | arr T y t z P =>
     obtain⟨F,Q,u,E⟩:=this;exact⟨F,by grind[Gh.put],u,by grind[Gh.put]⟩
   | grd T Te y t z q =>
     obtain⟨vs,bs,Q,u,E⟩:=this;exact⟨vs,bs,by grind[Gh.put],u.up f (fun b=>⟨fun h=>h.2,fun h=>⟨Ne.symm e,h⟩⟩) (WE.refl (g:=none) _) (fun _ _ h=>by cases h),by grind[Gh.put]⟩
 ·intro i W o o' b a l c m;rw[d] at a l;simp only[Gh.put] at c m;by_cases e:i=id
  ·grind
  ·rw[if_neg e] at c;rw[if_neg (Ne.symm e)] at a;by_cases V:W=id
   ·grind
   ·rw[if_neg V] at m;rw[if_neg (Ne.symm V)] at l;exact S.inj i W o o' b a l c m
 ·intro i o b a c s;rw[d] at a;simp only[Gh.put] at c s;by_cases e:i=id
  ·grind
  ·rw[if_neg e] at c;rw[if_neg (Ne.symm e)] at a;exact S.imm i o b a c s
 ·intro i o b a c;rw[d] at a;simp only[Gh.put] at c;by_cases e:i=id
  ·grind
  ·rw[if_neg e] at c;rw[if_neg (Ne.symm e)] at a;exact S.own i o b a c
mutual
def C8(d:Nat):Nat->AV->AV×List (Nat×Ob)×Nat
 | j,.ow T fr t xs=>(.os (1000*j+d) 0,[(1000*j+d,.arr T fr t xs 0)],j+1)
 | j,.ob T xs=>match I1 d j xs with | (ys,o,k)=>(.ptr (1000*k+d) 0,(1000*k+d,.box T ys) :: o,k+1)
 | j,.agg xs=>match I1 d j xs with | (ys,o,k)=>(.agg ys,o,k)
 | j,.tup xs=>match I1 d j xs with | (ys,o,k)=>(.tup ys,o,k)
 | j,.v x=>(.v x,[],j)
 | j,.d fr t x=>(.d fr t x,[],j)
 | j,a=>(a,[],j)
def I1(d:Nat):Nat->List AV->List AV×List (Nat×Ob)×Nat
 | j,[]=>([],[],j)
 | j,a :: r=>match C8 d j a with
   | (b,o,k)=>match I1 d k r with | (s,o',k')=>(b :: s,o'++o,k')
end
theorem Ti{a:Type}{l m:List (Nat×a)}{i:Nat}(h:∀x∈l,x.1≠i):b9 (l++m) i=b9 m i:=by
 induction l with
 | nil=>rfl
 | cons x r b =>
   obtain⟨d,v⟩:=x;rw[List.cons_append,lK,if_neg (h (d,v) (by simp))]
   grind
structure Tj(X:Cx)(d j k:Nat)(G:Gh)(obs:List (Nat×Ob))(gs:List (Option Nat))(G':Gh):Prop where
 sat:Sat X G'
 le:GLe G G'
 w:G'.w=G.w
 K:G'.K=G.K
 o:G'.o=obs++G.o
 jk:j<=k
 num:∀x∈obs,∃i,j<=i/\i<k/\x.1=1000*i+d
 far:∀b,some b ∉ gs->(∀i o,b9 G.o i=some o->G.γ i≠some b)->∀i o,b9 G'.o i=some o->G'.γ i≠some b
 dl:∀i b,G'.δ i b->C5 (b9 G'.o i)=true->G.δ i b/\C5 (b9 G.o i)=true
def OL(X:Cx)(G:Gh)(gs:List (Option Nat)):Prop:=∀b,some b∈gs->X.w0.heap.size<=b/\¬G.K b/\(∀i o,b9 G.o i=some o->G.γ i≠some b)/\∀i,G.δ i b->C5 (b9 G.o i)=true->False
theorem l0D:∀{g h:List (Option Nat)},Bt (g++h)->Bt g/\Bt h/\∀b,some b∈g->some b ∉ h
 | [],h,k=>⟨trivial,k,fun _ a=>by cases a⟩
 | x :: r,h,⟨k1,k2⟩=>by
   obtain⟨f,d,i⟩:=l0D k2;refine⟨⟨fun b a c=>k1 b a (by simp[c]),f⟩,d,fun b a c=>?_⟩;rcases List.mem_cons.1 a with e | a
   ·exact k1 b e.symm (by simp[c])
   grind
theorem Tk{X:Cx}{d j:Nat}{G:Gh}(S:Sat X G){b:List (Option Nat)}:Tj X d j j G [] b G :=
 ⟨S,GLe.refl G,rfl,rfl,rfl,Nat.le_refl _,(fun _ h=>by cases h),(fun _ _ h=>h),fun _ _ h a=>⟨h,a⟩⟩
mutual
theorem h0s{X:Cx}{d:Nat}{K:Bool->Nat->Prop}:∀(a:AV) {j k:Nat} {b:AV} {obs:List (Nat×Ob)} {G:Gh} {u:Value} {gs:List (Option Nat)},C8 d j a=(b,obs,k)->Sat X G->(∀fr i,K fr i->rg G fr i)->ResR K G.w a u gs->Bt gs->OL X G gs->(∀x∈obs,b9 G.o x.1=none) ->
  ∃G',Tj X d j k G obs gs G'/\AVR G' b u
 | .ow T fr t xs,j,k,b,obs,G,u,gs,h,S,hK,hR,hN,hF,hfr=>by
   simp only[C8,pj] at h;obtain⟨rfl,rfl,rfl⟩:=h;obtain⟨g,cs,rfl,E,hO,hA⟩:=hR;have hd:=hfr _ (List.mem_singleton.2 rfl);have f:=S.add (id:=1000*j+d) (ob:=.arr T fr t xs 0) (r:=u) (g:=g) hd (fun b m=>let h:=hF b (by grind); ⟨.inl h.1,h.2⟩) (fun z=>⟨cs,by grind[Gh.put],hA.mapR (fun c x hr=>RT.same (w:=G.w) (fun k Y _=>⟨hK fr k Y,rfl⟩) hr),fun b e=>by simp only[Gh.put,if_true] at e ⊢; subst e; exact Nat.le_trans S.le (hF b (by simp)).1⟩);refine⟨_,⟨f.1,f.2,rfl,rfl,rfl,Nat.le_succ _,fun x F=>?_,fun b m s i o hi=>?_,fun i b m n=>?_⟩,E,T,fr,t,xs,0,?_,Nat.le_refl _,fun _=>by simp[Gh.put]⟩
   ·cases List.mem_singleton.1 F;exact⟨j,Nat.le_refl _,Nat.lt_succ_self _,rfl⟩
   ·rw[show(Gh.put G (1000*j+d) (.arr T fr t xs 0) u g G.w).o=(1000*j+d,.arr T fr t xs 0) :: G.o from rfl,lK] at hi
    grind[Gh.put]
   ·obtain⟨hn,m⟩:=m;rw[show(Gh.put G (1000*j+d) (.arr T fr t xs 0) u g G.w).o=(1000*j+d,.arr T fr t xs 0) :: G.o from rfl,lK,if_neg (Ne.symm hn)] at n;exact⟨m,n⟩
   ·rw[show(Gh.put G (1000*j+d) (.arr T fr t xs 0) u g G.w).o=(1000*j+d,.arr T fr t xs 0) :: G.o from rfl,lK]; simp
 | .agg xs,j,k,b,obs,G,u,gs,h,S,hK,⟨us,e,hR⟩,hN,hF,hfr=>by
   simp only[C8] at h;cases f:I1 d j xs with
   | mk H r =>
     obtain⟨o,q⟩:=r;rw[f] at h;simp only[pj] at h;obtain⟨rfl,rfl,rfl⟩:=h;obtain⟨G',E,W⟩:=OM xs f S hK hR hN hF hfr;exact⟨G',E,us,e,W⟩
 | .tup xs,j,k,b,obs,G,u,gs,h,S,hK,⟨us,e,hR⟩,hN,hF,hfr=>by
   simp only[C8] at h;cases f:I1 d j xs with
   | mk H r =>
     obtain⟨o,q⟩:=r;rw[f] at h;simp only[pj] at h;obtain⟨rfl,rfl,rfl⟩:=h;obtain⟨G',E,W⟩:=OM xs f S hK hR hN hF hfr;exact⟨G',E,us,e,W⟩
 | .v x,j,k,b,obs,G,u,gs,h,S,hK,⟨hR,e⟩,hN,hF,hfr=>by
   simp only[C8,pj] at h;obtain⟨rfl,rfl,rfl⟩:=h;exact⟨G,Tk S,hR⟩
 | .d fr t x,j,k,b,obs,G,u,gs,h,S,hK,⟨hR,e⟩,hN,hF,hfr=>by
   simp only[C8,pj] at h;obtain⟨rfl,rfl,rfl⟩:=h;exact⟨G,Tk S,RT.same (w:=G.w) (fun k Y _=>⟨hK fr k Y,rfl⟩) hR⟩
 | .ptr _ _,_,_,_,_,_,_,_,_,_,_,hR,_,_,_=>hR.elim
 | .pel _ _ _ _ _,_,_,_,_,_,_,_,_,_,_,hR,_,_,_=>hR.elim
 | .os _ _,_,_,_,_,_,_,_,_,_,_,hR,_,_,_=>hR.elim
 | .fn _ _,_,_,_,_,_,_,_,_,_,_,hR,_,_,_=>hR.elim
 | .gel _ _,_,_,_,_,_,_,_,_,_,_,hR,_,_,_=>hR.elim
 | .og _,_,_,_,_,_,_,_,_,_,_,hR,_,_,_=>hR.elim
 | .ob T xs,j,k,b,obs,G,u,gs,h,S,hK,⟨b0,us,gs',eg,hu,hB,hR⟩,hN,hF,hfr=>by
   subst eg;simp only[C8] at h;cases f:I1 d j xs with
   | mk H r =>
     obtain⟨o,q⟩:=r;rw[f] at h;simp only[pj] at h;obtain⟨rfl,rfl,rfl⟩:=h;obtain⟨n1,n2⟩:=hN;have Q:=HB xs f;have z:=HC xs f;obtain⟨G1,l,A1⟩:=OM xs f S hK hR n2 (fun b m=>hF b (by grind)) (fun x F=>hfr x (by grind));obtain⟨f1,f2,f3,f4⟩:=hF b0 (by simp);have hd:b9 G1.o (1000*q+d)=none:=by
      rw[l.o,Ti]
      ·simp_all
      ·intro y hy e;obtain⟨i',aC,aB,aA⟩:=Q y hy;rw[aA] at e;omega
     have f:=l.sat.add (id:=1000*q+d) (ob:=.box T H) (r:=u) (g:=some b0) hd (fun b m=>by
      cases m;exact⟨.inl f1,by rw[l.K]; exact f2,l.far b0 (n1 b0 rfl) f3,fun i hi P=>f4 i (l.dl i b0 hi P).1 (l.dl i b0 hi P).2⟩) (fun z=>⟨b0,us,by simp[Gh.put],by simp[Gh.put,hu],by show Blk G1.w b0 us T; rw[l.w]; exact hB,A1.mono z⟩)
     have V:(Gh.put G1 (1000*q+d) (.box T H) u (some b0) G1.w).o=(1000*q+d,.box T H) :: G1.o:=rfl;refine⟨_,⟨f.1,GLe.trans l.le f.2 (by rw[l.w]; exact Nat.le_refl _),l.w,l.K,by rw[V,l.o]; rfl,by omega,fun x F=>?_,fun b m s i o hi=>?_,fun i b m n=>?_⟩,⟨T,H,by rw[V,lK,if_pos rfl]⟩,b0,by simp[Gh.put,hu],by rw[hu]⟩
     ·rcases List.mem_cons.1 F with rfl | F
      ·exact⟨q,by omega,by omega,rfl⟩
      ·obtain⟨i,E,W,h3⟩:=l.num x F;exact⟨i,E,by omega,h3⟩
     ·rw[V,lK] at hi;simp only[Gh.put];by_cases e:i=1000*q+d
      ·grind
      ·rw[if_neg e];rw[if_neg (Ne.symm e)] at hi;exact l.far b (fun h=>m (by simp[h])) s i o hi
     ·obtain⟨hn,m⟩:=m;rw[V,lK,if_neg (Ne.symm hn)] at n;exact l.dl i b m n
theorem OM{X:Cx}{d:Nat}{K:Bool->Nat->Prop}:∀(as':List AV) {j k:Nat} {bs:List AV} {obs:List (Nat×Ob)} {G:Gh} {us:List Value} {gs:List (Option Nat)},I1 d j as'=(bs,obs,k)->Sat X G->(∀fr i,K fr i->rg G fr i)->ResRs K G.w as' us gs->Bt gs->OL X G gs->(∀x∈obs,b9 G.o x.1=none) ->
  ∃G',Tj X d j k G obs gs G'/\AVRs G' bs us
 | [],j,k,bs,obs,G,us,gs,h,S,hK,⟨hR,e⟩,hN,hF,hfr=>by
   simp only[I1,pj] at h;obtain⟨rfl,rfl,rfl⟩:=h;exact⟨G,Tk S,hR⟩
 | a :: r,j,k,bs,obs,G,us,gs,h,S,hK,⟨u,us',g1,g2,e1,e2,hR1,hR2⟩,hN,hF,hfr=>by
   subst e1; subst e2;simp only[I1] at h;cases hp:C8 d j a with
   | mk b q =>
     obtain⟨o,V⟩:=q;rw[hp] at h;simp only at h;cases hp2:I1 d V r with
     | mk s q =>
       obtain⟨o',k2⟩:=q;rw[hp2] at h;simp only[pj] at h;obtain⟨rfl,rfl,rfl⟩:=h;obtain⟨n1,Y,n3⟩:=l0D hN;obtain⟨G1,c,A1⟩:=h0s a hp S hK hR1 n1 (fun b g=>hF b (by simp[g])) (fun x l=>hfr x (by simp[l]));have P:OL X G1 g2:=fun b g=>by
        obtain⟨f1,f2,f3,f4⟩:=hF b (by simp[g]);exact⟨f1,by rw[c.K]; exact f2,c.far b (fun h=>n3 b h g) f3,fun i hi n=>f4 i (c.dl i b hi n).1 (c.dl i b hi n).2⟩
       have v:∀x∈o',b9 G1.o x.1=none:=fun x l=>by
        obtain⟨i,aB,aA,F⟩:∃i,V<=i/\i<k2/\x.1=1000*i+d:=by
         exact HB r hp2 x l
        rw[c.o,Ti]
        ·grind
        ·intro y hy e;obtain⟨i',W,T,Q⟩:=c.num y hy;rw[Q,F] at e;omega
       obtain⟨G2,f,A2⟩:=OM r hp2 c.sat (fun fr i hi=>by obtain⟨t,z⟩:=hK fr i hi; exact⟨by rw[c.K]; exact t,fun e=>by rw[c.le.hB]; exact z e⟩) (by rw[c.w]; exact hR2) Y P v;refine⟨G2,⟨f.sat,?_,f.w.trans c.w,f.K.trans c.K,?_,Nat.le_trans c.jk f.jk,?_,?_,fun i b g m=>c.dl i b (f.dl i b g m).1 (f.dl i b g m).2⟩,u,us',rfl,A1.mono f.le,A2⟩
       ·exact GLe.trans c.le f.le (by rw[c.w]; exact Nat.le_refl _)
       ·rw[f.o,c.o,List.append_assoc]
       ·intro x l;rcases List.mem_append.1 l with l | l
        ·obtain⟨i,t,z,H⟩:=f.num x l;exact⟨i,Nat.le_trans c.jk t,z,H⟩
        ·obtain⟨i,t,z,H⟩:=c.num x l;exact⟨i,t,Nat.lt_of_lt_of_le z f.jk,H⟩
       ·intro b g E;exact f.far b (fun h=>g (by simp[h])) (c.far b (fun h=>g (by simp[h])) E)
theorem Tl{d:Nat}:∀(a:AV) {j k:Nat} {b:AV} {obs:List (Nat×Ob)},C8 d j a=(b,obs,k)->(∀x∈obs,∃i,j<=i/\i<k/\x.1=1000*i+d)/\j<=k
 | .ow T fr t xs,j,k,b,obs,h=>by
   simp only[C8,pj] at h;obtain⟨rfl,rfl,rfl⟩:=h;refine⟨fun x c=>?_,Nat.le_succ _⟩;cases List.mem_singleton.1 c;exact⟨j,Nat.le_refl _,Nat.lt_succ_self _,rfl⟩
 | .agg xs,j,k,b,obs,h=>by
   simp only[C8] at h;cases hp:I1 d j xs with
   | mk l r =>
     obtain⟨o,f⟩:=r;rw[hp] at h;simp only[pj] at h;obtain⟨rfl,rfl,rfl⟩:=h;exact⟨HB xs hp,HC xs hp⟩
 | .tup xs,j,k,b,obs,h=>by
   simp only[C8] at h;cases hp:I1 d j xs with
   | mk l r =>
     obtain⟨o,f⟩:=r;rw[hp] at h;simp only[pj] at h;obtain⟨rfl,rfl,rfl⟩:=h;exact⟨HB xs hp,HC xs hp⟩
 | .v x,j,k,b,obs,h=>by simp only[C8,pj] at h; grind
 | .d fr t x,j,k,b,obs,h=>by simp only[C8,pj] at h; grind
 | .ptr _ _,j,k,b,obs,h=>by simp only[C8,pj] at h; grind
 | .pel _ _ _ _ _,j,k,b,obs,h=>by simp only[C8,pj] at h; grind
 | .os _ _,j,k,b,obs,h=>by simp only[C8,pj] at h; grind
 | .fn _ _,j,k,b,obs,h=>by simp only[C8,pj] at h; grind
 | .gel _ _,j,k,b,obs,h=>by simp only[C8,pj] at h; grind
 | .og _,j,k,b,obs,h=>by simp only[C8,pj] at h; grind
 | .ob T xs,j,k,b,obs,h=>by
   simp only[C8] at h;cases hp:I1 d j xs with
   | mk l r =>
     obtain⟨o,f⟩:=r;rw[hp] at h;simp only[pj] at h;obtain⟨rfl,rfl,rfl⟩:=h;have e:=HB xs hp;have g:=HC xs hp;refine⟨fun x c=>?_,by omega⟩;rcases List.mem_cons.1 c with rfl | c
     ·exact⟨f,g,by omega,rfl⟩
     ·obtain⟨i,n,q,m⟩:=e x c;exact⟨i,n,by omega,m⟩
theorem HC{d:Nat}:∀(as':List AV) {j k:Nat} {bs:List AV} {obs:List (Nat×Ob)},I1 d j as'=(bs,obs,k)->j<=k
 | [],j,k,bs,obs,h=>by simp only[I1,pj] at h; omega
 | a :: r,j,k,bs,obs,h=>by
   simp only[I1] at h;cases hp:C8 d j a with
   | mk b q =>
     obtain⟨o,c⟩:=q;rw[hp] at h;simp only at h;cases hp2:I1 d c r with
     | mk s q =>
       obtain⟨e,f⟩:=q;rw[hp2] at h;simp only[pj] at h;obtain⟨rfl,rfl,rfl⟩:=h;exact Nat.le_trans (Tl a hp).2 (HC r hp2)
theorem HB{d:Nat}:∀(as':List AV) {j k:Nat} {bs:List AV} {obs:List (Nat×Ob)},I1 d j as'=(bs,obs,k)->∀x∈obs,∃i,j<=i/\i<k/\x.1=1000*i+d
 | [],j,k,bs,obs,h=>by simp only[I1,pj] at h; grind
 | a :: r,j,k,bs,obs,h=>by
   simp only[I1] at h;cases hp:C8 d j a with
   | mk b q =>
     obtain⟨o,l⟩:=q;rw[hp] at h;simp only at h;cases hp2:I1 d l r with
     | mk s q =>
       obtain⟨m,n⟩:=q;rw[hp2] at h;simp only[pj] at h;obtain⟨rfl,rfl,rfl⟩:=h;intro x c;rcases List.mem_append.1 c with c | c
       ·obtain⟨i,g,f,e⟩:=HB r hp2 x c;exact⟨i,Nat.le_trans (Tl a hp).2 g,f,e⟩
       ·obtain⟨i,g,f,e⟩:=(Tl a hp).1 x c;exact⟨i,g,Nat.lt_of_lt_of_le f (HC r hp2),e⟩
end
def Dj:(ps:List o5)->A0 ps->List AV
 | [],_=>[]
 | .io _ t :: _,z=>A6 false t z
 | .dat _ :: r,z=>Dj r z
 | .agg _ :: r,z=>Dj r z
 | .fn _ _ :: r,z=>Dj r z
 | .nof _ :: r,z=>Dj r z
 | .nil :: r,z=>Dj r z
 | .os _ _ :: r,z=>Dj r z
def W4(o:List (Nat×Ob))(ps:List o5)(z:A0 ps):Option Nat->List (Nat×Ob)
 | none=>[]
 | some id=>match b9 o id with
   | some (.box T _)=>[(id,.box T (Dj ps z))]
   | _=>[]
def Bv{α:Type}:List α->Bool
 | []=>true
 | _ :: _=>false
theorem LB{c:Type}{l:List c}(h:Bv l=true):l=[]:=by cases l with
 | nil=>rfl
 | cons a b=>cases h
def isNone{α:Type}:Option α->Bool
 | none=>true
 | some _=>false
def Cn(o:List (Nat×Ob)):List (Nat×Ob)->Bool
 | []=>true
 | (i,_) :: r=>T6 o i&&Cn o r
def FI(i:Nat):List Nat->Bool
 | []=>true
 | x :: r=>!Nat.beq x i&&FI i r
def Tm(l:List Nat):Option Nat->Bool
 | none=>true
 | some i=>FI i l
def ON:List o5->List AV->Bool
 | .fn f _ :: r,.fn f' _ :: s=>Nat.beq f f'&&ON r s
 | .nof f :: r,.fn f' _ :: s=>Nat.beq f f'&&ON r s
 | _ :: r,_ :: s=>ON r s
 | _,_=>true
/- Data that lead Q9 new memory alone, or nowhere. -/
mutual
def AJ:AV->Bool
 | .d fr t _=>fr||C0 t
 | .ow _ fr t _=>fr||C0 t
 | .ob _ xs=>HD xs
 | .agg xs=>HD xs
 | .tup xs=>HD xs
 | _=>true
def HD:List AV->Bool
 | []=>true
 | a :: r=>AJ a&&HD r
end
mutual
theorem ResR.fresh{K K':Bool->Nat->Prop}{w:World}(f:∀fr k,K true k->K' fr k):∀{a:AV} {u:Value} {gs:List (Option Nat)},AJ a=true->ResR K w a u gs->ResR K' w a u gs
 | .v _,_,_,_,h=>h
 | .d fr t x,u,gs,hf,⟨h,e⟩=>by
   refine⟨?_,e⟩;simp only[AJ,Bool.or_eq_true] at hf
   grind[RT.up,RT.free]
 | .ow T fr t xs,u,gs,hf,⟨g,cs,h1,h2,h3,h4⟩=>by
   refine⟨g,cs,h1,h2,h3,h4.mapR (fun c x h=>?_)⟩;simp only[AJ,Bool.or_eq_true] at hf
   grind[RT.up,RT.free]
 | .agg xs,u,gs,hf,⟨us,e,h⟩=>⟨us,e,ResRs.fresh f (by grind[AJ]) h⟩
 | .ob T xs,u,gs,hf,⟨b,us,gs',e1,e2,h1,h⟩=>⟨b,us,gs',e1,e2,h1,ResRs.fresh f (by grind[AJ]) h⟩
 | .tup xs,u,gs,hf,⟨us,e,h⟩=>⟨us,e,ResRs.fresh f (by grind[AJ]) h⟩
theorem ResRs.fresh{K K':Bool->Nat->Prop}{w:World}(b:∀fr k,K true k->K' fr k):∀{as':List AV} {us:List Value} {gs:List (Option Nat)},HD as'=true->ResRs K w as' us gs->ResRs K' w as' us gs
 | [],_,_,_,h=>h
 | a :: r,us,gs,hf,⟨u,us',g1,g2,e1,e2,h1,h2⟩=>by
   simp only[HD,ba] at hf;exact⟨u,us',g1,g2,e1,e2,ResR.fresh b hf.1 h1,ResRs.fresh b hf.2 h2⟩
end
def OO(o:List (Nat×Ob))(q:Prop)(rv:AV)(l:List Nat):Option Nat->Option (Prop×AV×List (Nat×Ob)×List Nat)
 | some id=>match rv,b9 o id with
   | .ow T fr t xs,some (.arr _ _ _ _ ver)=>bif C0 t&&Bv l then some (q,.os id (ver+1),[(id,.arr T fr t xs (ver+1))],[id]) else none
   | _,_=>none
 | none=>none
def FJ(o:List (Nat×Ob))(d f:Nat)(as':List AV):List Ct->Option (Prop×AV×List (Nat×Ob)×List Nat)
 | []=>none
 | c :: r=>bif Nat.beq c.f f&&ON c.ps as' then(match L8 o c.ps as' with
   | some (x,l,io)=>match c.res x with
     | ⟨q,rv,z⟩=>bif C7 c.ps then OO o q rv l io else(match C8 d 0 rv with
       | (av,obs,_)=>bif Tm l io&&Cn o obs&&(Bv l||(AJ rv&&isNone io)) then some (q,av,obs++W4 o c.ps z io,(obs.map Prod.fst)++(l++io.toList)) else none)
   | none=>none) else FJ o d f as' r
def Bw(T:List Ct)(st:St)(p:Pa)(d:Nat):Op->Option (Prop×AV×List (Nat×Ob)×List Nat)
 | .call ⟨.value x,xs,_⟩=>match rd st p x,I0 st p xs.toList with
   | some (.fn f caps),some as'=>FJ st.o d f (as'++caps) T
   | _,_=>none
 | _=>none
def Cl(X:Cx)(G:Gh)(a:Act)(op:Op)(ty:TypeId)(av:AV)(obs:List (Nat×Ob)):Prop :=
 ∃f vs,(∀dst pos after g,(execOp a.eval ⟨dst,op,ty,pos,after,g⟩).run X.P G.w=.ok (.enter f vs) G.w) /\
  Calls X.P f vs G.w fun en w'=>∃v G',en=.returned v/\G'.w=w'/\Sat X G'/\GLe G G'/\G'.o=obs++G.o/\AVR G' av v
theorem i0d{o:List (Nat×Ob)}:∀{l:List (Nat×Ob)},Cn o l=true->∀x∈l,b9 o x.1=none
 | [],_,_,h=>by cases h
 | (i,b) :: r,h,x,hx=>by
   simp only[Cn,ba] at h;rcases List.mem_cons.1 hx with rfl | hx
   ·grind[Cm]
   ·exact i0d h.2 x hx
theorem LC{i:Nat}:∀{l:List Nat},FI i l=true->i ∉ l
 | [],_,h=>by cases h
 | x :: r,h,hx=>by
   simp only[FI,ba,Bool.not_eq_true'] at h;rcases List.mem_cons.1 hx with rfl | hx
   ·simp at h
   ·exact LC h.2 hx
theorem IOR.get{K:Nat->Prop}{w:World}{b:Nat}:∀{ps:List o5} {z:A0 ps} {Ka:Nat->Prop} {wa:World} {x:z6 ps} {vs:List Value},¬C7 ps=true->IOR K w (some b) ps z->ArgsR Ka wa (some b) ps x vs->∃t,∃z':j2 t,∃T us cs0,Dj ps z=A6 false t z'/\Blk w b us T/\RT K w t us z'/\Blk wa b cs0 T
 | [],_,_,_,_,_,_,_,h=>by cases h.2
 | .os _ _ :: r,_,_,_,_,_,hv,_,_=>(hv rfl).elim
 | .io T t :: r,z,_,_,x,vs,_,⟨b',cs,e,hB,hR⟩,⟨b2,cs2,us,_,e2,_,hB2,_⟩=>by cases e; cases e2; exact⟨t,z,T,cs,_,rfl,hB,hR,hB2⟩
 | .dat _ :: r,z,_,_,x,vs,hv,h,⟨_,_,_,_,k⟩=>IOR.get (ps:=r) hv h k
 | .agg _ :: r,z,_,_,x,vs,hv,h,⟨_,_,_,_,k⟩=>IOR.get (ps:=r) hv h k
 | .fn _ _ :: r,z,_,_,x,vs,hv,h,⟨_,_,_,_,k⟩=>IOR.get (ps:=r) hv h k
 | .nof _ :: r,z,_,_,x,vs,hv,h,⟨_,_,k⟩=>IOR.get (ps:=r) hv h k
 | .nil :: r,z,_,_,x,vs,hv,h,⟨_,_,k⟩=>IOR.get (ps:=r) hv h k
theorem Tn{o:List (Nat×Ob)}:∀{ps:List o5} {as':List AV} {x:z6 ps} {l:List Nat} {io:Option Nat},L8 o ps as'=some (x,l,io)->∀id∈l,∃ob,b9 o id=some ob
 | [],[],x,l,io,h=>by
   simp only[L8,oi,pj] at h
   grind
 | [],_ :: _,x,l,io,h=>by grind[L8]
 | _ :: _,[],x,l,io,h=>by grind[L8]
 | p :: r,a :: as',x,l,io,h=>by
   simp only[L8] at h;split at h
   ·rename_i i e g b;split at h
    ·rename_i y m j c;have f:=Tn c;have d:∀id∈e,∃ob,b9 o id=some ob:=by
      unfold Bu at b;split at b
      ·split at b
       ·grind[oi,pj,Di]
       grind
      ·split at b
       ·grind[oi,pj,Di]
       grind
      ·rw[ce] at b;split at b
       ·split at b
        ·grind[oi,pj,Di]
        grind
       grind
      ·grind
      ·grind
      ·grind
      ·grind
      ·cases b
     grind
    grind
   grind
theorem w0r{X:Cx}{G:Gh}(S:Sat X G){d:Nat}{aG:List AV}{us:List Value}(hA:AVRs G aG us){ps:List o5}(aL:¬C7 ps=true){x:z6 ps}{l:List Nat}{f:Option Nat}(u:L8 G.o ps aG=some (x,l,f))(aI:Tm l f=true) :
  (∀k,W3 G l k->k<G.w.heap.size)/\∃go,ArgsR (W3 G l) G.w go ps x us/\∀(res:z6 ps->Res ps),Cn G.o (C8 d 0 (res x).r).2.1=true/\(Bv l||(AJ (res x).r&&isNone f))=true->∀(en:Ending) (w':World),
  (∃v gs,en=.returned v/\WE go G.w w'/\Bt gs/\(∀b,some b∈gs->G.w.heap.size<=b∨(C7 ps=true/\go=some b))/\ResR (fun fr=>LA fr (W3 G l) G.w w' gs) w' (res x).r v gs /\
    IOR (fun k=>(W3 G l k∨G.w.heap.size<=k)/\UFg w' G.w.heap.size k/\some k ∉ gs/\go≠some k) w' go ps (res x).z) ->
  ∃v G',en=.returned v/\G'.w=w'/\Sat X G'/\GLe G G'/\G'.o=((C8 d 0 (res x).r).2.1++W4 G.o ps (res x).z f)++G.o/\AVR G' (C8 d 0 (res x).r).1 v:=by
 have W:=Tn u;obtain⟨_,go,aK,aM⟩:=Th S W u (fun _ h=>h) (fun i hi=>by subst hi; exact LC aI) hA;have aR:∀k,W3 G l k->k<G.w.heap.size:=by
  rintro k (h | ⟨id,aJ,c⟩)
  ·exact(S.klt k h).lt
  ·obtain⟨ob,s⟩:=W id aJ;have:=S.obs id ob s;cases ob with
   | box T cs=>obtain⟨b,us,a,q,n,h4⟩:=this; rw[c] at a; cases a; exact(SM n).lt
   | arr T fr t xs aU=>obtain⟨cs,a,q,_⟩:=this; rw[c] at a; exact(De a).lt
   | grd T Te fr t xs aH=>obtain⟨vs,bs,a,_⟩:=this; rw[c] at a; exact(De a).lt
 have aO:∀k,G.K k->go≠some k:=fun k c e=>by
  rcases aM with ⟨_,Y⟩ | ⟨id,b,T',cs',_,Y,ho',hγ'⟩ | ⟨_,_,_,_,_,_,_,_,_,Y⟩
  ·grind
  ·rw[Y] at e; cases e; exact S.imm id _ _ ho' hγ' c
  grind
 refine⟨aR,go,aK,fun res aF en w' aB=>?_⟩;obtain⟨v,gs,rfl,hw,hN,F,hR,aW⟩:=aB;have hc:(Tm l f=true/\Cn G.o (C8 d 0 (res x).r).2.1=true)/\(Bv l||(AJ (res x).r&&isNone f))=true:=⟨⟨aI,aF.1⟩,aF.2⟩;have F:∀b,some b∈gs->G.w.heap.size<=b:=fun b m=>(F b m).resolve_right (fun h=>aL h.1);have aX:∀id o b,b9 G.o id=some o->G.γ id=some b->b<G.w.heap.size:=fun id o b s m=>by
  have:=S.obs id o s;cases o with
  | box T cs=>obtain⟨b',us,a,q,n,h4⟩:=this; rw[m] at a; cases a; exact n.lt
  | arr T fr t xs aU=>obtain⟨cs,a,q,_⟩:=this; exact a.lt b m
  | grd T Te fr t xs aH=>obtain⟨vs,bs,a,_⟩:=this; exact a.lt b m
 -- the region that data may lead to now
 let K':Nat->Prop:=fun k=>G.K k∨(G.w.heap.size<=k/\UF w' k/\some k ∉ gs)
 have aY:l=[]->∀k,W3 G l k->G.K k:=fun aA k c=>by
  subst aA;rcases c with h | ⟨id,aJ,_⟩
  ·exact h
  grind
 have aC:l=[]∨(AJ (res x).r=true/\f=none):=by
  have:=hc.2;simp only[Bool.or_eq_true,ba] at this;rcases this with h | ⟨a,q⟩
  ·grind[LB]
  ·refine .inr ⟨a,?_⟩;cases f with
   | none=>rfl
   | some i=>cases q
 obtain⟨KR,aP,hR⟩:∃KR:Bool->Nat->Prop,(∀fr k,KR fr k->K' k/\(fr=true->G.B<=k))/\ResR KR w' (res x).r v gs:=by
  rcases aC with aA | ⟨aD,_⟩
  ·refine⟨_,fun fr k c=>?_,hR⟩;obtain⟨a | a,q,n⟩:=c
   ·grind
   ·exact⟨.inr ⟨a,q.2 a,n⟩,fun _=>Nat.le_trans S.le (Nat.le_trans S.size a)⟩
  ·refine⟨fun _=>LA true (W3 G l) G.w w' gs,fun fr k c=>?_,ResR.fresh (fun _ _ h=>h) aD hR⟩;obtain⟨a | a,q,n⟩:=c
   ·grind
   ·exact⟨.inr ⟨a,q.2 a,n⟩,fun _=>Nat.le_trans S.le (Nat.le_trans S.size a)⟩
 have E:(go=none/\W4 G.o ps (res x).z f=[])∨∃id b T H t,∃z:j2 t,go=some b/\W4 G.o ps (res x).z f=[(id,Ob.box T (A6 false t z))]/\b9 G.o id=some (.box T H)/\G.γ id=some b/\∃us,Blk w' b us T/\RT K' w' t us z:=by
  rcases aM with ⟨rfl,rfl⟩ | ⟨id,b,T,cs,rfl,rfl,s,hγ⟩ | ⟨_,_,_,_,_,_,_,_,_,e⟩
  rotate_right
  ·grind
  ·exact .inl ⟨rfl,rfl⟩
  ·obtain⟨t,z',T',aQ,H,e,hB,aT,Q⟩:=IOR.get aL aW aK;obtain⟨b',aZ,a,q,n,h4⟩:=S.obs id _ s;rw[hγ] at a;cases a;have aS:T=T':=by
    unfold Blk at n Q;rw[n] at Q;simp only[oi,Obj.cells.injEq] at Q;exact Q.2.1
   subst aS;refine .inr ⟨id,b,T,cs,t,z',rfl,?_,s,hγ,aQ,hB,RT.same (w:=w') (fun k c _=>⟨?_,rfl⟩) aT⟩
   ·grind[W4]
   ·obtain⟨a | a,q,n,h4⟩:=c
    ·grind
    ·exact .inr ⟨a,q.2 a,n⟩
 obtain⟨S1,L1⟩:=Sat.after S hw (K':=K') (fun k c=>.inl c) (by
  rintro k (h | h)
  ·exact(S.klt k h).same hw.size (hw.block k (S.klt k h).lt (aO k h))
  ·exact h.2.1.g) (by
  rintro k (h | h)
  ·exact S.kfrom k h
  ·exact .inr (Nat.le_trans S.base.2 (Nat.le_trans S.size h.1))) (by
  rintro id o b s m (h | h)
  ·exact S.imm id o b s m h
  grind) (by
  rintro id b m V (h | h)
  ·exact(S.sep id b m V).2.1 h
  ·have:=S.dlt m V; omega) E
 have aV:∀i o,b9 (W4 G.o ps (res x).z f++G.o) i=some o->∃o',b9 G.o i=some o':=fun i o h=>by
  rcases E with ⟨_,e⟩ | ⟨id,b,T,H,t,z,_,e,s,_⟩
  ·rw[e] at h; exact⟨o,h⟩
  ·rw[e,List.cons_append,lK] at h;by_cases Y:id=i
   ·subst Y; exact⟨_,s⟩
   ·rw[if_neg Y] at h; exact⟨o,h⟩
 have aN:∀i,C5 (b9 (W4 G.o ps (res x).z f++G.o) i)=true->C5 (b9 G.o i)=true:=fun i h=>by
  rcases E with ⟨_,e⟩ | ⟨id,b,T,H,t,z,_,e,s,_⟩
  ·grind
  ·rw[e,List.cons_append,lK] at h;by_cases Y:id=i
   ·rw[if_pos Y] at h; cases h
   grind
 have hF:OL X ⟨G.ρ,G.γ,K',w',W4 G.o ps (res x).z f++G.o,G.B,G.δ⟩ gs:=fun b m=>by
  refine⟨Nat.le_trans S.size (F b m),?_,fun i o hi e=>?_,fun i hi V=>?_⟩
  ·rintro(h | h)
   ·have:=(S.klt b h).lt; have:=F b m; omega
   grind
  ·grind
  ·have:=S.dlt hi (aN i V);have:=F b m;omega
 have aD:∀y∈(C8 d 0 (res x).r).2.1,b9 (W4 G.o ps (res x).z f++G.o) y.1=none:=fun y hy=>by
  grind[i0d,b9,W4]
 obtain⟨G',P,hv⟩:=h0s (K:=KR) (res x).r (d:=d) (j:=0) rfl S1 aP hR hN hF aD;refine⟨v,G',rfl,P.w,P.sat,GLe.trans L1 P.le hw.size,?_,hv⟩;rw[P.o,List.append_assoc]
theorem h0W{X:Cx}{G:Gh}(S:Sat X G){d f:Nat}{Q:List AV}{us:List Value}(hA:AVRs G Q us):∀{T:List Ct},(∀c∈T,Ok X.P c)->∀{q:Prop} {av:AV} {obs:List (Nat×Ob)} {fp:List Nat},FJ G.o d f Q T=some (q,av,obs,fp)->q ->
  Cf X.P f=true/\Calls X.P f us.toArray G.w fun en w'=>∃v G',en=.returned v/\G'.w=w'/\Sat X G'/\GLe G G'/\G'.o=obs++G.o/\AVR G' av v
 | [],_,q,av,obs,fp,h,_=>by cases h
 | c :: r,hT,q,av,obs,fp,h,hq=>by
   have hr:=h0W S (d:=d) hA (T:=r) (fun c hc=>hT c (by grind)) (f:=f) (q:=q) (av:=av) (obs:=obs) (fp:=fp);simp only[FJ,ce] at h;split at h
   ·rename_i V;rw[ba] at V;have V:=nb V.1;split at h
    ·rename_i x l io a;by_cases E:C7 c.ps=true
     ·rw[if_pos E] at h;unfold OO at h;split at h
      ·rename_i id;split at h
       ·rename_i T fr t xs E' aI t' aF j aH ho;rw[ce] at h;split at h
        ·rename_i s;rw[ba] at s;have aC:=LB s.2;subst aC;simp only[oi,pj] at h;obtain⟨rfl,rfl,rfl,_⟩:=h;obtain⟨aB,u⟩:=hT c (by simp);refine⟨by grind,?_⟩;have Y:=Tn a;obtain⟨_,go,z,F⟩:=Th S Y a (fun _ h=>h) (fun i hi h=>by cases h) hA;have F:go=G.γ id:=by
          rcases F with ⟨e,_⟩ | ⟨id',b,T',cs',e,_,ho',_⟩ | ⟨id',_,_,_,_,_,e,hg,_⟩
          ·cases e
          ·grind
          ·grind
         subst F;obtain⟨_,_,_,aD⟩:=S.obs id _ ho;have y:∀k,W3 G [] k->k<G.w.heap.size:=by
          rintro k (h | ⟨id,aL,hk⟩)
          ·exact(S.klt k h).lt
          ·grind
         rw[<- V];refine Calls.mono (u x hq G.w us (G.γ id) (W3 G []) y z) ?_;rintro en w' ⟨v,gs,rfl,hw,hN,aN,hR,aK⟩;rw[aH] at hR;obtain⟨g,cs,rfl,aA,hO,aG⟩:=hR;have W:∀b,g=some b->G.γ id=some b∨G.w.heap.size<=b:=fun b hb=>by
          grind
         have m:=S.put (id:=id) (ob:=.arr T fr t xs (j+1)) (r:=v) (g:=g) (w':=w') (go:=G.γ id) ⟨(fun T cs h=>by grind),(fun T aI t' aF aM h=>by grind),by rw[ho]; rfl⟩
          (fun b hb=>⟨⟨_,ho⟩,hb⟩) hw W
          (fun aJ=>⟨cs,by grind[Gh.put],aG.mapR (fun c x h=>RT.free s.1 h),fun b e=>by
            simp only[Gh.put,if_true] at e ⊢;rcases W b e with h | h
            ·exact aD b h
            ·exact Nat.le_trans S.le (Nat.le_trans S.size h)⟩)
         exact⟨v,_,rfl,rfl,m.1,m.2,rfl,aA,T,fr,t,xs,j+1,by rw[show(Gh.put G id (.arr T fr t xs (j+1)) v g w').o=(id,.arr T fr t xs (j+1)) :: G.o from rfl,lK]; simp,Nat.le_refl _,fun _=>by simp[Gh.put]⟩
        ·cases h
       ·cases h
      ·cases h
     rw[if_neg E] at h;split at h
     ·rename_i hc;simp only[ba] at hc;simp only[oi,pj] at h;obtain⟨rfl,rfl,rfl,_⟩:=h;obtain⟨aB,u⟩:=hT c (by simp);refine⟨by grind,?_⟩;obtain⟨y,go,z,H⟩:=w0r S (d:=d) hA E a hc.1.1;rw[<- V];exact Calls.mono (u x hq G.w us go (W3 G l) y z) (fun en w' n=>H c.res ⟨hc.1.2,hc.2⟩ en w' n)
     grind
    grind
   grind
theorem j0A{X:Cx}{G:Gh}{a:Act}{st:St}{p:Pa}{T:List Ct}(z:∀c∈T,Ok X.P c)(S:Sat X G)(u:G.o=st.o)(t:EnvR X.n G st.e a)(m:PathP p a){l:Op}{ty:TypeId}{d:Nat}{q:Prop}{r:AV}{obs:List (Nat×Ob)}{fp:List Nat}
  (h:Bw T st p d l=some (q,r,obs,fp)) (Q:q):Cl X G a l ty r obs:=by
 unfold Bw at h;split at h
 ·rename_i x k Ts;split at h
  ·rename_i f s v E V;obtain⟨cs,y,H⟩:=x7 t m E;have F:=AF t m V;rw[<- u] at h;obtain⟨i,b⟩:=h0W S (AVRs.app H F) z h Q;refine⟨f,_,fun W w j g=>?_,b⟩
   haveI:t0Y X.P f:=⟨i⟩
   have Y:k.map a.eval=(k.toList.map a.eval).toArray:=by grind
   simp only[execOp,resolve,Y,y];simp[Deferred.ofValue,invoke,l0o]
  grind
 grind
def Z8(Γ:m6)(st:St)(p:Pa)(d:Nat):Op->Option (Prop×AV×List (Nat×Ob)×List Nat)
 | .load T x=>match rd st p x,b9 Γ T with
   | some (.gel id k),some ⟨_,_,_,.sl _,_⟩=>match b9 st.o id with
     | some (.grd T0 Te fr t xs none)=>bif T6 st.o d then some (k<xs.length,.os d 0,[(d,.arr Te fr t (xs.getD k []) 0),(id,.grd T0 Te fr t xs (some k))],[d,id]) else none
     | _=>none
   | _,_=>none
 | .slice T x l h none=>match rd st p x,L7 st p l,L7 st p h,b9 Γ T with
   | some (.os id ver),some lo,some none,some ⟨_,_,_,.sl E,_⟩=>match b9 Γ E,b9 st.o id with
     | some te,some (.arr E' fr t xs ver')=>bif Nat.beq ver ver'&&Nat.beq te.size (sz t) then some (Lz (lo.getD 0) xs.length xs.length,.os id (ver+1),[(id,.arr E' fr t (FH xs lo none) (ver+1))],[id]) else none
     | _,_=>none
   | _,_,_,_=>none
 | _=>none
def AK(Γ:m6)(st:St)(p:Pa):Op->Option (Prop×List (Nat×Ob)×List Nat)
 | .store T x y=>match rd st p x,rd st p y,b9 Γ T with
   | some (.gel id k),some (.os d ver),some ti=>match b9 st.o id,b9 st.o d with
     | some (.grd T0 Te fr t xs (some k')),some (.arr Te' fr' t' l ver')=>match O8 (.sl t') (.sl t) l with
       | some l'=>bif Nat.beq ver ver'&&Nat.beq Te Te'&&Nat.beq ti.size 1 then some (k<xs.length/\k=k',[(id,.grd T0 Te (fr&&fr') t (xs.set k l') none),(d,.arr Te' fr' t' [] (ver+1))],[id,d]) else none
       | none=>none
     | _,_=>none
   | _,_,_=>none
 | _=>none
def Ml(X:Cx)(G:Gh)(a:Act)(op:Op)(ty:TypeId)(av:AV)(obs:List (Nat×Ob)):Prop :=
 ∃v G',(∀dst pos after g,(execOp a.eval ⟨dst,op,ty,pos,after,g⟩).run X.P G.w=.ok (.value v) G'.w)/\Sat X G'/\GLe G G'/\G'.o=obs++G.o/\AVR G' av v
def Ul(X:Cx)(G:Gh)(a:Act)(op:Op)(ty:TypeId)(obs:List (Nat×Ob)):Prop :=
 ∃G',(∀dst pos after g,(execOp a.eval ⟨dst,op,ty,pos,after,g⟩).run X.P G.w=.ok .skip G'.w)/\Sat X G'/\GLe G G'/\G'.o=obs++G.o
theorem t0a{a:Type}{l:List a}{k:Nat}(b:k<l.length)(z:a):l[k]?=some (l.getD k z):=by grind
section
variable {X:Cx} {G:Gh} {a:Act} {st:St} {Γ:m6} {p:Pa}
theorem A0a(S:Sat X G){id d k:Nat}{n Te:TypeId}{fr:Bool}{t:Ty}{xs:List (List (j2 t))}(x:b9 G.o id=some (.grd n Te fr t xs none))(hd:b9 G.o d=none)(u:k<xs.length){vs:List Value}{l:Nat->Option Nat}
  (hO:Own G.w n 1 (G.γ id) (G.ρ id) xs.length vs) (f:Rows G id Te fr t xs none vs l) (hB:∀b,G.γ id=some b->G.B<=b) :
  ∃G',Sat X G'/\GLe G G'/\G'.w=G.w/\G'.o=[(d,.arr Te fr t (xs.getD k []) 0),(id,.grd n Te fr t xs (some k))]++G.o/\AVR G' (.os d 0) (vs.getD k (.bool false)):=by
 have P:¬id=d:=fun e=>by grind
 obtain⟨cs,V,T,r3⟩:=f.row k u (fun h=>by cases h);have s:∀b j,j<xs.length->l j=some b->(X.w0.heap.size<=b∨X.io b)/\¬G.K b/\(∀i o,b9 G.o i=some o->G.γ i≠some b)/\∀i,G.δ i b->C5 (b9 G.o i)=true->id=i:=fun b j a c=>S.sep id b ((f.blk b).2 ⟨j,a,(fun h=>by cases h),c⟩) (by rw[x]; rfl)
 have h1:=S.grd (id:=id) (T':=n) (Te':=Te) (fr':=fr) (t':=t) (xs':=xs) (hole':=some k) (D:=fun b=>∃j,j<xs.length/\j≠k/\l j=some b) (w':=G.w) (go:=none) x (fun _ e=>by cases e) (WE.refl _)
  (fun b ⟨j,a,_,c⟩=>by
    grind)
  (fun v=>⟨vs,l,hO,⟨f.len,fun b=>⟨fun h=>?_,fun⟨j,a,hh,c⟩=>.inl ⟨rfl,j,a,(fun e=>hh (by rw[e])),c⟩⟩,fun j j' b a y _ _ c F=>f.inj j j' b a y (fun h=>by cases h) (fun h=>by cases h) c F,fun j a _=>f.row j a (fun h=>by cases h),f.one⟩,hB⟩)
 ·obtain⟨W,L1⟩:=h1;have q:∀i,b9 (G.grd id (.grd n Te fr t xs (some k)) (fun b=>∃j,j<xs.length/\j≠k/\l j=some b) G.w).o i=if id=i then some (.grd n Te fr t xs (some k)) else b9 G.o i:=fun i=>lK _ _ _ _
  have h2:=W.add (id:=d) (ob:=.arr Te fr t (xs.getD k []) 0) (r:=vs.getD k (.bool false)) (g:=l k) (by grind)
   (fun b c=>by
     obtain⟨s1,s2,H,Y⟩:=s b k u c;refine⟨s1,s2,fun i o hi=>?_,fun i hi z=>?_⟩
     ·rw[q] at hi;by_cases e:id=i
      ·subst e; exact H _ _ x
      ·rw[if_neg e] at hi; exact H i o hi
     ·rw[q] at z;rcases hi with ⟨_,j,a,m,E⟩ | ⟨hi,hib⟩
      ·exact m (f.inj j k b a u (fun h=>by cases h) (fun h=>by cases h) E c)
      ·rw[if_neg (Ne.symm hi)] at z;exact hi (Y i hib z).symm)
   (fun v=>⟨cs,by simp only[Gh.put,if_true]; exact V,T,fun b e=>by simp only[Gh.put,if_true] at e ⊢; exact r3 b e⟩)
  obtain⟨Q,L2⟩:=h2;refine⟨_,Q,L1.trans L2 (Nat.le_refl _),rfl,rfl,f.one _ ?_,Te,fr,t,xs.getD k [],0,by rw[show ∀G0:Gh,(Gh.put G0 d (.arr Te fr t (xs.getD k []) 0) (vs.getD k (.bool false)) (l k) G0.w).o=(d,.arr Te fr t (xs.getD k []) 0) :: G0.o from fun _=>rfl,lK]; simp,Nat.le_refl _,fun _=>by simp[Gh.put]⟩;exact List.mem_of_getElem? (t0a (by rw[f.len]; exact u) _)
 ·rcases h with ⟨_,j,a,m,c⟩ | ⟨h,_⟩
  ·exact⟨j,a,(fun e=>m (Option.some.inj e).symm),c⟩
  ·exact(h rfl).elim
theorem v0w{w:World}{E s:Nat}{g:Option Nat}{d:Option Addr}{n a:Nat}{cs:List Value}(h:Own w E s g (.slice d n a) n cs){k:Nat}(i:k<=n):∃g',(g'=none∨g'=g)/\n<=a/\Own w E s g' (.slice (if a=k then d else d.map (·.add (k*s))) (n-k) (a-k)) (n-k) (cs.drop (k*s)):=by
 have f:=h.clen;rcases h with ⟨rfl,rfl,rfl,p,e⟩ | ⟨b,o,c,cur,rfl,e,h1,h2,h3,h4,rfl⟩
 ·cases e;have:k=0:=by omega
  subst this;exact⟨none,.inl rfl,Nat.le_refl _,.inl ⟨rfl,rfl,by simp,d,by simp⟩⟩
 ·cases e;by_cases j:a=k
  ·refine⟨none,.inl rfl,h2,.inl ⟨rfl,by omega,?_,some ⟨b,o,none⟩,?_⟩⟩
   ·grind
   grind
  ·refine⟨some b,.inr rfl,h2,.inr ⟨b,o+k*s,a-k,cur,rfl,?_,h1,by omega,by omega,?_,?_⟩⟩
   ·grind[Addr.add]
   ·have:=Nat.mul_le_mul_right s (show k<=a by omega)
    grind[Nat.sub_mul]
   grind[List.drop_take,List.drop_drop,Nat.sub_mul]
theorem j0M(u:s9 X.P Γ)(S:Sat X G)(hE:EnvR X.n G st.e a)(hp:PathP p a){T E j ty id ver:Nat}{s0 y0:Nat}{z0:Value}{aF:Ty}{x:Operand}{l h:Option Operand}{lo:Option Int}{fr:Bool}{t:Ty}{xs:List (j2 t)}{z:TI}
  (hT:b9 Γ T=some ⟨s0,y0,z0,.sl E,aF⟩) (aC:b9 Γ E=some z) (W:b9 G.o id=some (.arr j fr t xs ver)) (hs:z.size=sz t) (hx:AVR G (.os id ver) (a.eval x)) (hl:L7 st p l=some lo) (hh:L7 st p h=some none) (hq:Lz (lo.getD 0) xs.length xs.length) :
  Ml X G a (.slice T x l h none) ty (.os id (ver+1)) [(id,.arr j fr t (FH xs lo none) (ver+1))]:=by
 obtain⟨_,T1,aL,t1,aN,aH,g1,g2,g3⟩:=hx;rw[W] at g1;cases g1;have hu:=g3 rfl;obtain⟨cs,hO,hA,aB⟩:=S.obs id _ W;obtain⟨q,d,hv⟩:=hO.len;rw[hv] at hO hu;have hU:=(u T _ hT).2.2.2.2.2;have hI:Info X.P E z.size z.bytes z.zero:=⟨(u E _ aC).1⟩;obtain⟨aJ,i,h2,h3,h5⟩:=hI.get;have s:FH xs lo none=xs.drop (lo.getD 0).toNat:=by
  rw[t0u xs lo none hq];simp
 rw[s];have aD:h=none:=by
  rcases OG hE hp hh with ⟨m,_⟩ | ⟨y,n,k,_,e2,_⟩
  ·exact m
  ·cases e2
 subst aD;have aA:(∃n k,l=some n/\a.eval n=.int k (lo.getD 0))∨(l=none/\lo.getD 0=0):=by
  rcases OG hE hp hl with ⟨m,e2⟩ | ⟨y,n,k,m,e2,e3⟩
  ·grind
  ·grind
 generalize lo.getD 0=l0 at *
 obtain⟨q1,q2,q3⟩:=hq;have hk:l0.toNat<=xs.length:=by omega
 obtain⟨g',F,aI,aG⟩:=v0w hO hk;have Q:∀V v f g,(execOp a.eval ⟨V,.slice T x l none none,ty,v,f,g⟩).run X.P G.w=.ok (.value (.slice (if d=l0.toNat then q else q.map (·.add (l0.toNat*sz t))) (xs.length-l0.toNat) (d-l0.toNat))) G.w:=by
  intro V v f g;rcases aA with ⟨n1,k1,rfl,m⟩ | ⟨rfl,m⟩
  ·have r2:=run_sliceBound (P:=X.P) (w:=G.w) k1 l0 xs.length .sliceB q1 q2;simp[execOp,hu,Instr.sliceAt,Instr.slice,Instr.sliceBounds,run_underlying hU,Result.andThen,O7 G.w i,h2,hs,m,r2]
  ·simp[execOp,hu,Instr.sliceAt,Instr.slice,Instr.sliceBounds,run_underlying hU,Result.andThen,O7 G.w i,h2,hs,m]
 have h:=S.put (id:=id) (ob:=.arr j fr t (xs.drop l0.toNat) (ver+1)) (r:=.slice (if d=l0.toNat then q else q.map (·.add (l0.toNat*sz t))) (xs.length-l0.toNat) (d-l0.toNat)) (g:=g') (w':=G.w) (go:=G.γ id) ⟨(fun T cs h=>by grind),(fun T aM t' aK aO h=>by grind),by rw[W]; rfl⟩
  (fun b H=>⟨⟨_,W⟩,H⟩) (WE.refl _) (fun b H=>by
    rcases F with h | h
    ·rw[h] at H; cases H
    ·exact .inl (h ▸ H))
  (fun Y=>⟨cs.drop (l0.toNat*sz t),by simp only[Gh.put,if_true,List.length_drop]; exact aG,(AllR.takeD (fun c y hy=>RT.len hy) l0.toNat hA).2.mapR (fun c x hr=>RT.same (w:=G.w) Y.hR hr),fun b e=>by
    simp only[Gh.put,if_true] at e ⊢;rcases F with h | h
    ·rw[h] at e; cases e
    ·exact aB b (h ▸ e)⟩)
 exact⟨_,G.put id (.arr j fr t (xs.drop l0.toNat) (ver+1)) (.slice (if d=l0.toNat then q else q.map (·.add (l0.toNat*sz t))) (xs.length-l0.toNat) (d-l0.toNat)) g' G.w,Q,h.1,h.2,rfl,rfl,j,fr,t,xs.drop l0.toNat,ver+1,by rw[show(Gh.put G id (.arr j fr t (xs.drop l0.toNat) (ver+1)) _ _ _).o=(id,.arr j fr t (xs.drop l0.toNat) (ver+1)) :: G.o from rfl,lK]; simp,Nat.le_refl _,fun _=>by simp[Gh.put]⟩
theorem q0y(Q:s9 X.P Γ)(S:Sat X G)(ho:G.o=st.o)(hE:EnvR X.n G st.e a)(hp:PathP p a){op:Op}{ty:TypeId}{d:Nat}{q:Prop}{r:AV}{obs:List (Nat×Ob)}{l:List Nat}
  (h:Z8 Γ st p d op=some (q,r,obs,l)) (hq:q):Ml X G a op ty r obs:=by
 unfold Z8 at h;split at h
 ·rename_i T x;split at h
  ·rename_i id k s0 y0 z0 E aA h1 h2;split at h
   ·rename_i T0 Te fr t xs F;rw[ce] at h;split at h
    ·rename_i z;simp only[oi,pj] at h;obtain⟨rfl,rfl,rfl,_⟩:=h;rw[<- ho] at F z;have W:=x7 hE hp h1;obtain⟨_,b,o,n,c,m,W⟩:=W;obtain⟨y,bs,H,hR,hB⟩:=S.obs id _ F;have Y:G.γ id=some b:=by
      rcases H with ⟨_,hn,_⟩ | ⟨b',o',cap,cur,Y,f,_⟩
      ·omega
      ·rw[m] at f;simp only[Value.slice.injEq,oi,Addr.mk.injEq] at f;rw[Y,f.1.1]
     have j:At G.w b o y:=by rw[Y] at H; obtain⟨o0,c0,e0,j⟩:=H.at; rw[m] at e0; cases e0; exact j
     have s:=t0a (by rw[hR.len]; exact hq:k<y.length) (.bool false);have u:At G.w b (o+k) [y.getD k (.bool false)]:=by
      intro i v f;cases i with
      | zero =>
        simp only[List.getElem?_cons_zero,oi] at f;subst f;have:=j k _ s;omega
      | succ i=>grind
     obtain⟨v,aD,f⟩:=o0T (ty:=ty) (cs:=[.v (y.getD k (.bool false))]) (av:=.v (y.getD k (.bool false))) hE (Q _ _ h2) W u ⟨_,[],rfl,rfl,rfl⟩ rfl;have f:v=_:=f;subst f;obtain⟨G',S',L',hw,aB,hr⟩:=A0a S F (Cm z) hq H hR hB;exact⟨_,G',fun aG aF V g=>by grind,S',L',aB,hr⟩
    grind
   grind
  grind
 ·rename_i T x l0 h0;split at h
  ·rename_i id aH lo s0 y0 z0 E aA h1 h2 F h4;split at h
   ·rename_i te E' fr t xs aC h5 h6;rw[ce] at h;split at h
    ·rename_i z;rw[ba] at z
     grind[oi,pj,nb,j0M,x7]
    grind
   grind
  grind
 grind
theorem v0a{vs:List Value}{k j:Nat}{u z:Value}(a:k<vs.length):(u5 vs k [u]).getD j z=if j=k then u else vs.getD j z:=by
 grind[u5]
theorem B0r(aV:s9 X.P Γ)(S:Sat X G){id d k ver:Nat}{T0 Te T ty:TypeId}{fr fr':Bool}{t:Ty}{xs:List (List (j2 t))}{l:List (j2 t)}{x y:Operand}{ti:TI}(hT:b9 Γ T=some ti)(hs:ti.size=1)
  (ho:b9 G.o id=some (.grd T0 Te fr t xs (some k))) (hd:b9 G.o d=some (.arr Te fr' t l ver)) (hk:k<xs.length) (hx:AVR G (.gel id k) (a.eval x)) (hy:AVR G (.os d ver) (a.eval y)) :
  Ul X G a (.store T x y) ty [(id,.grd T0 Te (fr&&fr') t (xs.set k l) none),(d,.arr Te fr' t [] (ver+1))]:=by
 haveI:Info X.P T ti.size ti.bytes ti.zero:=⟨(aV T _ hT).1⟩
 have H:¬d=id:=fun e=>by grind
 obtain⟨_,b,o,n,c,aI,bB⟩:=hx;obtain⟨y0,T1,bI,t1,bL,bF,g1,g2,g3⟩:=hy;rw[hd] at g1;cases g1;have aT:=g3 rfl;obtain⟨cs,aR,hA,bJ⟩:=S.obs d _ hd;have aD:Own G.w Te (sz t) (G.γ d) (a.eval y) l.length cs:=by rw[aT]; exact aR
 -- the row lets go of its block
 have h1:=S.put (id:=d) (ob:=.arr Te fr' t [] (ver+1)) (r:=.slice none 0 0) (g:=none) (w':=G.w) (go:=none) ⟨(fun T cs h=>by grind),(fun T fr' t' xs' bH h=>by grind),by rw[hd]; rfl⟩
  (fun _ e=>by cases e) (WE.refl _) (fun _ e=>by cases e) (fun aK=>⟨[],by simp only[Gh.put,if_true]; exact Own.nil,rfl,fun b e=>by grind[Gh.put]⟩)
 generalize hG1:G.put d (.arr Te fr' t [] (ver+1)) (.slice none 0 0) none G.w=G1 at h1;obtain⟨S1,L1⟩:=h1;have aC:G1.w=G.w:=by rw[<- hG1]; rfl
 have aU:G1.K=G.K:=by rw[<- hG1]; rfl
 have aQ:G1.B=G.B:=by rw[<- hG1]; rfl
 have E:∀i,b9 G1.o i=if d=i then some (.arr Te fr' t [] (ver+1)) else b9 G.o i:=fun i=>by rw[<- hG1]; exact lK _ _ _ _
 have V:∀i,i≠d->G1.ρ i=G.ρ i:=fun i hi=>by grind[Gh.put]
 have W:∀i,i≠d->G1.γ i=G.γ i:=fun i hi=>by rw[<- hG1]; simp only[Gh.put,if_neg hi]
 have bE:G1.γ d=none:=by rw[<- hG1]; simp only[Gh.put,if_true]
 have aF:∀i b,G1.δ i b↔i≠d/\G.δ i b:=fun i b=>by rw[<- hG1]; exact Iff.rfl
 have s:b9 G1.o id=some (.grd T0 Te fr t xs (some k)):=by rw[E,if_neg H]; exact ho
 obtain⟨vs,bs,hO,hR,hB⟩:=S1.obs id _ s;have hb:G1.γ id=some b:=by
  rcases hO with ⟨_,hn,_⟩ | ⟨f,o',cap,cur,hb,q,_⟩
  ·omega
  ·rw[V id (Ne.symm H),aI] at q;simp only[Value.slice.injEq,oi,Addr.mk.injEq] at q;rw[hb,q.1.1]
 have aP:G.γ id=some b:=by rw[<- W id (Ne.symm H)]; exact hb
 -- the store
 have aG:=hO;rw[hb] at aG;rcases aG with ⟨h,_⟩ | ⟨f,o',cap,cur,m,hv2,k1,k2,k3,k4,k5⟩
 ·cases h
 cases m;have Q:G1.ρ id=.slice (some ⟨b,o,none⟩) n c:=(V id (Ne.symm H)).trans aI;have aO:o'=o:=by rw[Q] at hv2; cases hv2; rfl
 subst aO;have bD:cur.toList.length=o'+cap:=by rw[Array.length_toList,k4,Nat.mul_one]
 have F:(a.eval y).cells.toList=[a.eval y]:=by
  have:=y0;cases q:a.eval y <;> rw[q] at this <;> first | rfl | (simp[Value.oneCell'] at this)
 have aN:Blk G.w b cur.toList T0:=by unfold Blk; rw[Array.toArray_toList]; rw[aC] at k1; exact k1
 have aW:=SJ (P:=X.P) (T:=T) (o:=o'+k) (v:=a.eval y) F (by rw[hs]; rfl) (Ox (fun u hu=>by cases List.mem_singleton.1 hu; exact y0)) aN (by simp only[List.length_singleton]; omega);have hW:=SI G.w b (u5 cur.toList (o'+k) [a.eval y]).toArray;have aA:k<vs.length:=by rw[hR.len]; exact hk
 have aB:Own (G.w.setRow b (u5 cur.toList (o'+k) [a.eval y]).toArray) T0 1 (G1.γ id) (G1.ρ id) xs.length (u5 vs k [a.eval y]):=by
  rw[hb] at hO ⊢;have:=Own.set (w':=G.w.setRow b (u5 cur.toList (o'+k) [a.eval y]).toArray) (k:=k) (vs:=[a.eval y]) hO Q hk rfl (fun bC aH=>by
   rw[k1] at aH;cases aH;rw[Nat.mul_one]
   grind[setRow_heap])
  rwa [Nat.mul_one] at this
 have aX:∀f,G.γ d=some f->(X.w0.heap.size<=f∨X.io f)/\¬G.K f/\(∀i o,b9 G1.o i=some o->G1.γ i≠some f)/\∀i,G1.δ i f->C5 (b9 G1.o i)=true->False:=fun f m=>by
  refine⟨S.own d _ f hd m,S.imm d _ f hd m,fun i o hi hg=>?_,fun i hi hg=>?_⟩
  ·by_cases e:i=d
   ·grind
   ·rw[E,if_neg (Ne.symm e)] at hi;rw[W i e] at hg;exact e (S.inj i d _ _ f hi hd hg m)
  ·obtain⟨e,hi⟩:=(aF i f).1 hi;rw[E,if_neg (Ne.symm e)] at hg;exact(S.sep i f hi hg).2.2.1 d _ hd m
 have h2:=S1.grd (id:=id) (T':=T0) (Te':=Te) (fr':=fr&&fr') (t':=t) (xs':=xs.set k l) (hole':=none) (D:=fun f=>G1.δ id f∨G.γ d=some f) (w':=G.w.setRow b (u5 cur.toList (o'+k) [a.eval y]).toArray) (go:=some b) s (fun f e=>by grind) (by grind[WE.of_wr])
  (fun f m=>by
    rcases m with m | m
    ·obtain⟨s1,s2,s3,s4⟩:=S1.sep id f m (by rw[s]; rfl)
     grind
    grind)
  (fun aK=>by
    refine⟨u5 vs k [a.eval y],fun j=>if j=k then G.γ d else bs j,by rw[List.length_set]; exact aB,⟨?_,fun f=>⟨fun h=>?_,fun h=>?_⟩,fun j j' f z aL _ _ aJ aM=>?_,fun j z _=>?_,fun v q=>?_⟩,hB⟩
    ·grind[List.length_set,u5,List.length_append,List.length_take,List.length_drop,List.length_singleton]
    ·have h':G1.δ id f∨G.γ d=some f:=by
      rcases h with ⟨_,h⟩ | ⟨h,_⟩
      ·exact h
      ·omega
     rcases h' with h' | h'
     ·obtain⟨j,z,bG,Y⟩:=(hR.blk f).1 h'
      grind
     ·exact⟨k,by grind,(fun h=>by cases h),by grind⟩
    ·obtain⟨j,z,_,Y⟩:=h;rw[List.length_set] at z;refine .inl ⟨rfl,?_⟩;by_cases e:j=k
     ·grind
     ·rw[if_neg e] at Y; exact .inl ((hR.blk f).2 ⟨j,z,(fun h=>e (Option.some.inj h).symm),Y⟩)
    ·rw[List.length_set] at z aL;have bK:∀i,i<xs.length->i≠k->bs i=some f->G.γ d=some f->False:=fun i hi aS aZ aY=>(aX f aY).2.2.2 id ((hR.blk f).2 ⟨i,hi,(fun h=>aS (Option.some.inj h).symm),aZ⟩) (by rw[s]; rfl);by_cases e:j=k
     ·grind
     ·by_cases e':j'=k
      ·grind
      ·rw[if_neg e] at aJ; rw[if_neg e'] at aM;exact hR.inj j j' f z aL (fun h=>e (Option.some.inj h).symm) (fun h=>e' (Option.some.inj h).symm) aJ aM
    ·rw[List.length_set] at z;simp only[v0a aA];by_cases e:j=k
     ·subst e;simp only[if_true];have eg:(xs.set j l).getD j []=l:=by simp[z]
      rw[eg];refine⟨cs,aD.we (w':=G.w.setRow b (u5 cur.toList (o'+j) [a.eval y]).toArray) (WE.of_wr hW) (fun i hi e=>?_),hA.mapR (fun c x hr=>?_),fun f m=>show G1.B<=f from by grind⟩
      ·grind
      ·refine RT.up (RT.same (K':=rg G fr') (w:=G.w) (fun i hi hl=>⟨hi,?_⟩) hr) (fun i hi=>⟨show G1.K i from by rw[aU]; exact hi.1,fun e=>show G1.B<=i from ?_⟩)
       ·exact hW.block i (fun e=>S.imm id _ b ho aP (by rw[<- e]; exact hi.1))
       ·rw[ba] at e; rw[aQ]; exact hi.2 e.2
     ·simp only[if_neg e];obtain⟨bA,r1,r2,r3⟩:=hR.row j z (fun h=>e (Option.some.inj h).symm);have eg:(xs.set k l).getD j []=xs.getD j []:=by simp[List.getElem?_set_ne (Ne.symm e)]
      rw[eg];refine⟨bA,r1.we (WE.of_wr (by rw[aC]; exact hW)) (fun i hi e'=>?_),r2.mapR (fun c x hr=>RT.up (RT.same (w:=G1.w) aK.hR hr) (fun i hi=>⟨hi.1,fun e=>hi.2 (by grind)⟩)),r3⟩;cases hi;exact(S1.sep id b ((hR.blk b).2 ⟨j,z,(fun h=>e (Option.some.inj h).symm),e'⟩) (by rw[s]; rfl)).2.2.1 id _ s hb
    ·unfold u5 at q;rcases List.mem_append.1 q with q | q
     ·rcases List.mem_append.1 q with q | q
      ·exact hR.one v (List.mem_of_mem_take q)
      grind
     ·exact hR.one v (List.mem_of_mem_drop q))
 obtain⟨S2,L2⟩:=h2;refine⟨_,Tg bB aW,S2,L1.trans L2 (by grind),?_⟩;rw[<- hG1];rfl
theorem n0D(g:s9 X.P Γ)(S:Sat X G)(r:G.o=st.o)(hE:EnvR X.n G st.e a)(z:PathP p a){b:Op}{ty:TypeId}{q:Prop}{obs:List (Nat×Ob)}{l:List Nat}
  (h:AK Γ st p b=some (q,obs,l)) (Q:q):Ul X G a b ty obs:=by
 unfold AK at h;split at h
 ·rename_i T x y;split at h
  ·rename_i id k d i ti F Y w;split at h
   ·rename_i W H m t v k' Te' j t' V c u h5;split at h
    ·rename_i s E;rw[ce] at h;split at h
     ·rename_i f;simp only[ba] at f
      grind[oi,pj,nb,Cg,B0r,x7]
     grind
    grind
   grind
  grind
 grind
end
def I0c:Op->Bool
 | .move _ | .assign _ | .nilCheck _ | .pick .. | .binOp .. | .unOp .. | .convert .. | .fieldAddr .. | .field .. | .load .. | .indexAddr .. | .index .. | .extract .. | .makeFunc .. | .build .. | .slice ..=>true
 | .call ⟨.builtin .len,_,_⟩ | .call ⟨.builtin .min,_,_⟩ | .call ⟨.builtin .max,_,_⟩=>true
 | _=>false
def I0e:Op->Bool
 | .alloc _ | .box .. | .makeSlice .. | .buildSlice .. | .call ⟨.builtin .append,_,_⟩=>true
 | _=>false
def I0b:Op->Bool
 | .store ..=>true
 | _=>false
def R1(Γ:m6)(T:List Ct)(st:St)(p:Pa)(o:Oper):Option (Prop×Option AV×List (Nat×Ob)×List Nat):=match o.dst with
 | some d=>bif I0c o.op then(match C6 Γ st p o.op with
   | some (q,r,l)=>some (q,some r,[],l)
   | none=>match Z8 Γ st p d o.op with
     | some (q,r,obs,l)=>some (q,some r,obs,l)
     | none=>none) else bif I0e o.op then(match W2 Γ st p d o.op with
     | some (q,r,w,l)=>some (q,some r,[w],l)
     | none=>none) else match Bw T st p d o.op with
       | some (q,r,obs,l)=>some (q,some r,obs,l)
       | none=>none
 | none=>bif I0b o.op then(match AI Γ st p o.op with
   | some (q,w,l)=>some (q,none,[w],l)
   | none=>match AK Γ st p o.op with
     | some (q,obs,l)=>some (q,none,obs,l)
     | none=>none) else match Bw T st p 0 o.op with
     | some (q,_,obs,l)=>some (q,none,obs,l)
     | none=>none
def AL(all:List Oper)(e:List (Nat×Sl))(o:Oper):Option Pa:=match o.guard with
 | none=>some []
 | some (j,b)=>match C3 all j with
   | some oj=>match oj.dst with
     | some dj=>match b9 e dj with
       | some ⟨q,.d _ .bool _⟩=>some ((dj,b) :: q)
       | _=>none
     | none=>none
   | none=>none
def Dk(e:List (Nat×Sl)):Pa->Prop
 | []=>True
 | (s,b) :: r=>(match b9 e s with
   | some ⟨q,.d _ .bool x⟩=>if Oq q r=true then x=b else True
   | _=>True)/\Dk e r
def Co(dst:Option Nat)(p:Pa)(av:Option AV)(e:List (Nat×Sl)):List (Nat×Sl):=match dst,av with
 | some d,some a=>(d,⟨p,a⟩) :: e
 | _,_=>e
def Bx(P:Program)(ops:Array Oper)(Q:Exit->Act->World->Prop)(o:Oper)(K:Act->World->Prop)(a:Act)(w:World):Prop :=
 if Region.wanted o (yielded ops a.tmps) then o.wp P a w K Q else K (a.put o.dst undef) w
section
variable {X:Cx} {G:Gh} {a:Act} {st:St} {Γ:m6} {T:List Ct}
theorem p0e(g:EnvR X.n G st.e a):∀{p:Pa},PathP p a->Dk st.e p
 | [],_=>trivial
 | (s,b) :: r,h=>by
   have k:=h (s,b) (by simp);have d:PathP r a:=fun x j=>h x (by grind);refine⟨?_,p0e g d⟩;split
   ·rename_i q f x i;split
    ·rename_i c;have:=Cj ((g.val s _ i).1 (d.sub c))
     grind
    grind
   grind
theorem OP{d:Nat}{v:Value}(b:d<a.tmps.size)(t:Nat):(a.put (some d) v).tmps.getD t undef=if d=t then v else a.tmps.getD t undef:=by
 unfold Act.put;by_cases h:d=t
 ·simp_all
 ·simp[h]
theorem o0u{d:Option Nat}{v:Value}:(a.put d v).tmps.size=a.tmps.size/\(a.put d v).defers=a.defers:=by
 cases d <;> simp[Act.put]
theorem l0v{d:Nat}{v:Value}(c:d<a.tmps.size){p:Pa}(h:∀x∈p,x.1≠d):PathP p (a.put (some d) v)↔PathP p a:=by
 constructor <;> intro k x b
 ·have:=k x b;rw[OP c,if_neg (Ne.symm (h x b))] at this; omega
 ·rw[OP c,if_neg (Ne.symm (h x b))]; exact k x b
theorem EnvR.put{g:Gh}{d:Nat}{v:Value}{p:Pa}{r:AV}(f:EnvR X.n g st.e a)(i:d<X.n)(k:∀x∈p,x.1≠d)(h:∀t s,b9 st.e t=some s->∀x∈s.p,x.1≠d)
  (j:(PathP p a->AVR g r v)/\(¬PathP p a->v=undef)):EnvR X.n g ((d,⟨p,r⟩) :: st.e) (a.put (some d) v):=by
 have c:d<a.tmps.size:=by rw[f.size]; exact i
 refine⟨by rw[o0u.2]; exact f.defers,by rw[o0u.1]; exact f.size,fun t s b=>?_⟩;rw[lK] at b;rw[OP c];by_cases e:d=t
 ·rw[if_pos e] at b ⊢
  grind[l0v]
 ·rw[if_neg e] at b ⊢;rw[l0v c (h t s b)];exact f.val t s b
theorem k0z{ops:Array Oper}{all:List Oper}(e:ops=all.toArray){j b:Nat}{c:Oper}(d:C3 all j=some c)(f:c.dst=some b):yielded ops a.tmps j=match a.tmps.getD b undef with
  | .bool v=>some v
  | _=>none:=by
 subst e;rw[V8] at d;unfold yielded;have g:(all.toArray[j]?).bind (·.dst)=some b:=by simp[d,f]
 rw[g];simp only[Option.bind_some];rw[Array.getD_eq_getD_getElem?]
 grind[undef]
theorem p0W{ops:Array Oper}{all:List Oper}(s:ops=all.toArray)(w:EnvR X.n G st.e a){o:Oper}{p:Pa}(c:AL all st.e o=some p) :
  (Region.wanted o (yielded ops a.tmps)=true/\PathP p a)∨(Region.wanted o (yielded ops a.tmps)=false/\¬PathP p a):=by
 unfold AL at c;split at c
 ·rename_i u;simp only[oi] at c; subst c;exact .inl ⟨by grind[Region.wanted],fun x m=>by cases m⟩
 ·rename_i j b u;split at c
  ·rename_i E z;split at c
   ·rename_i k v;split at c
    ·rename_i q f x r;simp only[oi] at c; subst c;have g:=k0z (a:=a) s z v;have l:=w.val k _ r;by_cases i:PathP q a
     ·have e:=Cj (l.1 i);rw[e] at g;simp only at g;by_cases t:x=b
      ·subst t;refine .inl ⟨by grind[Region.wanted],fun y d=>?_⟩;rcases List.mem_cons.1 d with rfl | h
       ·exact e
       ·exact i y h
      ·refine .inr ⟨by grind[Region.wanted],fun h=>?_⟩;have:=h (k,b) (by simp)
       grind
     ·have e:=l.2 i;rw[e] at g;simp only[undef] at g;exact .inr ⟨by grind[Region.wanted],fun h=>i (fun y d=>h y (by grind))⟩
    grind
   grind
  grind
theorem E0U(E:s9 X.P Γ)(hT:∀c∈T,Ok X.P c){ops:Array Oper}{all:List Oper}(ha:ops=all.toArray){Q:Exit->Act->World->Prop}(S:Sat X G)(ho:G.o=st.o)(i:EnvR X.n G st.e a){o:Oper}{p:Pa}{q:Prop}{av:Option AV}{obs:List (Nat×Ob)}{fp:List Nat}
  (hp:AL all st.e o=some p) (h:R1 Γ T st p o=some (q,av,obs,fp)) (V:Dk st.e p->q) (hg:p=[]∨obs=[]) (hd:∀d,o.dst=some d->d<X.n/\(∀x∈p,x.1≠d)/\∀t s,b9 st.e t=some s->∀x∈s.p,x.1≠d)
  {K:Act->World->Prop} (W:∀a' G',Sat X G'->GLe G G'->G'.o=obs++st.o->EnvR X.n G' (Co o.dst p av st.e) a'->K a' G'.w):Bx X.P ops Q o K a G.w:=by
 unfold Bx;rcases p0W ha i hp with ⟨hw,k⟩ | ⟨hw,k⟩
 ·rw[if_pos hw];have V:=V (p0e i k);unfold R1 at h;split at h
  ·rename_i d b;obtain⟨z,y,u⟩:=hd d b;rw[ce] at h;split at h
   ·split at h
    ·rename_i q' r l m;simp only[oi,pj] at h;obtain⟨rfl,rfl,rfl,_⟩:=h;obtain⟨v,g,Y⟩:=q0s E S ho i k (ty:=o.type) m V;unfold Oper.wp;have:=g o.dst o.pos o.after o.guard;rw[show(execOp a.eval o).run X.P G.w=.ok (.value v) G.w from this];show K (a.put o.dst v) G.w;rw[b];refine W _ G S (GLe.refl G) (by grind) ?_;rw[b];exact EnvR.put i z y u ⟨fun _=>Y,fun h=>(h k).elim⟩
    ·split at h
     ·rename_i q' r F l m;simp only[oi,pj] at h;obtain⟨rfl,rfl,rfl,_⟩:=h;obtain⟨v,G',g,H,j,hO,Y⟩:=q0y E S ho i k (ty:=o.type) m V;unfold Oper.wp;have:=g o.dst o.pos o.after o.guard;rw[show(execOp a.eval o).run X.P G.w=.ok (.value v) G'.w from this];show K (a.put o.dst v) G'.w;rw[b];refine W _ G' H j (by grind) ?_;rw[b];exact EnvR.put (i.mono j) z y u ⟨fun _=>Y,fun h=>(h k).elim⟩
     grind
   ·rw[ce] at h;split at h
    ·split at h
     ·rename_i q' r w l m;simp only[oi,pj] at h;obtain⟨rfl,rfl,rfl,_⟩:=h;obtain⟨v,G',g,H,j,hO,Y⟩:=q0v E S ho i k (ty:=o.type) m V;unfold Oper.wp;have:=g o.dst o.pos o.after o.guard;rw[show(execOp a.eval o).run X.P G.w=.ok (.value v) G'.w from this];show K (a.put o.dst v) G'.w;rw[b];refine W _ G' H j (by grind) ?_;rw[b];exact EnvR.put (i.mono j) z y u ⟨fun _=>Y,fun h=>(h k).elim⟩
     grind
    ·split at h
     ·rename_i q' r F l m;simp only[oi,pj] at h;obtain⟨rfl,rfl,rfl,_⟩:=h;obtain⟨f,vs,g,hc⟩:=j0A hT S ho i k (ty:=o.type) m V;unfold Oper.wp;have:=g o.dst o.pos o.after o.guard;rw[show(execOp a.eval o).run X.P G.w=.ok (.enter f vs) G.w from this];refine Calls.mono hc ?_;rintro en w' ⟨v,G',rfl,rfl,H,j,hO,Y⟩;show K (a.put o.dst v) G'.w;rw[b];refine W _ G' H j (by grind) ?_;rw[b];exact EnvR.put (i.mono j) z y u ⟨fun _=>Y,fun h=>(h k).elim⟩
     grind
  ·rename_i b;rw[ce] at h;split at h
   ·split at h
    ·rename_i q' w l m;simp only[oi,pj] at h;obtain⟨rfl,rfl,rfl,_⟩:=h;obtain⟨G',g,H,j,hO⟩:=q0q E S ho i k (ty:=o.type) m V;unfold Oper.wp;have:=g o.dst o.pos o.after o.guard;rw[show(execOp a.eval o).run X.P G.w=.ok .skip G'.w from this];show K (a.put o.dst undef) G'.w;rw[b];refine W _ G' H j (by grind) ?_;rw[b];exact i.mono j
    ·split at h
     ·rename_i q' F l m;simp only[oi,pj] at h;obtain⟨rfl,rfl,rfl,_⟩:=h;obtain⟨G',g,H,j,hO⟩:=n0D E S ho i k (ty:=o.type) m V;unfold Oper.wp;have:=g o.dst o.pos o.after o.guard;rw[show(execOp a.eval o).run X.P G.w=.ok .skip G'.w from this];show K (a.put o.dst undef) G'.w;rw[b];refine W _ G' H j (by grind) ?_;rw[b];exact i.mono j
     grind
   ·split at h
    ·rename_i q' r F l m;simp only[oi,pj] at h;obtain⟨rfl,rfl,rfl,_⟩:=h;obtain⟨f,vs,g,hc⟩:=j0A hT S ho i k (ty:=o.type) m V;unfold Oper.wp;have:=g o.dst o.pos o.after o.guard;rw[show(execOp a.eval o).run X.P G.w=.ok (.enter f vs) G.w from this];refine Calls.mono hc ?_;rintro en w' ⟨v,G',rfl,rfl,H,j,hO,Y⟩;show K (a.put o.dst v) G'.w;rw[b];refine W _ G' H j (by grind) ?_;rw[b];exact i.mono j
    grind
 ·rw[if_neg (by grind)];have aA:obs=[]:=by
   rcases hg with rfl | h
   ·exact(k (fun x hx=>by cases hx)).elim
   ·exact h
  subst aA;refine W _ G S (GLe.refl G) (by grind) ?_;cases b:o.dst with
  | none=>cases av <;> exact i
  | some d =>
    obtain⟨z,y,u⟩:=hd d b;have:∃r,av=some r:=by
     unfold R1 at h;rw[b] at h;simp only[ce] at h;split at h
     ·grind
     ·grind
    obtain⟨r,rfl⟩:=this;exact EnvR.put i z y u ⟨fun h=>(k h).elim,fun _=>rfl⟩
end
section
variable {e e':List (Nat×Sl)} {o o':List (Nat×Ob)}
theorem By{x:Operand}{p:Pa}(h:∀t,x=.tmp t->b9 e t=b9 e' t):rd ⟨e,o⟩ p x=rd ⟨e',o'⟩ p x:=by
 cases x with
 | tmp t=>simp only[rd,h t rfl]
 | _=>rfl
theorem FK{p:Pa}:∀{xs:List Operand},(∀t,.tmp t∈xs->b9 e t=b9 e' t)->I0 ⟨e,o⟩ p xs=I0 ⟨e',o'⟩ p xs
 | [],_=>rfl
 | x :: r,h=>by
   unfold I0;rw[By (o:=o) (o':=o') (p:=p) (x:=x) (fun t a=>h t (by grind)),FK (xs:=r) (fun t a=>h t (by grind))]
theorem To{v:AV}{cs:List AV}{l:List Nat}(h:O9 o v=some (cs,l))(g:∀id∈l,b9 o id=b9 o' id):O9 o' v=some (cs,l)/\AH o' v=AH o v:=by
 unfold O9 at h;split at h
 ·rename_i id a;split at h
  ·rename_i T e c;simp only[oi,pj] at h;obtain⟨rfl,rfl⟩:=h
   grind[O9,AH]
  grind
 ·rename_i id d k s a;split at h
  ·rename_i T f t j b c;rw[ce] at h;split at h
   ·rename_i i;simp only[oi,pj] at h;obtain⟨rfl,rfl⟩:=h
    grind[O9,AH]
   grind
  grind
 ·simp only[oi,pj] at h;obtain⟨rfl,rfl⟩:=h;exact⟨rfl,rfl⟩
 grind
theorem s0Y{Γ:m6}{T:TypeId}{v r:AV}{n:Int}{q:Prop}{l:List Nat}(h:HA Γ o T v n=some (q,r,l))(a:∀id∈l,b9 o id=b9 o' id):HA Γ o' T v n=some (q,r,l):=by
 unfold HA at h ⊢;split at h
 ·exact h
 ·grind
 ·exact h
 ·grind
 omega
theorem q0i{d a:(t:Ty)->List AV->Option (j2 t×List Nat×Bool)}(f:∀{t:Ty} {cs:List AV} {x:j2 t} {l:List Nat} {b:Bool},d t cs=some (x,l,b)->(∀id∈l,b9 o id=b9 o' id)->a t cs=some (x,l,b))
  {t:Ty} {c:AV} {x:j2 t} {l:List Nat} {b:Bool} (h:V6 o d t c=some (x,l,b)) (q:∀id∈l,b9 o id=b9 o' id):V6 o' a t c=some (x,l,b):=by
 unfold V6 at h;split at h
 ·grind[V6]
 ·exact h
 ·rename_i e id k;split at h
  ·rename_i T n s v g i;rw[ce] at h;split at h
   ·rename_i r;split at h
    ·rename_i y m;simp only[oi,pj] at h;obtain⟨rfl,rfl,rfl⟩:=h
     grind[V6]
    grind
   grind
  grind
 ·rename_i e id j;split at h
  ·rename_i T cs i;split at h
   ·rename_i E w z u;simp only[oi,pj] at h;obtain⟨rfl,rfl,rfl⟩:=h
    grind[hi,V6]
   grind
  grind
 grind
theorem FL:∀(n:Nat) {t:Ty} {cs:List AV} {x:j2 t} {l:List Nat} {fl:Bool},C1 o n t cs=some (x,l,fl)->(∀id∈l,b9 o id=b9 o' id)->C1 o' n t cs=some (x,l,fl):=by
 intro n
 induction n with
 | zero=>grind[C1]
 | succ n c =>
   intro t cs x l fl h d;cases t with
   | pr a b =>
     unfold C1 at h ⊢
     grind
   | _ =>
     unfold C1 at h ⊢
     grind[q0i]
theorem j0u{v:AV}{t:Ty}{c:List (j2 t)}{a:List Nat}{b:Bool}(h:Bs o v=some ⟨t,c,a,b⟩)(d:∀id∈a,b9 o id=b9 o' id):Bs o' v=some ⟨t,c,a,b⟩:=by
 unfold Bs at h
 grind[id,Bs]
theorem Dl{d:Nat}(h:b9 o d=b9 o' d):T6 o' d=T6 o d:=by grind[T6]
theorem Tp:∀{ps:List o5} {as':List AV} {x:z6 ps} {l:List Nat} {io:Option Nat},L8 o ps as'=some (x,l,io)->(∀id∈l,b9 o id=b9 o' id)->(∀i,io=some i->b9 o i=b9 o' i)->L8 o' ps as'=some (x,l,io)
 | [],[],x,l,io,h,_,_=>h
 | [],_ :: _,x,l,io,h,_,_=>by grind[L8]
 | _ :: _,[],x,l,io,h,_,_=>by grind[L8]
 | p :: r,a :: as',x,l,io,h,hl,hio=>by
   simp only[L8] at h ⊢;split at h
   ·rename_i w q g b;split at h
    ·rename_i y m j P;have H:l=q++m/\((g=none/\io=j)∨(∃i,g=some i/\j=none/\io=some i)):=by
      split at h
      ·grind
      ·grind
      ·cases h
     obtain⟨rfl,c⟩:=H;have d:∀id∈q,b9 o id=b9 o' id:=fun id k=>hl id (by grind);have G:Bu o' p a=some (w,q,g):=by
      unfold Bu at b;split at b
      ·split at b
       ·rename_i f;simp only[oi,pj] at b;obtain⟨rfl,rfl,rfl⟩:=b
        grind[Bu,FL]
       grind
      ·split at b
       ·rename_i f;simp only[oi,pj] at b;obtain⟨rfl,rfl,rfl⟩:=b
        grind[Bu,FL]
       grind
      ·rw[ce] at b;split at b
       ·rename_i v;split at b
        ·rename_i f;simp only[oi,pj] at b;obtain⟨rfl,rfl,rfl⟩:=b;simp only[Bu,FL 24 f d,v,cond_true]
        grind
       grind
      ·exact b
      ·rename_i T t id _;split at b
       ·rename_i Y cs s;rw[ce] at b;split at b
        ·rename_i F;split at b
         ·rename_i V f;simp only[oi,pj] at b;obtain⟨rfl,rfl,rfl⟩:=b;rcases c with ⟨e,_⟩ | ⟨i',e,_,rfl⟩
          ·cases e
          cases e;have n:=hio id rfl;rw[s] at n;simp only[Bu,<- n,F,cond_true,FL 24 f d]
         grind
        grind
       grind
      ·rename_i E t id Q _;split at b
       ·rename_i E' W t' X u s;rw[ce] at b;split at b
        ·rename_i hb;split at b
         ·rename_i V hc;simp only[oi,pj] at b;obtain⟨rfl,rfl,rfl⟩:=b;rcases c with ⟨e,_⟩ | ⟨i',e,_,rfl⟩
          ·cases e
          cases e;have n:=hio id rfl
          grind[Bu]
         grind
        grind
       grind
      ·exact b
      ·cases b
     have z:=Tp P (fun id k=>hl id (by grind)) (fun i hi=>by
      grind)
     grind
    grind
   grind
theorem e0q:∀{l:List (Nat×Ob)},(∀x∈l,b9 o x.1=b9 o' x.1)->Cn o' l=Cn o l
 | [],_=>rfl
 | (i,b) :: r,h=>by
   simp only[Cn];rw[Dl (h (i,b) (by simp)),e0q (fun x a=>h x (by grind))]
theorem h0X{d f:Nat}{j:List AV}:∀{T:List Ct} {q:Prop} {av:AV} {obs:List (Nat×Ob)} {fp:List Nat},FJ o d f j T=some (q,av,obs,fp)->(∀id∈fp,b9 o id=b9 o' id)->FJ o' d f j T=some (q,av,obs,fp)
 | [],q,av,obs,fp,h,_=>by cases h
 | c :: r,q,av,obs,fp,h,ho=>by
   simp only[FJ,ce] at h ⊢;split at h
   ·rename_i n;rw[if_pos n];split at h
    ·rename_i x l m a;by_cases e:C7 c.ps=true
     ·rw[if_pos e] at h;unfold OO at h;split at h
      ·rename_i id;split at h
       ·rename_i T Q t V W H X w G u g;rw[ce] at h;split at h
        ·rename_i v;simp only[oi,pj] at h;obtain⟨rfl,rfl,rfl,rfl⟩:=h;have k:=LB (ba _ _ ▸ v).2;subst k;have b:b9 o id=b9 o' id:=ho id (by simp);rw[Tp a (fun _ h=>by cases h) (fun i hi=>by grind)];simp only[e,if_true,OO,u,<- b,g,v,cond_true]
        grind
       grind
      grind
     rw[if_neg e] at h;simp only[if_neg e];split at h
     ·rename_i F;have s:=F;simp only[oi,pj] at h;obtain⟨rfl,rfl,rfl,rfl⟩:=h;have P:∀id∈l,b9 o id=b9 o' id:=fun id y=>ho id (by grind);have b:∀i,m=some i->b9 o i=b9 o' i:=fun i hi=>ho i (by grind);rw[Tp a P b];simp only;rw[e0q (o:=o) (fun x E=>ho x.1 (List.mem_append.2 (.inl (List.mem_map_of_mem E)))),if_pos s];have:W4 o' c.ps (c.res x).z m=W4 o c.ps (c.res x).z m:=by
       cases m with
       | none=>rfl
       | some i=>simp only[W4,b i rfl]
      grind
     grind
    grind
   ·rename_i n;rw[if_neg n];exact h0X h ho
def y0U(xs:List Operand):List Nat:=xs.filterMap fun | .tmp t=>some t | _=>none
theorem s0I{xs:List Operand}{t:Nat}(h:.tmp t∈xs):t∈y0U xs:=List.mem_filterMap.2 ⟨_,h,rfl⟩
theorem Tq{p:Pa}{x:Option Operand}(h:∀t,x=some (.tmp t)->b9 e t=b9 e' t):L7 ⟨e,o⟩ p x=L7 ⟨e',o'⟩ p x:=by
 cases x with
 | none=>rfl
 | some y =>
   grind[L7,By]
theorem g0h{p:Pa}{pl:List (Nat×Nat)}:∀{ps:List (Nat×Operand)} {cs:List AV},(∀t,.tmp t∈ps.map (·.2)->b9 e t=b9 e' t)->V9 ⟨e,o⟩ p pl cs ps=V9 ⟨e',o'⟩ p pl cs ps
 | [],_,_=>rfl
 | (i,x) :: r,cs,h=>by
   unfold V9;rw[By (o:=o) (o':=o') (p:=p) (x:=x) (fun t a=>h t (by grind))];have b:=fun cs=>g0h (p:=p) (pl:=pl) (ps:=r) (cs:=cs) (fun t a=>h t (by grind))
   simp_all
theorem g0b{p:Pa}{t:Ty}:∀{ps:List (Nat×Operand)} {k:Nat} {ys:List (j2 t)×Bool},(∀s,.tmp s∈ps.map (·.2)->b9 e s=b9 e' s)->Ck ⟨e,o⟩ p t k ps=some ys->Ck ⟨e',o'⟩ p t k ps=some ys
 | [],_,_,_,h=>h
 | (i,x) :: r,k,ys,hs,h=>by
   unfold Ck at h ⊢;rw[ce] at h ⊢;split at h
   ·rename_i hi;rw[if_pos hi];rw[<- By (o:=o) (o':=o') (p:=p) (x:=x) (fun t j=>hs t (by grind))];split at h
    ·rename_i v l;split at h
     ·rename_i m n;simp only;split at h
      ·rename_i y f b;rw[FL 24 b (fun _ h=>by cases h)];simp only;split at h
       ·rename_i d g a;rw[g0b (fun s c=>hs s (by grind)) a];exact h
       grind
      grind
     omega
    omega
   grind
theorem q0t{Γ:m6}{p:Pa}{c:Op}{q:Prop}{r:AV}{l:List Nat}(g:∀t,.tmp t∈c.operands.toList->b9 e t=b9 e' t)(h:C6 Γ ⟨e,o⟩ p c=some (q,r,l))(k:∀id∈l,b9 o id=b9 o' id):C6 Γ ⟨e',o'⟩ p c=some (q,r,l):=by
 have R:∀(p:Pa) (x:Operand),x∈c.operands.toList->rd ⟨e',o'⟩ p x=rd ⟨e,o⟩ p x:=fun p x P=>(By (fun t j=>g t (by grind))).symm;unfold C6 at h;split at h
 ·grind[C6,Op.operands]
 ·grind[C6,Op.operands]
 ·rename_i x;simp only[C6,R _ x (by simp[Op.operands])];split at h
  ·grind[oi,pj,To]
  omega
 ·grind[C6,Op.operands]
 ·grind[C6,Op.operands]
 ·grind[C6,Op.operands]
 ·grind[C6,Op.operands]
 ·rename_i x;simp only[C6,R _ x (by simp[Op.operands])]
  grind
 ·rename_i x f;simp only[C6,R _ x (by simp[Op.operands])];split at h
  ·rename_i v V z F d u G H;split at h
   ·rename_i s Q b y m w;split at h
    ·rename_i W n;simp only[oi,pj] at h;obtain⟨rfl,rfl,rfl⟩:=h;simp only[m,(To w k).1,n]
    grind
   grind
  omega
 ·rename_i x;simp only[C6,R _ x (by simp[Op.operands])];split at h
  ·grind[oi,pj,To]
  omega
 ·grind[C6,Op.operands,s0Y]
 ·grind[C6,Op.operands]
 ·grind[C6,Op.operands]
 ·grind[C6,Op.operands]
 ·grind[I0,FK,Op.operands,C6]
 ·rename_i T a;have:∀d b,V9 ⟨e',o'⟩ p d b a.toList=V9 ⟨e,o⟩ p d b a.toList:=fun d b=>(g0h (fun t j=>g t (by grind[Op.operands]))).symm
  grind[C6]
 ·grind[L7,Tq,Op.operands,C6]
 ·rename_i i E;have:I0 ⟨e',o'⟩ p i.toList=I0 ⟨e,o⟩ p i.toList:=(FK (fun t j=>g t (by grind[Op.operands,Call.operands]))).symm;simp only[C6,this]
  grind
 ·grind[I0,FK,Op.operands,Call.operands,C6]
 ·grind[I0,FK,Op.operands,Call.operands,C6]
 grind
end
section
variable {e e':List (Nat×Sl)} {o o':List (Nat×Ob)}
theorem q0w{Γ:m6}{p:Pa}{d:Nat}{f:Op}{q:Prop}{r:AV}{w:Nat×Ob}{l:List Nat}(g:∀t,.tmp t∈f.operands.toList->b9 e t=b9 e' t)(h:W2 Γ ⟨e,o⟩ p d f=some (q,r,w,l))(c:∀id∈l,b9 o id=b9 o' id):W2 Γ ⟨e',o'⟩ p d f=some (q,r,w,l):=by
 have R:∀(x:Operand),x∈f.operands.toList->rd ⟨e',o'⟩ p x=rd ⟨e,o⟩ p x:=fun x W=>(By (fun t F=>g t (by grind))).symm;unfold W2 at h;split at h
 ·simp only[W2];split at h
  ·split at h
   ·rw[ce] at h ⊢;split at h
    ·rename_i a;have b:=h;simp only[oi,pj] at h;obtain⟨_,_,_,rfl⟩:=h;rw[Dl (c d (by simp)),if_pos a]; exact b
    grind
   omega
  omega
 ·rename_i T x;simp only[W2,R x (by simp[Op.operands])];split at h
  ·split at h
   ·rw[ce] at h ⊢;split at h
    ·rename_i a;have b:=h;simp only[oi,pj] at h;obtain⟨_,_,_,rfl⟩:=h;rw[Dl (c d (by simp)),if_pos a]; exact b
    grind
   omega
  omega
 ·rename_i T x y;simp only[W2,R x (by simp[Op.operands]),R y (by simp[Op.operands])];split at h
  ·split at h
   ·split at h
    ·rw[ce] at h ⊢;split at h
     ·rename_i a;have b:=h;simp only[oi,pj] at h;obtain⟨_,_,_,rfl⟩:=h;rw[Dl (c d (by simp)),if_pos a]; exact b
     grind
    ·split at h
     ·split at h
      ·rename_i H;rw[FL 24 H (fun _ h=>by cases h)];simp only;rw[ce] at h ⊢;split at h
       ·rename_i a;have b:=h;simp only[oi,pj] at h;obtain⟨_,_,_,rfl⟩:=h;rw[Dl (c d (by simp)),if_pos a]; exact b
       grind
      grind
     omega
   omega
  omega
 ·rename_i T n i;simp only[W2];split at h
  ·split at h
   ·split at h
    ·rename_i j G;rw[g0b (e':=e') (o':=o') (fun s P=>g s (by grind[Op.operands])) G];simp only;rw[ce] at h ⊢;split at h
     ·rename_i a;have b:=h;simp only[oi,pj] at h;obtain⟨_,_,_,rfl⟩:=h;rw[Dl (c d (by simp)),if_pos a]; exact b
     grind
    grind
   omega
  omega
 ·rename_i j V;have:I0 ⟨e',o'⟩ p j.toList=I0 ⟨e,o⟩ p j.toList:=(FK (fun t F=>g t (by grind[Op.operands,Call.operands]))).symm;simp only[W2,this];split at h
  ·split at h
   ·rename_i v u m;split at h
    ·rename_i z X;rw[ce] at h;split at h
     ·rename_i a;have b:=h;simp only[oi,pj] at h;obtain⟨_,_,_,rfl⟩:=h;have Q:=c _ List.mem_cons_self;simp only at u;rw[u] at Q;have E:=j0u (o':=o') m (fun id k=>c id (by grind))
      grind
     grind
    grind
   grind
  ·split at h
   ·rename_i v m;split at h
    ·rename_i z;rw[ce] at h;split at h
     ·rename_i a;have b:=h;simp only[oi,pj] at h;obtain⟨_,_,_,rfl⟩:=h;have E:=j0u (o':=o') m (fun id k=>c id (by grind));simp only[v,E,z,Dl (c d (by simp))]
      grind
     grind
    grind
   grind
  omega
 grind
theorem q0r{Γ:m6}{p:Pa}{a:Op}{q:Prop}{w:Nat×Ob}{l:List Nat}(f:∀t,.tmp t∈a.operands.toList->b9 e t=b9 e' t)(h:AI Γ ⟨e,o⟩ p a=some (q,w,l))(d:∀id∈l,b9 o id=b9 o' id):AI Γ ⟨e',o'⟩ p a=some (q,w,l):=by
 have R:∀(x:Operand),x∈a.operands.toList->rd ⟨e',o'⟩ p x=rd ⟨e,o⟩ p x:=fun x m=>(By (fun t n=>f t (by grind))).symm;unfold AI at h;split at h
 ·rename_i T x y;simp only[AI,R x (by simp[Op.operands]),R y (by simp[Op.operands])];split at h
  ·grind
  ·split at h
   ·rename_i b j;split at h
    ·rename_i g;rw[ce] at h;split at h
     ·rename_i k;have i:=h;simp only[oi,pj] at h;obtain⟨_,_,rfl⟩:=h;have c:=d _ (List.mem_singleton.2 rfl);simp only at b;rw[b] at c;simp only[<- c,j,FL (o':=o') 24 g (fun _ h=>by cases h),k,cond_true]; exact i
     grind
    grind
   grind
  omega
 grind
theorem j0B{T:List Ct}{p:Pa}{d:Nat}{a:Op}{q:Prop}{r:AV}{obs:List (Nat×Ob)}{fp:List Nat}(b:∀t,.tmp t∈a.operands.toList->b9 e t=b9 e' t)(h:Bw T ⟨e,o⟩ p d a=some (q,r,obs,fp))(c:∀id∈fp,b9 o id=b9 o' id):Bw T ⟨e',o'⟩ p d a=some (q,r,obs,fp):=by
 unfold Bw at h
 grind[I0,FK,Op.operands,Call.operands,rd,By,Bw,h0X]
theorem F0D{Γ:m6}{st:St}{p:Pa}{d:Nat}{a:Op}{r:Prop×AV×List (Nat×Ob)×List Nat}(h:Z8 Γ st p d a=some r):C6 Γ st p a=none:=by
 unfold Z8 at h
 grind[C6,O9]
theorem B0w{Γ:m6}{st:St}{p:Pa}{a:Op}{r:Prop×List (Nat×Ob)×List Nat}(h:AK Γ st p a=some r):AI Γ st p a=none:=by
 unfold AK at h
 grind[AI]
theorem q0z{Γ:m6}{p:Pa}{d:Nat}{a:Op}{q:Prop}{r:AV}{obs:List (Nat×Ob)}{l:List Nat}(b:∀t,.tmp t∈a.operands.toList->b9 e t=b9 e' t)(h:Z8 Γ ⟨e,o⟩ p d a=some (q,r,obs,l))(g:∀id∈l,b9 o id=b9 o' id):Z8 Γ ⟨e',o'⟩ p d a=some (q,r,obs,l):=by
 have R:∀(x:Operand),x∈a.operands.toList->rd ⟨e',o'⟩ p x=rd ⟨e,o⟩ p x:=fun x u=>(By (fun t f=>b t (by grind))).symm;unfold Z8 at h;split at h
 ·rename_i T x;simp only[Z8,R x (by simp[Op.operands])];split at h
  ·rename_i w v;split at h
   ·rename_i c;rw[ce] at h;split at h
    ·rename_i k;have n:=h;simp only[oi,pj] at h;obtain⟨_,_,_,rfl⟩:=h;have j:=g _ (List.mem_cons_of_mem _ (List.mem_singleton.2 rfl));simp only at c;rw[c] at j;simp only at k;simp only[<- j,Dl (g d (by simp)),k,cond_true];exact n
    grind
   grind
  omega
 ·rename_i T x l i;have s:L7 ⟨e',o'⟩ p l=L7 ⟨e,o⟩ p l:=(Tq (fun t f=>b t (by grind[Op.operands]))).symm;have m:L7 ⟨e',o'⟩ p i=L7 ⟨e,o⟩ p i:=(Tq (fun t f=>b t (by grind[Op.operands]))).symm;simp only[Z8,R x (by simp[Op.operands]),s,m]
  grind
 grind
theorem n0E{Γ:m6}{p:Pa}{a:Op}{q:Prop}{obs:List (Nat×Ob)}{l:List Nat}(b:∀t,.tmp t∈a.operands.toList->b9 e t=b9 e' t)(h:AK Γ ⟨e,o⟩ p a=some (q,obs,l))(f:∀id∈l,b9 o id=b9 o' id):AK Γ ⟨e',o'⟩ p a=some (q,obs,l):=by
 have R:∀(x:Operand),x∈a.operands.toList->rd ⟨e',o'⟩ p x=rd ⟨e,o⟩ p x:=fun x c=>(By (fun t d=>b t (by grind))).symm;unfold AK at h;split at h
 ·rename_i T x y;simp only[AK,R x (by simp[Op.operands]),R y (by simp[Op.operands])];split at h
  ·grind
  omega
 grind
theorem q0u{Γ:m6}{T:List Ct}{p:Pa}{x:Oper}{q:Prop}{av:Option AV}{obs:List (Nat×Ob)}{fp:List Nat}(b:∀t,.tmp t∈x.op.operands.toList->b9 e t=b9 e' t)(h:R1 Γ T ⟨e,o⟩ p x=some (q,av,obs,fp))(c:∀id∈fp,b9 o id=b9 o' id) :
  R1 Γ T ⟨e',o'⟩ p x=some (q,av,obs,fp):=by
 unfold R1 at h ⊢;split at h
 ·rw[ce] at h ⊢;split at h
  ·rename_i a;rw[if_pos a]
   grind[oi,pj,q0t,q0z,F0D]
  ·rename_i a;rw[if_neg a];rw[ce] at h ⊢;split at h
   ·rename_i a;rw[if_pos a]
    grind[oi,pj,q0w]
   ·rename_i a;rw[if_neg a]
    grind[oi,pj,j0B]
 ·rw[ce] at h ⊢;split at h
  ·rename_i a;rw[if_pos a]
   grind[oi,pj,q0r,n0E,B0w]
  ·rename_i a;rw[if_neg a]
   grind[oi,pj,j0B]
end
structure u1 where
 o:Oper
 p:Pa
 av:Option AV
 obs:List (Nat×Ob)
 fp:List Nat
def OQ(e:List (Nat×Sl))(p:Pa)(q:Prop):Prop:=match p with
 | []=>q
 | x :: r=>Dk e (x :: r)->q
def FM(Γ:m6)(T:List Ct)(all:List Oper):List Oper->St->List u1->(St->List u1->Prop)->Prop
 | [],st,rs,K=>K st rs
 | o :: r,st,rs,K=>match AL all st.e o with
   | some p=>match R1 Γ T st p o with
     | some (q,av,obs,fp)=>bif Bv p||Bv obs then(OQ st.e p q/\FM Γ T all r ⟨Co o.dst p av st.e,obs++st.o⟩ (⟨o,p,av,obs,fp⟩ :: rs) K) else False
     | none=>False
   | none=>False
def L9(n:Nat):Nat->List Nat->List Oper->Bool
 | _,_,[]=>true
 | i,seen,o :: r=>(match o.dst with
   | some d=>Nat.blt d n&&FI d seen
   | none=>true)&&(match o.guard with
   | some (j,_)=>Nat.blt j i
   | none=>true)&&L9 n (i+1) (match o.dst with
   | some d=>d :: seen
   | none=>seen) r
def B7(st:St)(R:u1):St:=⟨Co R.o.dst R.p R.av st.e,R.obs++st.o⟩
def HE(Γ:m6)(T:List Ct)(all:List Oper):St->List u1->Prop
 | _,[]=>True
 | st,R :: r=>AL all st.e R.o=some R.p/\(∃q,R1 Γ T st R.p R.o=some (q,R.av,R.obs,R.fp)/\(Dk st.e R.p->q))/\(R.p=[]∨R.obs=[])/\HE Γ T all (B7 st R) r
theorem LD{Γ:m6}{T:List Ct}{all:List Oper}{K:St->List u1->Prop}:∀{ops:List Oper} {st:St} {rs:List u1},FM Γ T all ops st rs K->∃recs:List u1,recs.map (·.o)=ops/\HE Γ T all st recs/\K (recs.foldl B7 st) (recs.reverse++rs)
 | [],st,rs,h=>⟨[],rfl,trivial,h⟩
 | o :: r,st,rs,h=>by
   unfold FM at h;split at h
   ·rename_i p g;split at h
    ·rename_i q l a e d;rw[ce] at h;split at h
     ·rename_i i;obtain⟨b,c⟩:=h;obtain⟨recs,m,k,f⟩:=LD c;refine⟨⟨o,p,l,a,e⟩ :: recs,by grind,⟨g,⟨q,d,?_⟩,?_,k⟩,by simp only[List.foldl_cons,List.reverse_cons,List.append_assoc,List.singleton_append]; exact f⟩
      ·intro j;cases p with
       | nil=>exact b
       | cons x r=>exact b j
      ·rw[Bool.or_eq_true] at i
       grind[LB]
     grind
    grind
   grind
theorem l0B{a:Type}{l:List a}{j:Nat}{x:a}(h:C3 l j=some x):l[j]?=some x:=by grind[V8]
section
variable {X:Cx} {Γ:m6} {T:List Ct}
theorem OR(m:s9 X.P Γ)(hT:∀c∈T,Ok X.P c){ops:Array Oper}{all:List Oper}(ha:ops=all.toArray){Q:Exit->Act->World->Prop}{rest:List Oper}:∀(recs:List u1) (i:Nat) (seen:List Nat) (st:St) (G:Gh) (a:Act),(∀j,j<recs.length->recs[j]?.map (·.o)=all[i+j]?)->L9 X.n i seen (recs.map (·.o))=true ->
  (∀j oj dj,j<i->all[j]?=some oj->oj.dst=some dj->dj∈seen)->(∀t s,b9 st.e t=some s->∀x∈s.p,x.1∈seen)->HE Γ T all st recs->Sat X G->G.o=st.o->EnvR X.n G st.e a ->
  (∀G' a',Sat X G'->G'.o=(recs.foldl B7 st).o->EnvR X.n G' (recs.foldl B7 st).e a'->wpList X.P ops Q rest a' G'.w)->wpList X.P ops Q (recs.map (·.o)++rest) a G.w
 | [],i,seen,st,G,a,_,_,_,_,_,S,ho,hE,hK=>hK G a S ho hE
 | R :: r,i,seen,st,G,a,hall,hreg,hseen,hpath,⟨hp,⟨q,hab,hq⟩,hg,hrun⟩,S,ho,hE,hK=>by
   simp only[List.map_cons,L9,ba] at hreg;obtain⟨⟨f,l⟩,E⟩:=hreg;have g:∀d,R.o.dst=some d->d<X.n/\d ∉ seen:=fun d k=>by
    rw[k] at f;simp only[ba] at f;exact⟨by simp_all,LC f.2⟩
   have W:∀x∈R.p,x.1∈seen:=by
    unfold AL at hp;split at hp
    ·grind
    ·rename_i j b z;rw[z] at l;have u:j<i:=by simpa using l
     split at hp
     ·rename_i oj hj;split at hp
      ·rename_i dj aC;split at hp
       ·rename_i q' f' x' hs;simp only[oi] at hp; rw[<- hp];intro y Y;rcases List.mem_cons.1 Y with rfl | Y
        ·grind[l0B]
        ·exact hpath dj _ hs y Y
       grind
      grind
     grind
   have k:∀d,R.o.dst=some d->d<X.n/\(∀x∈R.p,x.1≠d)/\∀t s,b9 st.e t=some s->∀x∈s.p,x.1≠d:=fun d k=>⟨(g d k).1,fun x v e=>(g d k).2 (e ▸ W x v),fun t s F x v e=>(g d k).2 (e ▸ hpath t s F x v)⟩
   have aB:=E0U (K:=wpList X.P ops Q (r.map (·.o)++rest)) m hT ha (Q:=Q) S ho hE hp hab hq hg k (fun a' G' S' _ H V=>by
    refine OR m hT ha r (i+1) _ (B7 st R) G' a' (fun j hj=>?_) E ?_ ?_ hrun S' H V hK
    ·have:=hall (j+1) (by grind);simp only[List.getElem?_cons_succ] at this;rw[this]; congr 1; omega
    ·intro j oj dj hj h1 h2;rcases Nat.lt_or_ge j i with h | h
     ·grind
     ·have u:j=i:=by omega
      subst u;have h0:=hall 0 (by simp)
      grind
    ·intro t s F x v;have aA:x.1∈seen->x.1∈(match R.o.dst with | some d=>d :: seen | none=>seen):=fun h=>by
      grind
     simp only[B7,Co] at F
     grind[lK])
   grind[wpList,Bx]
theorem A0l(l:s9 X.P Γ)(u:∀c∈T,Ok X.P c){ops:Array Oper}{all:List Oper}(r:ops=all.toArray){Q:Exit->Act->World->Prop}(recs:List u1)(i:Nat)(b:List Nat)(st:St)(G:Gh)(a:Act)(k:∀j,recs[j]?.map (·.o)=all[i+j]?)(h:L9 X.n i b (recs.map (·.o))=true)
  (d:∀j oj dj,j<i->all[j]?=some oj->oj.dst=some dj->dj∈b) (f:∀t s,b9 st.e t=some s->∀x∈s.p,x.1∈b) (g:HE Γ T all st recs) (S:Sat X G) (m:G.o=st.o) (v:EnvR X.n G st.e a)
  (q:∀G' a',Sat X G'->G'.o=(recs.foldl B7 st).o->EnvR X.n G' (recs.foldl B7 st).e a'->Q .normal a' G'.w):wpList X.P ops Q (recs.map (·.o)) a G.w:=by
 have:=OR (rest:=[]) l u r recs i b st G a (fun j _=>k j) h d f g S m v q
 rwa [List.append_nil] at this
end
def x5(D:Nat->Bool):Nat->List u1->St->St
 | _,[],st=>st
 | i,R :: r,st=>x5 D (i+1) r (if D i=true then B7 st R else st)
def Dm(R:u1)(t:Nat):Prop:=R.o.dst=some t
def FN(R:u1)(id:Nat):Prop:=∃x∈R.obs,x.1=id
theorem Tr(st:St)(R:u1)(t:Nat)(h:¬Dm R t):b9 (B7 st R).e t=b9 st.e t:=by
 simp only[B7,Co];split
 ·rename_i d a b _;rw[lK,if_neg (fun e=>h (by rw[<- e]; exact b))]
 ·rfl
theorem Tt(st:St)(R:u1)(id:Nat)(h:¬FN R id):b9 (B7 st R).o id=b9 st.o id:=by
 simp only[B7];exact Ti (fun x a e=>h ⟨x,a,e⟩)
theorem l0g{st st':St}{R:u1}{t:Nat}(h:b9 st.e t=b9 st'.e t):b9 (B7 st R).e t=b9 (B7 st' R).e t:=by
 simp only[B7,Co]
 grind[lK]
theorem v0G{b:Type}{l m a:List (Nat×b)}{i:Nat}(h:b9 m i=b9 a i):b9 (l++m) i=b9 (l++a) i:=by
 induction l with
 | nil=>exact h
 | cons x r c =>
   grind[lK]
theorem l0f{st st':St}{R:u1}{id:Nat}(h:b9 st.o id=b9 st'.o id):b9 (B7 st R).o id=b9 (B7 st' R).o id:=v0G h
theorem Tu{D b:Nat->Bool}{t:Nat}:∀{recs:List u1} {i:Nat} {st st':St},(∀j R,recs[j]?=some R->Dm R t->D (i+j)=b (i+j))->b9 st.e t=b9 st'.e t->b9 (x5 D i recs st).e t=b9 (x5 b i recs st').e t
 | [],_,_,_,_,h=>h
 | R :: r,i,st,st',hD,h=>by
   simp only[x5];refine Tu (fun j c d a=>by have:=hD (j+1) c (by grind) a; rwa [show i+(j+1)=i+1+j by omega] at this) ?_;by_cases a:Dm R t
   ·have:=hD 0 R rfl a;simp only[Nat.add_zero] at this
    grind[l0g]
   grind[Tr]
theorem Tv{D b:Nat->Bool}{id:Nat}:∀{recs:List u1} {i:Nat} {st st':St},(∀j R,recs[j]?=some R->FN R id->D (i+j)=b (i+j))->b9 st.o id=b9 st'.o id->b9 (x5 D i recs st).o id=b9 (x5 b i recs st').o id
 | [],_,_,_,_,h=>h
 | R :: r,i,st,st',hD,h=>by
   simp only[x5];refine Tv (fun j c d a=>by have:=hD (j+1) c (by grind) a; rwa [show i+(j+1)=i+1+j by omega] at this) ?_;by_cases a:FN R id
   ·have:=hD 0 R rfl a;simp only[Nat.add_zero] at this
    grind[l0f]
   grind[Tt]
theorem l0i{D:Nat->Bool}{t:Nat}{R:u1}:∀{recs:List u1} {i j:Nat} {st st':St},recs[j]?=some R->Dm R t->R.av≠none->D (i+j)=true->(∀k R',j<k->recs[k]?=some R'->Dm R' t->D (i+k)=false)->b9 (x5 D i recs st).e t=b9 (B7 st' R).e t
 | R0 :: r,i,0,st,st',hj,hw,hav,hD,hl=>by
   simp only[List.getElem?_cons_zero,oi] at hj; subst hj;simp only[Nat.add_zero] at hD;simp only[x5,hD,if_true];have g:b9 (x5 D (i+1) r (B7 st R0)).e t=b9 (B7 st R0).e t:=by
    have:∀{recs:List u1} {i:Nat} {st:St},(∀k R',recs[k]?=some R'->Dm R' t->D (i+k)=false)->b9 (x5 D i recs st).e t=b9 st.e t:=by
     intro recs
     induction recs with
     | nil=>intro i st _; rfl
     | cons c m l =>
       intro i st h;simp only[x5];rw[l (fun k R' d b=>by have:=h (k+1) R' (by grind) b; rwa [show i+(k+1)=i+1+k by omega] at this)];split
       ·rename_i f;refine Tr st c t (fun b=>?_);have:=h 0 c rfl b
        grind
       ·rfl
    exact this (fun k R' d b=>by have:=hl (k+1) R' (by omega) (by grind) b; rwa [show i+(k+1)=i+1+k by omega] at this)
   rw[g];unfold Dm at hw;simp only[B7,Co,hw];cases h:R0.av with
   | none=>grind
   | some a=>simp only[lK,if_true]
 | R0 :: r,i,j+1,st,st',hj,hw,hav,hD,hl=>by
   simp only[x5];exact l0i (j:=j) (by grind) hw hav (by grind) (fun k R' n d b=>by have:=hl (k+1) R' (by omega) (by grind) b; rwa [show i+(k+1)=i+1+k by omega] at this)
theorem n0b{a:Type}{l m b:List (Nat×a)}{i:Nat}(h:∃x∈l,x.1=i):b9 (l++m) i=b9 (l++b) i:=by
 induction l with
 | nil=>grind
 | cons x r c =>
   obtain⟨d,v⟩:=x;rw[List.cons_append,List.cons_append,lK,lK]
   grind
theorem l0h{D:Nat->Bool}{id:Nat}{R:u1}:∀{recs:List u1} {i j:Nat} {st st':St},recs[j]?=some R->FN R id->D (i+j)=true->(∀k R',j<k->recs[k]?=some R'->FN R' id->D (i+k)=false)->b9 (x5 D i recs st).o id=b9 (B7 st' R).o id
 | R0 :: r,i,0,st,st',hj,hw,hD,hl=>by
   simp only[List.getElem?_cons_zero,oi] at hj; subst hj;simp only[Nat.add_zero] at hD;simp only[x5,hD,if_true];have e:b9 (x5 D (i+1) r (B7 st R0)).o id=b9 (B7 st R0).o id:=by
    have:∀{recs:List u1} {i:Nat} {st:St},(∀k R',recs[k]?=some R'->FN R' id->D (i+k)=false)->b9 (x5 D i recs st).o id=b9 st.o id:=by
     intro recs
     induction recs with
     | nil=>intro i st _; rfl
     | cons b g f =>
       intro i st h;simp only[x5];rw[f (fun k R' c a=>by have:=h (k+1) R' (by grind) a; rwa [show i+(k+1)=i+1+k by omega] at this)];split
       ·rename_i d;refine Tt st b id (fun a=>?_);have:=h 0 b rfl a
        grind
       ·rfl
    exact this (fun k R' c a=>by have:=hl (k+1) R' (by omega) (by grind) a; rwa [show i+(k+1)=i+1+k by omega] at this)
   rw[e];exact n0b hw
 | R0 :: r,i,j+1,st,st',hj,hw,hD,hl=>by
   simp only[x5];exact l0h (j:=j) (by grind) hw (by grind) (fun k R' l c a=>by have:=hl (k+1) R' (by omega) (by grind) a; rwa [show i+(k+1)=i+1+k by omega] at this)
theorem r0U{D:Nat->Bool}:∀{recs:List u1} {i:Nat} {st:St},(∀j,j<recs.length->D (i+j)=true)->x5 D i recs st=recs.foldl B7 st
 | [],_,_,_=>rfl
 | R :: r,i,st,h=>by
   have a:=h 0 (by simp);simp only[Nat.add_zero] at a;simp only[x5,a,if_true,List.foldl_cons];exact r0U (fun j b=>by have:=h (j+1) (by grind); rwa [show i+(j+1)=i+1+j by omega] at this)
theorem y0Y{Γ:m6}{T:List Ct}{all:List Oper}:∀{recs:List u1} {i:Nat} {st:St} {j:Nat} {R:u1},HE Γ T all st recs->recs[j]?=some R ->
  ∃sj,sj=x5 (fun k=>decide (k<i+j)) i recs st/\AL all sj.e R.o=some R.p/\(∃q,R1 Γ T sj R.p R.o=some (q,R.av,R.obs,R.fp)/\(Dk sj.e R.p->q))/\(R.p=[]∨R.obs=[])
 | [],_,_,j,_,_,h=>by grind
 | R0 :: r,i,st,0,R,⟨h1,h2,h3,h4⟩,h=>by
   simp only[List.getElem?_cons_zero,oi] at h; subst h;have:∀{recs:List u1} {i j:Nat} {st:St},i<=j->x5 (fun k=>decide (k<i)) j recs st=st:=by
    intro recs
    induction recs with
    | nil=>intro i j st _; rfl
    | cons R r a =>
      intro i j st b;simp only[x5];rw[if_neg (by grind)];exact a (by omega)
   simp_all
 | R0 :: r,i,st,j+1,R,⟨h1,h2,h3,h4⟩,h=>by
   obtain⟨sj,e,d,c,k3⟩:=y0Y (i:=i+1) (j:=j) h4 (by simpa using h)
   grind[x5]
def AM(o:Oper):List Nat:=o.after.toList.filterMap fun e=>bif Region.binds .any e then some e.on else none
def Dn:Nat->List Oper->Bool
 | _,[]=>true
 | i,o :: r=>(AM o).all (fun k=>Nat.blt k i)&&Dn (i+1) r
def T7:List (List Nat)->List Oper->List (List Nat)
 | acc,[]=>acc
 | acc,o :: r=>T7 (acc++[AM o++(AM o).flatMap fun k=>(C3 acc k).getD []]) r
def P0(x:Nat):List Nat->Bool
 | []=>false
 | y :: r=>Nat.beq x y||P0 x r
theorem Cp{x:Nat}:∀{l:List Nat},P0 x l=true↔x∈l
 | []=>by simp[P0]
 | y :: r=>by
   simp only[P0,Bool.or_eq_true,List.mem_cons,Cp (l:=r)]
   simp_all
theorem OS{o:Oper}{k:Nat}:k∈AM o↔∃e∈o.after,Region.binds .any e=true/\e.on=k:=by
 unfold AM
 grind
def Tw(D:Nat->Bool)(all:List Oper):Prop:=∀i o,all[i]?=some o->D i=true->∀k∈AM o,D k=true
theorem m0k{all:List Oper}:∀{rest:List Oper} {acc:List (List Nat)},(∀j:Nat,rest[j]?=all[acc.length+j]?)->Dn acc.length rest=true ->
  (∀(i:Nat) (l:List Nat),acc[i]?=some l->(∀k∈l,k<i)/\∀D,Tw D all->∀o,all[i]?=some o->(∀k∈AM o,D k=true)->∀k∈l,D k=true) ->
  ∀(i:Nat) (l:List Nat),(T7 acc rest)[i]?=some l->(∀k∈l,k<i)/\∀D,Tw D all->∀o,all[i]?=some o->(∀k∈AM o,D k=true)->∀k∈l,D k=true
 | [],acc,_,_,h=>h
 | o :: r,acc,hall,hb,h=>by
   simp only[Dn,ba,List.all_eq_true] at hb;simp only[T7];refine m0k (fun j=>?_) (by grind) (fun i l hi=>?_)
   ·have:=hall (j+1);simp only[List.getElem?_cons_succ] at this;rw[this]; congr 1; simp; omega
   ·rcases Nat.lt_or_ge i acc.length with s | hge
    ·rw[List.getElem?_append_left s] at hi;exact h i l hi
    ·have u:i=acc.length:=by
      rcases Nat.eq_or_lt_of_le hge with e | e
      ·exact e.symm
      ·rw[List.getElem?_eq_none (by simp; omega)] at hi; cases hi
     subst u;simp only[List.getElem?_concat_length,oi] at hi;subst hi;have x:∀k:Nat,k∈AM o->k<acc.length:=fun k x=>by simp_all
     refine⟨fun k f=>?_,fun D v F a q k f=>?_⟩
     ·grind[V8,List.getElem?_eq_getElem]
     ·have y:=hall 0;simp only[List.getElem?_cons_zero,Nat.add_zero] at y;rw[<- y] at a;cases a;rcases List.mem_append.1 f with z | z
      ·grind
      ·obtain⟨m,w,n⟩:=List.mem_flatMap.1 z;rw[V8] at n;have b:=x m w;rw[List.getElem?_eq_getElem b] at n;have t:=q m w;obtain⟨g,c⟩:∃g,all[m]?=some g:=by
        grind
       exact(h m acc[m] (List.getElem?_eq_getElem b)).2 D v g c (fun E d=>v m g c t E d) k n
end Go.Proofs.Xv
end
section
set_option maxHeartbeats 0
namespace Go.Proofs.Xv
open Go Go.RowKit Go.Proofs.Sv
theorem Sat.congr{X:Cx}{G:Gh}(S:Sat X G){o':List (Nat×Ob)}(h:∀i,b9 o' i=b9 G.o i):Sat X { G with o:=o' }/\GLe G { G with o:=o' }:=by
 have c:GLe G { G with o:=o' }:=⟨rfl,fun k y _=>⟨y,rfl⟩,fun i T r hi=>⟨rfl,T,r,(h i).trans hi⟩,fun i T s e t f d hi=>⟨rfl,T,s,e,t,f,d,(h i).trans hi⟩,fun i T e t f j hi=>⟨T,e,t,f,j,(h i).trans hi,Nat.le_refl _,fun _=>rfl⟩⟩;have a:∀i o,b9 o' i=some o->b9 G.o i=some o:=fun i o hi=>(h i).symm.trans hi;refine⟨⟨S.base,S.os,S.tape,S.output,S.size,S.block,fun i o hi=>?_,fun i w o u b hi q=>S.inj i w o u b (a i o hi) (a w u q),fun i o b hi=>S.imm i o b (a i o hi),fun i o b hi=>S.own i o b (a i o hi),S.klt,S.kfrom,fun i b F V=>?_,fun i v h=>(S.pin i v h).mono c⟩,c⟩
 rotate_right
 ·obtain⟨W,Y,P,Q⟩:=S.sep i b F (by grind)
  grind
 have:=S.obs i o (a i o hi);cases o with
 | box T r=>obtain⟨b,x,m,n,l,z⟩:=this; exact⟨b,x,m,n,l,z.mono c⟩
 | arr T e t f j=>exact this
 | grd T s e t f d =>
   obtain⟨H,E,m,n,l⟩:=this;exact⟨H,E,m,n.up c (fun _=>Iff.rfl) (WE.refl (g:=none) _) (fun _ _ h=>by cases h),l⟩
theorem EnvR.congr{n:Nat}{G:Gh}{e e':List (Nat×Sl)}{a:Act}(h:EnvR n G e a)(c:∀t,b9 e' t=b9 e t):EnvR n G e' a :=
 ⟨h.defers,h.size,fun t s b=>h.val t s (by grind)⟩
theorem l0w{all:List Oper}{e e':List (Nat×Sl)}{o:Oper}{p:Pa}(h:AL all e o=some p)(a:∀x∈p,b9 e x.1=b9 e' x.1):AL all e' o=some p:=by
 unfold AL at h ⊢;split at h
 ·exact h
 grind[oi,b9,List.mem_cons_self]
theorem h0R{e e':List (Nat×Sl)}:∀{p:Pa},(∀x∈p,b9 e x.1=b9 e' x.1)->Dk e p->Dk e' p
 | [],_,_=>trivial
 | (s,b) :: r,h,⟨h1,h2⟩=>by
   refine⟨?_,h0R (fun x a=>h x (by grind)) h2⟩
   simp_all
def y0T(R:u1):List Nat:=y0U R.o.op.operands.toList++R.p.map Prod.fst
def Tx(l m:List Nat):Bool:=l.all fun x=>!P0 x m
def HF(bs:List (List Nat))(i:Nat)(A:u1)(k:Nat)(B:u1):Bool :=
 (match A.o.dst with
   | some d=>(!P0 d (y0T B)||(P0 i ((C3 bs k).getD [])||P0 k ((C3 bs i).getD [])))&&(!P0 d (B.p.map Prod.fst)||P0 i ((C3 bs k).getD []))
   | none=>true)&&(Tx (A.obs.map Prod.fst) (B.fp++B.obs.map Prod.fst)||(P0 i ((C3 bs k).getD [])||P0 k ((C3 bs i).getD [])))
def HH(f:Nat->u1->Bool):Nat->List u1->Bool
 | _,[]=>true
 | i,R :: r=>f i R&&HH f (i+1) r
theorem OT{f:Nat->u1->Bool}:∀{recs:List u1} {i:Nat},HH f i recs=true->∀j R,recs[j]?=some R->f (i+j) R=true
 | [],_,_,j,R,h=>by grind
 | R0 :: r,i,h,0,R,hj=>by
   grind[HH]
 | R0 :: r,i,h,j+1,R,hj=>by
   simp only[HH,ba] at h;have:=OT h.2 j R (by grind)
   grind
def y0X(A:u1):Bool:=match A.o.dst with
 | some d=>!P0 d (A.p.map Prod.fst)
 | none=>true
def OU(bs:List (List Nat))(recs:List u1):Bool:=HH (fun i A=>y0X A&&HH (fun k B=>Nat.beq i k||HF bs i A k B) 0 recs) 0 recs
theorem OV{a:List (List Nat)}{recs:List u1}(h:OU a recs=true){i k:Nat}{A B:u1}(hi:recs[i]?=some A)(d:recs[k]?=some B)(c:i≠k):HF a i A k B=true:=by
 have b:=OT h i A hi;rw[ba] at b;have e:=OT b.2 k B d
 simp_all
theorem l0q{n:Nat}:∀{l:List Oper} {i:Nat} {seen:List Nat},L9 n i seen l=true->(∀(j:Nat) (o:Oper) (d:Nat),l[j]?=some o->o.dst=some d->d<n/\d ∉ seen)/\(∀(j k:Nat) (o o':Oper) (d:Nat),l[j]?=some o->l[k]?=some o'->o.dst=some d->o'.dst=some d->j=k)
 | [],_,_,_=>⟨fun j o d h=>by grind,fun j k o o' d h=>by grind⟩
 | o0 :: r,i,seen,h=>by
   simp only[L9,ba] at h;obtain⟨⟨a,_⟩,c⟩:=h;obtain⟨g,f⟩:=l0q c;have e:∀d,d∈seen->d∈(match o0.dst with | some d=>d :: seen | none=>seen):=fun d b=>by
    grind
   have m:∀d,o0.dst=some d->d<n/\d ∉ seen:=fun d b=>by
    rw[b] at a;simp only[ba] at a;exact⟨by simp_all,LC a.2⟩
   grind
theorem l0V{b:Type}{p a:b->Bool}:∀{l:List b},(∀x,a x=true->p x=true)->(∃x∈l,p x=true/\a x=false)->(l.filter a).length < (l.filter p).length
 | [],_,⟨x,hx,_⟩=>by cases hx
 | y :: r,h,⟨x,hx,h1,h2⟩=>by
   have d:∀l:List b,(l.filter a).length<=(l.filter p).length:=fun l=>by
    induction l with
    | nil=>grind
    | cons z s c =>
      grind
   rcases List.mem_cons.1 hx with rfl | hx
   ·grind
   ·have c:=l0V h ⟨x,hx,h1,h2⟩;simp only[List.filter_cons];by_cases hz:a y=true
    ·rw[if_pos hz,if_pos (h y hz)]; simp only[List.length_cons]; omega
    ·rw[if_neg hz];split
     ·simp only[List.length_cons]; omega
     ·exact c
theorem o0l{D:Nat->Bool}{t:Nat}{s:Sl}:∀{recs:List u1} {i:Nat} {st:St},b9 (x5 D i recs st).e t=some s->b9 st.e t=some s∨∃k R,recs[k]?=some R/\D (i+k)=true/\s.p=R.p
 | [],_,_,h=>.inl h
 | R :: r,i,st,h=>by
   simp only[x5] at h;rcases o0l h with a | ⟨k,R',h1,h2,h3⟩
   ·by_cases b:D i=true
    ·rw[if_pos b] at a;simp only[B7,Co] at a;split at a
     ·rw[lK] at a;split at a
      ·cases a;exact .inr ⟨0,R,rfl,b,rfl⟩
      grind
     grind
    grind
   ·exact .inr ⟨k+1,R',by grind,by grind,h3⟩
theorem B0u{Γ:m6}{T:List Ct}{st:St}{p:Pa}{o:Oper}{d:Nat}{q:Prop}{av:Option AV}{obs:List (Nat×Ob)}{fp:List Nat}(h:R1 Γ T st p o=some (q,av,obs,fp))(a:o.dst=some d):av≠none:=by
 grind[R1]
section
variable {X:Cx} {Γ:m6} {T:List Ct}
theorem w0o(bF:s9 X.P Γ)(hT:∀c∈T,Ok X.P c){l:List Oper}{recs:List u1}{st:St}{Q:Exit->Act->World->Prop}(hl:recs.map (·.o)=l)(aP:HE Γ T l st recs)(aT:∀t s,b9 st.e t=some s->s.p=[])
  (aK:L9 X.n 0 [] l=true) (W:Dn 0 l=true) (E:OU (T7 [] l) recs=true) (hK:∀G' a',Sat X G'->G'.o=(recs.foldl B7 st).o->EnvR X.n G' (recs.foldl B7 st).e a'->Q .normal a' G'.w) :
  ∀(fuel:Nat) (listed:Array Bool) (G:Gh) (a:Act),((List.range l.length).filter fun i=>!listed.getD i true).length<=fuel->listed.size=l.length->Tw (fun k=>listed.getD k false) l->Sat X G->(∀id,b9 G.o id=b9 (x5 (fun k=>listed.getD k false) 0 recs st).o id) ->
   EnvR X.n G (x5 (fun k=>listed.getD k false) 0 recs st).e a->wpAny X.P .any l.toArray Q fuel listed a G.w:=by
 have bQ:recs.length=l.length:=by rw[<- hl]; simp
 have aX:∀(j:Nat) (R:u1),recs[j]?=some R->l[j]?=some R.o:=fun j R h=>by rw[<- hl,List.getElem?_map,h]; rfl
 have bI:∀(j:Nat) (o:Oper),l[j]?=some o->∃R,recs[j]?=some R/\R.o=o:=fun j o h=>by
  rw[<- hl,List.getElem?_map] at h;cases hr:recs[j]? with
  | none=>rw[hr] at h; cases h
  | some R=>rw[hr] at h; cases h; exact⟨R,rfl,rfl⟩
 have bA:=m0k (all:=l) (rest:=l) (acc:=[]) (fun j=>by simp) W (fun i m h=>by grind);have aF:=l0q aK;have aN:∀(i:Nat) (o:Oper) (k:Nat),l[i]?=some o->k∈AM o->k<i:=by
  have:∀{m:List Oper} {i:Nat},Dn i m=true->∀j o k,m[j]?=some o->k∈AM o->k<i+j:=by
   intro m
   induction m with
   | nil=>grind
   | cons o0 r ih =>
     intro i h j o k hj u;simp only[Dn,ba,List.all_eq_true] at h;cases j with
     | zero=>simp only[List.getElem?_cons_zero,oi] at hj; simp_all
     | succ j=>grind
  intro i o k v h2;have:=this W i o k v h2; omega
 -- all is done: the end
 have aC:∀(listed:Array Bool) (G:Gh) (a:Act),(∀i,i<l.length->listed.getD i false=true)->Sat X G->(∀id,b9 G.o id=b9 (x5 (fun k=>listed.getD k false) 0 recs st).o id)->EnvR X.n G (x5 (fun k=>listed.getD k false) 0 recs st).e a->Q .normal a G.w:=by
  intro listed G a aI S hO hE;rw[r0U (fun j hj=>by grind)] at hO hE;obtain⟨S',L'⟩:=S.congr (o':=(recs.foldl B7 st).o) (fun i=>(hO i).symm);exact hK ⟨G.ρ,G.γ,G.K,G.w,(recs.foldl B7 st).o,G.B,G.δ⟩ a S' rfl (hE.mono L')
 intro fuel
 induction fuel with
 | zero =>
   intro listed G a hf bD aB S hO hE;have aM:(List.range l.length).filter (fun i=>!listed.getD i true)=[]:=List.eq_nil_of_length_eq_zero (by omega);have aI:∀i,i<l.length->listed.getD i true=true:=fun i hi=>by
    cases h:listed.getD i true with
    | true=>rfl
    | false =>
      have:i∈(List.range l.length).filter (fun i=>!listed.getD i true):=List.mem_filter.2 ⟨List.mem_range.2 hi,by grind⟩;rw[aM] at this; cases this
   refine⟨?_,aC listed G a (fun i hi=>?_) S hO hE⟩
   ·grind[Region.ready,hi,mem_ready,Nat.lt_or_ge,List.getElem?_eq_none]
   grind
 | succ fuel ih =>
   intro listed G a hf bD aB S hO hE;refine⟨fun hr=>aC listed G a ?_ S hO hE,fun i hi=>?_⟩
   · -- nothing is ready: all is done
     intro i
     induction i using Nat.strongRecOn with
     | ind i bE =>
       intro hi;cases h:listed.getD i false with
       | true=>rfl
       | false =>
         have:i∈Region.ready .any l.toArray listed:=mem_ready.2 ⟨by
          grind,l[i],by grind,fun e he hb=>bE e.on (aN i l[i] e.on (List.getElem?_eq_getElem hi) (OS.2 ⟨e,he,hb,rfl⟩)) (by have:=aN i l[i] e.on (List.getElem?_eq_getElem hi) (OS.2 ⟨e,he,hb,rfl⟩); omega)⟩
         rw[hr] at this; cases this
   ·obtain⟨aH,o,ho,bR⟩:=mem_ready.1 hi;rw[List.getElem?_toArray] at ho;obtain⟨R,hR,rfl⟩:=bI i o ho;have aR:i<l.length:=by
     rcases Nat.lt_or_ge i l.length with h | h
     ·exact h
     ·grind
    have bT:listed.getD i false=false:=by
     have hs:i<listed.size:=by omega
     rw[Array.getD_eq_getD_getElem?,Array.getElem?_eq_getElem hs] at aH ⊢;exact aH
    -- what stands ahead of i is done
    have bU:∀k∈((C3 (T7 [] l) i).getD []),k<i/\listed.getD k false=true:=by
     intro k u;rw[V8] at u;cases hb:(T7 [] l)[i]? with
     | none=>grind
     | some m =>
       grind[OS]
    have bL:∀k,listed.getD k false=true->k<l.length->∀m∈((C3 (T7 [] l) k).getD []),m<k/\listed.getD m false=true:=by
     intro k u g m hm;rw[V8] at hm;cases hb:(T7 [] l)[k]? with
     | none=>grind
     | some b =>
       rw[hb] at hm;obtain⟨g1,g2⟩:=bA k b hb;exact⟨g1 m hm,g2 _ aB l[k] (List.getElem?_eq_getElem g) (fun k' aV=>aB k l[k] (List.getElem?_eq_getElem g) u k' aV) m hm⟩
    have bK:∀k,k<l.length->∀m∈((C3 (T7 [] l) k).getD []),m<k:=by
     intro k g m hm;rw[V8] at hm;cases hb:(T7 [] l)[k]? with
     | none=>grind
     | some b=>grind
    -- ordered with i: done exactly if earlier in the text
    have aD:∀k,k<l.length->k≠i->(P0 k ((C3 (T7 [] l) i).getD [])||P0 i ((C3 (T7 [] l) k).getD []))=true->listed.getD k false=decide (k<i):=by
     intro k g bO h;rw[Bool.or_eq_true] at h;rcases h with h | h
     ·grind[Cp]
     ·grind[Cp]
    obtain⟨sj,aG,bH,⟨q,aL,hq⟩,hg⟩:=y0Y (i:=0) aP hR;rw[Nat.zero_add] at aG
    -- the slots and objects that i looks at are as in the text's order
    have aQ:∀t,t∈y0T R->b9 sj.e t=b9 (x5 (fun k=>listed.getD k false) 0 recs st).e t:=by
     intro t ht;rw[aG];refine Tu (fun k R' u H=>?_) rfl;rw[Nat.zero_add];by_cases f:k=i
     ·grind
     ·have F:=OV E u hR f;have g:k<l.length:=by
       rcases Nat.lt_or_ge k l.length with h | h
       ·exact h
       ·grind
      simp only[HF,ba] at F;have H:R'.o.dst=some t:=H;rw[H] at F;simp only[ba] at F;have v:=F.1.1;rw[Bool.or_eq_true] at v;rcases v with v | v
      ·grind[Cp]
      ·exact(aD k g f (by omega)).symm
    have bJ:∀id,id∈R.fp++R.obs.map Prod.fst->b9 sj.o id=b9 G.o id:=by
     intro id aJ;rw[hO,aG];refine Tv (fun k R' u H=>?_) rfl;rw[Nat.zero_add];by_cases f:k=i
     ·grind
     ·have F:=OV E u hR f;have g:k<l.length:=by
       rcases Nat.lt_or_ge k l.length with h | h
       ·exact h
       ·grind
      simp only[HF,ba] at F;have v:=F.2;rw[Bool.or_eq_true] at v;obtain⟨y,hy,bC⟩:=H;rcases v with v | v
      ·grind[Tx,List.all_eq_true,List.mem_map_of_mem,Cp]
      ·exact(aD k g f (Bool.or_comm _ _ ▸ v)).symm
    have aS:∀x∈R.p,b9 sj.e x.1=b9 (x5 (fun k=>listed.getD k false) 0 recs st).e x.1:=fun x hx=>aQ x.1 (List.mem_append.2 (.inr (List.mem_map_of_mem hx)));have bG:=l0w bH aS;have aO:R1 Γ T ⟨(x5 (fun k=>listed.getD k false) 0 recs st).e,G.o⟩ R.p R.o=some (q,R.av,R.obs,R.fp) :=
     q0u (e:=sj.e) (o:=sj.o) (fun t ht=>aQ t (List.mem_append.2 (.inl (s0I ht)))) aL (fun id aJ=>bJ id (List.mem_append.2 (.inl aJ)))
    have hd:∀d,R.o.dst=some d->d<X.n/\(∀x∈R.p,x.1≠d)/\∀t s,b9 (x5 (fun k=>listed.getD k false) 0 recs st).e t=some s->∀x∈s.p,x.1≠d:=by
     intro d hd;refine⟨(aF.1 i R.o d ho hd).1,fun x hx e=>?_,fun t s ht x hx e=>?_⟩
     ·have v:=OT E i R hR;rw[Nat.zero_add,ba] at v
      grind[y0X,Cp]
     ·rcases o0l ht with h | ⟨k,Rk,u,Y,hsp⟩
      ·grind
      ·rw[Nat.zero_add] at Y;have f:i≠k:=fun e'=>by grind
       have g:k<l.length:=by
        rcases Nat.lt_or_ge k l.length with h | h
        ·exact h
        ·grind
       have F:=OV E hR u f;simp only[HF,ba,hd] at F;have h2:=F.1.2;rw[Bool.or_eq_true] at h2
       grind[Cp]
    have V:∀k,(listed.setIfInBounds i true).getD k false=if k=i then true else listed.getD k false:=fun k=>by
     by_cases f:k=i
     ·subst f;have hs:k<listed.size:=by omega
      simp[hs]
     ·rw[if_neg f]; exact getD_set_ne false (Ne.symm f)
    have bP:=E0U (st:=⟨(x5 (fun k=>listed.getD k false) 0 recs st).e,G.o⟩) (K:=wpAny X.P .any l.toArray Q fuel (listed.setIfInBounds i true)) bF hT (ops:=l.toArray) (all:=l) rfl (Q:=Q) S rfl hE bG aO (fun F=>hq (h0R (fun x hx=>(aS x hx).symm) F)) hg hd (fun a' G' S' _ aW bB=>by
     refine ih (listed.setIfInBounds i true) G' a' ?_ (by grind) ?_ S' ?_ ?_
     ·have:((List.range l.length).filter fun j=>!(listed.setIfInBounds i true).getD j true).length < ((List.range l.length).filter fun j=>!listed.getD j true).length:=by
       refine l0V (fun j hj=>?_) ⟨i,List.mem_range.2 aR,by grind,?_⟩
       ·by_cases bS:i=j
        ·grind
        grind
       ·grind
      omega
     ·intro k o u Y m hm;simp only[V] at Y ⊢;by_cases aY:m=i
      ·grind
      ·rw[if_neg aY];by_cases f:k=i
       ·subst f;rw[ho] at u;cases u;obtain⟨e,he,bN,rfl⟩:=OS.1 hm
        grind
       ·rw[if_neg f] at Y;exact aB k o u Y m hm
     ·intro id;rw[aW];by_cases H:FN R id
      ·rw[l0h (D:=fun k=>(listed.setIfInBounds i true).getD k false) (st':=⟨[],G.o⟩) hR H (by grind) (fun k Rk aZ u aA=>?_)]
       ·rfl
       ·rw[Nat.zero_add];simp only[V,if_neg (show k≠i by omega)];have g:k<l.length:=by
         rcases Nat.lt_or_ge k l.length with h | h
         ·exact h
         ·grind
        have F:=OV E u hR (show k≠i by omega);simp only[HF,ba] at F;have v:=F.2;rw[Bool.or_eq_true] at v;obtain⟨y,hy,bC⟩:=aA;obtain⟨z,hz,bM⟩:=H;rcases v with v | v
        ·simp only[Tx,List.all_eq_true] at v
         grind[List.mem_map_of_mem,Cp]
        grind
      ·have e1:=Tt ⟨[],G.o⟩ R id H;simp only[B7] at e1;rw[e1,hO];refine Tv (fun k Rk u aA=>?_) rfl;rw[Nat.zero_add];simp only[V];rw[if_neg (fun e=>by grind)]
     ·refine bB.congr (fun t=>?_);by_cases H:Dm R t
      ·have aU:=B0u aL H;rw[l0i (D:=fun k=>(listed.setIfInBounds i true).getD k false) (st':=⟨(x5 (fun k=>listed.getD k false) 0 recs st).e,G.o⟩) hR H aU (by grind) (fun k Rk aZ u aA=>by
        have:=aF.2 i k R.o Rk.o t ho (aX k Rk u) H aA;omega)]
       rfl
      ·have e1:=Tr ⟨(x5 (fun k=>listed.getD k false) 0 recs st).e,G.o⟩ R t H;simp only[B7] at e1;rw[e1];refine Tu (fun k Rk u aA=>?_) rfl;rw[Nat.zero_add];simp only[V];rw[if_neg (fun e=>by grind)])
    grind[wpOp,Bx]
end
end Go.Proofs.Xv
end
section
namespace Go.Proofs.Xv
open Go Go.RowKit Go.Proofs.Sv
def VX(X:Cx)(st:St)(c:Code)(Q:Exit->Act->World->Prop):Prop:=∀G a,Sat X G->G.o=st.o->EnvR X.n G st.e a->c.wp X.P Q a G.w
def FX(X:Cx)(st:St)(x:Exit)(Q:Exit->Act->World->Prop):Prop:=∀G a,Sat X G->G.o=st.o->EnvR X.n G st.e a->Q x a G.w
def LF(e:List (Nat×Sl)):List Nat->List (Nat×Sl)
 | []=>[]
 | t :: r=>match b9 e t with
   | some ⟨[],a⟩=>(t,⟨[],a⟩) :: LF e r
   | _=>LF e r
def LG:List Nat->List (Nat×Ob)->List (Nat×Ob)
 | _,[]=>[]
 | seen,(i,b) :: r=>bif P0 i seen then LG seen r else(i,b) :: LG (i :: seen) r
def cut(keep:List Nat)(st:St):St:=⟨LF st.e keep,LG [] st.o⟩
theorem Tz{e:List (Nat×Sl)}:∀{keep:List Nat} {t:Nat} {s:Sl},b9 (LF e keep) t=some s->b9 e t=some s/\s.p=[]
 | [],t,s,h=>by cases h
 | k :: r,t,s,h=>by
   unfold LF at h;split at h
   ·rename_i a b;rw[lK] at h;split at h
    ·grind
    ·exact Tz h
   ·exact Tz h
theorem TA:∀{o:List (Nat×Ob)} {seen:List Nat} {i:Nat},i ∉ seen->b9 (LG seen o) i=b9 o i
 | [],_,_,_=>rfl
 | (j,b) :: r,seen,i,h=>by
   unfold LG;rw[ce,lK];split
   ·rename_i c;have:¬j=i:=fun e=>h (by grind[Cp]);rw[if_neg this];exact TA h
   ·rw[lK];split
    ·rfl
    ·rename_i a;exact TA (by grind)
theorem TB{X:Cx}{st:St}{G:Gh}{a:Act}(b:List Nat)(S:Sat X G)(h:G.o=st.o)(c:EnvR X.n G st.e a):∃G',Sat X G'/\G'.o=(cut b st).o/\G'.w=G.w/\EnvR X.n G' (cut b st).e a:=by
 obtain⟨d,g⟩:=S.congr (o':=(cut b st).o) (fun i=>by rw[h]; exact TA (by simp));refine⟨_,d,rfl,rfl,c.defers,c.size,fun t s f=>?_⟩;obtain⟨j,_⟩:=Tz f;have:=(c.mono g).val t s j;omega
def R2(e:List (Nat×Sl)):Bool:=e.all fun x=>Bv x.2.p
theorem HI{e:List (Nat×Sl)}(h:R2 e=true):∀t s,b9 e t=some s->s.p=[]:=by
 intro t s a;have:∃x∈e,x.2=s:=by
  induction e with
  | nil=>cases a
  | cons y r c =>
    obtain⟨d,v⟩:=y;rw[lK] at a;split at a
    ·simp_all
    grind[R2]
 obtain⟨x,b,rfl⟩:=this
 grind[R2,List.all_eq_true,LB]
section
variable {X:Cx} {st:St} {Q:Exit->Act->World->Prop}
theorem vQ{x y:Code}(h:VX X st x (Od X.P y Q)):VX X st (.seq x y) Q:=fun G a S c b=>wp_seq (h G a S c b)
theorem vB{id:Nat}{c:Code}(h:VX X st c (Oe id Q)):VX X st (.block id c) Q:=fun G a S d b=>wp_block (h G a S d b)
theorem vK(h:FX X st .normal Q):VX X st .skip Q:=fun G a S c b=>wp_skip (h G a S c b)
theorem a8(h:FX X st .ret Q):VX X st .ret Q:=fun G a S c b=>wp_ret (h G a S c b)
theorem vE{id:Nat}(h:FX X st (.exit id) Q):VX X st (.exit id) Q:=fun G a S c b=>wp_exit (h G a S c b)
theorem TC{c:Operand}{x y:Code}{f b:Bool}(k:rd st [] c=some (.d f .bool b))(j:b=true->VX X st x Q)(l:b=false->VX X st y Q):VX X st (.cond c x y) Q:=fun G a S i g=>by
 have e:=Cj (x7 g (p:=[]) (fun _ h=>by cases h) k);exact wp_cond_split e (fun h=>j h G a S i g) (fun h=>l h G a S i g)
theorem q0W{c:Operand}{x y:Code}{f:Bool}(a:rd st [] c=some (.d f .bool true))(b:VX X st x Q):VX X st (.cond c x y) Q:=TC a (fun _=>b) (fun h=>by cases h)
theorem q0X{c:Operand}{x y:Code}{f:Bool}(a:rd st [] c=some (.d f .bool false))(b:VX X st y Q):VX X st (.cond c x y) Q:=TC a (fun h=>by cases h) (fun _=>b)
theorem fQ{y:Code}(h:VX X st y Q):FX X st .normal (Od X.P y Q):=fun G a S c b=>h G a S c b
theorem fE{y:Code}{id:Nat}(h:FX X st (.exit id) Q):FX X st (.exit id) (Od X.P y Q):=fun G a S c b=>h G a S c b
theorem fR{y:Code}(h:FX X st .ret Q):FX X st .ret (Od X.P y Q):=fun G a S c b=>h G a S c b
theorem fK{id:Nat}(h:FX X st .normal Q):FX X st .normal (Oe id Q):=fun G a S c b=>h G a S c b
theorem h9{id:Nat}(h:FX X st .ret Q):FX X st .ret (Oe id Q):=fun G a S c b=>h G a S c b
theorem fX{id b:Nat}(c:Nat.beq b id=true)(h:FX X st .normal Q):FX X st (.exit b) (Oe id Q):=fun G a S e d=>by
 have:b=id:=by simpa using c
 show(if b=id then Q .normal a G.w else Q (.exit b) a G.w);rw[if_pos this]; exact h G a S e d
theorem w0E{Γ:m6}{T:List Ct}(g:s9 X.P Γ)(w:∀c∈T,Ok X.P c){id:Nat}{l:List Oper}(b:List Nat)(o:L9 X.n 0 [] l=true)(F:R2 st.e=true)
  (h:FM Γ T l l st [] fun st' _=>FX X (cut b st') .normal Q):VX X st (.region id l.toArray false) Q:=by
 intro G a S u H;obtain⟨d,e1,y,z⟩:=LD h;refine wp_region_lit ?_;have:=A0l g w (ops:=l.toArray) (all:=l) rfl (Q:=Q) d 0 [] st G a (fun j=>by grind) (by grind) (fun j Y W hj=>by omega) (fun t s V x hx=>by grind[HI]) y S u H
  (fun G' v q i k=>by
    obtain⟨G2,r,f,E,m⟩:=TB b q i k;have:=z G2 v r f m
    grind)
 grind
theorem z0z{Γ:m6}{T:List Ct}(m:s9 X.P Γ)(hT:∀c∈T,Ok X.P c)[V:H6 X.P]{id:Nat}{l:List Oper}(d:List Nat)(b:(L9 X.n 0 [] l&&Dn 0 l)=true)(v:R2 st.e=true)
  (h:FM Γ T l l st [] fun st' rs=>OU (T7 [] l) rs.reverse=true/\FX X (cut d st') .normal Q):VX X st (.region id l.toArray true) Q:=by
 intro G a S ho hE;rw[ba] at b;obtain⟨recs,e1,e2,x,H⟩:=LD h;rw[List.append_nil,List.reverse_reverse] at x;refine wp_region_any V.h ?_;have f:Ext G.w { G.w with drawn:=G.w.drawn+1 }:=(Below.refl _ _).drew;obtain⟨W,Y⟩:=S.ext f;have:=w0o m hT (Q:=Q) (l:=l) (recs:=recs) (st:=st) e1 e2 (HI v) b.1 b.2 x (fun G' E y q s=>by
   obtain⟨G2,z,g,aA,t⟩:=TB d y q s;have:=H G2 E z g t
   grind) l.length (Array.replicate l.length false) { G with w:={ G.w with drawn:=G.w.drawn+1 } } a
  (by grind) (by simp) (fun i o _ hD=>by
    by_cases hi:i<l.length
    ·simp_all
    grind) W (fun id=>by
    have:∀{recs:List u1} {i:Nat} {st:St},(∀j,(Array.replicate l.length false).getD j false=false)->x5 (fun k=>(Array.replicate l.length false).getD k false) i recs st=st:=by
     intro recs
     induction recs with
     | nil=>intro i st _; rfl
     | cons R r F=>grind[x5]
    rw[this (fun j=>by by_cases u:j<l.length <;> simp[u])]
    grind) (by
    have:∀{recs:List u1} {i:Nat} {st:St},(∀j,(Array.replicate l.length false).getD j false=false)->x5 (fun k=>(Array.replicate l.length false).getD k false) i recs st=st:=by
     intro recs
     induction recs with
     | nil=>intro i st _; rfl
     | cons R r F=>grind[x5]
    rw[this (fun j=>by by_cases u:j<l.length <;> simp[u])];exact hE.mono Y)
 omega
end
def Dp:Option Ob->Nat->Prop
 | some (.arr _ _ _ _ v),ver=>v=ver
 | _,_=>False
theorem TD{b:Option Ob}{ver:Nat}(h:Dp b ver):∃T fr t xs,b=some (.arr T fr t xs ver):=by
 unfold Dp at h
 grind
def LH:Option Ob->Prop
 | some (.box _ _)=>True
 | _=>False
theorem o0V{b:Option Ob}(h:LH b):∃T cs,b=some (.box T cs):=by
 unfold LH at h
 grind
def OW:Option Ob->Prop
 | none=>True
 | _=>False
theorem s0V{b:Option Ob}(h:OW b):b=none:=by
 grind[OW]
def FO:Value->Prop
 | .slice none 0 0=>True
 | _=>False
theorem TE{u:Value}(h:FO u):u=.slice none 0 0:=by
 grind[FO]
def TF:(t:Ty)->j2 t->Prop
 | .sl _,x=>x=[]
 | _,_=>False
theorem A0u{K:Nat->Prop}{w:World}:∀{t:Ty} {x:j2 t},TF t x->RT K w t [.slice none 0 0] x
 | .sl _,x,h=>by
   have h:x=[]:=h;subst h;exact⟨none,0,rfl,Nat.le_refl _,by omega,.inl rfl⟩
def TH:Option Ob->Prop
 | some (.grd ..)=>True
 | _=>False
theorem s0T{b:Option Ob}(h:TH b):∃T Te fr t xs hole,b=some (.grd T Te fr t xs hole):=by
 unfold TH at h
 grind
def TJ:Option Nat->Prop
 | none=>True
 | some _=>False
theorem l0C{h:Option Nat}(k:TJ h):h=none:=by
 cases h with
 | none=>rfl
 | some _=>exact k.elim
/- The first value may be taken for the second one. -/
mutual
def I2(o o':List (Nat×Ob)):AV->AV->Prop
 | .d fr t x,b=>match b with
   | .d fr' t' y=>(fr'=true->fr=true)/\O8 t t' x=some y
   | _=>False
 | .v x,b=>match b with
   | .v y=>x=y
   | .os id ver=>FO x/\OW (b9 o id)/\Dp (b9 o' id) ver
   | .d _ t y=>FO x/\TF t y
   | _=>False
 | .os id ver,b=>match b with
   | .os id' ver'=>id=id'/\Dp (b9 o id) ver/\Dp (b9 o' id) ver'
   | _=>False
 | .ptr id off,b=>match b with
   | .ptr id' off'=>id=id'/\off=off'/\LH (b9 o' id)
   | _=>False
 | .agg xs,b=>match b with
   | .agg ys=>AN o o' xs ys
   | _=>False
 | .tup xs,b=>match b with
   | .tup ys=>AN o o' xs ys
   | _=>False
 | .fn f xs,b=>match b with
   | .fn g ys=>f=g/\AN o o' xs ys
   | _=>False
 | .og id,b=>match b with
   | .og id'=>id=id'/\TH (b9 o' id)
   | _=>False
 | _,_=>False
def AN(o o':List (Nat×Ob)):List AV->List AV->Prop
 | [],ys=>match ys with
   | []=>True
   | _=>False
 | a :: r,ys=>match ys with
   | b :: s=>I2 o o' a b/\AN o o' r s
   | _=>False
end
def TK(o o':List (Nat×Ob)):Option Ob->Ob->Prop
 | some (.box T cs),.box T' cs'=>T=T'/\AN o o' cs cs'
 | some (.arr T fr t xs _),.arr T' fr' t' ys _=>T=T'/\(fr'=true->fr=true)/\O8 (.sl t) (.sl t') xs=some ys
 | none,.arr _ _ _ ys _=>ys=[]
 | some (.grd T Te fr t xs h),.grd T' Te' fr' t' ys h'=>T=T'/\Te=Te'/\TJ h/\TJ h'/\(fr'=true->fr=true)/\O8 (.sl (.sl t)) (.sl (.sl t')) xs=some ys
 | _,_=>False
def TL(o o':List (Nat×Ob))(b:AV):Option Sl->Prop
 | some ⟨[],a⟩=>I2 o o' a b
 | _=>False
def TM:Pa->Prop
 | []=>True
 | _=>False
theorem F0m{q:Pa}(h:TM q):q=[]:=by
 grind[TM]
def OX(o o':List (Nat×Ob))(e:List (Nat×Sl)):List (Nat×Sl)->Prop
 | []=>True
 | (t,s) :: r=>TM s.p/\TL o o' s.a (b9 e t)/\OX o o' e r
def LI(o o':List (Nat×Ob)):List (Nat×Ob)->Prop
 | []=>True
 | (i,b) :: r=>TK o o' (b9 o i) b/\LI o o' r
def I7(o':List (Nat×Ob)):List (Nat×Ob)->Prop
 | []=>True
 | (i,.box _ _) :: r=>(bif Nat.ble 500000 i then LH (b9 o' i) else True)/\I7 o' r
 | (_,.arr ..) :: r=>I7 o' r
 | (_,.grd ..) :: r=>I7 o' r
def LJ(st st':St):Prop:=OX st.o st'.o st.e st'.e/\LI st.o st'.o st'.o/\I7 st'.o st.o
def Q9(G:Gh)(o':List (Nat×Ob)):Gh :=
 ⟨fun i=>match b9 G.o i with | some _=>G.ρ i | none=>.slice none 0 0,fun i=>match b9 G.o i with | some _=>G.γ i | none=>none,G.K,G.w,o',G.B,G.δ⟩
theorem FP{G:Gh}{o':List (Nat×Ob)}{i:Nat}{b:Ob}(h:b9 G.o i=some b):(Q9 G o').ρ i=G.ρ i:=by grind[Q9]
theorem OY{G:Gh}{o':List (Nat×Ob)}{i:Nat}{b:Ob}(h:b9 G.o i=some b):(Q9 G o').γ i=G.γ i:=by grind[Q9]
theorem o0W{G:Gh}{o':List (Nat×Ob)}{i:Nat}(h:b9 G.o i=none):(Q9 G o').ρ i=.slice none 0 0:=by grind[Q9]
theorem o0X{G:Gh}{o':List (Nat×Ob)}{i:Nat}(h:b9 G.o i=none):(Q9 G o').γ i=none:=by grind[Q9]
mutual
theorem m0d{G:Gh}{o':List (Nat×Ob)}:∀{a b:AV} {u:Value},I2 G.o o' a b->AVR G a u->AVR (Q9 G o') b u
 | .d m t x,b,u,h,c=>by
   unfold I2 at h;split at h
   ·obtain⟨i,g⟩:=h;obtain⟨e,rfl⟩:=Cg g;subst e;exact RT.up c (fun k n=>⟨n.1,fun e=>n.2 (i e)⟩)
   grind
 | .v x,b,u,h,c=>by
   have c:u=x:=c;unfold I2 at h;split at h
   ·exact c.trans h
   ·obtain⟨j,i,g⟩:=h;have j:=TE j;have i:=s0V i;obtain⟨T,m,t,l,g⟩:=TD g;subst c;subst j;exact⟨rfl,T,m,t,l,_,g,Nat.le_refl _,fun _=>(o0W i).symm⟩
   ·obtain⟨j,i⟩:=h;have j:=TE j;subst c;subst j;exact A0u i
   grind
 | .os id ver,b,u,h,⟨j,T,m,t,l,ver',k1,k2,k3⟩=>by
   unfold I2 at h;split at h
   ·obtain⟨rfl,i,g⟩:=h;obtain⟨F,q,y,w,i⟩:=TD i;obtain⟨z,s,E,r,g⟩:=TD g;rw[k1] at i;cases i;exact⟨j,_,_,_,_,_,g,Nat.le_refl _,fun _=>(k3 rfl).trans (FP k1).symm⟩
   grind
 | .ptr id off,b,u,h,⟨⟨T,cs,k1⟩,b',k2,k3⟩=>by
   unfold I2 at h;split at h
   ·obtain⟨rfl,rfl,g⟩:=h;exact⟨o0V g,b',(FP k1).trans k2,k3⟩
   grind
 | .agg l,b,u,h,⟨us,e,c⟩=>by
   unfold I2 at h;split at h
   ·exact⟨us,e,LK h c⟩
   grind
 | .tup l,b,u,h,⟨us,e,c⟩=>by
   unfold I2 at h;split at h
   ·exact⟨us,e,LK h c⟩
   grind
 | .fn f l,b,u,h,⟨us,e,c⟩=>by
   unfold I2 at h;split at h
   ·obtain⟨rfl,h⟩:=h;exact⟨us,e,LK h c⟩
   grind
 | .pel _ _ _ _ _,b,u,h,c=>by grind[I2]
 | .gel _ _,b,u,h,c=>by grind[I2]
 | .og id,b,u,h,⟨j,⟨T,Te,m,t,l,hole,k1⟩,k2⟩=>by
   unfold I2 at h;split at h
   ·obtain⟨rfl,g⟩:=h;exact⟨j,s0T g,k2.trans (FP k1).symm⟩
   grind
 | .ow _ _ _ _,b,u,h,c=>c.elim
 | .ob _ _,b,u,h,c=>c.elim
theorem LK{G:Gh}{o':List (Nat×Ob)}:∀{as' bs:List AV} {us:List Value},AN G.o o' as' bs->AVRs G as' us->AVRs (Q9 G o') bs us
 | [],bs,us,h,hu=>by
   unfold AN at h;split at h
   ·exact hu
   grind
 | a :: r,bs,us,h,⟨u,us',e,k1,k2⟩=>by
   unfold AN at h;split at h
   ·exact⟨u,us',e,m0d h.1 k1,LK h.2 k2⟩
   grind
end
theorem TN{o o':List (Nat×Ob)}:∀{l:List (Nat×Ob)} {i:Nat} {b:Ob},LI o o' l->b9 l i=some b->TK o o' (b9 o i) b
 | [],_,_,_,h=>by cases h
 | (j,c) :: r,i,b,h,hl=>by
   rw[lK] at hl;split at hl
   ·rename_i e; subst e; cases hl; exact h.1
   ·exact TN h.2 hl
theorem t0r{o o':List (Nat×Ob)}{e:List (Nat×Sl)}:∀{l:List (Nat×Sl)} {t:Nat} {s:Sl},OX o o' e l->b9 l t=some s->s.p=[]/\TL o o' s.a (b9 e t)
 | [],_,_,_,h=>by cases h
 | (j,c) :: r,t,s,h,hl=>by
   rw[lK] at hl;split at hl
   ·rename_i e; subst e; cases hl; exact⟨F0m h.1,h.2.1⟩
   ·exact t0r h.2.2 hl
theorem OZ{o':List (Nat×Ob)}:∀{l:List (Nat×Ob)} {i:Nat} {T:TypeId} {cs:List AV},I7 o' l->b9 l (500000+i)=some (.box T cs)->LH (b9 o' (500000+i))
 | [],_,_,_,_,h=>by cases h
 | (j,.arr ..) :: r,i,_,_,h,hl=>by
   rw[lK] at hl;split at hl
   ·cases hl
   ·exact OZ (l:=r) h hl
 | (j,.grd ..) :: r,i,_,_,h,hl=>by
   rw[lK] at hl;split at hl
   ·cases hl
   ·exact OZ (l:=r) h hl
 | (j,.box ..) :: r,i,_,_,h,hl=>by
   rw[lK] at hl;split at hl
   ·rename_i e; subst e;have:=h.1
    simp_all
   ·exact OZ h.2 hl
theorem w0c{X:Cx}{G:Gh}{o':List (Nat×Ob)}(S:Sat X G)(h:LI G.o o' o')(P:I7 o' G.o):Sat X (Q9 G o'):=by
 have g:∀{i:Nat} {b:Nat},(Q9 G o').γ i=some b->(∃c,b9 G.o i=some c)/\G.γ i=some b:=fun {i b} u=>by
  cases hl:b9 G.o i with
  | none=>grind[o0X]
  | some c=>grind[OY]
 have F:∀i,C5 (b9 o' i)=true->C5 (b9 G.o i)=true:=fun i hg=>by
  obtain⟨T,H,n,t,m,d,e⟩:=Lv hg;have a:=TN h e;cases hl:b9 G.o i with
  | none=>rw[hl] at a; exact a.elim
  | some c =>
    rw[hl] at a;cases c with
    | box T s=>exact a.elim
    | arr T n t m y=>exact a.elim
    | grd T H n t m d=>rfl
 refine⟨S.base,S.os,S.tape,S.output,S.size,S.block,?_,?_,?_,?_,S.klt,S.kfrom,fun i b u hg=>?_,fun i v hv=>?_⟩
 rotate_right
 rotate_right
 ·obtain⟨s1,s2,s3,s4⟩:=S.sep i b u (F i hg);exact⟨s1,s2,fun j o ho hj=>by grind,fun j hj Y=>s4 j hj (F j Y)⟩
 ·obtain⟨⟨T,s,l⟩,b,f,r⟩:=S.pin i v hv;exact⟨o0V (OZ P l),b,(FP l).trans f,r⟩
 ·intro id o ho;have a:=TN h ho;cases hl:b9 G.o id with
  | none =>
    rw[hl] at a;cases o with
    | box T s=>exact a.elim
    | grd T H n t m d=>exact a.elim
    | arr T n t m y =>
      have hx:m=[]:=a;subst hx;refine⟨[],?_,rfl,fun b u=>by grind⟩;rw[o0X hl,o0W hl];exact .inl ⟨rfl,rfl,rfl,none,rfl⟩
  | some c =>
    rw[hl] at a;have:=S.obs id c hl;cases c with
    | box T s =>
      cases o with
      | arr z n t m y=>exact a.elim
      | grd T H n t m d=>exact a.elim
      | box z W =>
        obtain⟨rfl,a⟩:=a;obtain⟨b,us,l,f,r,E⟩:=this;exact⟨b,us,(OY hl).trans l,(FP hl).trans f,r,LK a E⟩
    | arr T n t m y =>
      cases o with
      | box z W=>exact a.elim
      | arr z V t' ys Q =>
        obtain⟨rfl,l,f⟩:=a;obtain⟨e,rfl⟩:=Cg f;cases e;obtain⟨s,k1,w,k3⟩:=this;refine⟨s,?_,w.mapR (fun c x hr=>RT.up hr (fun k q=>⟨q.1,fun e=>q.2 (l e)⟩)),fun b u=>k3 b (g u).2⟩;rw[OY hl,FP hl];exact k1
      | grd T H n t m d=>exact a.elim
    | grd T H n t m d =>
      cases o with
      | box z W=>exact a.elim
      | arr z V t' ys Q=>exact a.elim
      | grd z Te' V t' ys aB =>
        obtain⟨rfl,rfl,e1,e2,l,f⟩:=a;have e1:=l0C e1;have e2:=l0C e2;subst e1; subst e2;obtain⟨e,rfl⟩:=Cg f;cases e;obtain⟨vs,bs,k1,w,k3⟩:=this;refine⟨vs,bs,by rw[OY hl,FP hl]; exact k1,⟨w.len,w.blk,w.inj,fun k q hh=>?_,w.one⟩,fun b u=>k3 b (g u).2⟩;obtain⟨s,r1,r2,r3⟩:=w.row k q hh;exact⟨s,r1,r2.mapR (fun c x hr=>RT.up hr (fun k q=>⟨q.1,fun e=>q.2 (l e)⟩)),r3⟩
 ·intro i i' o1 o2 b l f r E;obtain⟨⟨c,a⟩,r⟩:=g r;obtain⟨⟨c',aA⟩,E⟩:=g E;exact S.inj i i' c c' b a aA r E
 ·intro i o1 b l f;obtain⟨⟨c,a⟩,f⟩:=g f;exact S.imm i c b a f
 ·intro i o1 b l f;obtain⟨⟨c,a⟩,f⟩:=g f;exact S.own i c b a f
theorem TO{X:Cx}{G:Gh}{st st':St}{a:Act}(h:LJ st st')(S:Sat X G)(j:G.o=st.o)(b:EnvR X.n G st.e a):∃G',Sat X G'/\G'.o=st'.o/\G'.w=G.w/\EnvR X.n G' st'.e a:=by
 obtain⟨g,f,d⟩:=h;rw[<- j] at g f d;refine⟨Q9 G st'.o,w0c S f d,rfl,rfl,b.defers,b.size,fun t s i=>?_⟩;obtain⟨k,c⟩:=t0r g i;rw[k];refine⟨fun _=>?_,fun l=>(l (fun _ h=>by cases h)).elim⟩;unfold TL at c;split at c
 ·rename_i q m;exact m0d c ((b.val t _ m).1 (fun _ h=>by cases h))
 grind
section
variable {X:Cx} {st:St} {Q:Exit->Act->World->Prop}
def Pb(X:Cx){σ:Type}(E:σ->St)(J:σ->Prop)(μ:σ->Nat)(s:σ)(Q:Exit->Act->World->Prop):Exit->Act->World->Prop
 | .normal,a,w=>∃s',μ s'<μ s/\J s'/\∃G,Sat X G/\G.o=(E s').o/\G.w=w/\EnvR X.n G (E s').e a
 | e,a,w=>Q e a w
theorem z0y{c:Code}(st':St)(h:LJ st st')(k:VX X st' c Q):VX X st c Q:=fun G a S f j=>by
 obtain⟨g,e,b,i,d⟩:=TO h S f j;have:=k g a e b d
 grind
theorem z0x{b:Code}{g:Type}(E:g->St)(J:g->Prop)(d:g->Nat)(f:g)(u:J f)(q:LJ st (E f))
  (c:∀s,J s->VX X (E s) b (Pb X E J d s Q)):VX X st (.loop b) Q:=by
 intro G a S h l;obtain⟨F,v,i,k,j⟩:=TO q S h l;refine wp_loop_ghost (fun m a w=>∃s,d s=m/\J s/\∃G,Sat X G/\G.o=(E s).o/\G.w=w/\EnvR X.n G (E s).e a) (d f) ⟨f,rfl,u,F,v,i,k,j⟩ ?_;rintro m a w ⟨s,rfl,y,G,S,h,rfl,l⟩;refine wp_mono (c s y G a S h l) ?_;intro x T V t;cases x with
 | normal =>
   obtain⟨r,H,P,z⟩:=t;exact⟨d r,H,r,rfl,P,z⟩
 | _=>exact t
theorem A0T{b:Type}{E:b->St}{J:b->Prop}{h:b->Nat}{s:b}(c:b)(i:J c)(e:h c<h s)(m:LJ st (E c)):FX X st .normal (Pb X E J h s Q):=fun G a S k n=>by
 obtain⟨l,j,d,g,f⟩:=TO m S k n;exact⟨c,e,i,l,j,d,g,f⟩
theorem l0T{b:Type}{E:b->St}{J:b->Prop}{d:b->Nat}{s:b}{id:Nat}(h:FX X st (.exit id) Q):FX X st (.exit id) (Pb X E J d s Q):=fun G a S e c=>h G a S e c
theorem n0k{b:Type}{E:b->St}{J:b->Prop}{d:b->Nat}{s:b}(h:FX X st .ret Q):FX X st .ret (Pb X E J d s Q):=fun G a S e c=>h G a S e c
end
def K5:Nat->(ps:List o5)->z6 ps->List (Nat×Sl)
 | _,[],_=>[]
 | i,.dat t :: r,x=>(i,⟨[],.d false t x.1⟩) :: K5 (i+1) r x.2
 | i,.agg t :: r,x=>(i,⟨[],.agg (A6 false t x.1)⟩) :: K5 (i+1) r x.2
 | i,.fn f c :: r,x=>(i,⟨[],.fn f (A6 false c x.1)⟩) :: K5 (i+1) r x.2
 | i,.nof f :: r,x=>(i,⟨[],.fn f []⟩) :: K5 (i+1) r x.2
 | i,.nil :: r,x=>(i,⟨[],.v (.pointer none)⟩) :: K5 (i+1) r x.2
 | i,.io _ _ :: r,x=>(i,⟨[],.ptr (500000+i) 0⟩) :: K5 (i+1) r x.2
 | i,.os _ _ :: r,x=>(i,⟨[],.os (500000+i) 0⟩) :: K5 (i+1) r x.2
def D8:Nat->(ps:List o5)->z6 ps->List (Nat×Ob)
 | _,[],_=>[]
 | i,.io T t :: _,x=>[(500000+i,.box T (A6 false t x.1))]
 | i,.os E t :: _,x=>[(500000+i,.arr E true t x.1 0)]
 | i,.dat _ :: r,x=>D8 (i+1) r x.2
 | i,.agg _ :: r,x=>D8 (i+1) r x.2
 | i,.fn _ _ :: r,x=>D8 (i+1) r x.2
 | i,.nof _ :: r,x=>D8 (i+1) r x.2
 | i,.nil :: r,x=>D8 (i+1) r x.2
def m8:Nat->List o5->Option Nat->Option (Nat×Value)
 | _,[],_=>none
 | i,.io _ _ :: _,some b=>some (i,.pointer (some ⟨b,0,none⟩))
 | _,.os _ _ :: _,_=>none
 | i,_ :: r,go=>m8 (i+1) r go
def AO:List o5->Bool
 | []=>true
 | .io _ _ :: _=>false
 | .os _ _ :: _=>false
 | .dat _ :: r=>AO r
 | .agg _ :: r=>AO r
 | .fn _ _ :: r=>AO r
 | .nof _ :: r=>AO r
 | .nil :: r=>AO r
def W5:List o5->Bool
 | []=>true
 | .io _ _ :: r=>AO r
 | .os _ _ :: r=>AO r
 | .dat _ :: r=>W5 r
 | .agg _ :: r=>W5 r
 | .fn _ _ :: r=>W5 r
 | .nof _ :: r=>W5 r
 | .nil :: r=>W5 r
theorem FQ:∀{ps:List o5} {i:Nat} {x:z6 ps},AO ps=true->D8 i ps x=[]
 | [],_,_,_=>rfl
 | .io _ _ :: _,_,_,h=>by cases h
 | .os _ _ :: _,_,_,h=>by cases h
 | .dat _ :: r,i,x,h=>FQ (ps:=r) (i:=i+1) h
 | .agg _ :: r,i,x,h=>FQ (ps:=r) (i:=i+1) h
 | .fn _ _ :: r,i,x,h=>FQ (ps:=r) (i:=i+1) h
 | .nof _ :: r,i,x,h=>FQ (ps:=r) (i:=i+1) h
 | .nil :: r,i,x,h=>FQ (ps:=r) (i:=i+1) h
theorem HJ{K:Nat->Prop}{w:World}{go:Option Nat}:∀{ps:List o5} {z:A0 ps},AO ps=true->IOR K w go ps z
 | [],_,_=>trivial
 | .io _ _ :: _,_,h=>by cases h
 | .os _ _ :: _,_,h=>by cases h
 | .dat _ :: r,z,h=>HJ (ps:=r) h
 | .agg _ :: r,z,h=>HJ (ps:=r) h
 | .fn _ _ :: r,z,h=>HJ (ps:=r) h
 | .nof _ :: r,z,h=>HJ (ps:=r) h
 | .nil :: r,z,h=>HJ (ps:=r) h
theorem HK:∀{ps:List o5},AO ps=true->¬C7 ps=true
 | [],_=>fun e=>by cases e
 | .io _ _ :: _,h=>by cases h
 | .os _ _ :: _,h=>by cases h
 | .dat _ :: r,h=>HK (ps:=r) h
 | .agg _ :: r,h=>HK (ps:=r) h
 | .fn _ _ :: r,h=>HK (ps:=r) h
 | .nof _ :: r,h=>HK (ps:=r) h
 | .nil :: r,h=>HK (ps:=r) h
theorem HL{K:Nat->Prop}{w:World}{go:Option Nat}:∀{ps:List o5} {z:A0 ps},W5 ps=true->C7 ps=true->IOR K w go ps z
 | [],_,_,_=>trivial
 | .io _ _ :: r,_,h,g=>(HK (ps:=r) h g).elim
 | .os _ _ :: r,_z,h,_=>HJ (ps:=r) h
 | .dat _ :: r,_z,h,g=>HL (ps:=r) h g
 | .agg _ :: r,_z,h,g=>HL (ps:=r) h g
 | .fn _ _ :: r,_z,h,g=>HL (ps:=r) h g
 | .nof _ :: r,_z,h,g=>HL (ps:=r) h g
 | .nil :: r,_z,h,g=>HL (ps:=r) h g
theorem FR:∀{ps:List o5},AO ps=true->W5 ps=true
 | [],_=>rfl
 | .io _ _ :: _,h=>by cases h
 | .os _ _ :: _,h=>by cases h
 | .dat _ :: r,h=>FR (ps:=r) h
 | .agg _ :: r,h=>FR (ps:=r) h
 | .fn _ _ :: r,h=>FR (ps:=r) h
 | .nof _ :: r,h=>FR (ps:=r) h
 | .nil :: r,h=>FR (ps:=r) h
def LL(o:Option (Nat×Value)):Nat->Value->Prop:=fun i v=>o=some (i,v)
def Z9:List o5->List Value->Value
 | .io _ _ :: _,v :: _=>v
 | .os _ _ :: _,v :: _=>v
 | _ :: r,_ :: us=>Z9 r us
 | _,_=>undef
def Cq(K:Nat->Prop)(w:World)(go:Option Nat)(r0:Value)(B:Nat)(o:List (Nat×Ob)):Gh:=⟨fun _=>r0,fun _=>go,K,w,o,B,fun _ _=>False⟩
@[reducible] def cx (P:Program) (n:Nat) (y:World×(Nat->Prop)×(Nat->Prop)×(Nat->Value->Prop)×Nat):Cx:=⟨P,n,y.1,y.2.1,y.2.2.1,y.2.2.2.1,y.2.2.2.2⟩
def J9(ps:List o5)(w:World):Nat:=bif C7 ps then 0 else w.heap.size
theorem m0l{ps:List o5}{w:World}(h:¬C7 ps=true):J9 ps w=w.heap.size:=by
 grind[J9]
theorem j0z{ps:List o5}{w:World}(h:C7 ps=true):J9 ps w=0:=by
 grind[J9]
theorem t0H(ps:List o5)(w:World):J9 ps w<=w.heap.size:=by
 by_cases h:C7 ps=true
 ·rw[j0z h]; exact Nat.zero_le _
 ·rw[m0l h]; exact Nat.le_refl _
theorem Pc{K:Nat->Prop}{w:World}{go:Option Nat}{r0:Value}{B:Nat}{o:List (Nat×Ob)}{t:Ty}{us:List Value}{x:j2 t}(h:RT K w t us x):RT (rg (Cq K w go r0 B o) false) (Cq K w go r0 B o).w t us x :=
 RT.up h (fun _ a=>⟨a,fun e=>by cases e⟩)
theorem FT{K:Nat->Prop}{w:World}:∀{ps:List o5} {i:Nat} {x:z6 ps} {vs:List Value} {go:Option Nat},ArgsR K w go ps x vs ->
  (D8 i ps x=[]/\go=none/\m8 i ps go=none/\¬C7 ps=true)∨(∃j b T t z cs,D8 i ps x=[(500000+j,.box T (A6 false t z))]/\go=some b/\m8 i ps go=some (j,.pointer (some ⟨b,0,none⟩))/\Z9 ps vs=.pointer (some ⟨b,0,none⟩)/\Blk w b cs T/\RT K w t cs z/\¬K b) ∨
    ∃j E t,∃xs:List (j2 t),∃cs,D8 i ps x=[(500000+j,.arr E true t xs 0)]/\m8 i ps go=none/\(Z9 ps vs).oneCell'=true/\Own w E (sz t) go (Z9 ps vs) xs.length cs/\AllR (RT K w t) cs xs/\(∀b,go=some b->¬K b)/\C7 ps=true
 | [],i,x,vs,go,h=>.inl ⟨rfl,h.2,rfl,fun e=>by cases e⟩
 | .dat t :: r,i,x,vs,go,⟨v,us,e,_,h⟩=>by
   subst e;have:=FT (i:=i+1) h;cases go <;> exact this
 | .agg t :: r,i,x,vs,go,⟨v,us,e,_,h⟩=>by
   subst e;have:=FT (i:=i+1) h;cases go <;> exact this
 | .fn f t :: r,i,x,vs,go,⟨v,us,e,_,h⟩=>by
   subst e;have:=FT (i:=i+1) h;cases go <;> exact this
 | .nof f :: r,i,x,vs,go,⟨us,e,h⟩=>by
   subst e;have:=FT (i:=i+1) h;cases go <;> exact this
 | .nil :: r,i,x,vs,go,⟨us,e,h⟩=>by
   subst e;have:=FT (i:=i+1) h;cases go <;> exact this
 | .io T t :: r,i,x,vs,go,⟨b,cs,us,e,hgo,h1,h2,h3,h⟩=>by
   subst hgo;subst e;exact .inr (.inl ⟨i,b,T,t,x.1,cs,rfl,rfl,rfl,rfl,h2,h3,h1⟩)
 | .os E t :: r,i,x,vs,go,⟨v,cs,us,e,h1,h2,h3,h4,h⟩=>by
   subst e;exact .inr (.inr ⟨i,E,t,x.1,cs,rfl,(by cases go <;> rfl),h2,h3,h4,h1,rfl⟩)
theorem Dq{K:Nat->Prop}{w:World}{o:List (Nat×Ob)}{g0:Option Nat}{r0:Value}{B:Nat}:∀{ps:List o5} {i:Nat} {x:z6 ps} {vs:List Value} {go:Option Nat},W5 ps=true->ArgsR K w go ps x vs->(D8 i ps x≠[]->Z9 ps vs=r0)->(∀z∈D8 i ps x,b9 o z.1=some z.2) ->
  ∀t s,b9 (K5 i ps x) t=some s->i<=t/\s.p=[]/\∃u,vs[t-i]?=some u/\AVR (Cq K w g0 r0 B o) s.a u
 | [],i,x,vs,go,_,h,_,_,t,s,ht=>by cases ht
 | .dat ty :: r,i,x,vs,go,hn,⟨v,us,e,h1,h⟩,hg,hz,t,s,ht=>by
   subst e;unfold K5 at ht;rw[lK] at ht;split at ht
   ·rename_i e; subst e; cases ht; exact⟨Nat.le_refl _,rfl,v,by simp,Pc h1⟩
   ·obtain⟨m,c,u,l,d⟩:=Dq (ps:=r) (i:=i+1) hn h hg hz t s ht;exact⟨by omega,c,u,by grind,d⟩
 | .agg ty :: r,i,x,vs,go,hn,⟨v,us,e,h1,h⟩,hg,hz,t,s,ht=>by
   subst e;unfold K5 at ht;rw[lK] at ht;split at ht
   ·rename_i e; subst e; cases ht; exact⟨Nat.le_refl _,rfl,_,by simp,v,rfl,Ch (Pc h1)⟩
   ·obtain⟨m,c,u,l,d⟩:=Dq (ps:=r) (i:=i+1) hn h hg hz t s ht;exact⟨by omega,c,u,by grind,d⟩
 | .fn f ty :: r,i,x,vs,go,hn,⟨v,us,e,h1,h⟩,hg,hz,t,s,ht=>by
   subst e;unfold K5 at ht;rw[lK] at ht;split at ht
   ·rename_i e; subst e; cases ht; exact⟨Nat.le_refl _,rfl,_,by simp,v,rfl,Ch (Pc h1)⟩
   ·obtain⟨m,c,u,l,d⟩:=Dq (ps:=r) (i:=i+1) hn h hg hz t s ht;exact⟨by omega,c,u,by grind,d⟩
 | .nof f :: r,i,x,vs,go,hn,⟨us,e,h⟩,hg,hz,t,s,ht=>by
   subst e;unfold K5 at ht;rw[lK] at ht;split at ht
   ·rename_i e; subst e; cases ht; exact⟨Nat.le_refl _,rfl,_,by simp,[],rfl,rfl⟩
   ·obtain⟨m,c,u,l,d⟩:=Dq (ps:=r) (i:=i+1) hn h hg hz t s ht;exact⟨by omega,c,u,by grind,d⟩
 | .nil :: r,i,x,vs,go,hn,⟨us,e,h⟩,hg,hz,t,s,ht=>by
   subst e;unfold K5 at ht;rw[lK] at ht;split at ht
   ·rename_i e; subst e; cases ht; exact⟨Nat.le_refl _,rfl,_,by simp,rfl⟩
   ·obtain⟨m,c,u,l,d⟩:=Dq (ps:=r) (i:=i+1) hn h hg hz t s ht;exact⟨by omega,c,u,by grind,d⟩
 | .io T ty :: r,i,x,vs,go,hn,⟨b,cs,us,e,hgo,h1,h2,h3,h⟩,hg,hz,t,s,ht=>by
   subst e;have k:Value.pointer (some ⟨b,0,none⟩)=r0:=hg (fun e=>by cases e);unfold K5 at ht;rw[lK] at ht;split at ht
   ·rename_i e; subst e; cases ht;exact⟨Nat.le_refl _,rfl,_,by simp,⟨_,_,hz _ (List.mem_singleton.2 rfl)⟩,b,k.symm,rfl⟩
   ·have g:D8 (i+1) r x.2=[]:=FQ hn;obtain⟨m,c,u,l,d⟩:=Dq (ps:=r) (i:=i+1) (FR hn) h (fun e=>(e g).elim) (fun z j=>by rw[g] at j; cases j) t s ht;exact⟨by omega,c,u,by grind,d⟩
 | .os E ty :: r,i,x,vs,go,hn,⟨v,cs,us,e,h1,h2,h3,h4,h⟩,hg,hz,t,s,ht=>by
   subst e;have k:v=r0:=hg (fun e=>by cases e);unfold K5 at ht;rw[lK] at ht;split at ht
   ·rename_i e; subst e; cases ht;exact⟨Nat.le_refl _,rfl,_,by simp,h2,_,_,_,_,_,hz _ (List.mem_singleton.2 rfl),Nat.le_refl _,fun _=>k⟩
   ·have g:D8 (i+1) r x.2=[]:=FQ hn;obtain⟨m,c,u,l,d⟩:=Dq (ps:=r) (i:=i+1) (FR hn) h (fun e=>(e g).elim) (fun z j=>by rw[g] at j; cases j) t s ht;exact⟨by omega,c,u,by grind,d⟩
theorem ArgsR.len{K:Nat->Prop}{w:World}:∀{ps:List o5} {x:z6 ps} {vs:List Value} {go:Option Nat},ArgsR K w go ps x vs->vs.length=ps.length
 | [],x,vs,go,h=>by rw[h.1]; rfl
 | .dat t :: r,x,vs,go,⟨v,us,e,_,h⟩=>by rw[e,List.length_cons,h.len]; rfl
 | .agg t :: r,x,vs,go,⟨v,us,e,_,h⟩=>by rw[e,List.length_cons,h.len]; rfl
 | .fn f t :: r,x,vs,go,⟨v,us,e,_,h⟩=>by rw[e,List.length_cons,h.len]; rfl
 | .nof f :: r,x,vs,go,⟨us,e,h⟩=>by rw[e,List.length_cons,h.len]; rfl
 | .nil :: r,x,vs,go,⟨us,e,h⟩=>by rw[e,List.length_cons,h.len]; rfl
 | .io T t :: r,x,vs,go,⟨b,cs,us,e,_,_,_,_,h⟩=>by rw[e,List.length_cons,h.len]; rfl
 | .os E t :: r,x,vs,go,⟨v,cs,us,e,_,_,_,_,h⟩=>by rw[e,List.length_cons,h.len]; rfl
theorem r0T{P:Program}{n:Nat}{K:Nat->Prop}{w:World}{ps:List o5}{x:z6 ps}{vs:List Value}{go:Option Nat}(l:∀k,K k->k<w.heap.size)(h:ArgsR K w go ps x vs) :
  Sat (cx P n ⟨w,fun k=>go=some k,K,LL (m8 0 ps go),J9 ps w⟩) (Cq K w go (Z9 ps vs) (J9 ps w) (D8 0 ps x)):=by
 have l:∀k,K k->UFg w w.heap.size k:=fun k d=>⟨l k d,fun h=>absurd (l k d) (Nat.not_lt.2 h)⟩;have q:∀i,(Cq K w go (Z9 ps vs) (J9 ps w) (D8 0 ps x)).γ i=go:=fun _=>rfl;have g:=t0H ps w;rcases FT (i:=0) h with ⟨m,F,r,_⟩ | ⟨j,b,T,t,z,cs,m,F,r,hr,h1,h2,h3⟩ | ⟨j,E,t,xs,cs,m,r,h1,h2,h3,h4,hv⟩
 ·have a:∀i o,b9 (Cq K w go (Z9 ps vs) (J9 ps w) (D8 0 ps x)).o i=some o->False:=fun i o e=>by
   have:b9 (D8 0 ps x) i=some o:=e;rw[m] at this; cases this
  refine⟨⟨rfl,g⟩,rfl,rfl,rfl,Nat.le_refl _,fun _ _ _=>rfl,fun i o e=>(a i o e).elim,fun i _ o _ _ e=>(a i o e).elim,fun i o _ e=>(a i o e).elim,fun i o _ e=>(a i o e).elim,l,fun k d=>.inl d,fun _ _ h=>h.elim,fun i v e=>?_⟩;have:m8 0 ps go=some (i,v):=e
  grind
 ·subst F;have a:∀i o,b9 (Cq K w (some b) (Z9 ps vs) (J9 ps w) (D8 0 ps x)).o i=some o->i=500000+j/\o=.box T (A6 false t z):=fun i o e=>by
   have:b9 (D8 0 ps x) i=some o:=e;rw[m,lK] at this;split at this
   ·grind
   ·cases this
  refine⟨⟨rfl,g⟩,rfl,rfl,rfl,Nat.le_refl _,fun _ _ _=>rfl,fun i o e=>?_,fun i y o u _ e f _ _=>(a i o e).1.trans (a y u f).1.symm,fun i o s e f d=>?_,fun i o s e f=>.inr (by grind),l,fun k d=>.inl d,fun _ _ h=>h.elim,fun i v e=>?_⟩
  ·obtain⟨rfl,rfl⟩:=a i o e;exact⟨b,cs,rfl,hr,h1,Ch (Pc h2)⟩
  ·rw[q] at f; cases f; exact h3 d
  ·have:m8 0 ps (some b)=some (i,v):=e;rw[r] at this;cases this;refine⟨⟨T,A6 false t z,?_⟩,b,hr,rfl⟩;show b9 (D8 0 ps x) _=_;rw[m,lK,if_pos rfl]
 ·have a:∀i o,b9 (Cq K w go (Z9 ps vs) (J9 ps w) (D8 0 ps x)).o i=some o->i=500000+j/\o=.arr E true t xs 0:=fun i o e=>by
   have:b9 (D8 0 ps x) i=some o:=e;rw[m,lK] at this;split at this
   ·grind
   ·cases this
  have H:=j0z (w:=w) hv;refine⟨⟨rfl,g⟩,rfl,rfl,rfl,Nat.le_refl _,fun _ _ _=>rfl,fun i o e=>?_,fun i y o u _ e f _ _=>(a i o e).1.trans (a y u f).1.symm,fun i o s e f d=>?_,fun i o s e f=>.inr (by grind),l,fun k d=>.inl d,fun _ _ h=>h.elim,fun i v e=>?_⟩
  ·obtain⟨rfl,rfl⟩:=a i o e;exact⟨cs,h2,h3.mapR (fun c x G=>RT.up G (fun k d=>⟨d,fun _=>by show J9 ps w<=k; omega⟩)),fun b _=>by show J9 ps w<=b; omega⟩
  ·rw[q] at f; exact h4 s f d
  ·have:m8 0 ps go=some (i,v):=e;rw[r] at this;cases this
/- A value as the wanted result: on what condition, the rows handed over, the objects that become data. -/
mutual
def I3(o:List (Nat×Ob)):AV->AV->Option (Prop×List (Option Nat)×List Nat)
 | a,.ow T fr t xs=>match a with
   | .os id ver=>match b9 o id with
     | some (.arr T' fr' t' ys ver')=>bif Nat.beq ver ver'&&Nat.beq T' T then some ((fr=true->fr'=true)/\O8 (.sl t') (.sl t) ys=some xs,[some id],[]) else none
     | _=>none
   | .v x=>some (FO x/\xs=[],[none],[])
   | _=>none
 | a,.d fr t x=>match C1 o 24 t [a] with
   | some (y,l,fl)=>some ((fr=true->fl=true)/\y=x,[],l)
   | none=>none
 | a,.ob T rs=>match a with
   | .ptr id 0=>match b9 o id with
     | some (.box T' cs)=>bif Nat.beq T' T then(match Bz o cs rs with
       | some (q,m,f)=>some (q,some id :: m,f)
       | none=>none) else none
     | _=>none
   | _=>none
 | a,.v x=>match a with
   | .v y=>some (y=x,[],[])
   | _=>none
 | a,.agg rs=>match a with
   | .agg as'=>Bz o as' rs
   | _=>none
 | a,.tup rs=>match a with
   | .tup as'=>Bz o as' rs
   | _=>none
 | _,_=>none
def Bz(o:List (Nat×Ob)):List AV->List AV->Option (Prop×List (Option Nat)×List Nat)
 | as',[]=>match as' with
   | []=>some (True,[],[])
   | _=>none
 | as',r :: rs=>match as' with
   | a :: t=>match I3 o a r with
     | some (q,m,f)=>match Bz o t rs with
       | some (q',m',f')=>some (q/\q',m++m',f++f')
       | none=>none
     | none=>none
   | []=>none
end
def P1(G:Gh)(mv:List (Option Nat)):List (Option Nat):=mv.map fun o=>o.bind G.γ
def TP(G:Gh)(mv:List (Option Nat)):Prop:=∀id,some id∈mv->∃o,b9 G.o id=some o
mutual
theorem Pd{X:Cx}{G:Gh}(S:Sat X G){K':Nat->Prop}(s:∀k,G.K k->K' k){Kf:Bool->Nat->Prop}(n:∀fr k,rk G K' fr k->Kf fr k):∀{a r:AV} {u:Value} {q:Prop} {mv:List (Option Nat)} {fz:List Nat},I3 G.o a r=some (q,mv,fz)->q->(∀id∈fz,(∃o,b9 G.o id=some o)->∀b,G.γ id=some b->K' b)->AVR G a u ->
  ResR Kf G.w r u (P1 G mv)/\TP G mv
 | a,.ow T fr t xs,u,q,mv,fz,h,hq,hz,f=>by
   unfold I3 at h;split at h
   ·rename_i id aC;split at h
    ·rename_i T' aD t' ys aA F;rw[ce] at h;split at h
     ·rename_i Q;simp only[ba] at Q;have P:=nb Q.1;have W:=nb Q.2;subst P; subst W;simp only[oi,pj] at h;obtain⟨rfl,rfl,rfl⟩:=h;obtain⟨g,E⟩:=hq;obtain⟨e,rfl⟩:=Cg E;cases e;obtain⟨h0,T1,aB,t1,aF,Y,k1,k2,k3⟩:=f;rw[F] at k1;cases k1;have f:=k3 rfl;subst f;obtain⟨cs,g1,H,g3⟩:=S.obs id _ F;exact⟨⟨G.γ id,cs,rfl,h0,g1,H.mapR (fun c x hr=>RT.up hr (fun k m=>n fr k ⟨s k m.1,fun e=>m.2 (g e)⟩))⟩,fun i hi=>by
       grind⟩
     grind
    grind
   ·rename_i x;simp only[oi,pj] at h;obtain⟨rfl,rfl,rfl⟩:=h;obtain⟨g,rfl⟩:=hq;have g:=TE g;have f:u=x:=f;subst f;subst g;exact⟨⟨none,[],rfl,rfl,.inl ⟨rfl,rfl,rfl,none,rfl⟩,rfl⟩,fun i hi=>by grind⟩
   grind
 | a,.d fr t x,u,q,mv,fz,h,hq,hz,f=>by
   unfold I3 at h;split at h
   ·rename_i y l fl hd;simp only[oi,pj] at h;obtain⟨rfl,rfl,rfl⟩:=h;obtain⟨g,rfl⟩:=hq;exact⟨⟨RT.up (Df S s 24 hd (fun id z=>hz id z (Di 24 hd id z)) ⟨u,[],rfl,f,rfl⟩) (fun k m=>n fr k ⟨m.1,fun e=>m.2 (g e)⟩),rfl⟩,fun i hi=>by cases hi⟩
   grind
 | a,.ob T rs,u,q,mv,fz,h,hq,hz,f=>by
   unfold I3 at h;split at h
   ·rename_i id;split at h
    ·rename_i T' cs F;rw[ce] at h;split at h
     ·rename_i V;have V:=nb V;subst V;split at h
      ·rename_i q1 m1 f1 g;simp only[oi,pj] at h;obtain⟨rfl,rfl,rfl⟩:=h;obtain⟨_,b,hb,rfl⟩:=f;obtain⟨b',j,g1,H,g3,g4⟩:=S.obs id _ F;rw[hb] at H;cases H;obtain⟨a1,a2⟩:=Pe S s n g hq hz g4;refine⟨⟨b,j,P1 G m1,by grind[P1],rfl,g3,a1⟩,fun i hi=>?_⟩;rcases List.mem_cons.1 hi with e | hi
       ·grind
       ·exact a2 i hi
      grind
     grind
    grind
   grind
 | a,.v x,u,q,mv,fz,h,hq,hz,f=>by
   unfold I3 at h;split at h
   ·simp only[oi,pj] at h;obtain⟨rfl,rfl,rfl⟩:=h;exact⟨⟨(show u=_ from f).trans hq,rfl⟩,fun i hi=>by cases hi⟩
   grind
 | a,.agg rs,u,q,mv,fz,h,hq,hz,f=>by
   unfold I3 at h;split at h
   ·obtain⟨j,e,f⟩:=f;obtain⟨g,E⟩:=Pe S s n h hq hz f;exact⟨⟨j,e,g⟩,E⟩
   grind
 | a,.tup rs,u,q,mv,fz,h,hq,hz,f=>by
   unfold I3 at h;split at h
   ·obtain⟨j,e,f⟩:=f;obtain⟨g,E⟩:=Pe S s n h hq hz f;exact⟨⟨j,e,g⟩,E⟩
   grind
 | a,.ptr _ _,u,q,mv,fz,h,hq,hz,f=>by grind[I3]
 | a,.pel _ _ _ _ _,u,q,mv,fz,h,hq,hz,f=>by grind[I3]
 | a,.os _ _,u,q,mv,fz,h,hq,hz,f=>by grind[I3]
 | a,.fn _ _,u,q,mv,fz,h,hq,hz,f=>by grind[I3]
 | a,.gel _ _,u,q,mv,fz,h,hq,hz,f=>by grind[I3]
 | a,.og _,u,q,mv,fz,h,hq,hz,f=>by grind[I3]
theorem Pe{X:Cx}{G:Gh}(S:Sat X G){K':Nat->Prop}(j:∀k,G.K k->K' k){Kf:Bool->Nat->Prop}(l:∀fr k,rk G K' fr k->Kf fr k):∀{as' rs:List AV} {us:List Value} {q:Prop} {mv:List (Option Nat)} {fz:List Nat},Bz G.o as' rs=some (q,mv,fz)->q->(∀id∈fz,(∃o,b9 G.o id=some o)->∀b,G.γ id=some b->K' b)->AVRs G as' us ->
  ResRs Kf G.w rs us (P1 G mv)/\TP G mv
 | as',[],us,q,mv,fz,h,hq,hz,hu=>by
   unfold Bz at h;split at h
   ·simp only[oi,pj] at h;obtain⟨rfl,rfl,rfl⟩:=h;exact⟨⟨hu,rfl⟩,fun i hi=>by cases hi⟩
   grind
 | as',r :: rs,us,q,mv,fz,h,hq,hz,hu=>by
   unfold Bz at h;split at h
   ·rename_i a t;split at h
    ·rename_i P m Q z;split at h
     ·rename_i H v F n;simp only[oi,pj] at h;obtain⟨rfl,rfl,rfl⟩:=h;obtain⟨u,f,e,g,c⟩:=hu;obtain⟨E,s⟩:=Pd S j l z hq.1 (fun id d=>hz id (by grind)) g;obtain⟨x,y⟩:=Pe S j l n hq.2 (fun id d=>hz id (by grind)) c;refine⟨⟨u,f,P1 G m,P1 G v,e,by simp[P1],E,x⟩,fun i hi=>?_⟩;rcases List.mem_append.1 hi with h | h
      ·exact s i h
      ·exact y i h
     grind
    grind
   grind
end
def R3(o:List (Nat×Ob)):Nat->(ps:List o5)->A0 ps->Option (Prop×List Nat×Option Nat)
 | _,[],_=>some (True,[],none)
 | i,.io T t :: _,z=>match b9 o (500000+i) with
   | some (.box T' cs)=>bif Nat.beq T' T then(match C1 o 24 t cs with
     | some (y,l,_)=>some (y=z,l,some (500000+i))
     | none=>none) else none
   | _=>none
 | i,.dat _ :: r,z=>R3 o (i+1) r z
 | i,.agg _ :: r,z=>R3 o (i+1) r z
 | i,.fn _ _ :: r,z=>R3 o (i+1) r z
 | i,.nof _ :: r,z=>R3 o (i+1) r z
 | i,.nil :: r,z=>R3 o (i+1) r z
 | i,.os _ _ :: r,z=>R3 o (i+1) r z
def LM(Γ:m6)(st:St):ResultVar->Option (Prop×AV)
 | .tmp t=>match b9 st.e t with
   | some ⟨[],a⟩=>some (True,a)
   | _=>none
 | .cell t ty=>match b9 st.e t with
   | some ⟨[],p⟩=>match O9 st.o p with
     | some (cs,_)=>match b9 Γ ty with
       | some ti=>match Hy ti cs with
         | some a=>some (AH st.o p,a)
         | none=>none
       | none=>none
     | none=>none
   | _=>none
def FU(Γ:m6)(st:St):List ResultVar->Option (Prop×List AV)
 | []=>some (True,[])
 | r :: rs=>match LM Γ st r with
   | some (q,a)=>match FU Γ st rs with
     | some (q',l)=>some (q/\q',a :: l)
     | none=>none
   | none=>none
def FV(tmps:Array Value):ResultVar->Sem Value
 | .tmp t=>pure (tmps.getD t undef)
 | .cell a t=>do loadVar t (<- asAddr (tmps.getD a undef))
theorem p0R{X:Cx}{Γ:m6}(s:s9 X.P Γ){G:Gh}{st:St}{a:Act}(S:Sat X G)(V:G.o=st.o)(T:EnvR X.n G st.e a){r:ResultVar}{q:Prop}{b:AV}(h:LM Γ st r=some (q,b))(H:q) :
  ∃v,(FV a.tmps r).run X.P G.w=.ok v G.w/\AVR G b v:=by
 unfold LM at h;split at h
 ·rename_i t;split at h
  ·rename_i a0 z;simp only[oi,pj] at h;obtain⟨rfl,rfl⟩:=h;exact⟨_,rfl,(T.val t _ z).1 (fun _ h=>by cases h)⟩
  grind
 ·rename_i t g;split at h
  ·rename_i p z;split at h
   ·rename_i cs l Q;split at h
    ·rename_i j y;split at h
     ·rename_i av d;simp only[oi,pj] at h;obtain⟨rfl,rfl⟩:=h;rw[<- V] at Q H;obtain⟨bk,o,W,hp,k,x⟩:=SV S Q H ((T.val t _ z).1 (fun _ h=>by cases h));obtain⟨hi,Y,_,_,m⟩:=s _ _ y;have m:=z0l m;have i:∀v,(loadVar g ⟨bk,o,none⟩).run X.P G.w=.ok v G.w->(FV a.tmps (.cell t g)).run X.P G.w=.ok v G.w:=fun v hv=>by
       grind[undef,Array.getD_eq_getD_getElem?,FV,asAddr]
      unfold Hy at d;rw[ce] at d;split at d
      ·rename_i E;rw[ce] at d;split at d
       ·rename_i f;simp only[oi] at d; subst d;have f:=Nat.le_of_ble_eq_true f
        haveI:Oi X.P g:=⟨m.1 E⟩
        haveI:Info X.P g j.size j.bytes j.zero:=⟨hi⟩
        have F:=x.len;exact⟨_,i _ (h0A (by grind) (SR k j.size)),W.take j.size,rfl,(x.take _).1⟩
       grind
      ·rename_i E;split at d
       ·rename_i c r;simp only[oi] at d; subst d
        haveI:Og X.P g:=⟨m.2 (by grind)⟩
        obtain⟨u,aA,rfl,hu,_⟩:=x;exact⟨u,i _ (h0z (by simpa using k 0 u rfl)),hu⟩
       grind
     grind
    grind
   grind
  grind
theorem h0n{X:Cx}{Γ:m6}(c:s9 X.P Γ){G:Gh}{st:St}{a:Act}(S:Sat X G)(f:G.o=st.o)(g:EnvR X.n G st.e a):∀{rs:List ResultVar} {q:Prop} {bs:List AV},FU Γ st rs=some (q,bs)->q ->
  ∃vs,(rs.mapM (FV a.tmps)).run X.P G.w=.ok vs G.w/\AVRs G bs vs/\vs.length=rs.length
 | [],q,bs,h,hq=>by
   simp only[FU,oi,pj] at h;obtain⟨rfl,rfl⟩:=h;exact⟨[],rfl,rfl,rfl⟩
 | r :: rs,q,bs,h,hq=>by
   unfold FU at h;split at h
   ·rename_i s b k;split at h
    ·rename_i m l i;simp only[oi,pj] at h;obtain⟨rfl,rfl⟩:=h;obtain⟨v,u,j⟩:=p0R c S f g k hq.1;obtain⟨vs,x,d,t⟩:=h0n c S f g i hq.2;exact⟨v :: vs,by simp_all,⟨v,vs,rfl,j,d⟩,by grind⟩
    grind
   grind
def TQ:List AV->AV
 | [a]=>a
 | as'=>.tup as'
def I0W:List Value->Value
 | [v]=>v
 | vs=>.tuple vs.toArray
theorem TR{G:Gh}{c:List AV}{vs:List Value}(h:AVRs G c vs):AVR G (TQ c) (I0W vs):=by
 match c,vs,h with
 | [],vs,h=>have h:vs=[]:=h; subst h; exact⟨[],rfl,rfl⟩
 | [a],vs,⟨u,us,e,h1,d⟩=>have d:us=[]:=d; subst d; subst e; exact h1
 | a :: b :: r,vs,⟨u,us,e,h1,u2,us2,e2,d,h3⟩=>subst e2; subst e; exact⟨u :: u2 :: us2,rfl,u,_,rfl,h1,u2,us2,rfl,d,h3⟩
theorem h0m{b:Func}{rs:List ResultVar}(c:b.results=rs.toArray){P:Program}{a:Array Value}{w:World}{vs:List Value}(h:(rs.mapM (FV a)).run P w=.ok vs w):(results b a).run P w=.ok (I0W vs) w:=by
 have d:results b a=(do
   let vs <- Array.mapM (FV a) rs.toArray
   pure (if h:vs.size=1 then vs[0] else .tuple vs)):=by
  unfold results;rw[c];congr 1
 have:(Array.mapM (FV a) rs.toArray).run P w=.ok vs.toArray w:=by
  rw[List.mapM_toArray];simp[h,Result.andThen]
 rw[d];simp only[Sem.run_bind,this,Result.andThen]
 match vs with
 | []=>rfl
 | [v]=>rfl
 | v :: u :: r=>rfl
def onceN:List (Option Nat)->Bool
 | []=>true
 | none :: r=>onceN r
 | some i :: r=>notInS i r&&onceN r
where notInS (i:Nat):List (Option Nat)->Bool
 | []=>true
 | none :: r=>notInS i r
 | some j :: r=>!(Nat.beq i j)&&notInS i r
def LN(mv:List (Option Nat)):List Nat->Bool
 | []=>true
 | i :: r=>onceN.notInS i mv&&LN mv r
theorem LO{i:Nat}:∀{l:List (Option Nat)},onceN.notInS i l=true->some i ∉ l
 | [],_=>by simp
 | none :: r,h=>by
   have:=LO (l:=r) h;simpa using this
 | some j :: r,h=>by
   simp only[onceN.notInS,ba,Bool.not_eq_true'] at h;have:=LO h.2;simp only[List.mem_cons,oi,not_or];exact⟨fun e=>by simp_all,this⟩
theorem p0s{mv:List (Option Nat)}:∀{l:List Nat},LN mv l=true->∀i∈l,some i ∉ mv
 | j :: r,h,i,hi=>by
   simp only[LN,ba] at h;rcases List.mem_cons.1 hi with rfl | hi
   ·grind[LO]
   ·exact p0s h.2 i hi
theorem Pf{X:Cx}{G:Gh}(S:Sat X G):∀{mv:List (Option Nat)},onceN mv=true->TP G mv->Bt (P1 G mv)
 | [],_,_=>trivial
 | none :: r,h,ha=>⟨(fun b e=>by cases e),Pf S (mv:=r) h (fun i hi=>ha i (List.mem_cons_of_mem _ hi))⟩
 | some i :: r,h,ha=>by
   simp only[onceN,ba] at h;refine⟨fun b e f=>?_,Pf S h.2 (fun i hi=>ha i (List.mem_cons_of_mem _ hi))⟩;have e:G.γ i=some b:=e;obtain⟨o,d,a⟩:=List.mem_map.1 f;cases o with
   | none=>grind
   | some j =>
     have a:G.γ j=some b:=a;obtain⟨_,g⟩:=ha i (by simp);obtain⟨_,c⟩:=ha j (List.mem_cons_of_mem _ d);have:=S.inj i j _ _ b g c e a
     grind[LO]
def Pg(f:Nat->Bool):Option Nat->Bool
 | none=>true
 | some i=>f i
/- Data that lead nowhere. -/
mutual
def Cr:AV->Bool
 | .d _ t _=>C0 t
 | .ow _ _ t _=>C0 t
 | .ob _ xs=>HM xs
 | .agg xs=>HM xs
 | .tup xs=>HM xs
 | _=>true
def HM:List AV->Bool
 | []=>true
 | a :: r=>Cr a&&HM r
end
mutual
theorem ResR.kf{K K':Bool->Nat->Prop}{w:World}:∀{a:AV} {u:Value} {gs:List (Option Nat)},Cr a=true->ResR K w a u gs->ResR K' w a u gs
 | .v _,_,_,_,h=>h
 | .d fr t x,u,gs,hf,⟨h,e⟩=>⟨RT.free (by grind[Cr]) h,e⟩
 | .ow T fr t xs,u,gs,hf,⟨g,cs,h1,h2,h3,h4⟩=>⟨g,cs,h1,h2,h3,h4.mapR (fun c x h=>RT.free (by grind[Cr]) h)⟩
 | .agg xs,u,gs,hf,⟨us,e,h⟩=>⟨us,e,ResRs.kf (by grind[Cr]) h⟩
 | .ob T xs,u,gs,hf,⟨b,us,gs',e1,e2,h1,h⟩=>⟨b,us,gs',e1,e2,h1,ResRs.kf (by grind[Cr]) h⟩
 | .tup xs,u,gs,hf,⟨us,e,h⟩=>⟨us,e,ResRs.kf (by grind[Cr]) h⟩
theorem ResRs.kf{K K':Bool->Nat->Prop}{w:World}:∀{as':List AV} {us:List Value} {gs:List (Option Nat)},HM as'=true->ResRs K w as' us gs->ResRs K' w as' us gs
 | [],_,_,_,h=>h
 | a :: r,us,gs,hf,⟨u,us',g1,g2,e1,e2,h1,h2⟩=>by
   simp only[HM,ba] at hf;exact⟨u,us',g1,g2,e1,e2,ResR.kf hf.1 h1,ResRs.kf hf.2 h2⟩
end
def FW(Γ:m6)(st:St)(rs:List ResultVar)(r:AV)(ps:List o5)(z:A0 ps):Prop :=
 match FU Γ st rs with
 | some (q0,as')=>match I3 st.o (TQ as') r with
   | some (q,mv,fz)=>match R3 st.o 0 ps z with
     | some (q',fz',pin)=>bif onceN mv&&LN mv (fz++fz')&&Pg (fun i=>FI i (fz++fz')) pin&&(!C7 ps||Cr r)&&Pg (fun i=>onceN.notInS i mv) pin then q0/\q/\q' else False
     | none=>False
   | none=>False
 | none=>False
def F0F(c:Ct)(x:z6 c.ps)(w:World)(go:Option Nat)(K:Nat->Prop)(en:Ending)(w':World):Prop :=
 ∃v gs,en=.returned v/\WE go w w'/\Bt gs/\(∀b,some b∈gs->w.heap.size<=b∨(C7 c.ps=true/\go=some b))/\ResR (fun fr=>LA fr K w w' gs) w' (c.res x).r v gs /\
  IOR (fun k=>(K k∨w.heap.size<=k)/\UFg w' w.heap.size k/\some k ∉ gs/\go≠some k) w' go c.ps (c.res x).z
theorem FY{X:Cx}{G:Gh}(S:Sat X G){K' Kf:Nat->Prop}(a:∀k,G.K k->K' k)(c:∀k,K' k->Kf k){go:Option Nat}:∀{ps:List o5} {i:Nat} {z:A0 ps} {q:Prop} {fz:List Nat} {pin:Option Nat},¬C7 ps=true->R3 G.o i ps z=some (q,fz,pin)->q->X.pin=LL (m8 i ps go)->((∃b,go=some b)∨pin=none) ->
  (∀id∈fz,(∃o,b9 G.o id=some o)->∀b,G.γ id=some b->K' b)->IOR Kf G.w go ps z/\∀id,pin=some id->∃T cs,b9 G.o id=some (.box T cs)/\G.γ id=go
 | .os _ _ :: _,_,_,_,_,_,hv,_,_,_,_,_=>(hv rfl).elim
 | [],i,z,q,fz,pin,_,h,hq,_,_,_=>by
   simp only[R3,oi,pj] at h;obtain⟨_,_,rfl⟩:=h;exact⟨trivial,fun _ e=>by cases e⟩
 | .io T t :: r,i,z,q,fz,pin,_,h,hq,hp,hg,hz=>by
   unfold R3 at h;split at h
   ·rename_i W cs n;rw[ce] at h;split at h
    ·rename_i g;have g:=nb g;subst g;split at h
     ·rename_i y l H m;simp only[oi,pj] at h;obtain⟨rfl,rfl,rfl⟩:=h;obtain rfl:=hq;rcases hg with ⟨b,rfl⟩ | hg
      ·obtain⟨_,Q,s,E⟩:=S.pin i (.pointer (some ⟨b,0,none⟩)) (by rw[hp]; rfl);cases E;obtain⟨V,v,P,j,F,u⟩:=S.obs _ _ n;rw[s] at j;cases j;exact⟨⟨b,v,rfl,F,RT.up (Df S a 24 m (fun id d=>hz id d (Di 24 m id d)) u) (fun k x=>c k x.1)⟩,fun id e=>by grind⟩
      grind
     grind
    grind
   grind
 | .dat t :: r,i,z,q,fz,pin,hv,h,hq,hp,hg,hz=>FY (ps:=r) (i:=i+1) S a c hv h hq (by cases go <;> exact hp) hg hz
 | .agg t :: r,i,z,q,fz,pin,hv,h,hq,hp,hg,hz=>FY (ps:=r) (i:=i+1) S a c hv h hq (by cases go <;> exact hp) hg hz
 | .fn f t :: r,i,z,q,fz,pin,hv,h,hq,hp,hg,hz=>FY (ps:=r) (i:=i+1) S a c hv h hq (by cases go <;> exact hp) hg hz
 | .nof f :: r,i,z,q,fz,pin,hv,h,hq,hp,hg,hz=>FY (ps:=r) (i:=i+1) S a c hv h hq (by cases go <;> exact hp) hg hz
 | .nil :: r,i,z,q,fz,pin,hv,h,hq,hp,hg,hz=>FY (ps:=r) (i:=i+1) S a c hv h hq (by cases go <;> exact hp) hg hz
theorem HN{K:Nat->Prop}{w:World}{o:List (Nat×Ob)}:∀{ps:List o5} {i:Nat} {x:z6 ps} {vs:List Value} {go:Option Nat} {z:A0 ps} {q:Prop} {fz:List Nat} {pin:Option Nat},¬C7 ps=true->ArgsR K w go ps x vs->R3 o i ps z=some (q,fz,pin)->(go=none/\pin=none)∨∃b j,go=some b/\pin=some j
 | .os _ _ :: _,_,_,_,_,_,_,_,_,hv,_,_=>(hv rfl).elim
 | [],i,x,vs,go,z,q,fz,pin,_,ha,h=>by
   simp only[R3,oi,pj] at h;exact .inl ⟨ha.2,h.2.2.symm⟩
 | .io T t :: r,i,x,vs,go,z,q,fz,pin,_,⟨b,_,_,_,hg,_⟩,h=>by
   grind[R3]
 | .dat t :: r,i,x,vs,go,z,q,fz,pin,hv,⟨_,_,_,_,ha⟩,h=>HN (ps:=r) (i:=i+1) hv ha h
 | .agg t :: r,i,x,vs,go,z,q,fz,pin,hv,⟨_,_,_,_,ha⟩,h=>HN (ps:=r) (i:=i+1) hv ha h
 | .fn f t :: r,i,x,vs,go,z,q,fz,pin,hv,⟨_,_,_,_,ha⟩,h=>HN (ps:=r) (i:=i+1) hv ha h
 | .nof f :: r,i,x,vs,go,z,q,fz,pin,hv,⟨_,_,ha⟩,h=>HN (ps:=r) (i:=i+1) hv ha h
 | .nil :: r,i,x,vs,go,z,q,fz,pin,hv,⟨_,_,ha⟩,h=>HN (ps:=r) (i:=i+1) hv ha h
theorem z0r{P:Program}{n:Nat}{Γ:m6}(aJ:s9 P Γ){c:Ct}{x:z6 c.ps}{w:World}{K:Nat->Prop}{go:Option Nat}{vs:List Value}(aM:W5 c.ps=true)(ha:ArgsR K w go c.ps x vs)
  {fn:Func} {rs:List ResultVar} (hr:fn.results=rs.toArray) {st:St} (h:FW Γ st rs (c.res x).r c.ps (c.res x).z) :
  ∀G a,Sat (cx P n ⟨w,fun k=>go=some k,K,LL (m8 0 c.ps go),J9 c.ps w⟩) G->G.o=st.o->EnvR n G st.e a->a.defers=[]/\∃v,(results fn a.tmps).run P G.w=.ok v G.w/\F0F c x w go K (.returned v) G.w:=by
 intro G a S ho hE;unfold FW at h;split at h
 ·rename_i q0 aR h0;split at h
  ·rename_i q y fz i;split at h
   ·rename_i q' aC aP W;rw[ce] at h;split at h
    ·rename_i u;simp only[ba] at u;obtain⟨⟨⟨⟨aB,aK⟩,aH⟩,aF⟩,aD⟩:=u;obtain⟨aI,hq,aG⟩:=h;obtain⟨us,e1,hu,_⟩:=h0n (X:=cx P n ⟨w,fun k=>go=some k,K,LL (m8 0 c.ps go),J9 c.ps w⟩) aJ S ho hE h0 aI;rw[<- ho] at i W;have aT:=p0s aK;obtain⟨_,l⟩:=Pd (K':=fun _=>True) (Kf:=fun _ _=>True) S (fun _ _=>trivial) (fun _ _ _=>trivial) i hq (fun _ _ _ _ _=>trivial) (TR hu);have E:∀k,some k∈P1 G y->∃id,some id∈y/\G.γ id=some k:=fun k d=>by
      obtain⟨o,i,W⟩:=List.mem_map.1 d;cases o with
      | none=>cases W
      | some id=>grind
     by_cases m:C7 c.ps=true
     ·obtain⟨hR,_⟩:=Pd (K':=fun _=>True) (Kf:=fun _ _=>True) S (fun _ _=>trivial) (fun _ _ _=>trivial) i hq (fun _ _ _ _ _=>trivial) (TR hu);rw[m,Bool.not_true,Bool.false_or] at aF;refine⟨hE.defers,_,h0m hr e1,_,P1 G y,rfl,⟨S.os,S.tape,S.output,S.size,fun k d hg=>S.block k d hg⟩,Pf S aB l,fun b u=>?_,ResR.kf aF hR,HL aM m⟩;obtain⟨j,H,V⟩:=E b u;obtain⟨_,Q⟩:=l j H;rcases S.own j _ b Q V with h | h
      ·grind
      grind
     have aL:=m0l (w:=w) m;have Y:=HN m ha W;obtain⟨_,s⟩:=FY (K':=fun _=>True) (Kf:=fun _=>True) (go:=go) S (fun _ _=>trivial) (fun _ _=>trivial) m W aG rfl (by
      grind) (fun _ _ _ _ _=>trivial)
     have aS:∀id∈fz++aC,∀o,b9 G.o id=some o->∀k,G.γ id=some k->w.heap.size<=k/\UFg G.w w.heap.size k/\some k ∉ P1 G y/\go≠some k:=fun id aA o f k d=>by
      have aN:go≠some k:=fun e=>by
       rcases Y with ⟨h,_⟩ | ⟨b,j,h,hj⟩
       ·grind
       ·obtain⟨T,cs,k1,k2⟩:=s j hj;have:=S.inj id j _ _ k f k1 d (k2.trans e);subst this;rw[hj] at aH;exact LC aH aA
      refine⟨?_,?_,?_,aN⟩
      ·rcases S.own id o k f d with h | h
       ·exact h
       grind
      ·have:=S.obs id o f;cases o with
       | box T cs=>obtain⟨b',us,i,W,h3,h4⟩:=this; rw[d] at i; cases i; exact(SM h3).g
       | arr T fr t xs aU=>obtain⟨cs,i,W,_⟩:=this; rw[d] at i; exact(De i).g
       | grd T Te fr t xs aO=>obtain⟨vs,bs,i,_⟩:=this; rw[d] at i; exact(De i).g
      ·intro hm;obtain⟨j,H,V⟩:=E k hm;obtain⟨_,Q⟩:=l j H;have:=S.inj id j _ _ k f Q d V
       grind
     have aQ:∀k,G.K k->(K k∨w.heap.size<=k)/\UFg G.w w.heap.size k/\some k ∉ P1 G y/\go≠some k:=fun k d=>by
      refine⟨by
       have h:K k∨J9 c.ps w<=k:=S.kfrom k d
       rwa [aL] at h,S.klt k d,fun hm=>?_,fun e=>?_⟩
      ·obtain⟨j,H,V⟩:=E k hm;obtain⟨_,Q⟩:=l j H;exact S.imm j _ k Q V d
      ·rcases Y with ⟨h,_⟩ | ⟨b,j,h,hj⟩
       ·grind
       ·obtain⟨T,cs,k1,k2⟩:=s j hj;exact S.imm j _ k k1 (k2.trans e) d
     let K':Nat->Prop:=fun k=>G.K k∨∃id∈fz++aC,G.γ id=some k/\∃o,b9 G.o id=some o
     have F:∀k,K' k->(K k∨w.heap.size<=k)/\UFg G.w w.heap.size k/\some k ∉ P1 G y/\go≠some k:=fun k d=>by
      grind
     obtain⟨hR,_⟩:=Pd (K':=K') (Kf:=fun fr=>LA fr K w G.w (P1 G y)) S (fun _ h=>.inl h) (fun fr k d=>by
      obtain⟨a1,a2,a3,_⟩:=F k d.1;refine⟨?_,a2,a3⟩;cases fr with
      | false =>
        grind
      | true=>exact .inr (by
        have h:G.B<=k:=d.2 rfl;have e:G.B=J9 c.ps w:=S.base.1;omega)) i hq (fun id aA ⟨o,f⟩ b u=>.inr ⟨id,by grind,u,o,f⟩) (TR hu)
     obtain⟨hI,_⟩:=FY (K':=K') (Kf:=fun k=>(K k∨w.heap.size<=k)/\UFg G.w w.heap.size k/\some k ∉ P1 G y/\go≠some k) (go:=go) S (fun _ h=>.inl h) F m W aG rfl (by
      grind) (fun id aA ⟨o,f⟩ b u=>.inr ⟨id,by grind,u,o,f⟩)
     refine⟨hE.defers,_,h0m hr e1,_,P1 G y,rfl,⟨S.os,S.tape,S.output,S.size,fun k d hg=>S.block k d hg⟩,Pf S aB l,fun b u=>?_,hR,hI⟩;obtain⟨j,H,V⟩:=E b u;obtain⟨_,Q⟩:=l j H;rcases S.own j _ b Q V with h | h
     ·grind
     ·have h:go=some b:=h;rcases Y with ⟨h',_⟩ | ⟨b',i',h',hj⟩
      ·grind
      ·obtain⟨T,cs,k1,k2⟩:=s i' hj;have:=S.inj i' j _ _ b k1 Q (k2.trans h) V;subst this;rw[hj] at aD;exact(LO aD H).elim
    grind
   grind
  grind
 grind
def wfs:(ps:List o5)->z6 ps->Prop
 | [],_=>True
 | .dat t :: r,x=>wf t x.1/\wfs r x.2
 | .agg t :: r,x=>wf t x.1/\wfs r x.2
 | .fn _ c :: r,x=>wf c x.1/\wfs r x.2
 | .nof _ :: r,x=>wfs r x.2
 | .nil :: r,x=>wfs r x.2
 | .io _ t :: r,x=>wf t x.1/\wfs r x.2
 | .os _ t :: r,x=>wf (.sl t) x.1/\wfs r x.2
theorem z0b{K:Nat->Prop}{w:World}{E s:Nat}{t:Ty}{g:Option Nat}{v:Value}{cs:List Value}{xs:List (j2 t)}(h:Own w E s g v xs.length cs)(e:AllR (RT K w t) cs xs):wf (.sl t) xs:=by
 refine⟨?_,fun x d=>?_⟩
 ·rcases h with ⟨_,h,_⟩ | ⟨b,o,cap,cur,_,_,_,h1,h2,_⟩
  ·omega
  grind[maxLen,Nat.le_trans]
 ·obtain⟨c,a⟩:=e.mem x d;exact RT.wf a
theorem ArgsR.wfs{K:Nat->Prop}{w:World}:∀{ps:List o5} {x:z6 ps} {vs:List Value} {go:Option Nat},ArgsR K w go ps x vs->Xv.wfs ps x
 | [],_x,_vs,_go,_=>trivial
 | .dat _t :: _r,_x,_vs,_go,⟨_v,_us,_e,h1,h⟩=>⟨RT.wf h1,ArgsR.wfs h⟩
 | .agg _t :: _r,_x,_vs,_go,⟨_v,_us,_e,h1,h⟩=>⟨RT.wf h1,ArgsR.wfs h⟩
 | .fn _f _t :: _r,_x,_vs,_go,⟨_v,_us,_e,h1,h⟩=>⟨RT.wf h1,ArgsR.wfs h⟩
 | .nof _f :: r,_x,_vs,_go,⟨_us,_e,h⟩=>ArgsR.wfs (ps:=r) h
 | .nil :: r,_x,_vs,_go,⟨_us,_e,h⟩=>ArgsR.wfs (ps:=r) h
 | .io _ _t :: _r,_x,_vs,_go,⟨_,_cs,_us,_e,_,_,_,h1,h⟩=>⟨RT.wf h1,ArgsR.wfs h⟩
 | .os _ _t :: _r,_x,_vs,_go,⟨_v,_cs,_us,_e,_,_,h1,h2,h⟩=>⟨z0b h1 h2,ArgsR.wfs h⟩
theorem H0A{P:Program}{Γ:m6}(H:s9 P Γ){c:Ct}{m:Func}{e:Code}{n:Nat}(rs:List ResultVar)(hf:P.funcs[c.f]?=some m)(hn:m.ntmps=n)(hb:m.body=some e)(hr:m.results=rs.toArray)(he:Cf P c.f=true)(d:(Nat.ble c.ps.length n&&W5 c.ps)=true)
  (h:∀y x,(c.res x).q->Xv.wfs c.ps x->∀Q,(∀st,FW Γ st rs (c.res x).r c.ps (c.res x).z->FX (cx P n y) st .normal Q/\FX (cx P n y) st .ret Q)->VX (cx P n y) ⟨K5 0 c.ps x,D8 0 c.ps x⟩ e Q):Ok P c:=by
 refine⟨he,fun x hq w v F K hK g=>?_⟩;rw[ba] at d;obtain⟨d,l⟩:=d;have d:=Nat.le_of_ble_eq_true d;have aA:=g.len;refine calls_of_wp hf hb ?_;have:=h ⟨w,fun k=>F=some k,K,LL (m8 0 c.ps F),J9 c.ps w⟩ x hq g.wfs (bodyPost P m (F0F c x w F K)) (fun st V=>?_) (Cq K w F (Z9 c.ps v) (J9 c.ps w) (D8 0 c.ps x)) { tmps:=v.toArray++Array.replicate (m.ntmps-v.toArray.size) undef,defers:=[] } (r0T hK g) rfl ⟨rfl,by grind,fun t s ht=>?_⟩
 ·exact this
 ·exact⟨fun G a S X Y=>z0r H l g hr V G a S X Y,fun G a S X Y=>z0r H l g hr V G a S X Y⟩
 ·obtain⟨_,a2,u,a3,a4⟩:=Dq (i:=0) (o:=D8 0 c.ps x) (r0:=Z9 c.ps v) (B:=J9 c.ps w) (g0:=F) l g (fun _=>rfl) (fun z hz=>by
   rcases FT (i:=0) g with ⟨W,_⟩ | ⟨j,b,T,t,z',cs,W,_⟩ | ⟨j,E,t,xs,cs,W,_⟩
   ·grind
   ·rw[W] at hz ⊢;cases List.mem_singleton.1 hz;rw[lK,if_pos rfl]
   ·rw[W] at hz ⊢;cases List.mem_singleton.1 hz;rw[lK,if_pos rfl]) t s ht
  rw[a2];refine⟨fun _=>?_,fun hn=>(hn (fun _ h=>by cases h)).elim⟩;have aB:t<v.length:=by
   rcases Nat.lt_or_ge t v.length with h' | h'
   ·exact h'
   ·grind
  rw[Array.getD_eq_getD_getElem?,Array.getElem?_append_left (by omega)]
  grind
def HO:Option AV->Bool
 | some (.pel ..)=>false
 | some (.gel ..)=>false
 | _=>true
theorem TS{o:List (Nat×Ob)}{v:AV}(h:HO (some v)=true):AH o v:=by
 cases v <;> first | trivial | cases h
def W6(st:St)(p:Pa):Op->Bool
 | .move _ | .assign _ | .pick .. | .unOp .not .. | .fieldAddr .. | .field .. | .extract .. | .makeFunc .. | .build .. | .alloc _ | .box .. | .buildSlice ..=>true
 | .call ⟨.builtin .len,_,_⟩ | .call ⟨.builtin .min,_,_⟩ | .call ⟨.builtin .max,_,_⟩=>true
 | .load _ x | .nilCheck x | .store _ x _=>HO (rd st p x)
 | .binOp .eql .. | .binOp .neq .. | .binOp .lss .. | .binOp .leq .. | .binOp .gtr .. | .binOp .geq ..=>true
 | _=>false
theorem F0r{k a:IntKind}{b:Bool}{q:Prop}{r:AV}(h:Bq k a b=some (q,r)):q:=by
 grind[Bq]
theorem F0v{b:Option TI}{a:BinOp}{u v r:AV}{q:Prop}(c:(match a with | .eql | .neq | .lss | .leq | .gtr | .geq=>true | _=>false)=true)(h:Ly b a u v=some (q,r)):q:=by
 unfold Ly at h
 grind[F0r,oi,pj,absurd]
theorem F0z{Γ:m6}{st:St}{p:Pa}{c:Op}{q:Prop}{r:AV}{l:List Nat}(a:W6 st p c=true)(h:C6 Γ st p c=some (q,r,l)):q:=by
 unfold C6 at h;split at h
 case h_5 op' T x y n =>
  split at h
  ·split at h
   ·rename_i d;simp only[oi,pj] at h;obtain⟨rfl,_⟩:=h;refine F0v ?_ d;cases op' <;> first | rfl | exact a
   grind
  grind
 case h_3 x =>
  split at h
  ·rename_i v b;split at h
   ·simp only[oi,pj] at h;obtain⟨rfl,_⟩:=h;exact TS (by rw[<- b]; exact a)
   grind
  grind
 all_goals try (simp[W6] at a; done)
 case h_10 T x =>
  split at h
  ·rename_i v f b e;split at h
   ·split at h
    ·simp only[oi,pj] at h;obtain⟨rfl,_⟩:=h;exact TS (by rw[<- b]; exact a)
    grind
   grind
  grind
 all_goals (repeat' (split at h))
 all_goals first
  | cases h; done
  | (simp only[oi,pj] at h; rw[<- h.1]; trivial)
  | (rw[ce] at h
     split at h
     ·grind
     ·cases h)
theorem F0B{Γ:m6}{st:St}{p:Pa}{d:Nat}{a:Op}{q:Prop}{r:AV}{w:Nat×Ob}{l:List Nat}(b:W6 st p a=true)(h:W2 Γ st p d a=some (q,r,w,l)):q:=by
 unfold W2 at h
 grind[W6]
theorem F0y{Γ:m6}{st:St}{p:Pa}{a:Op}{q:Prop}{w:Nat×Ob}{l:List Nat}(b:W6 st p a=true)(h:AI Γ st p a=some (q,w,l)):q:=by
 unfold AI at h
 grind[W6,HO]
theorem F0C{Γ:m6}{st:St}{p:Pa}{d:Nat}{a:Op}{r:Prop×AV×List (Nat×Ob)×List Nat}(b:W6 st p a=true)(h:Z8 Γ st p d a=some r):False:=by
 unfold Z8 at h
 grind[W6,HO]
theorem B0v{Γ:m6}{st:St}{p:Pa}{a:Op}{r:Prop×List (Nat×Ob)×List Nat}(b:W6 st p a=true)(h:AK Γ st p a=some r):False:=by
 unfold AK at h
 grind[W6,HO]
theorem F0A{Γ:m6}{T:List Ct}{st:St}{p:Pa}{o:Oper}{q:Prop}{av:Option AV}{obs:List (Nat×Ob)}{l:List Nat}(b:W6 st p o.op=true)(h:R1 Γ T st p o=some (q,av,obs,l)):q:=by
 have a:∀d q r obs l,Bw T st p d o.op≠some (q,r,obs,l):=fun d q r obs l a=>by
  unfold Bw at a
  grind[W6]
 unfold R1 at h;split at h
 ·rw[ce] at h;split at h
  ·grind[oi,pj,F0z,F0C]
  ·rw[ce] at h
   grind[oi,pj,F0B]
 ·rw[ce] at h
  grind[oi,pj,F0y,B0v]
def BA(Γ:m6)(T:List Ct)(all:List Oper):List Oper->St->List u1->Option (Prop×St×List u1)
 | [],st,rs=>some (True,st,rs)
 | o :: r,st,rs=>match AL all st.e o with
   | some p=>match R1 Γ T st p o with
     | some (q,av,obs,fp)=>bif Bv p||Bv obs then(match BA Γ T all r ⟨Co o.dst p av st.e,obs++st.o⟩ (⟨o,p,av,obs,fp⟩ :: rs) with
       | some (V,st',rs')=>some (bif W6 st p o.op then V else(OQ st.e p q/\V),st',rs')
       | none=>none) else none
     | none=>none
   | none=>none
theorem C0l{e:List (Nat×Sl)}{p:Pa}{q:Prop}(h:q):OQ e p q:=by
 unfold OQ
 grind
theorem FZ{Γ:m6}{T:List Ct}{all:List Oper}{K:St->List u1->Prop}:∀{ops:List Oper} {st:St} {rs:List u1} {V:Prop} {st':St} {rs':List u1},BA Γ T all ops st rs=some (V,st',rs')->V->K st' rs'->FM Γ T all ops st rs K
 | [],st,rs,V,st',rs',h,hV,hK=>by
   simp only[BA,oi,pj] at h;obtain⟨_,rfl,rfl⟩:=h;exact hK
 | o :: r,st,rs,V,st',rs',h,hV,hK=>by
   unfold BA at h;unfold FM;split at h
   ·rename_i p i
    try (rw[i]; simp only)
    split at h
    ·rename_i q m g l b
     try (rw[b]; simp only)
     rw[ce] at h ⊢;split at h
     ·rename_i f;rw[if_pos f];split at h
      ·rename_i k e j c;simp only[oi,pj] at h;obtain⟨a,rfl,rfl⟩:=h;rw[ce] at a;split at a
       ·rename_i d;subst a;exact⟨C0l (F0A d b),FZ c hV hK⟩
       ·subst a;exact⟨hV.1,FZ c hV.2 hK⟩
      grind
     grind
    grind
   grind
def LP(n:Nat)(Γ:m6)(T:List Ct)(l:List Oper)(keep:List Nat)(st:St):Option (Prop×St) :=
 bif L9 n 0 [] l&&R2 st.e then(match BA Γ T l l st [] with
  | some (V,st',_)=>some (V,cut keep st')
  | none=>none) else none
def Ph(n:Nat)(Γ:m6)(T:List Ct)(l:List Oper)(keep:List Nat)(st:St):Option (Prop×St) :=
 bif L9 n 0 [] l&&Dn 0 l&&R2 st.e then(match BA Γ T l l st [] with
  | some (V,st',rs)=>bif OU (T7 [] l) rs.reverse then some (V,cut keep st') else none
  | none=>none) else none
section
variable {P:Program} {n:Nat} {y:World×(Nat->Prop)×(Nat->Prop)×(Nat->Value->Prop)×Nat} {st:St} {Q:Exit->Act->World->Prop} {Γ:m6} {T:List Ct}
theorem rs(b:s9 P Γ)(f:∀c∈T,Ok P c)(a:List Nat)(st':St)(V:Prop){id:Nat}{l:List Oper}{c:Code}(h:LP n Γ T l a st=some (V,st'))(j:V)(i:VX (cx P n y) st' c Q):VX (cx P n y) st (.seq (.region id l.toArray false) c) Q:=by
 unfold LP at h;rw[ce] at h;split at h
 ·rename_i d;rw[ba] at d;split at h
  ·rename_i m e k g;simp only[oi,pj] at h;obtain⟨rfl,rfl⟩:=h;exact vQ (w0E (X:=cx P n y) b f a d.1 d.2 (FZ g j (fQ i)))
  grind
 grind
theorem re(b:s9 P Γ)(f:∀c∈T,Ok P c)(a:List Nat)(st':St)(V:Prop){id:Nat}{l:List Oper}(h:LP n Γ T l a st=some (V,st'))(j:V)(i:FX (cx P n y) st' .normal Q):VX (cx P n y) st (.region id l.toArray false) Q:=by
 unfold LP at h;rw[ce] at h;split at h
 ·rename_i d;rw[ba] at d;split at h
  ·rename_i m e k g;simp only[oi,pj] at h;obtain⟨rfl,rfl⟩:=h;exact w0E (X:=cx P n y) b f a d.1 d.2 (FZ g j i)
  grind
 grind
theorem de(b:s9 P Γ)(f:∀c∈T,Ok P c)[o:H6 P](a:List Nat)(st':St)(V:Prop){id:Nat}{l:List Oper}(h:Ph n Γ T l a st=some (V,st'))(k:V)(j:FX (cx P n y) st' .normal Q):VX (cx P n y) st (.region id l.toArray true) Q:=by
 unfold Ph at h;rw[ce] at h;split at h
 ·rename_i d;rw[ba] at d;split at h
  ·rename_i q e m i;rw[ce] at h;split at h
   ·rename_i g;simp only[oi,pj] at h;obtain⟨rfl,rfl⟩:=h;exact z0z (X:=cx P n y) b f a d.1 d.2 (FZ i k ⟨g,j⟩)
   grind
  grind
 grind
theorem ds(b:s9 P Γ)(d:∀c∈T,Ok P c)[g:H6 P](a:List Nat)(st':St)(V:Prop){id:Nat}{l:List Oper}{c:Code}(h:Ph n Γ T l a st=some (V,st'))(f:V)(e:VX (cx P n y) st' c Q):VX (cx P n y) st (.seq (.region id l.toArray true) c) Q :=
 vQ (de b d a st' V h f (fQ e))
end
theorem A0b{P:Program}:s9 P []:=fun _ _ h=>by cases h
theorem tK{P:Program}{T:TypeId}{c:TI}{Γ:m6}(h:FD P T c)(d:s9 P Γ):s9 P ((T,c) :: Γ):=fun e a b=>by
 rw[lK] at b;split at b
 ·grind
 ·exact d e a b
abbrev i64:Ty:=.int .i64
abbrev p(t:Nat)(a:AV):Nat×Sl:=(t,⟨[],a⟩)
abbrev I(x:Int):AV:=.d true (.int .i64) x
abbrev J(x:Int):AV:=.d false (.int .i64) x
abbrev B(x:Bool):AV:=.d true .bool x
abbrev C(x:Bool):AV:=.d false .bool x
abbrev S(x:ByteArray):AV:=.d true .str x
abbrev U(x:ByteArray):AV:=.d false .str x
abbrev D(t:Ty)(x:j2 t):AV:=.d false t x
abbrev N(t:Ty)(x:j2 t):AV:=.d true t x
abbrev L(t:Ty)(x:List (j2 t)):AV:=.d false (.sl t) x
abbrev M(t:Ty)(x:List (j2 t)):AV:=.d true (.sl t) x
abbrev nil:AV:=.v (.slice none 0 0)
theorem ev{Γ:m6}{st:St}{rs:List ResultVar}{r:AV}{ps:List o5}{z:A0 ps}(V:Prop)(h:FW Γ st rs r ps z=V)(a:V):FW Γ st rs r ps z:=h ▸ a
theorem tn{P:Program}:∀c∈([]:List Ct),Ok P c:=fun _ h=>by cases h
theorem tc{P:Program}{c:Ct}{T:List Ct}(h:Ok P c)(a:∀c∈T,Ok P c):∀c'∈c :: T,Ok P c':=fun c' b=>by
 grind
end Go.Proofs.Xv
end
section
namespace Go.Proofs.Xd
open Go Go.Proofs.Xv
theorem t0h{b:Type}(a:List b)(z d:b)(s:Nat)(h:s<a.length):(a.take s++List.replicate (a.length-s) z).set s (a.getD s d)=a.take (s+1)++List.replicate (a.length-(s+1)) z:=by
 apply List.ext_getElem?
 grind
theorem w0k{b:Type}(a:List b)(z:b)(s:Nat)(h:a.length<=s):a.take s++List.replicate (a.length-s) z=a:=by
 grind[List.take_of_length_le,Nat.sub_eq_zero_of_le]
theorem A0L{c:Type}{a b:List c}(d:c)(e:a.length=b.length)(h:∀i,i<a.length->a.getD i d=b.getD i d):a=b:=by
 apply List.ext_getElem?
 grind
def n6(n:Nat)(l:Int):Int:=if l-(n:Int)<0 then -1 else l-(n:Int)
theorem E0B{n:Nat}{l:Int}(h:0<=l) : -1<=n6 n l/\n6 n l<=l:=by grind[n6]
theorem r0O{m n:Nat}{l:Int}(h:n6 m l<0):n6 (m+n) l = -1:=by
 grind[n6]
theorem r0N{m n:Nat}{l:Int}(h:0<=n6 m l):n6 (m+n) l=n6 n (n6 m l):=by
 grind[n6]
def j0:(t:Ty)->j2 t->Nat
 | .int _,_=>0
 | .bool,_=>0
 | .str,s=>s.size
 | .sl e,xs=>xs.length+(xs.map (j0 e)).sum
 | .pt e,x=>j0 e x
 | .pr a b,x=>j0 a x.1+j0 b x.2
theorem F0q{t:Ty}{a:List (j2 t)}{i:Nat}{d:j2 t}(h:i<a.length):j0 t (a.getD i d)<=(a.map (j0 t)).sum:=by
 rw[gq,List.getElem?_eq_getElem h];have c:∀(l:List (j2 t)) (x:j2 t),x∈l->j0 t x<=(l.map (j0 t)).sum:=by
  intro l
  induction l with
  | nil=>grind
  | cons y r b =>
    grind
 simp_all
theorem y0Q{n:Nat}{l:Int}(h:l-(n:Int)<0):n6 n l = -1:=if_pos h
theorem TT{n:Nat}{l:Int}(h:0<=l-(n:Int)):n6 n l=l-(n:Int):=if_neg (by omega)
theorem A0d{m n:Nat}{l:Int}(h:l-(m:Int)<0):n6 (m+n) l = -1:=r0O (by grind[y0Q])
theorem A0c{m n:Nat}{l:Int}(h:0<=l-(m:Int)):n6 (m+n) l=n6 n (l-(m:Int)):=by
 grind[r0N,TT]
theorem u0T{l:Int}(h:0<=l):n6 0 l=l:=by grind[TT]
theorem S0{a b:Ty}{x:j2 (.pr a b)}:j0 (.pr a b) x=j0 a x.1+j0 b x.2:=by grind[j0]
theorem Y0{k:IntKind}{x:Int}:j0 (.int k) x=0:=by grind[j0]
theorem Y1{x:Bool}:j0 .bool x=0:=by grind[j0]
theorem U7{x:ByteArray}:j0 .str x=x.size:=by grind[j0]
theorem Aq{e:Ty}{x:List (j2 e)}:j0 (.sl e) x=x.length+(x.map (j0 e)).sum:=by grind[j0]
theorem Zt{k:IntKind}{x:List Int}:j0 (.sl (.int k)) x=x.length:=by
 have:∀l:List Int,(l.map (j0 (.int k))).sum=0:=by
  intro l
  induction l with
  | nil=>rfl
  | cons a r b=>grind[j0]
 grind[Aq]
end Go.Proofs.Xd
end
section
namespace Go.Proofs.Xl
def gd{ρ:Type}(V:Prop)[Decidable V](e:Option ρ):Option ρ:=if V then e else none
def lt{α β:Type}(x:α)(f:α->β):β:=f x
def vl{α:Type}[Inhabited α](o:Option α):α:=o.getD default
def c7(x:Int):Prop := -9223372036854775808<=x/\x<=9223372036854775807
instance (x:Int):Decidable (c7 x):=inferInstanceAs (Decidable (_/\_))
def ix(i:Int)(n:Nat):Prop:=0<=i/\i < (n:Int)
instance (i:Int)(n:Nat):Decidable (ix i n):=inferInstanceAs (Decidable (_/\_))
def J0:Nat:=36893488147419103232
def D5{σ ρ:Type}(F:(σ->Option ρ)->σ->Option ρ):Nat->σ->Option ρ
 | 0,_=>none
 | n+1,s=>F (D5 F n) s
def lp{σ ρ:Type}(F:(σ->Option ρ)->σ->Option ρ)(s:σ):Option ρ:=D5 F J0 s
theorem Pj{a:Type}{V:Prop}[Decidable V]{e:Option a}{r:a}(h:gd V e=some r):V/\e=some r:=by
 grind[gd]
theorem gP{a:Type}{V:Prop}[Decidable V]{e:Option a}(h:V):gd V e=e:=if_pos h
theorem vS{a:Type}[Inhabited a](x:a):vl (some x)=x:=rfl
theorem r0Z{a:Type}[Inhabited a]{o:Option a}(h:o.isSome=true):o=some (vl o):=by cases o with
 | none=>cases h
 | some x=>rfl
end Go.Proofs.Xl
namespace Go.Proofs.Xv
open Go Go.RowKit Go.Proofs.Sv Go.Proofs.Xl
def K6{α β:Type}(f:α->β):Option α->Option β
 | some x=>some (f x)
 | none=>none
theorem M0{b a:Type}{f:b->a}{o:Option b}{y:a}(h:K6 f o=some y):∃x,o=some x/\f x=y:=by
 cases o with
 | none=>cases h
 | some x=>exact⟨x,rfl,by cases h; rfl⟩
def TU(o o':List (Nat×Ob))(x:Value)(id ver:Nat):Option AV:=match x with
 | .slice none 0 0=>match b9 o id with
   | none=>match b9 o' id with
     | some (.arr _ _ _ _ v)=>bif Nat.beq v ver then some (.os id ver) else none
     | _=>none
   | _=>none
 | _=>none
def TV(x:Value)(fr:Bool)(e:Ty):Option AV:=match x with
 | .slice none 0 0=>some (.d fr (.sl e) [])
 | _=>none
def TW(o o':List (Nat×Ob))(id ver id' ver':Nat):Option AV:=bif Nat.beq id id' then(match b9 o id with
    | some (.arr _ _ _ _ v)=>match b9 o' id with
      | some (.arr _ _ _ _ v')=>bif Nat.beq v ver&&Nat.beq v' ver' then some (.os id' ver') else none
      | _=>none
    | _=>none) else none
def wkP(o':List (Nat×Ob))(id off:Nat):Option AV:=match b9 o' id with
 | some (.box _ _)=>some (.ptr id off)
 | _=>none
def wkG(o':List (Nat×Ob))(id:Nat):Option AV:=match b9 o' id with
 | some (.grd ..)=>some (.og id)
 | _=>none
mutual
def R4(o o':List (Nat×Ob)):AV->AV->Option AV
 | .d fr t x,b=>match b with
   | .d fr' t' _=>bif !fr'||fr then K6 (.d fr' t') (O8 t t' x) else none
   | _=>none
 | .v x,b=>match b with
   | .v _=>some (.v x)
   | .os id ver=>TU o o' x id ver
   | .d fr (.sl e) _=>TV x fr e
   | _=>none
 | .os id ver,b=>match b with
   | .os id' ver'=>TW o o' id ver id' ver'
   | _=>none
 | .ptr id off,b=>match b with
   | .ptr _ _=>wkP o' id off
   | _=>none
 | .agg xs,b=>match b with
   | .agg ys=>K6 .agg (Dr o o' xs ys)
   | _=>none
 | .tup xs,b=>match b with
   | .tup ys=>K6 .tup (Dr o o' xs ys)
   | _=>none
 | .fn f xs,b=>match b with
   | .fn _ ys=>K6 (.fn f) (Dr o o' xs ys)
   | _=>none
 | .og id,b=>match b with
   | .og _=>wkG o' id
   | _=>none
 | _,_=>none
def Dr(o o':List (Nat×Ob)):List AV->List AV->Option (List AV)
 | [],ys=>match ys with
   | []=>some []
   | _=>none
 | a :: r,ys=>match ys with
   | b :: s=>match R4 o o' a b with
     | some x=>K6 (x :: ·) (Dr o o' r s)
     | none=>none
   | _=>none
end
def TX(o o':List (Nat×Ob)):Option Ob->Ob->Option Ob
 | some (.box T cs),.box _ cs'=>K6 (.box T) (Dr o o' cs cs')
 | some (.arr T fr t xs _),.arr _ fr' t' _ v'=>bif !fr'||fr then K6 (fun z=>.arr T fr' t' z v') (O8 (.sl t) (.sl t') xs) else none
 | none,.arr T fr t _ v=>some (.arr T fr t [] v)
 | some (.grd T Te fr t xs none),.grd _ _ fr' t' _ none=>bif !fr'||fr then K6 (fun z=>.grd T Te fr' t' z none) (O8 (.sl (.sl t)) (.sl (.sl t')) xs) else none
 | _,_=>none
def Pk(o o':List (Nat×Ob))(e:List (Nat×Sl)):List (Nat×Sl)->Option (List (Nat×Sl))
 | []=>some []
 | (t,s) :: r=>match s.p,b9 e t with
   | [],some ⟨[],a⟩=>match R4 o o' a s.a with
     | some x=>K6 ((t,⟨[],x⟩) :: ·) (Pk o o' e r)
     | none=>none
   | _,_=>none
def Pl(o o':List (Nat×Ob)):List (Nat×Ob)->Option (List (Nat×Ob))
 | []=>some []
 | (i,b) :: r=>match TX o o' (b9 o i) b with
   | some x=>K6 ((i,x) :: ·) (Pl o o' r)
   | none=>none
def HP(o':List (Nat×Ob)):List (Nat×Ob)->Bool
 | []=>true
 | (i,.box _ _) :: r=>(bif Nat.ble 500000 i then(match b9 o' i with | some (.box _ _)=>true | _=>false) else true)&&HP o' r
 | (_,.arr ..) :: r=>HP o' r
 | (_,.grd ..) :: r=>HP o' r
def Ds(a b:St):Option St:=match Pk a.o b.o a.e b.e with
 | some e=>match Pl a.o b.o b.o with
   | some o=>bif HP b.o a.o then some ⟨e,o⟩ else none
   | none=>none
 | none=>none
theorem C0j{o o':List (Nat×Ob)}{x:Value}{id ver:Nat}(h:TU o o' x id ver=some (.os id ver)):FO x/\OW (b9 o id)/\Dp (b9 o' id) ver:=by
 unfold TU at h;split at h
 ·split at h
  ·rename_i c;split at h
   ·rename_i b;rw[ce] at h;split at h
    ·rename_i a;have:=nb a;subst this;rw[c,b];exact⟨trivial,trivial,rfl⟩
    grind
   grind
  grind
 grind
theorem C0h{o o':List (Nat×Ob)}{id ver b a:Nat}(h:TW o o' id ver b a=some (.os b a)):id=b/\Dp (b9 o id) ver/\Dp (b9 o' id) a:=by
 unfold TW at h;rw[ce] at h;split at h
 ·rename_i c;split at h
  ·rename_i f;split at h
   ·rename_i e;rw[ce] at h;split at h
    ·rename_i d;rw[ba] at d;have g:=nb d.1;have i:=nb d.2;subst g; subst i;rw[f,e];exact⟨nb c,rfl,rfl⟩
    grind
   grind
  grind
 grind
theorem C0k{x:Value}{fr:Bool}{e:Ty}{y:j2 (.sl e)}(h:TV x fr e=some (.d fr (.sl e) y)):FO x/\TF (.sl e) y:=by
 unfold TV at h;split at h
 ·simp only[oi,AV.d.injEq,heq_eq_eq,true_and] at h;exact⟨trivial,h.symm⟩
 grind
theorem TY{a b:Bool}(h:(!a||b)=true):a=true->b=true:=by
 grind
mutual
theorem w0C{o o':List (Nat×Ob)}:∀{a b:AV},R4 o o' a b=some b->I2 o o' a b
 | .d fr t x,b,h=>by
   unfold R4 at h;unfold I2;split at h
   ·rename_i g i y;rw[ce] at h;split at h
    ·rename_i j;obtain⟨z,c,e⟩:=M0 h
     grind
    grind
   grind
 | .v x,b,h=>by
   unfold R4 at h
   grind[I2,C0j,C0k]
 | .os id ver,b,h=>by
   unfold R4 at h
   grind[I2,C0h]
 | .ptr id off,b,h=>by
   unfold R4 at h;unfold I2;split at h
   ·unfold wkP at h;split at h
    ·rename_i c;simp only[oi,AV.ptr.injEq] at h;obtain⟨rfl,rfl⟩:=h;exact⟨rfl,rfl,by rw[c]; trivial⟩
    grind
   grind
 | .agg xs,b,h=>by
   unfold R4 at h;unfold I2;split at h
   ·obtain⟨z,c,e⟩:=M0 h;simp only[AV.agg.injEq] at e;subst e;exact LQ c
   grind
 | .tup xs,b,h=>by
   unfold R4 at h;unfold I2;split at h
   ·obtain⟨z,c,e⟩:=M0 h;simp only[AV.tup.injEq] at e;subst e;exact LQ c
   grind
 | .fn f xs,b,h=>by
   unfold R4 at h;unfold I2;split at h
   ·obtain⟨z,c,e⟩:=M0 h;simp only[AV.fn.injEq] at e;obtain⟨rfl,rfl⟩:=e;exact⟨rfl,LQ c⟩
   grind
 | .pel ..,b,h=>by grind[R4]
 | .gel ..,b,h=>by grind[R4]
 | .og id,b,h=>by
   unfold R4 at h;unfold I2;split at h
   ·unfold wkG at h;split at h
    ·rename_i c;simp only[oi,AV.og.injEq] at h;subst h;exact⟨rfl,by rw[c]; trivial⟩
    grind
   grind
 | .ow ..,b,h=>by grind[R4]
 | .ob ..,b,h=>by grind[R4]
theorem LQ{o o':List (Nat×Ob)}:∀{as' bs:List AV},Dr o o' as' bs=some bs->AN o o' as' bs
 | [],bs,h=>by
   grind[Dr,AN]
 | a :: r,bs,h=>by
   unfold Dr at h;unfold AN;split at h
   ·split at h
    ·rename_i x c;obtain⟨z,d,b⟩:=M0 h;simp only[List.cons.injEq] at b;obtain⟨rfl,rfl⟩:=b;exact⟨w0C c,LQ d⟩
    grind
   grind
end
theorem C0i{o o':List (Nat×Ob)}{a:Option Ob}{b:Ob}(h:TX o o' a b=some b):TK o o' a b:=by
 unfold TX at h;split at h
 ·obtain⟨z,d,c⟩:=M0 h;simp only[Ob.box.injEq] at c;obtain⟨rfl,rfl⟩:=c;exact⟨rfl,LQ d⟩
 ·rw[ce] at h;split at h
  ·rename_i e;obtain⟨z,d,c⟩:=M0 h;simp only[Ob.arr.injEq,heq_eq_eq,true_and,and_true] at c;obtain⟨rfl,rfl⟩:=c;exact⟨rfl,TY e,d⟩
  grind
 ·simp only[oi,Ob.arr.injEq,heq_eq_eq,true_and,and_true] at h;exact h.symm
 ·rw[ce] at h;split at h
  ·rename_i e;obtain⟨z,d,c⟩:=M0 h;simp only[Ob.grd.injEq,heq_eq_eq,true_and,and_true] at c;obtain⟨rfl,rfl,rfl⟩:=c;exact⟨rfl,rfl,trivial,trivial,TY e,d⟩
  grind
 grind
theorem q0U{o o':List (Nat×Ob)}{e:List (Nat×Sl)}:∀{l:List (Nat×Sl)},Pk o o' e l=some l->OX o o' e l
 | [],_=>trivial
 | (t,s) :: r,h=>by
   unfold Pk at h;split at h
   ·rename_i g f;split at h
    ·rename_i x b;obtain⟨z,d,a⟩:=M0 h;simp only[List.cons.injEq,pj,true_and] at a;obtain⟨c,rfl⟩:=a;subst c;exact⟨trivial,by rw[f]; exact w0C b,q0U d⟩
    grind
   grind
theorem q0T{o o':List (Nat×Ob)}:∀{l:List (Nat×Ob)},Pl o o' l=some l->LI o o' l
 | [],_=>trivial
 | (t,s) :: r,h=>by
   unfold Pl at h;split at h
   ·rename_i x b;obtain⟨z,c,a⟩:=M0 h;simp only[List.cons.injEq,pj,true_and] at a;obtain⟨rfl,rfl⟩:=a;exact⟨C0i b,q0T c⟩
   grind
theorem Pm{o':List (Nat×Ob)}:∀{l:List (Nat×Ob)},HP o' l=true->I7 o' l
 | [],_=>trivial
 | (_,.arr ..) :: r,h=>Pm (l:=r) h
 | (_,.grd ..) :: r,h=>Pm (l:=r) h
 | (i,.box _ _) :: r,h=>by
   simp only[HP,ba] at h;refine⟨?_,Pm h.2⟩;have a:=h.1;rw[ce] at a ⊢;split
   ·rename_i hi;rw[if_pos hi] at a;split at a
    ·rename_i b; rw[b]; trivial
    grind
   grind
theorem TZ{a b:St}(h:Ds a b=some b):LJ a b:=by
 unfold Ds at h;split at h
 ·rename_i e d;split at h
  ·rename_i o f;rw[ce] at h;split at h
   ·rename_i c;cases h;exact⟨q0U d,q0T f,Pm c⟩
   grind
  grind
 grind
mutual
def R5(o:List (Nat×Ob)):AV->AV->Option (AV×List (Option Nat)×List Nat)
 | a,.ow T fr t _=>match a with
   | .os id ver=>match b9 o id with
     | some (.arr T' fr' t' ys ver')=>bif Nat.beq ver ver'&&Nat.beq T' T&&(!fr||fr') then K6 (fun z=>(.ow T fr t z,[some id],[])) (O8 (.sl t') (.sl t) ys) else none
     | _=>none
   | .v x=>match x with
     | .slice none 0 0=>some (.ow T fr t [],[none],[])
     | _=>none
   | _=>none
 | a,.d fr t _=>match C1 o 24 t [a] with
   | some (y,l,fl)=>bif !fr||fl then some (.d fr t y,[],l) else none
   | none=>none
 | a,.ob T rs=>match a with
   | .ptr id 0=>match b9 o id with
     | some (.box T' cs)=>bif Nat.beq T' T then(match Ga o cs rs with
       | some (x,l,m)=>some (.ob T x,some id :: l,m)
       | none=>none) else none
     | _=>none
   | _=>none
 | a,.v _=>match a with
   | .v y=>some (.v y,[],[])
   | _=>none
 | a,.agg rs=>match a with
   | .agg as'=>match Ga o as' rs with
     | some (x,l,m)=>some (.agg x,l,m)
     | none=>none
   | _=>none
 | a,.tup rs=>match a with
   | .tup as'=>match Ga o as' rs with
     | some (x,l,m)=>some (.tup x,l,m)
     | none=>none
   | _=>none
 | _,_=>none
def Ga(o:List (Nat×Ob)):List AV->List AV->Option (List AV×List (Option Nat)×List Nat)
 | as',[]=>match as' with
   | []=>some ([],[],[])
   | _=>none
 | as',r :: rs=>match as' with
   | a :: t=>match R5 o a r with
     | some (x,m,f)=>match Ga o t rs with
       | some (xs,m',f')=>some (x :: xs,m++m',f++f')
       | none=>none
     | none=>none
   | []=>none
end
def BB(o:List (Nat×Ob)):Nat->(ps:List o5)->A0 ps->Option (A0 ps×List Nat×Option Nat)
 | _,[],z=>some (z,[],none)
 | i,.io T t :: _,_=>match b9 o (500000+i) with
   | some (.box T' cs)=>bif Nat.beq T' T then(match C1 o 24 t cs with
     | some (y,l,_)=>some (y,l,some (500000+i))
     | none=>none) else none
   | _=>none
 | i,.dat _ :: r,z=>BB o (i+1) r z
 | i,.agg _ :: r,z=>BB o (i+1) r z
 | i,.fn _ _ :: r,z=>BB o (i+1) r z
 | i,.nof _ :: r,z=>BB o (i+1) r z
 | i,.nil :: r,z=>BB o (i+1) r z
 | i,.os _ _ :: r,z=>BB o (i+1) r z
def s0w(Γ:m6)(st:St):ResultVar->Option AV
 | .tmp t=>match b9 st.e t with
   | some ⟨[],a⟩=>some a
   | _=>none
 | .cell t ty=>match b9 st.e t with
   | some ⟨[],p⟩=>bif HO (some p) then(match O9 st.o p with
     | some (cs,_)=>match b9 Γ ty with
       | some ti=>Hy ti cs
       | none=>none
     | none=>none) else none
   | _=>none
def LR(Γ:m6)(st:St):List ResultVar->Option (List AV)
 | []=>some []
 | r :: rs=>match s0w Γ st r with
   | some a=>K6 (a :: ·) (LR Γ st rs)
   | none=>none
def Pn(Γ:m6)(st:St)(rs:List ResultVar)(ps:List o5)(r:AV)(z:A0 ps):Option (AV×A0 ps) :=
 match LR Γ st rs with
 | some as'=>match R5 st.o (TQ as') r with
   | some (r',mv,fz)=>match BB st.o 0 ps z with
     | some (z',fz',pin)=>bif onceN mv&&LN mv (fz++fz')&&Pg (fun i=>FI i (fz++fz')) pin&&(!C7 ps||Cr r')&&Pg (fun i=>onceN.notInS i mv) pin then some (r',z') else none
     | none=>none
   | none=>none
 | none=>none
mutual
theorem z0c{o:List (Nat×Ob)}:∀{a r:AV} {mv:List (Option Nat)} {fz:List Nat},R5 o a r=some (r,mv,fz)->∃q:Prop,q/\I3 o a r=some (q,mv,fz)
 | a,.ow T fr t xs,mv,fz,h=>by
   unfold R5 at h;unfold I3;split at h
   ·split at h
    ·rename_i j c E n i k;rw[ce] at h;split at h
     ·rename_i g;simp only[ba] at g;obtain⟨z,s,f⟩:=M0 h;simp only[pj,AV.ow.injEq,heq_eq_eq,true_and] at f;obtain⟨rfl,rfl,rfl⟩:=f;refine⟨(fr=true->c=true)/\O8 (.sl E) (.sl t) n=some z,⟨TY g.2,s⟩,?_⟩
      grind
     grind
    grind
   ·split at h
    ·simp only[oi,pj,AV.ow.injEq,heq_eq_eq,true_and] at h;obtain⟨rfl,rfl,rfl⟩:=h;exact⟨_,⟨trivial,rfl⟩,rfl⟩
    grind
   grind
 | a,.d fr t x,mv,fz,h=>by
   unfold R5 at h;unfold I3;split at h
   ·rename_i y l F w;rw[ce] at h;split at h
    ·rename_i P;simp only[oi,pj,AV.d.injEq,heq_eq_eq,true_and] at h;obtain⟨rfl,rfl,rfl⟩:=h
     try rw[w]
     grind
    grind
   grind
 | a,.ob T rs,mv,fz,h=>by
   unfold R5 at h;unfold I3;split at h
   ·split at h
    ·rename_i j G k;rw[ce] at h;split at h
     ·rename_i H;split at h
      ·rename_i x l m b;simp only[oi,pj,AV.ob.injEq,true_and] at h;obtain⟨rfl,rfl,rfl⟩:=h;obtain⟨q,u,e⟩:=Po b;refine⟨q,u,?_⟩
       grind
      grind
     grind
    grind
   grind
 | a,.v x,mv,fz,h=>by
   unfold R5 at h;unfold I3;split at h
   ·simp only[oi,pj,AV.v.injEq] at h;obtain⟨rfl,rfl,rfl⟩:=h
    grind
   grind
 | a,.agg rs,mv,fz,h=>by
   unfold R5 at h;unfold I3;split at h
   ·split at h
    ·rename_i x l m b;simp only[oi,pj,AV.agg.injEq] at h;obtain⟨rfl,rfl,rfl⟩:=h;exact Po b
    grind
   grind
 | a,.tup rs,mv,fz,h=>by
   unfold R5 at h;unfold I3;split at h
   ·split at h
    ·rename_i x l m b;simp only[oi,pj,AV.tup.injEq] at h;obtain⟨rfl,rfl,rfl⟩:=h;exact Po b
    grind
   grind
 | a,.ptr _ _,mv,fz,h=>by grind[R5]
 | a,.pel ..,mv,fz,h=>by grind[R5]
 | a,.os _ _,mv,fz,h=>by grind[R5]
 | a,.fn _ _,mv,fz,h=>by grind[R5]
 | a,.gel _ _,mv,fz,h=>by grind[R5]
 | a,.og _,mv,fz,h=>by grind[R5]
theorem Po{o:List (Nat×Ob)}:∀{as' rs:List AV} {mv:List (Option Nat)} {fz:List Nat},Ga o as' rs=some (rs,mv,fz)->∃q:Prop,q/\Bz o as' rs=some (q,mv,fz)
 | as',[],mv,fz,h=>by
   unfold Ga at h;unfold Bz;split at h
   ·simp only[oi,pj,true_and] at h;obtain⟨rfl,rfl⟩:=h
    grind
   grind
 | as',r :: rs,mv,fz,h=>by
   unfold Ga at h;unfold Bz;split at h
   ·split at h
    ·rename_i x m f c;split at h
     ·rename_i i l k b;simp only[oi,pj,List.cons.injEq] at h;obtain⟨⟨rfl,rfl⟩,rfl,rfl⟩:=h;obtain⟨q,e,j⟩:=z0c c;obtain⟨d,a,g⟩:=Po b;refine⟨q/\d,⟨e,a⟩,?_⟩
      grind
     grind
    grind
   grind
end
theorem Gb{o:List (Nat×Ob)}:∀{ps:List o5} {i:Nat} {z:A0 ps} {fz:List Nat} {pin:Option Nat},BB o i ps z=some (z,fz,pin)->∃q:Prop,q/\R3 o i ps z=some (q,fz,pin)
 | [],i,z,fz,pin,h=>by
   simp only[BB,oi,pj,true_and] at h;obtain⟨rfl,rfl⟩:=h;exact⟨_,trivial,rfl⟩
 | .io T t :: r,i,z',fz,pin,h=>by
   unfold BB at h;unfold R3;split at h
   ·rename_i f d b;rw[ce] at h;split at h
    ·rename_i c;split at h
     ·rename_i y l a e;simp only[oi,pj] at h;obtain⟨rfl,rfl,rfl⟩:=h;refine⟨y=y,rfl,?_⟩
      grind
     grind
    grind
   grind
 | .dat _ :: r,i,z,fz,pin,h=>Gb (ps:=r) (i:=i+1) h
 | .agg _ :: r,i,z,fz,pin,h=>Gb (ps:=r) (i:=i+1) h
 | .fn _ _ :: r,i,z,fz,pin,h=>Gb (ps:=r) (i:=i+1) h
 | .nof _ :: r,i,z,fz,pin,h=>Gb (ps:=r) (i:=i+1) h
 | .nil :: r,i,z,fz,pin,h=>Gb (ps:=r) (i:=i+1) h
 | .os _ _ :: r,i,z,fz,pin,h=>Gb (ps:=r) (i:=i+1) h
theorem s0k{Γ:m6}{st:St}:∀{rs:List ResultVar} {as':List AV},LR Γ st rs=some as'->∃q:Prop,q/\FU Γ st rs=some (q,as')
 | [],as',h=>by
   simp only[LR,oi] at h;subst h;exact⟨_,trivial,rfl⟩
 | r :: rs,as',h=>by
   unfold LR at h;unfold FU;split at h
   ·rename_i a b;obtain⟨l,j,d⟩:=M0 h;subst d;obtain⟨q,s,e⟩:=s0k j;have:∃c:Prop,c/\LM Γ st r=some (c,a):=by
     unfold s0w at b;unfold LM;split at b
     ·split at b
      ·rename_i k;cases b;refine⟨True,trivial,?_⟩
       grind
      grind
     ·split at b
      ·rename_i k;rw[ce] at b;split at b
       ·rename_i g;split at b
        ·rename_i n;split at b
         ·rename_i m;refine⟨AH st.o _,TS g,?_⟩
          grind
         grind
        grind
       grind
      grind
    obtain⟨c,f,i⟩:=this;rw[i,e]
    grind
   grind
theorem t0m{Γ:m6}{st:St}{rs:List ResultVar}{ps:List o5}{r:AV}{z:A0 ps}(h:Pn Γ st rs ps r z=some (r,z)):FW Γ st rs r ps z:=by
 unfold Pn at h;split at h
 ·rename_i c e;split at h
  ·rename_i t o fz f;split at h
   ·rename_i g b a d;rw[ce] at h;split at h
    ·rename_i q;simp only[oi,pj] at h;obtain⟨rfl,rfl⟩:=h;obtain⟨s,i,m⟩:=s0k e;obtain⟨j,k,v⟩:=z0c f;obtain⟨l,u,n⟩:=Gb d
     grind[FW]
    grind
   grind
  grind
 grind
end Go.Proofs.Xv
end
section
namespace Go.Proofs.Xv
open Go Go.RowKit Go.Proofs.Sv Go.Proofs.Xl
def C9(b:Bool)(n:Nat)(Γ:m6)(T:List Ct)(l:List Oper)(keep:List Nat)(st:St):Option (Prop×St):=bif b then Ph n Γ T l keep st else LP n Γ T l keep st
def HQ(st:St)(c:Operand):Option Bool:=match rd st [] c with
 | some (.d _ .bool b)=>some b
 | _=>none
theorem Ua{st:St}{c:Operand}{b:Bool}(h:HQ st c=some b):∃f,rd st [] c=some (.d f .bool b):=by
 grind[HQ]
theorem ct{X:Cx}{st:St}{Q:Exit->Act->World->Prop}{c:Operand}{a d:Code}(b:HQ st c=some true)(h:VX X st a Q):VX X st (.cond c a d) Q:=(Ua b).elim fun _ b=>q0W b h
theorem cf{X:Cx}{st:St}{Q:Exit->Act->World->Prop}{c:Operand}{a d:Code}(b:HQ st c=some false)(h:VX X st d Q):VX X st (.cond c a d) Q:=(Ua b).elim fun _ b=>q0X b h
section
variable {P:Program} {n:Nat} {y:World×(Nat->Prop)×(Nat->Prop)×(Nat->Value->Prop)×Nat} {st:St} {Q:Exit->Act->World->Prop} {Γ:m6} {T:List Ct} {ρ α:Type} {r:ρ}
theorem Pp(d:s9 P Γ)(e:∀c∈T,Ok P c)[i:H6 P]{a:List Nat}{st':St}{V:Prop}{id:Nat}{l:List Oper}{b:Bool}(h:C9 b n Γ T l a st=some (V,st'))(g:V)(f:FX (cx P n y) st' .normal Q):VX (cx P n y) st (.region id l.toArray b) Q:=by
 cases b with
 | true=>exact de d e a st' V h g f
 | false=>exact re d e a st' V h g f
theorem za(d:s9 P Γ)(e:∀c∈T,Ok P c)[g:H6 P](a:List Nat)(st':St){id:Nat}{l:List Oper}{b:Bool}(h:C9 b n Γ T l a st=some (True,st'))(f:FX (cx P n y) st' .normal Q):VX (cx P n y) st (.region id l.toArray b) Q :=
 Pp d e h trivial f
theorem zb(d:s9 P Γ)(f:∀c∈T,Ok P c)[i:H6 P](a:List Nat)(st':St){V:Prop}[Decidable V]{e:Option ρ}{id:Nat}{l:List Oper}{b:Bool}(H:gd V e=some r)(h:C9 b n Γ T l a st=some (V,st'))(g:e=some r->FX (cx P n y) st' .normal Q):VX (cx P n y) st (.region id l.toArray b) Q :=
 Pp d f h (Pj H).1 (g (Pj H).2)
theorem zc(d:s9 P Γ)(e:∀c∈T,Ok P c)[i:H6 P](a:List Nat)(S:α->St){x:α}{f:α->Option ρ}{id:Nat}{l:List Oper}{b:Bool}(H:lt x f=some r)(h:C9 b n Γ T l a st=some (True,S x))(g:∀v,f v=some r->FX (cx P n y) (S v) .normal Q):VX (cx P n y) st (.region id l.toArray b) Q :=
 Pp d e h trivial (g x H)
theorem zd(d:s9 P Γ)(e:∀c∈T,Ok P c)[i:H6 P](a:List Nat)(S:α->St){V:Prop}[Decidable V]{x:α}{f:α->Option ρ}{id:Nat}{l:List Oper}{b:Bool}(H:gd V (lt x f)=some r)(h:C9 b n Γ T l a st=some (V,S x))(g:∀v,f v=some r->FX (cx P n y) (S v) .normal Q):VX (cx P n y) st (.region id l.toArray b) Q :=
 Pp d e h (Pj H).1 (g x (Pj H).2)
theorem qa(d:s9 P Γ)(e:∀c∈T,Ok P c)[g:H6 P](a:List Nat)(st':St){id:Nat}{l:List Oper}{b:Bool}{c:Code}(h:C9 b n Γ T l a st=some (True,st'))(f:VX (cx P n y) st' c Q):VX (cx P n y) st (.seq (.region id l.toArray b) c) Q :=
 vQ (za d e a st' h (fQ f))
theorem qb(d:s9 P Γ)(f:∀c∈T,Ok P c)[i:H6 P](a:List Nat)(st':St){V:Prop}[Decidable V]{e:Option ρ}{id:Nat}{l:List Oper}{b:Bool}{c:Code}(H:gd V e=some r)(h:C9 b n Γ T l a st=some (V,st'))(g:e=some r->VX (cx P n y) st' c Q):VX (cx P n y) st (.seq (.region id l.toArray b) c) Q :=
 vQ (zb d f a st' H h fun H=>fQ (g H))
theorem qc(d:s9 P Γ)(e:∀c∈T,Ok P c)[i:H6 P](a:List Nat)(S:α->St){x:α}{f:α->Option ρ}{id:Nat}{l:List Oper}{b:Bool}{c:Code}(H:lt x f=some r)(h:C9 b n Γ T l a st=some (True,S x))(g:∀v,f v=some r->VX (cx P n y) (S v) c Q):VX (cx P n y) st (.seq (.region id l.toArray b) c) Q :=
 vQ (zc d e a S H h fun v H=>fQ (g v H))
theorem qd(d:s9 P Γ)(e:∀c∈T,Ok P c)[i:H6 P](a:List Nat)(S:α->St){V:Prop}[Decidable V]{x:α}{f:α->Option ρ}{id:Nat}{l:List Oper}{b:Bool}{c:Code}(H:gd V (lt x f)=some r)(h:C9 b n Γ T l a st=some (V,S x))(g:∀v,f v=some r->VX (cx P n y) (S v) c Q):VX (cx P n y) st (.seq (.region id l.toArray b) c) Q :=
 vQ (zd d e a S H h fun v H=>fQ (g v H))
theorem cd{X:Cx}{c:Operand}{a d:Code}{b:Bool}{f g:Option ρ}(H:(if b=true then f else g)=some r)(e:HQ st c=some b)(i:f=some r->VX X st a Q)(k:g=some r->VX X st d Q):VX X st (.cond c a d) Q :=
 (Ua e).elim fun _ j=>TC j (fun h=>i (by grind)) (fun h=>k (by grind))
theorem jn{X:Cx}{b:Type}(r:ρ)(E:b->St)(J:b->Option ρ){a d:Code}(h:∀s,J s=some r->VX X (E s) d Q)(k:∀Q',(∀{s st'},J s=some r->Ds st' (E s)=some (E s)->FX X st' .normal Q')->(∀{st' id},FX X st' (.exit id) Q->FX X st' (.exit id) Q')->(∀{st'},FX X st' .ret Q->FX X st' .ret Q')->VX X st a Q'):VX X st (.seq a d) Q :=
 vQ (k _ (fun H c=>fQ (z0y _ (TZ c) (h _ H))) fE fR)
theorem lx{X:Cx}{c:Type}(E:c->St)(d:c){F:(c->Option ρ)->c->Option ρ}{a:Code}(H:lp F d=some r)(h:Ds st (E d)=some (E d))
  (b:∀Q' (g:c->Option ρ),(∀{s st'},g s=some r->Ds st' (E s)=some (E s)->FX X st' .normal Q')->(∀{st' id},FX X st' (.exit id) Q->FX X st' (.exit id) Q')->(∀{st'},FX X st' .ret Q->FX X st' .ret Q')->∀s,F g s=some r->VX X (E s) a Q'):VX X st (.loop a) Q:=by
 refine z0x (fun z:Nat×c=>E z.2) (fun z=>D5 F z.1 z.2=some r) (fun z=>z.1) (J0,d) H (TZ h) ?_;rintro⟨m,s⟩ hz;cases m with
 | zero=>cases hz
 | succ m=>exact b _ (D5 F m) (fun {i st'} f e=>A0T (m,i) f (Nat.lt_succ_self m) (TZ e)) l0T n0k s hz
end
def c8(f:FuncId)(ps:List o5){ρ:Type}[Inhabited ρ](F:z6 ps->Option ρ)(R:ρ->AV)(Z:ρ->A0 ps):Ct:=⟨f,ps,fun x=>⟨(F x).isSome=true,R (vl (F x)),Z (vl (F x))⟩⟩
def K0k(X:Cx)(Γ:m6)(rs:List ResultVar)(ps:List o5){ρ:Type}(R:ρ->AV)(Z:ρ->A0 ps)(r:ρ)(x:Exit)(Q:Exit->Act->World->Prop):Prop :=
 ∀{st:St} {e:ρ},some e=some r->Pn Γ st rs ps (R e) (Z e)=some (R e,Z e)->FX X st x Q
theorem ZG{P:Program}{Γ:m6}(k:s9 P Γ){f:FuncId}{ps:List o5}{g:Type}[Inhabited g]{F:z6 ps->Option g}{R:g->AV}{Z:g->A0 ps}{d:Func}{a:Code}{n:Nat}(rs:List ResultVar)
  (v:P.funcs[f]?=some d) (t:d.ntmps=n) (q:d.body=some a) (s:d.results=rs.toArray) (b:Cf P f=true) (j:(Nat.ble ps.length n&&W5 ps)=true)
  (h:∀y x r,F x=some r->∀Q,K0k (cx P n y) Γ rs ps R Z r .normal Q->K0k (cx P n y) Γ rs ps R Z r .ret Q->VX (cx P n y) ⟨K5 0 ps x,D8 0 ps x⟩ a Q):Ok P (c8 f ps F R Z):=by
 refine H0A (c:=c8 f ps F R Z) k rs v t q s b j (fun y x u i Q m=>?_);have o:=r0Z u;refine h y x _ o Q ?_ ?_
 ·intro l e b i;cases b;exact(m l (t0m i)).1
 ·intro l e b i;cases b;exact(m l (t0m i)).2
mutual
def frz:AV->AV
 | .ow _ fr t xs=>.d (fr||C0 t) (.sl t) xs
 | .agg xs=>.agg (frzs xs)
 | .tup xs=>.tup (frzs xs)
 | a=>a
def frzs:List AV->List AV
 | []=>[]
 | a :: r=>frz a :: frzs r
end
mutual
def HR:AV->Bool
 | .ob ..=>false
 | .agg xs=>LS xs
 | .tup xs=>LS xs
 | _=>true
def LS:List AV->Bool
 | []=>true
 | a :: r=>HR a&&LS r
end
theorem Pq{w:World}{T:TypeId}{t:Ty}{g:Option Nat}{u:Value}{xs:List (j2 t)}{cs:List Value}{K:Nat->Prop}(c:Own w T (sz t) g u xs.length cs)(j:AllR (RT K w t) cs xs)(f:∀b,g=some b->K b):RT K w (.sl t) [u] xs:=by
 cases g with
 | none =>
   rcases c with ⟨_,i,_,p,l⟩ | ⟨b,_,_,_,hb,_⟩
   ·have:xs=[]:=List.eq_nil_of_length_eq_zero i;subst this;exact⟨p,0,by grind,Nat.le_refl _,by omega,.inl rfl⟩
   grind
 | some b =>
   obtain⟨k,e,d,a⟩:=c.at;rcases c with ⟨h,_⟩ | ⟨b',o1,cap,cur,hb,hv2,k1,k2,k3,k4,k5⟩
   ·cases h
   ·cases hb;rw[hv2] at d; cases d;exact⟨_,e,by rw[hv2],k2,(by grind[maxLen]),.inr ⟨b,k,cs,rfl,f b rfl,a,j⟩⟩
mutual
theorem ResR.frz{K K':Bool->Nat->Prop}{w:World}(f:∀fr k,K fr k->K' fr k):∀{a:AV} {u:Value} {gs:List (Option Nat)},HR a=true->(∀b,some b∈gs->∀fr,K' fr b)->ResR K w a u gs->ResR K' w (Xv.frz a) u []
 | .v _,_,_,_,_,h=>⟨h.1,rfl⟩
 | .d fr t x,u,gs,_,_,⟨h,_⟩=>⟨RT.up h (f fr),rfl⟩
 | .agg xs,u,gs,hn,hg,⟨us,e,h⟩=>⟨us,e,ResRs.frz f (by grind[HR]) hg h⟩
 | .ob _ _,_,_,hn,_,_=>by grind[HR]
 | .tup xs,u,gs,hn,hg,⟨us,e,h⟩=>⟨us,e,ResRs.frz f (by grind[HR]) hg h⟩
 | .ow T fr t xs,u,gs,_,hg,⟨g,cs,e,_,hO,hA⟩=>by
   refine⟨Pq hO (hA.mapR (fun c x i=>?_)) (fun b j=>hg b (by grind) _),rfl⟩
   grind[C0,RT.free,RT.up]
theorem ResRs.frz{K K':Bool->Nat->Prop}{w:World}(c:∀fr k,K fr k->K' fr k):∀{as':List AV} {us:List Value} {gs:List (Option Nat)},LS as'=true->(∀b,some b∈gs->∀fr,K' fr b)->ResRs K w as' us gs->ResRs K' w (Xv.frzs as') us []
 | [],us,gs,_,_,h=>⟨h.1,rfl⟩
 | a :: r,us,gs,hn,hg,⟨u,us',g1,g2,e1,e2,h1,h2⟩=>by
   simp only[LS,ba] at hn;exact⟨u,us',[],[],e1,rfl,ResR.frz c hn.1 (fun b d=>hg b (by grind)) h1,ResRs.frz c hn.2 (fun b d=>hg b (by grind)) h2⟩
end
theorem IOR.up{K K':Nat->Prop}{w:World}{go:Option Nat}(a:∀k,K k->K' k):∀{ps:List o5} {z:A0 ps},IOR K w go ps z->IOR K' w go ps z
 | [],_,_=>trivial
 | .io _ _ :: _,_,⟨b,cs,h1,h2,h3⟩=>⟨b,cs,h1,h2,RT.up h3 a⟩
 | .dat _ :: r,_z,h=>IOR.up (ps:=r) a h
 | .agg _ :: r,_z,h=>IOR.up (ps:=r) a h
 | .fn _ _ :: r,_z,h=>IOR.up (ps:=r) a h
 | .nof _ :: r,_z,h=>IOR.up (ps:=r) a h
 | .nil :: r,_z,h=>IOR.up (ps:=r) a h
 | .os _ _ :: r,_z,h=>IOR.up (ps:=r) a h
theorem ResR.lt{K:Bool->Nat->Prop}{w:World}:∀{a:AV} {u:Value} {gs:List (Option Nat)},ResR K w a u gs->∀b,some b∈gs->UF w b:=by
 suffices H:(∀(a:AV) {u:Value} {gs:List (Option Nat)},ResR K w a u gs->∀b,some b∈gs->UF w b) from fun {a}=>H a
 intro a;refine AV.rec (motive_1:=fun a=>∀{u:Value} {gs:List (Option Nat)},ResR K w a u gs->∀b,some b∈gs->UF w b) (motive_2:=fun l=>∀{d:List Value} {gs:List (Option Nat)},ResRs K w l d gs->∀b,some b∈gs->UF w b) ?_ ?_ ?_ ?_ ?_ ?_ ?_ ?_ ?_ ?_ ?_ ?_ ?_ ?_ a
 ·intro x u gs h b c; rw[h.2] at c; cases c
 ·intro j t x u gs h b c; rw[h.2] at c; cases c
 ·intro f i u gs h b c; obtain⟨d,_,h⟩:=h; grind
 ·intro f i u gs h b c; obtain⟨d,_,h⟩:=h; grind
 ·intro _ _ u gs h; exact h.elim
 ·intro _ _ _ _ _ u gs h; exact h.elim
 ·intro _ _ u gs h; exact h.elim
 ·intro _ _ _ u gs h; exact h.elim
 ·intro T j t f u gs h b c;obtain⟨g,y,e,_,E,_⟩:=h
  grind[List.mem_singleton,De]
 ·intro _ _ u gs h; exact h.elim
 ·intro _ u gs h; exact h.elim
 ·intro T f i u gs h b c;obtain⟨P,d,n,e,_,s,h⟩:=h
  grind[SM]
 ·intro d gs h b c; rw[h.2] at c; cases c
 ·intro a r o m d gs h b c;obtain⟨u,k,z,v,_,G,F,q⟩:=h
  grind
theorem Gu{P:Program}{f:FuncId}{ps:List o5}{d:Type}[Inhabited d]{F:z6 ps->Option d}{R:d->AV}{Z:d->A0 ps}(h:Ok P (c8 f ps F R Z))(t:C7 ps=false:=by rfl)(j:∀r,HR (R r)=true:=by intro _; rfl):Ok P (c8 f ps F (fun r=>frz (R r)) Z):=by
 refine⟨h.1,fun x E w G o K s u=>?_⟩;refine Calls.mono (h.2 x E w G o K s u) ?_;rintro T Q ⟨v,z,e,y,V,l,n,H⟩;have i:=ResR.lt n;have l:∀b,some b∈z->w.heap.size<=b:=fun b c=>(l b c).resolve_right (fun h=>by have m:C7 ps=true:=h.1; rw[t] at m; cases m);refine⟨v,[],e,y,trivial,(fun b c=>nomatch c),ResR.frz (fun q k a=>⟨a.1,a.2.1,by simp⟩) (j _) (fun b c q=>⟨.inr (l b c),(i b c).g,by simp⟩) n,IOR.up (fun k a=>⟨a.1,a.2.1,by simp,a.2.2.2⟩) H⟩
mutual
def T8(id ver:Nat)(fr:Bool)(t:Ty)(xs:List (j2 t)):AV->Option AV
 | .os i v=>bif Nat.beq i id then(bif Nat.beq v ver then some (.d fr (.sl t) xs) else none) else some (.os i v)
 | .pel i v k s off=>bif Nat.beq i id then none else some (.pel i v k s off)
 | .agg l=>K6 .agg (Cs id ver fr t xs l)
 | .tup l=>K6 .tup (Cs id ver fr t xs l)
 | .fn f l=>K6 (.fn f) (Cs id ver fr t xs l)
 | .ptr i off=>bif Nat.beq i id then none else some (.ptr i off)
 | .v x=>some (.v x)
 | .d fr t x=>some (.d fr t x)
 | .ow T fr t x=>some (.ow T fr t x)
 | .ob T l=>some (.ob T l)
 | .og i=>bif Nat.beq i id then some (.d fr (.sl t) xs) else some (.og i)
 | .gel i k=>bif Nat.beq i id then none else some (.gel i k)
def Cs(id ver:Nat)(fr:Bool)(t:Ty)(xs:List (j2 t)):List AV->Option (List AV)
 | []=>some []
 | a :: r=>match T8 id ver fr t xs a with
   | some b=>K6 (b :: ·) (Cs id ver fr t xs r)
   | none=>none
end
def Cu(id ver:Nat)(fr:Bool)(t:Ty)(xs:List (j2 t)):List (Nat×Sl)->List (Nat×Sl)
 | []=>[]
 | (k,s) :: r=>match T8 id ver fr t xs s.a with
   | some b=>(k,⟨s.p,b⟩) :: Cu id ver fr t xs r
   | none=>Cu id ver fr t xs r
def T9(id ver:Nat)(fr:Bool)(t:Ty)(xs:List (j2 t)):List (Nat×Ob)->Option (List (Nat×Ob))
 | []=>some []
 | (k,o) :: r=>bif Nat.beq k id then T9 id ver fr t xs r else(match o with
   | .box T cs=>match Cs id ver fr t xs cs with
     | some cs'=>K6 ((k,.box T cs') :: ·) (T9 id ver fr t xs r)
     | none=>none
   | o=>K6 ((k,o) :: ·) (T9 id ver fr t xs r))
def Gc:List (Nat×Sl)->Bool
 | []=>true
 | (k,_) :: r=>(r.all fun x=>!Nat.beq x.1 k)&&Gc r
def Pr(id:Nat)(st:St):Option St:=match b9 st.o id with
 | some (.arr _ fr t xs ver)=>bif Gc st.e then(match T9 id ver (fr||C0 t) t xs st.o with
   | some o=>some ⟨Cu id ver (fr||C0 t) t xs st.e,o⟩
   | none=>none) else none
 | some (.grd _ _ fr t xs none)=>bif Gc st.e then(match T9 id 0 (fr||C0 t) (.sl t) xs st.o with
   | some o=>some ⟨Cu id 0 (fr||C0 t) (.sl t) xs st.e,o⟩
   | none=>none) else none
 | _=>none
section
variable {X:Cx} {G:Gh} {id ver:Nat} {fr:Bool} {t:Ty} {xs:List (j2 t)}
def Cv(G:Gh)(id:Nat)(o:List (Nat×Ob)):Gh:=⟨G.ρ,G.γ,fun k=>G.K k∨G.γ id=some k∨(C5 (b9 G.o id)=true/\G.δ id k),G.w,o,G.B,G.δ⟩
theorem Cw{o:List (Nat×Ob)}:∀{l r:List (Nat×Ob)},T9 id ver fr t xs l=some r->∀i,(i=id->b9 r i=none)/\(i≠id->match b9 l i with
  | some (.box T cs)=>∃cs',Cs id ver fr t xs cs=some cs'/\b9 r i=some (.box T cs')
  | some o=>b9 r i=some o
  | none=>b9 r i=none)
 | [],r,h,i=>by
   simp only[T9,oi] at h;subst h;exact⟨fun _=>rfl,fun _=>rfl⟩
 | (k,ob) :: l,r,h,i=>by
   unfold T9 at h;rw[ce] at h;split at h
   ·rename_i a;have a:=nb a;obtain⟨b,c⟩:=Cw (o:=o) h i;refine⟨b,fun hi=>?_⟩;rw[lK,if_neg (by omega)]
    grind
   ·rename_i a;have a:k≠id:=fun e=>a (by simp_all);split at h
    ·rename_i T cs;split at h
     ·rename_i cs' g;obtain⟨z,hz,rfl⟩:=M0 h;obtain⟨b,c⟩:=Cw (o:=o) hz i;refine⟨fun hi=>?_,fun hi=>?_⟩
      ·rw[lK,if_neg (by rw[hi]; exact a)]; exact b hi
      ·rw[lK,lK];by_cases e:k=i
       ·rw[if_pos e,if_pos e]; exact⟨cs',g,rfl⟩
       ·rw[if_neg e,if_neg e]; exact c hi
     ·cases h
    ·rename_i d;obtain⟨z,hz,rfl⟩:=M0 h;obtain⟨b,c⟩:=Cw (o:=o) hz i;refine⟨fun hi=>?_,fun hi=>?_⟩
     ·rw[lK,if_neg (by rw[hi]; exact a)]; exact b hi
     ·rw[lK,lK];by_cases e:k=i
      ·rw[if_pos e,if_pos e];cases ob with
       | box T cs=>exact(d T cs rfl).elim
       | arr T f j x v=>rfl
       | grd T m f j x h=>rfl
      ·rw[if_neg e,if_neg e]; exact c hi
def HS(G:Gh)(id ver:Nat)(fr:Bool)(t:Ty)(xs:List (j2 t))(o':List (Nat×Ob)):Prop:=∀u,AVR G (.os id ver) u∨AVR G (.og id) u->AVR (Cv G id o') (.d fr (.sl t) xs) u
mutual
theorem Ps{o':List (Nat×Ob)}(g:HS G id ver fr t xs o')(hz:T9 id ver fr t xs G.o=some o'):∀{a b:AV} {u:Value},T8 id ver fr t xs a=some b->AVR G a u->AVR (Cv G id o') b u
 | .os i v,b,u,h,c=>by
   unfold T8 at h;rw[ce] at h;have F:=c;obtain⟨Q,w,j,E,m,q,n,r,H⟩:=c;split at h
   ·rename_i hi;have hi:=nb hi;subst hi;rw[ce] at h;split at h
    ·rename_i T;have T:=nb T;subst T;cases h;exact g u (.inl F)
    grind
   ·rename_i hi;cases h;have hi:i≠id:=fun e=>hi (by simp_all);have:=(Cw (o:=G.o) hz i).2 hi;rw[n] at this;exact⟨Q,w,j,E,m,q,this,r,H⟩
 | .og i,b,u,h,c=>by
   unfold T8 at h;rw[ce] at h;have F:=c;obtain⟨Q,⟨w,Te1,j,E,m,y,n⟩,r⟩:=c;split at h
   ·rename_i hi;have hi:=nb hi;subst hi;cases h;exact g u (.inr F)
   ·rename_i hi;cases h;have hi:i≠id:=fun e=>hi (by simp_all);have:=(Cw (o:=G.o) hz i).2 hi;rw[n] at this;exact⟨Q,⟨w,Te1,j,E,m,y,this⟩,r⟩
 | .gel i k,b,u,h,c=>by
   unfold T8 at h;rw[ce] at h;obtain⟨⟨w,Te1,j,E,m,y,n⟩,r⟩:=c;split at h
   ·cases h
   ·rename_i hi;cases h;have hi:i≠id:=fun e=>hi (by simp_all);have:=(Cw (o:=G.o) hz i).2 hi;rw[n] at this;exact⟨⟨w,Te1,j,E,m,y,this⟩,r⟩
 | .pel i v k s off,b,u,h,c=>by
   unfold T8 at h;rw[ce] at h;obtain⟨Q,w,j,E,m,q,n,r,H⟩:=c;split at h
   ·cases h
   ·rename_i hi;cases h;have hi:i≠id:=fun e=>hi (by simp_all);have:=(Cw (o:=G.o) hz i).2 hi;rw[n] at this;exact⟨Q,w,j,E,m,q,this,r,H⟩
 | .ptr i off,b,u,h,c=>by
   unfold T8 at h;rw[ce] at h;obtain⟨⟨w,X,n⟩,r⟩:=c;split at h
   ·cases h
   ·rename_i hi;cases h;have hi:i≠id:=fun e=>hi (by simp_all);have:=(Cw (o:=G.o) hz i).2 hi;rw[n] at this;obtain⟨V,_,H⟩:=this;exact⟨⟨w,V,H⟩,r⟩
 | .agg l,b,u,h,c=>by
   unfold T8 at h;obtain⟨z,n,rfl⟩:=M0 h;obtain⟨P,e,c⟩:=c;exact⟨P,e,LU g hz n c⟩
 | .tup l,b,u,h,c=>by
   unfold T8 at h;obtain⟨z,n,rfl⟩:=M0 h;obtain⟨P,e,c⟩:=c;exact⟨P,e,LU g hz n c⟩
 | .fn f l,b,u,h,c=>by
   unfold T8 at h;obtain⟨z,n,rfl⟩:=M0 h;obtain⟨P,e,c⟩:=c;exact⟨P,e,LU g hz n c⟩
 | .v x,b,u,h,c=>by unfold T8 at h; cases h; exact c
 | .d f t' x,b,u,h,c=>by
   unfold T8 at h; cases h;exact RT.up c (fun k W=>⟨.inl W.1,W.2⟩)
 | .ow ..,b,u,h,c=>c.elim
 | .ob ..,b,u,h,c=>c.elim
theorem LU{o':List (Nat×Ob)}(c:HS G id ver fr t xs o')(hz:T9 id ver fr t xs G.o=some o'):∀{as' bs:List AV} {us:List Value},Cs id ver fr t xs as'=some bs->AVRs G as' us->AVRs (Cv G id o') bs us
 | [],bs,us,h,hu=>by
   simp only[Cs,oi] at h;subst h; exact hu
 | a :: r,bs,us,h,⟨u,us',e,h1,h2⟩=>by
   unfold Cs at h;split at h
   ·rename_i b f;obtain⟨z,d,rfl⟩:=M0 h;exact⟨u,us',e,Ps c hz f h1,LU c hz d h2⟩
   grind
end
theorem v0s{T:TypeId}{h:Bool}(S:Sat X G)(g:b9 G.o id=some (.arr T h t xs ver))(j:fr=(h||C0 t))(o':List (Nat×Ob)):HS G id ver fr t xs o':=fun u s=>by
 rcases s with ⟨E,P,r,y,v,f,d,H,l⟩ | ⟨_,⟨_,_,_,_,_,_,d⟩,_⟩
 ·rw[g] at d;cases d;rw[l rfl];obtain⟨F,w,q,m⟩:=S.obs id _ g;refine Pq w (q.mapR (fun c x n=>?_)) (fun b i=>⟨.inr (.inl i),fun _=>m b i⟩);subst j;by_cases z:C0 t=true
  ·grind[RT.free]
  ·exact RT.up n (fun k a=>⟨.inl a.1,fun e=>a.2 (by grind)⟩)
 grind
theorem t0M{a:Type}{R:List Value->a->Prop}:∀{vs:List Value} {xs:List a},vs.length=xs.length->(∀(k:Nat) v x,vs[k]?=some v->xs[k]?=some x->R [v] x)->AllR R vs xs
 | [],[],_,_=>rfl
 | v :: vs,x :: xs,hl,h=>⟨[v],vs,rfl,h 0 v x rfl rfl,t0M (by grind) (fun k b d e c=>h (k+1) b d e c)⟩
 | [],_ :: _,hl,_=>by grind
 | _ :: _,[],hl,_=>by grind
theorem v0r{T Te:TypeId}{m:Bool}{xs:List (List (j2 t))}(S:Sat X G)(l:b9 G.o id=some (.grd T Te m t xs none))(w:fr=(m||C0 t))(o':List (Nat×Ob)):HS G id ver fr (.sl t) xs o':=fun u H=>by
 rcases H with ⟨Y,T1,F,W,Q,j,h1,h2,q⟩ | ⟨_,_,q⟩
 ·grind
 ·rw[q];obtain⟨P,bs,V,i,y⟩:=S.obs id _ l;refine Pq (t:=.sl t) V (t0M i.len (fun k v x z g=>?_)) (fun b d=>⟨.inr (.inl d),fun _=>y b d⟩);have f:k<xs.length:=by
   rcases Nat.lt_or_ge k xs.length with h | h
   ·exact h
   ·rw[List.getElem?_eq_none h] at g; cases g
  obtain⟨cs,r,n,r3⟩:=i.row k f (fun h=>by cases h);have ev:P.getD k (.bool false)=v:=by rw[gq,z]; rfl
  have s:xs.getD k []=x:=by rw[gq,g]; rfl
  rw[ev,s] at r;rw[s] at n;refine Pq r (n.mapR (fun c x E=>?_)) (fun b d=>⟨.inr (.inr ⟨by rw[l]; rfl,(i.blk b).2 ⟨k,f,(fun h=>by cases h),d⟩⟩),fun _=>r3 b d⟩);subst w;by_cases f:C0 t=true
  ·grind[RT.free]
  ·exact RT.up E (fun k a=>⟨.inl a.1,fun e=>a.2 (by grind)⟩)
theorem Ub{aA:Ob}{o':List (Nat×Ob)}(S:Sat X G)(ho:b9 G.o id=some aA)(F:∀k,G.γ id=some k->UF G.w k/\G.B<=k)(H:HS G id ver fr t xs o')(hz:T9 id ver fr t xs G.o=some o')(aC:Nat.blt id 500000=true):Sat X (Cv G id o'):=by
 have E:=Cw (o:=G.o) hz;have d:∀i m,b9 o' i=some m->i≠id/\∃n,b9 G.o i=some n:=fun i m h=>by
  grind
 have z:∀i,C5 (b9 o' i)=true->i≠id/\C5 (b9 G.o i)=true:=fun i r=>by
  grind[Lv,hi]
 refine⟨S.base,S.os,S.tape,S.output,S.size,S.block,?_,?_,?_,?_,?_,?_,?_,?_⟩
 ·intro i m h;obtain⟨hi,n,l⟩:=d i m h;have:=(E i).2 hi;rw[l] at this;have y:=S.obs i n l;cases n with
  | box Y aD =>
    obtain⟨W,e1,e2⟩:=this;have h:b9 o' i=some m:=h;rw[e2] at h;cases h;obtain⟨b,us,P,s,Q,g4⟩:=y;exact⟨b,us,P,s,Q,LU H hz e1 g4⟩
  | arr Y aH t1 aJ aK =>
    simp only at this;have h:b9 o' i=some m:=h;rw[this] at h;cases h;obtain⟨cs,P,s,Q⟩:=y;exact⟨cs,P,s.mapR (fun c x hr=>RT.up hr (fun k a=>⟨.inl a.1,a.2⟩)),Q⟩
  | grd Y Te1 aH t1 aJ aG =>
    simp only at this;have h:b9 o' i=some m:=h;rw[this] at h;cases h;obtain⟨vs,bs,P,s,Q⟩:=y;refine⟨vs,bs,P,⟨s.len,s.blk,s.inj,fun k a hh=>?_,s.one⟩,Q⟩;obtain⟨cs,r1,r2,r3⟩:=s.row k a hh;exact⟨cs,r1,r2.mapR (fun c x hr=>RT.up hr (fun k a=>⟨.inl a.1,a.2⟩)),r3⟩
 ·intro i i' m n b h h' q aI;obtain⟨_,u,l⟩:=d i m h;obtain⟨_,o2,h2⟩:=d i' n h';exact S.inj i i' u o2 b l h2 q aI
 ·intro i m b h q a;obtain⟨hi,u,l⟩:=d i m h;rcases a with a | a | ⟨r,a⟩
  ·exact S.imm i u b l q a
  ·exact hi (S.inj i id u _ b l ho q a)
  ·exact(S.sep id b a r).2.2.1 i u l q
 ·intro i m b h q;obtain⟨_,u,l⟩:=d i m h;exact S.own i u b l q
 ·intro k a;rcases a with a | a | ⟨r,a⟩
  ·exact S.klt k a
  ·exact(F k a).1.g
  ·exact(S.duf a r).g
 ·intro k a;rcases a with a | a | ⟨r,a⟩
  ·exact S.kfrom k a
  ·exact .inr (by rw[<- S.base.1]; exact(F k a).2)
  ·obtain⟨T,Te,f,t,xs,aL,e⟩:=Lv r;obtain⟨vs,bs,_,hR,_⟩:=S.obs id _ e;obtain⟨j,V,hh,q⟩:=(hR.blk k).1 a;obtain⟨_,_,_,h3⟩:=hR.row j V hh;exact .inr (by rw[<- S.base.1]; exact h3 k q)
 ·intro i b q r;obtain⟨hi,r⟩:=z i r;obtain⟨s1,s2,s3,s4⟩:=S.sep i b q r;refine⟨s1,?_,fun j o V aF=>?_,fun j V aB=>s4 j V (z j aB).2⟩
  ·rintro(a | a | ⟨aM,a⟩)
   ·grind
   ·grind
   grind
  ·obtain⟨_,u,l⟩:=d j o V;exact s3 j u l aF
 ·intro i v hv;obtain⟨⟨Y,aD,l⟩,h2⟩:=S.pin i v hv;have hi:500000+i≠id:=fun e=>by
   have:id<500000:=by simpa using aC
   omega
  have:=(E (500000+i)).2 hi;rw[l] at this;obtain⟨W,_,e⟩:=this;exact⟨⟨Y,W,e⟩,h2⟩
theorem HU:∀{e:List (Nat×Sl)},Gc e=true->∀{k:Nat} {s:Sl},b9 (Cu id ver fr t xs e) k=some s->∃a,b9 e k=some ⟨s.p,a⟩/\T8 id ver fr t xs a=some s.a
 | [],_,k,s,h=>by cases h
 | (j,s0) :: r,hn,k,s,h=>by
   simp only[Gc,ba,List.all_eq_true,Bool.not_eq_true'] at hn;unfold Cu at h;split at h
   ·rename_i b f;rw[lK] at h ⊢;split at h
    ·rename_i e;cases h;exact⟨s0.a,by simp_all,f⟩
    ·rename_i e;rw[if_neg e];exact HU hn.2 h
   ·obtain⟨a,l,c⟩:=HU hn.2 h;refine⟨a,?_,c⟩;rw[lK];split
    ·rename_i e;exfalso;have:∀{e:List (Nat×Sl)},(∀x∈e,Nat.beq x.1 j=false)->b9 e j=none:=by
      intro e
      induction e with
      | nil=>intro _; rfl
      | cons y r m =>
        intro g;obtain⟨d,v⟩:=y;rw[lK,if_neg]
        ·grind
        ·intro i
         simp_all
     grind
    omega
end
theorem I0n{X:Cx}{st st':St}{id:Nat}(h:Pr id st=some st')(j:Nat.blt id 500000=true){G:Gh}{a:Act}(S:Sat X G)(u:G.o=st.o)(i:EnvR X.n G st.e a):∃G',Sat X G'/\G'.o=st'.o/\G'.w=G.w/\EnvR X.n G' st'.e a:=by
 unfold Pr at h;split at h
 ·rename_i T E t z ver d;rw[ce] at h;split at h
  ·rename_i r;split at h
   ·rename_i l hz;cases h;rw[<- u] at d hz;have c:=v0s S d rfl l;obtain⟨v,m,F,f⟩:=S.obs id _ d;refine⟨Cv G id l,Ub S d (fun k g=>⟨by grind[De],f k g⟩) c hz j,rfl,rfl,i.defers,i.size,fun k s g=>?_⟩;obtain⟨b,q,V⟩:=HU r g;obtain⟨H,x⟩:=i.val k _ q
    grind[Ps]
   grind
  grind
 ·rename_i T W E t z d;rw[ce] at h;split at h
  ·rename_i r;split at h
   ·rename_i l hz;cases h;rw[<- u] at d hz;have c:=v0r (ver:=0) S d rfl l;obtain⟨y,Q,m,P,f⟩:=S.obs id _ d;refine⟨Cv G id l,Ub S d (fun k g=>⟨by grind[De],f k g⟩) c hz j,rfl,rfl,i.defers,i.size,fun k s g=>?_⟩;obtain⟨b,q,V⟩:=HU r g;obtain⟨H,x⟩:=i.val k _ q
    grind[Ps]
   grind
  grind
 grind
theorem fz{X:Cx}{st:St}{c:Code}{Q:Exit->Act->World->Prop}(id:Nat)(st':St)(h:Pr id st=some st')(d:Nat.blt id 500000=true)(k:VX X st' c Q):VX X st c Q:=fun G a S g l=>by
 obtain⟨i,f,b,j,e⟩:=I0n h d S g l;have:=k i a f b e
 grind
theorem Yj{X:Cx}{st:St}{c:Code}{Q:Exit->Act->World->Prop}{a:Type}{r:a}(H:none=some r):VX X st c Q:=by cases H
def HV:List o5->Bool
 | []=>true
 | .dat (.int _) :: r=>HV r
 | .dat .bool :: r=>HV r
 | .dat .str :: r=>HV r
 | _=>false
def sc:(ps:List o5)->z6 ps->List Value
 | [],_=>[]
 | .dat (.int k) :: r,x=>.int k x.1 :: sc r x.2
 | .dat .bool :: r,x=>.bool x.1 :: sc r x.2
 | .dat .str :: r,x=>.string x.1 :: sc r x.2
 | _ :: r,x=>sc r x.2
theorem Pt{K:Nat->Prop}{w:World}:∀{ps:List o5} {x:z6 ps} {vs:List Value} {go:Option Nat},HV ps=true->ArgsR K w go ps x vs->vs=sc ps x/\go=none
 | [],x,vs,go,_,h=>h
 | .dat (.int k) :: r,x,vs,go,hs,⟨v,us,e,a,h⟩=>by
   obtain⟨c,b⟩:=Pt (ps:=r) hs h;refine⟨?_,b⟩;rw[e,c];have a:=a.1;simp only[List.cons.injEq,and_true] at a;rw[a]; rfl
 | .dat .bool :: r,x,vs,go,hs,⟨v,us,e,a,h⟩=>by
   obtain⟨c,b⟩:=Pt (ps:=r) hs h;refine⟨?_,b⟩;rw[e,c];have a:[v]=_:=a;simp only[List.cons.injEq,and_true] at a;rw[a]; rfl
 | .dat .str :: r,x,vs,go,hs,⟨v,us,e,a,h⟩=>by
   obtain⟨c,b⟩:=Pt (ps:=r) hs h;refine⟨?_,b⟩;rw[e,c];have a:=a.1;simp only[List.cons.injEq,and_true] at a;rw[a]; rfl
theorem Pu{K:Nat->Prop}{w:World}{go:Option Nat}:∀{ps:List o5} (z:A0 ps),HV ps=true->IOR K w go ps z
 | [],_,_=>trivial
 | .dat (.int _) :: r,z,h=>Pu (ps:=r) z h
 | .dat .bool :: r,z,h=>Pu (ps:=r) z h
 | .dat .str :: r,z,h=>Pu (ps:=r) z h
theorem ZE{P:Program}{f:FuncId}{ps:List o5}{a:Type}[Inhabited a]{F:z6 ps->Option a}{t:Ty}{D:a->j2 t}{Z:a->A0 ps}(c:HV ps=true)(o:Cf P f=true)
  (h:∀x r w,F x=some r->wfs ps x->Calls P f (sc ps x).toArray w fun en w'=>∃v,en=.returned v/\Ext w w'/\RT (fun _=>False) w' t [v] (D r)):Ok P (c8 f ps F (fun r=>.d true t (D r)) Z):=by
 refine⟨o,fun x n w u q K s g=>?_⟩;obtain⟨rfl,rfl⟩:=Pt c g;refine Calls.mono (h x _ w (r0Z n) g.wfs) ?_;rintro en w' ⟨v,e,m,i⟩;exact⟨v,[],e,WE.of_ext m,trivial,(fun b j=>nomatch j),⟨RT.up i (fun k l=>l.elim),rfl⟩,Pu _ c⟩
theorem E0H{K:Nat->Prop}{w:World}{k:IntKind}{x:Int}(h:lo k<=x/\x<=hi k):RT K w (.int k) [.int k x] x:=⟨rfl,h⟩
theorem E0G{K:Nat->Prop}{w:World}{s:ByteArray}(h:s.size<=9223372036854775807):RT K w .str [.string s] s:=⟨rfl,h⟩
end Go.Proofs.Xv
end
section
namespace Go.Proofs.Xl
instance K0c{α β:Type}[Inhabited α]:Inhabited (α ⊕ β):=⟨.inl default⟩
def KJ{α β:Type}:Option (α ⊕ β)->Bool
 | some (.inl _)=>true
 | _=>false
def Ra{α β:Type}:Option (α ⊕ β)->Bool
 | some (.inr _)=>true
 | _=>false
def vL{α β:Type}[Inhabited α]:Option (α ⊕ β)->α
 | some (.inl a)=>a
 | _=>default
def vR{α β:Type}[Inhabited β]:Option (α ⊕ β)->β
 | some (.inr b)=>b
 | _=>default
def two{α β γ:Type}(f:α->γ)(g:β->γ):α ⊕ β->γ
 | .inl a=>f a
 | .inr b=>g b
end Go.Proofs.Xl
namespace Go.Proofs.Xv
open Go Go.RowKit Go.Proofs.Sv Go.Proofs.Xl
def QY(f:FuncId)(ps:List o5){α β:Type}[Inhabited α](F:z6 ps->Option (α ⊕ β))(R:α->AV)(z:A0 ps):Ct:=⟨f,ps,fun x=>⟨KJ (F x)=true,R (vL (F x)),z⟩⟩
def QZ(f:FuncId)(ps:List o5){α β:Type}[Inhabited β](F:z6 ps->Option (α ⊕ β))(R:β->AV)(z:A0 ps):Ct:=⟨f,ps,fun x=>⟨Ra (F x)=true,R (vR (F x)),z⟩⟩
theorem L0H{P:Program}{f:FuncId}{ps:List o5}{d e:Type}[Inhabited (d ⊕ e)][Inhabited d]{F:z6 ps->Option (d ⊕ e)}{g:d->AV}{RB:e->AV}{z:A0 ps}(h:Ok P (c8 f ps F (two g RB) (fun _=>z))):Ok P (QY f ps F g z):=by
 refine⟨h.1,fun x c w l i K j k=>?_⟩;have c:KJ (F x)=true:=c;cases hF:F x with
 | none=>rw[hF] at c; cases c
 | some s =>
   cases s with
   | inr b=>rw[hF] at c; cases c
   | inl a =>
     have:=h.2 x (show(F x).isSome=true by grind) w l i K j k;simp only[c8,QY] at this ⊢;rw[hF] at this ⊢;exact this
theorem L0G{P:Program}{f:FuncId}{ps:List o5}{e d:Type}[Inhabited (e ⊕ d)][Inhabited d]{F:z6 ps->Option (e ⊕ d)}{i:e->AV}{RB:d->AV}{z:A0 ps}(h:Ok P (c8 f ps F (two i RB) (fun _=>z))):Ok P (QZ f ps F RB z):=by
 refine⟨h.1,fun x c w l g K j k=>?_⟩;have c:Ra (F x)=true:=c;cases hF:F x with
 | none=>rw[hF] at c; cases c
 | some s =>
   cases s with
   | inl b=>rw[hF] at c; cases c
   | inr a =>
     have:=h.2 x (show(F x).isSome=true by grind) w l g K j k;simp only[c8,QZ] at this ⊢;rw[hF] at this ⊢;exact this
theorem sp{X:Cx}{st:St}{c:Code}{Q:Exit->Act->World->Prop}{a:Type}{r:a}{b:Bool}{d e:Option a}(H:(if b=true then d else e)=some r)(f:d=some r->VX X st c Q)(g:e=some r->VX X st c Q):VX X st c Q:=by
 grind
end Go.Proofs.Xv
end
section
namespace Go.Proofs.Xv
open Go Go.RowKit Go.Proofs.Sv Go.Proofs.Xl
abbrev Z(e:List (Nat×Sl))(o:List (Nat×Ob)):St:=⟨e,o⟩
abbrev R(i:Nat):AV:=.ptr i 0
abbrev O(i:Nat):AV:=.os i 0
abbrev A(T:TypeId)(t:Ty)(xs:List (j2 t))(v:Nat):Ob:=.arr T true t xs v
abbrev K(T:TypeId)(t:Ty)(x:j2 t):Ob:=.box T (A6 false t x)
class HG(P:Program)(Γ:outParam m6):Prop where
 h:s9 P Γ
class HT(P:Program)(T:outParam (List Ct)):Prop where
 h:∀c∈T,Ok P c
def Uc(st:St):List Nat:=st.e.map Prod.fst
section
variable {P:Program} {n:Nat} {y:World×(Nat->Prop)×(Nat->Prop)×(Nat->Value->Prop)×Nat} {st:St} {Q:Exit->Act->World->Prop} {Γ:m6} {T:List Ct} {ρ α:Type} {r:ρ}
theorem zD[a:HG P Γ][d:HT P T][e:H6 P](S:α->St){V:Prop}[Decidable V]{x:α}{f:α->Option ρ}{id:Nat}{l:List Oper}{b:Bool}(H:gd V (lt x f)=some r)(c:∀v,f v=some r->FX (cx P n y) (S v) .normal Q)(h:C9 b n Γ T l (Uc (S x)) st=some (V,S x):=by kernel_rfl):VX (cx P n y) st (.region id l.toArray b) Q:=zd a.h d.h _ S H h c
theorem qC[a:HG P Γ][e:HT P T][g:H6 P](S:α->St){x:α}{f:α->Option ρ}{id:Nat}{l:List Oper}{b:Bool}{c:Code}(H:lt x f=some r)(d:∀v,f v=some r->VX (cx P n y) (S v) c Q)(h:C9 b n Γ T l (Uc (S x)) st=some (True,S x):=by kernel_rfl):VX (cx P n y) st (.seq (.region id l.toArray b) c) Q:=qc a.h e.h _ S H h d
theorem qD[a:HG P Γ][e:HT P T][g:H6 P](S:α->St){V:Prop}[Decidable V]{x:α}{f:α->Option ρ}{id:Nat}{l:List Oper}{b:Bool}{c:Code}(H:gd V (lt x f)=some r)(d:∀v,f v=some r->VX (cx P n y) (S v) c Q)(h:C9 b n Γ T l (Uc (S x)) st=some (V,S x):=by kernel_rfl):VX (cx P n y) st (.seq (.region id l.toArray b) c) Q:=qd a.h e.h _ S H h d
theorem cD{X:Cx}{c:Operand}{a d:Code}{b:Bool}{e f:Option ρ}(H:(if b=true then e else f)=some r)(g:e=some r->VX X st a Q)(i:f=some r->VX X st d Q)(h:HQ st c=some b:=by kernel_rfl):VX X st (.cond c a d) Q:=cd H h g i
theorem jN{X:Cx}{b:Type}(r:ρ)(E:b->St)(J:b->Option ρ){a d:Code}(h:∀s,J s=some r->VX X (E s) d Q)(k:∀Q',(∀{s st'},J s=some r->(h:Ds st' (E s)=some (E s):=by kernel_rfl)->FX X st' .normal Q')->(∀{st' id},FX X st' (.exit id) Q->FX X st' (.exit id) Q')->(∀{st'},FX X st' .ret Q->FX X st' .ret Q')->VX X st a Q'):VX X st (.seq a d) Q:=jn r E J h (fun Q' n e t=>k Q' (fun H h=>n H h) e t)
theorem lX{X:Cx}{c:Type}(E:c->St)(d:c){F:(c->Option ρ)->c->Option ρ}{a:Code}(H:lp F d=some r)
 (b:∀Q' (g:c->Option ρ),(∀{s st'},g s=some r->(h:Ds st' (E s)=some (E s):=by kernel_rfl)->FX X st' .normal Q')->(∀{st' id},FX X st' (.exit id) Q->FX X st' (.exit id) Q')->(∀{st'},FX X st' .ret Q->FX X st' .ret Q')->∀s,F g s=some r->VX X (E s) a Q') (f:Ds st (E d)=some (E d):=by kernel_rfl):VX X st (.loop a) Q:=lx E d H f (fun Q' g n e t s H=>b Q' g (fun H h=>n H h) e t s H)
theorem fZ{X:Cx}{c:Code}(id:Nat)(st':St)(k:VX X st' c Q)(h:Pr id st=some st':=by kernel_rfl)(a:Nat.blt id 500000=true:=by kernel_rfl):VX X st c Q:=fz id st' h a k
end
def Pv(X:Cx)(Γ:m6)(rs:List ResultVar)(ps:List o5){ρ:Type}(R:ρ->AV)(Z:ρ->A0 ps)(r:ρ)(x:Exit)(Q:Exit->Act->World->Prop):Prop :=
 ∀{st:St} {e:ρ},some e=some r->(h:Pn Γ st rs ps (R e) (Z e)=some (R e,Z e):=by kernel_rfl)->FX X st x Q
theorem okL{P:Program}{Γ:m6}[g:HG P Γ]{f:FuncId}{ps:List o5}{e:Type}[Inhabited e]{F:z6 ps->Option e}{R:e->AV}{Z:e->A0 ps}{d:Func}{c:Code}{n:Nat}(rs:List ResultVar)
  (m:P.funcs[f]?=some d) (l:d.ntmps=n) (k:d.results=rs.toArray)
  (h:∀y x r,F x=some r->∀Q,Pv (cx P n y) Γ rs ps R Z r .normal Q->Pv (cx P n y) Γ rs ps R Z r .ret Q->VX (cx P n y) ⟨K5 0 ps x,D8 0 ps x⟩ c Q)
  (j:d.body=some c:=by rfl) (o:Cf P f=true:=by kernel_rfl) (i:(Nat.ble ps.length n&&W5 ps)=true:=by rfl):Ok P (c8 f ps F R Z) :=
 ZG g.h rs m l j k o i (fun y x r H Q a b=>h y x r H Q (fun H h=>a H h) (fun H h=>b H h))
end Go.Proofs.Xv
end
section
namespace Go.Proofs.Xv
open Go Go.Proofs Go.Proofs.Sv
def Ud(P:Program)(T:TypeId):Nat->List (Nat×Nat)->List (Option (Nat×Bool))
 | _,[]=>[]
 | k,_ :: r=>Lt P T k :: Ud P T (k+1) r
theorem z0p{P:Program}{T:TypeId}:∀{l:List (Nat×Nat)} {k:Nat},Ud P T k l=l.map (fun x=>some (x.1,true))->Ou P T k l
 | [],_,_=>trivial
 | _ :: _,_,h=>⟨(List.cons.inj h).1,z0p (List.cons.inj h).2⟩
abbrev F0E:=(Option (Nat×Nat×Option Value)×Bool×Bool×Bool)×Bool×Option (List (Nat×Nat))×Bool×List (Option (Nat×Bool))×Bool×Option (List (Bool×Bool))×Option TypeDesc
def Ue(P:Program)(x:Nat×TI):F0E :=
 ((Oh P x.1,Bp x.2.zero.cells.toList x.2.size,Nat.blt 0 x.2.size,ones x.2.zero.cells.toList),match x.2.kd with
 | .agg pl e _=>(Z7 P x.1,Hs P x.1,Lu P x.1,Ud P x.1 0 pl,(!e||SO P x.1),SP P x.1,none)
 | .arr _ _=>(Z7 P x.1,none,true,[],true,none,P.underlying x.1)
 | .oth=>(O6 P x.1,none,true,[],true,none,none)
 | _=>(O6 P x.1,none,true,[],true,none,P.underlying x.1))
def Uf(P:Program)(x:Nat×TI):F0E :=
 ((some (x.2.size,x.2.bytes,some x.2.zero),true,true,true),match x.2.kd with
 | .agg pl _ ag=>(true,some pl,true,pl.map (fun x=>some (x.1,true)),true,some (ag.map fun b=>(b,!b)),none)
 | .arr m E=>(true,none,true,[],true,none,some (.array m E))
 | .sl E=>(true,none,true,[],true,none,some (.slice E))
 | .str=>(true,none,true,[],true,none,some .string)
 | .bool=>(true,none,true,[],true,none,some .bool)
 | .int k=>(true,none,true,[],true,none,some (.int k))
 | .ptr=>(true,none,true,[],true,none,some (.pointer (P.pointee x.1)))
 | .oth=>(true,none,true,[],true,none,none))
theorem H0i{P:Program}{x:Nat×TI}(h:Ue P x=Uf P x):FD P x.1 x.2:=by
 obtain⟨T,c,b,zero,f,k⟩:=x;unfold Ue Uf at h;simp only[pj] at h;obtain⟨⟨i,d,e,g⟩,a⟩:=h;refine⟨i,d,e,g,?_⟩;cases f <;> simp only[pj] at a <;> unfold Ow
 ·exact⟨a.1,a.2.1,a.2.2.1,z0p a.2.2.2.1,fun j=>by simpa [j] using a.2.2.2.2.1,a.2.2.2.2.2.1⟩
 ·exact⟨a.1,a.2.2.2.2.2.2⟩
 ·exact⟨a.1,a.2.2.2.2.2.2⟩
 ·exact⟨a.1,a.2.2.2.2.2.2⟩
 ·exact⟨a.1,a.2.2.2.2.2.2⟩
 ·exact⟨a.1,a.2.2.2.2.2.2⟩
 ·exact a.1
 ·exact⟨a.1,a.2.2.2.2.2.2⟩
theorem E0y{P:Program}{Γ:m6}(h:Γ.map (Ue P)=Γ.map (Uf P)):s9 P Γ:=by
 induction Γ with
 | nil=>exact A0b
 | cons x r a =>
   simp only[List.map_cons,List.cons.injEq] at h;exact tK (H0i h.1) (a h.2)
end Go.Proofs.Xv
end
