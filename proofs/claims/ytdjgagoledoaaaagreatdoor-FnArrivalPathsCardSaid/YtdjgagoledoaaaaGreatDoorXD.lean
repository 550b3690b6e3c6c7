/- Calls by contracts. Over any program. -/
import Derived.Test.YtdjgagoledoaaaaGreatDoorXA
import Derived.KernelRfl
set_option maxHeartbeats 0
section
namespace Go.Proofs.Xv
open Go Go.RowKit Go.Proofs.Sv
theorem Sat.after{X:Cx}{G:Gh}(S:Sat X G){w':World}{go:Option Nat}(m:WE go G.w w'){K':Nat->Prop}(hK:∀k,G.K k->K' k)(aB:∀k,K' k->UFg w' X.w0.heap.size k)(F:∀k,K' k->X.K0 k∨X.base<=k)
  (aC:∀id o b,c7 G.o id=some o->G.γ id=some b->¬K' b) (aD:∀id b,G.δ id b->H4 (c7 G.o id)=true->¬K' b) {a:List (Nat×Ob)}
  (hu:(go=none/\a=[])∨∃id b T cs0 t,∃z:j7 t,go=some b/\a=[(id,Ob.box T (p8 false t z))]/\c7 G.o id=some (.box T cs0)/\G.γ id=some b/\∃us,Blk w' b us T/\RT K' w' t us z) :
  Sat X ⟨G.ρ,G.γ,K',w',a++G.o,G.B,G.δ⟩/\GLe G ⟨G.ρ,G.γ,K',w',a++G.o,G.B,G.δ⟩:=by
 have V:∀k,G.K k->go≠some k:=fun k q e=>by
  grind
 have P:∀k,G.K k->k<G.w.heap.size->w'.heap[k]?=G.w.heap[k]?:=fun k q hl=>m.block k hl (V k q)
 -- where the objects stand
 have W:∀i,(∃T cs0 t,∃z:j7 t,c7 (a++G.o) i=some (.box T (p8 false t z))/\c7 G.o i=some (.box T cs0)/\go=G.γ i/\(∃b us,G.γ i=some b/\Blk w' b us T/\RT K' w' t us z))∨(c7 (a++G.o) i=c7 G.o i/\∀o b,c7 G.o i=some o->G.γ i=some b->go≠some b):=fun i=>by
  rcases hu with ⟨rfl,rfl⟩ | ⟨id,b,T,cs0,t,z,rfl,rfl,g,hγ,us,hB,hR⟩
  ·grind
  ·by_cases e:id=i
   ·subst e;exact .inl ⟨T,cs0,t,z,by rw[List.cons_append,lK,if_pos rfl],g,hγ.symm,b,us,hγ,hB,hR⟩
   ·refine .inr ⟨by rw[List.cons_append,lK,if_neg e]; rfl,fun o b' d s e'=>?_⟩;cases e';exact e (S.inj id i _ _ b g d hγ s)
 have l:GLe G ⟨G.ρ,G.γ,K',w',a++G.o,G.B,G.δ⟩:=by
  refine⟨rfl,fun k q hl=>⟨hK k q,P k q hl⟩,fun i T cs hi=>⟨rfl,?_⟩,fun i T Te fr t xs Y hi=>⟨rfl,?_⟩,fun i T fr t xs aA hi=>?_⟩
  ·grind
  ·grind
  ·grind
 have f:∀i o,c7 (a++G.o) i=some o->∃o',c7 G.o i=some o':=fun i o h=>by
  grind
 have E:∀i,H4 (c7 (a++G.o) i)=true->H4 (c7 G.o i)=true:=fun i h=>by
  rcases W i with ⟨T',_,t,z,n,_⟩ | ⟨n,_⟩
  ·rw[n] at h; cases h
  grind
 refine⟨⟨S.base,m.os.trans S.os,m.tape.trans S.tape,m.output.trans S.output,Nat.le_trans S.size m.size,fun k q hi=>?_,?_,?_,?_,?_,aB,F,fun i b u hg=>?_,fun i v h=>(S.pin i v h).mono l⟩,l⟩
 rotate_right
 ·have hg:=E i hg;obtain⟨s1,s2,s3,s4⟩:=S.sep i b u hg
  grind
 ·refine(m.block k (Nat.lt_of_lt_of_le q S.size) (fun e=>?_)).trans (S.block k q hi);rcases hu with ⟨rfl,_⟩ | ⟨id,b,T,cs0,t,z,rfl,_,g,hγ,_⟩
  ·cases e
  ·cases e;rcases S.own id _ k g hγ with h | h
   ·omega
   grind
 ·intro i o g;rcases W i with ⟨T,cs0,t,z,n,H,_,b,us,h3,h4,h5⟩ | ⟨n,H⟩
  ·rw[n] at g;cases g;obtain⟨b',aF,r,y,_⟩:=S.obs i _ H;rw[h3] at r;cases r;exact⟨b,us,h3,y,h4,DS (RT.up h5 (fun k q=>⟨q,(fun e=>by cases e)⟩))⟩
  ·have d:c7 G.o i=some o:=by rw[<- n]; exact g
   have:=S.obs i o d;cases o with
   | box T cs =>
     obtain⟨b,us,r,y,Q,g4⟩:=this;exact⟨b,us,r,y,Q.we m (fun j hj e=>by grind),g4.mono l⟩
   | arr T fr t xs aA =>
     obtain⟨cs,r,y,Q⟩:=this;exact⟨cs,r.we m (fun j hj e=>H _ j d e hj),y.mapR (fun c x hr=>RT.same (w:=G.w) l.hR hr),Q⟩
   | grd T Te fr t xs Y =>
     obtain⟨vs,bs,r,y,Q⟩:=this;refine⟨vs,bs,r.we m (fun j hj e=>H _ j d e hj),y.up l (fun _=>Iff.rfl) m (fun b u E=>?_),Q⟩;rcases hu with ⟨rfl,_⟩ | ⟨id,b',T,cs0,t,z,rfl,_,ho2,hγ,_⟩
     ·grind
     ·cases E;exact(S.sep i b u (by rw[d]; rfl)).2.2.1 id _ ho2 hγ
 ·intro i i' o o' b g d u s;obtain⟨o1,n⟩:=f i o g;obtain⟨o2,H⟩:=f i' o' d;exact S.inj i i' o1 o2 b n H u s
 ·grind
 ·intro i o b g u;obtain⟨o1,n⟩:=f i o g;exact S.own i o1 b n u
theorem Sat.add{X:Cx}{G:Gh}(S:Sat X G){id:Nat}{ob:Ob}{r:Value}{g:Option Nat}(hd:c7 G.o id=none)(hg:∀b,g=some b->(X.w0.heap.size<=b∨X.io b)/\¬G.K b/\(∀i o,c7 G.o i=some o->G.γ i≠some b)/\∀i,G.δ i b->H4 (c7 G.o i)=true->False)
  (aC:GLe G (G.put id ob r g G.w)->ObR (G.put id ob r g G.w) id ob):Sat X (G.put id ob r g G.w)/\GLe G (G.put id ob r g G.w):=by
 have d:∀i,c7 (G.put id ob r g G.w).o i=if id=i then some ob else c7 G.o i:=fun i=>lK _ _ _ _
 have z:∀i o,c7 G.o i=some o->¬id=i:=fun i o h e=>by grind
 have f:GLe G (G.put id ob r g G.w):=by
  refine⟨rfl,fun k u _=>⟨u,rfl⟩,fun i T y hi=>?_,fun i T Te H t P q hi=>?_,fun i T H t P E hi=>?_⟩
  ·grind[Gh.put]
  ·grind[Gh.put]
  ·have e:=z i _ hi;rw[d,if_neg e];simp only[Gh.put,if_neg (Ne.symm e)]
   grind
 refine⟨⟨S.base,S.os,S.tape,S.output,S.size,S.block,?_,?_,?_,?_,S.klt,S.kfrom,fun i b c n=>?_,fun i v h=>(S.pin i v h).mono f⟩,f⟩
 rotate_right
 ·obtain⟨hn,c⟩:=c;rw[d,if_neg (Ne.symm hn)] at n;obtain⟨s1,s2,s3,s4⟩:=S.sep i b c n;refine⟨s1,s2,fun j o a F=>?_,fun j F aA=>?_⟩
  ·grind[Gh.put]
  ·obtain⟨aB,F⟩:=F
   grind
 ·intro i o a;rw[d] at a;by_cases e:id=i
  ·grind
  ·rw[if_neg e] at a;have:=S.obs i o a;cases o with
   | box T y =>
     obtain⟨b,Y,W,s,x,h4⟩:=this;exact⟨b,Y,by grind[Gh.put],by grind[Gh.put],x,h4.mono f⟩
   | arr T H t P E =>
     obtain⟨y,W,s,x⟩:=this;exact⟨y,by grind[Gh.put],s,by grind[Gh.put]⟩
   | grd T Te H t P q =>
     obtain⟨vs,bs,W,s,x⟩:=this;exact⟨vs,bs,by grind[Gh.put],s.up f (fun b=>⟨fun h=>h.2,fun h=>⟨Ne.symm e,h⟩⟩) (WE.refl (g:=none) _) (fun _ _ h=>by cases h),by grind[Gh.put]⟩
 ·intro i Q o o' b a m c l;rw[d] at a m;simp only[Gh.put] at c l;by_cases e:i=id
  ·grind
  ·rw[if_neg e] at c;rw[if_neg (Ne.symm e)] at a;by_cases V:Q=id
   ·grind
   ·rw[if_neg V] at l;rw[if_neg (Ne.symm V)] at m;exact S.inj i Q o o' b a m c l
 ·intro i o b a c u;rw[d] at a;simp only[Gh.put] at c u;by_cases e:i=id
  ·grind
  ·rw[if_neg e] at c;rw[if_neg (Ne.symm e)] at a;exact S.imm i o b a c u
 ·intro i o b a c;rw[d] at a;simp only[Gh.put] at c;by_cases e:i=id
  ·grind
  ·rw[if_neg e] at c;rw[if_neg (Ne.symm e)] at a;exact S.own i o b a c
mutual
def F7(d:Nat):Nat->AV->AV×List (Nat×Ob)×Nat
 | j,.ow T fr t xs=>(.os (1000*j+d) 0,[(1000*j+d,.arr T fr t xs 0)],j+1)
 | j,.ob T xs=>match M5 d j xs with | (ys,o,k)=>(.ptr (1000*k+d) 0,(1000*k+d,.box T ys) :: o,k+1)
 | j,.agg xs=>match M5 d j xs with | (ys,o,k)=>(.agg ys,o,k)
 | j,.tup xs=>match M5 d j xs with | (ys,o,k)=>(.tup ys,o,k)
 | j,.v x=>(.v x,[],j)
 | j,.d fr t x=>(.d fr t x,[],j)
 | j,a=>(a,[],j)
def M5(d:Nat):Nat->List AV->List AV×List (Nat×Ob)×Nat
 | j,[]=>([],[],j)
 | j,a :: r=>match F7 d j a with
   | (b,o,k)=>match M5 d k r with | (s,o',k')=>(b :: s,o'++o,k')
end
theorem Yr{a:Type}{l m:List (Nat×a)}{i:Nat}(h:∀x∈l,x.1≠i):c7 (l++m) i=c7 m i:=by
 induction l with
 | nil=>rfl
 | cons x r b =>
   obtain⟨d,v⟩:=x;rw[List.cons_append,lK,if_neg (h (d,v) (by simp))]
   grind
structure Ys(X:Cx)(d j k:Nat)(G:Gh)(obs:List (Nat×Ob))(gs:List (Option Nat))(G':Gh):Prop where
 sat:Sat X G'
 le:GLe G G'
 w:G'.w=G.w
 K:G'.K=G.K
 o:G'.o=obs++G.o
 jk:j<=k
 num:∀x∈obs,∃i,j<=i/\i<k/\x.1=1000*i+d
 far:∀b,some b ∉ gs->(∀i o,c7 G.o i=some o->G.γ i≠some b)->∀i o,c7 G'.o i=some o->G'.γ i≠some b
 dl:∀i b,G'.δ i b->H4 (c7 G'.o i)=true->G.δ i b/\H4 (c7 G.o i)=true
def SO(X:Cx)(G:Gh)(gs:List (Option Nat)):Prop:=∀b,some b∈gs->X.w0.heap.size<=b/\¬G.K b/\(∀i o,c7 G.o i=some o->G.γ i≠some b)/\∀i,G.δ i b->H4 (c7 G.o i)=true->False
theorem m0Y:∀{g h:List (Option Nat)},CT (g++h)->CT g/\CT h/\∀b,some b∈g->some b ∉ h
 | [],h,k=>⟨trivial,k,fun _ a=>by cases a⟩
 | x :: r,h,⟨k1,k2⟩=>by
   obtain⟨d,f,i⟩:=m0Y k2;refine⟨⟨fun b a c=>k1 b a (by simp[c]),d⟩,f,fun b a c=>?_⟩;rcases List.mem_cons.1 a with e | a
   ·exact k1 b e.symm (by simp[c])
   grind
theorem Yt{X:Cx}{d j:Nat}{G:Gh}(S:Sat X G){a:List (Option Nat)}:Ys X d j j G [] a G :=
 ⟨S,GLe.refl G,rfl,rfl,rfl,Nat.le_refl _,(fun _ h=>by cases h),(fun _ _ h=>h),fun _ _ h b=>⟨h,b⟩⟩
mutual
theorem i0d{X:Cx}{d:Nat}{K:Bool->Nat->Prop}:∀(a:AV) {j k:Nat} {b:AV} {obs:List (Nat×Ob)} {G:Gh} {u:Value} {gs:List (Option Nat)},F7 d j a=(b,obs,k)->Sat X G->(∀fr i,K fr i->rg G fr i)->ResR K G.w a u gs->CT gs->SO X G gs->(∀x∈obs,c7 G.o x.1=none) ->
  ∃G',Ys X d j k G obs gs G'/\AVR G' b u
 | .ow T fr t xs,j,k,b,obs,G,u,gs,h,S,hK,hR,hN,hF,hfr=>by
   simp only[F7,pj] at h;obtain⟨rfl,rfl,rfl⟩:=h;obtain⟨g,cs,rfl,z,hO,hA⟩:=hR;have hd:=hfr _ (List.mem_singleton.2 rfl);have f:=S.add (id:=1000*j+d) (ob:=.arr T fr t xs 0) (r:=u) (g:=g) hd (fun b m=>let h:=hF b (by grind); ⟨.inl h.1,h.2⟩) (fun E=>⟨cs,by grind[Gh.put],hA.mapR (fun c x hr=>RT.same (w:=G.w) (fun k hk _=>⟨hK fr k hk,rfl⟩) hr),fun b e=>by simp only[Gh.put,if_true] at e ⊢; subst e; exact Nat.le_trans S.le (hF b (by simp)).1⟩);refine⟨_,⟨f.1,f.2,rfl,rfl,rfl,Nat.le_succ _,fun x F=>?_,fun b m q i o hi=>?_,fun i b m n=>?_⟩,z,T,fr,t,xs,0,?_,Nat.le_refl _,fun _=>by simp[Gh.put]⟩
   ·cases List.mem_singleton.1 F;exact⟨j,Nat.le_refl _,Nat.lt_succ_self _,rfl⟩
   ·rw[show(Gh.put G (1000*j+d) (.arr T fr t xs 0) u g G.w).o=(1000*j+d,.arr T fr t xs 0) :: G.o from rfl,lK] at hi
    grind[Gh.put]
   ·obtain⟨hn,m⟩:=m;rw[show(Gh.put G (1000*j+d) (.arr T fr t xs 0) u g G.w).o=(1000*j+d,.arr T fr t xs 0) :: G.o from rfl,lK,if_neg (Ne.symm hn)] at n;exact⟨m,n⟩
   ·rw[show(Gh.put G (1000*j+d) (.arr T fr t xs 0) u g G.w).o=(1000*j+d,.arr T fr t xs 0) :: G.o from rfl,lK]; simp
 | .agg xs,j,k,b,obs,G,u,gs,h,S,hK,⟨us,e,hR⟩,hN,hF,hfr=>by
   simp only[F7] at h;cases f:M5 d j xs with
   | mk H r =>
     obtain⟨o,s⟩:=r;rw[f] at h;simp only[pj] at h;obtain⟨rfl,rfl,rfl⟩:=h;obtain⟨G',z,W⟩:=SP xs f S hK hR hN hF hfr;exact⟨G',z,us,e,W⟩
 | .tup xs,j,k,b,obs,G,u,gs,h,S,hK,⟨us,e,hR⟩,hN,hF,hfr=>by
   simp only[F7] at h;cases f:M5 d j xs with
   | mk H r =>
     obtain⟨o,s⟩:=r;rw[f] at h;simp only[pj] at h;obtain⟨rfl,rfl,rfl⟩:=h;obtain⟨G',z,W⟩:=SP xs f S hK hR hN hF hfr;exact⟨G',z,us,e,W⟩
 | .v x,j,k,b,obs,G,u,gs,h,S,hK,⟨hR,e⟩,hN,hF,hfr=>by
   simp only[F7,pj] at h;obtain⟨rfl,rfl,rfl⟩:=h;exact⟨G,Yt S,hR⟩
 | .d fr t x,j,k,b,obs,G,u,gs,h,S,hK,⟨hR,e⟩,hN,hF,hfr=>by
   simp only[F7,pj] at h;obtain⟨rfl,rfl,rfl⟩:=h;exact⟨G,Yt S,RT.same (w:=G.w) (fun k hk _=>⟨hK fr k hk,rfl⟩) hR⟩
 | .ptr _ _,_,_,_,_,_,_,_,_,_,_,hR,_,_,_=>hR.elim
 | .pel _ _ _ _ _,_,_,_,_,_,_,_,_,_,_,hR,_,_,_=>hR.elim
 | .os _ _,_,_,_,_,_,_,_,_,_,_,hR,_,_,_=>hR.elim
 | .fn _ _,_,_,_,_,_,_,_,_,_,_,hR,_,_,_=>hR.elim
 | .gel _ _,_,_,_,_,_,_,_,_,_,_,hR,_,_,_=>hR.elim
 | .og _,_,_,_,_,_,_,_,_,_,_,hR,_,_,_=>hR.elim
 | .ob T xs,j,k,b,obs,G,u,gs,h,S,hK,⟨b0,us,gs',eg,hu,hB,hR⟩,hN,hF,hfr=>by
   subst eg;simp only[F7] at h;cases f:M5 d j xs with
   | mk H r =>
     obtain⟨o,s⟩:=r;rw[f] at h;simp only[pj] at h;obtain⟨rfl,rfl,rfl⟩:=h;obtain⟨n1,n2⟩:=hN;have Q:=Ku xs f;have E:=Kv xs f;obtain⟨V,l,A1⟩:=SP xs f S hK hR n2 (fun b m=>hF b (by grind)) (fun x F=>hfr x (by grind));obtain⟨f1,f2,f3,f4⟩:=hF b0 (by simp);have hd:c7 V.o (1000*s+d)=none:=by
      rw[l.o,Yr]
      ·simp_all
      ·intro y hy e;obtain⟨i',aC,aB,aA⟩:=Q y hy;rw[aA] at e;omega
     have f:=l.sat.add (id:=1000*s+d) (ob:=.box T H) (r:=u) (g:=some b0) hd (fun b m=>by
      cases m;exact⟨.inl f1,by rw[l.K]; exact f2,l.far b0 (n1 b0 rfl) f3,fun i hi P=>f4 i (l.dl i b0 hi P).1 (l.dl i b0 hi P).2⟩) (fun E=>⟨b0,us,by simp[Gh.put],by simp[Gh.put,hu],by show Blk V.w b0 us T; rw[l.w]; exact hB,A1.mono E⟩)
     have Y:(Gh.put V (1000*s+d) (.box T H) u (some b0) V.w).o=(1000*s+d,.box T H) :: V.o:=rfl;refine⟨_,⟨f.1,GLe.trans l.le f.2 (by rw[l.w]; exact Nat.le_refl _),l.w,l.K,by rw[Y,l.o]; rfl,by omega,fun x F=>?_,fun b m q i o hi=>?_,fun i b m n=>?_⟩,⟨T,H,by rw[Y,lK,if_pos rfl]⟩,b0,by simp[Gh.put,hu],by rw[hu]⟩
     ·rcases List.mem_cons.1 F with rfl | F
      ·exact⟨s,by omega,by omega,rfl⟩
      ·obtain⟨i,z,W,h3⟩:=l.num x F;exact⟨i,z,by omega,h3⟩
     ·rw[Y,lK] at hi;simp only[Gh.put];by_cases e:i=1000*s+d
      ·grind
      ·rw[if_neg e];rw[if_neg (Ne.symm e)] at hi;exact l.far b (fun h=>m (by simp[h])) q i o hi
     ·obtain⟨hn,m⟩:=m;rw[Y,lK,if_neg (Ne.symm hn)] at n;exact l.dl i b m n
theorem SP{X:Cx}{d:Nat}{K:Bool->Nat->Prop}:∀(as':List AV) {j k:Nat} {bs:List AV} {obs:List (Nat×Ob)} {G:Gh} {us:List Value} {gs:List (Option Nat)},M5 d j as'=(bs,obs,k)->Sat X G->(∀fr i,K fr i->rg G fr i)->ResRs K G.w as' us gs->CT gs->SO X G gs->(∀x∈obs,c7 G.o x.1=none) ->
  ∃G',Ys X d j k G obs gs G'/\AVRs G' bs us
 | [],j,k,bs,obs,G,us,gs,h,S,hK,⟨hR,e⟩,hN,hF,hfr=>by
   simp only[M5,pj] at h;obtain⟨rfl,rfl,rfl⟩:=h;exact⟨G,Yt S,hR⟩
 | a :: r,j,k,bs,obs,G,us,gs,h,S,hK,⟨u,us',g1,g2,e1,e2,hR1,hR2⟩,hN,hF,hfr=>by
   subst e1; subst e2;simp only[M5] at h;cases hp:F7 d j a with
   | mk b q =>
     obtain⟨o,T⟩:=q;rw[hp] at h;simp only at h;cases hp2:M5 d T r with
     | mk s q =>
       obtain⟨o',k2⟩:=q;rw[hp2] at h;simp only[pj] at h;obtain⟨rfl,rfl,rfl⟩:=h;obtain⟨n1,n2,n3⟩:=m0Y hN;obtain⟨Y,c,A1⟩:=i0d a hp S hK hR1 n1 (fun b g=>hF b (by simp[g])) (fun x l=>hfr x (by simp[l]));have Q:SO X Y g2:=fun b g=>by
        obtain⟨f1,f2,f3,f4⟩:=hF b (by simp[g]);exact⟨f1,by rw[c.K]; exact f2,c.far b (fun h=>n3 b h g) f3,fun i hi v=>f4 i (c.dl i b hi v).1 (c.dl i b hi v).2⟩
       have E:∀x∈o',c7 Y.o x.1=none:=fun x l=>by
        obtain⟨i,aB,aA,P⟩:∃i,T<=i/\i<k2/\x.1=1000*i+d:=by
         exact Ku r hp2 x l
        rw[c.o,Yr]
        ·grind
        ·intro y hy e;obtain⟨i',W,V,H⟩:=c.num y hy;rw[H,P] at e;omega
       obtain⟨G2,f,A2⟩:=SP r hp2 c.sat (fun fr i hi=>by obtain⟨z,m⟩:=hK fr i hi; exact⟨by rw[c.K]; exact z,fun e=>by rw[c.le.hB]; exact m e⟩) (by rw[c.w]; exact hR2) n2 Q E;refine⟨G2,⟨f.sat,?_,f.w.trans c.w,f.K.trans c.K,?_,Nat.le_trans c.jk f.jk,?_,?_,fun i b g n=>c.dl i b (f.dl i b g n).1 (f.dl i b g n).2⟩,u,us',rfl,A1.mono f.le,A2⟩
       ·exact GLe.trans c.le f.le (by rw[c.w]; exact Nat.le_refl _)
       ·rw[f.o,c.o,List.append_assoc]
       ·intro x l;rcases List.mem_append.1 l with l | l
        ·obtain⟨i,z,m,F⟩:=f.num x l;exact⟨i,Nat.le_trans c.jk z,m,F⟩
        ·obtain⟨i,z,m,F⟩:=c.num x l;exact⟨i,z,Nat.lt_of_lt_of_le m f.jk,F⟩
       ·intro b g t;exact f.far b (fun h=>g (by simp[h])) (c.far b (fun h=>g (by simp[h])) t)
theorem Yu{d:Nat}:∀(a:AV) {j k:Nat} {b:AV} {obs:List (Nat×Ob)},F7 d j a=(b,obs,k)->(∀x∈obs,∃i,j<=i/\i<k/\x.1=1000*i+d)/\j<=k
 | .ow T fr t xs,j,k,b,obs,h=>by
   simp only[F7,pj] at h;obtain⟨rfl,rfl,rfl⟩:=h;refine⟨fun x e=>?_,Nat.le_succ _⟩;cases List.mem_singleton.1 e;exact⟨j,Nat.le_refl _,Nat.lt_succ_self _,rfl⟩
 | .agg xs,j,k,b,obs,h=>by
   simp only[F7] at h;cases hp:M5 d j xs with
   | mk l r =>
     obtain⟨o,g⟩:=r;rw[hp] at h;simp only[pj] at h;obtain⟨rfl,rfl,rfl⟩:=h;exact⟨Ku xs hp,Kv xs hp⟩
 | .tup xs,j,k,b,obs,h=>by
   simp only[F7] at h;cases hp:M5 d j xs with
   | mk l r =>
     obtain⟨o,g⟩:=r;rw[hp] at h;simp only[pj] at h;obtain⟨rfl,rfl,rfl⟩:=h;exact⟨Ku xs hp,Kv xs hp⟩
 | .v x,j,k,b,obs,h=>by simp only[F7,pj] at h; grind
 | .d fr t x,j,k,b,obs,h=>by simp only[F7,pj] at h; grind
 | .ptr _ _,j,k,b,obs,h=>by simp only[F7,pj] at h; grind
 | .pel _ _ _ _ _,j,k,b,obs,h=>by simp only[F7,pj] at h; grind
 | .os _ _,j,k,b,obs,h=>by simp only[F7,pj] at h; grind
 | .fn _ _,j,k,b,obs,h=>by simp only[F7,pj] at h; grind
 | .gel _ _,j,k,b,obs,h=>by simp only[F7,pj] at h; grind
 | .og _,j,k,b,obs,h=>by simp only[F7,pj] at h; grind
 | .ob T xs,j,k,b,obs,h=>by
   simp only[F7] at h;cases hp:M5 d j xs with
   | mk l r =>
     obtain⟨o,g⟩:=r;rw[hp] at h;simp only[pj] at h;obtain⟨rfl,rfl,rfl⟩:=h;have c:=Ku xs hp;have f:=Kv xs hp;refine⟨fun x e=>?_,by omega⟩;rcases List.mem_cons.1 e with rfl | e
     ·exact⟨g,f,by omega,rfl⟩
     ·obtain⟨i,n,q,m⟩:=c x e;exact⟨i,n,by omega,m⟩
theorem Kv{d:Nat}:∀(as':List AV) {j k:Nat} {bs:List AV} {obs:List (Nat×Ob)},M5 d j as'=(bs,obs,k)->j<=k
 | [],j,k,bs,obs,h=>by simp only[M5,pj] at h; omega
 | a :: r,j,k,bs,obs,h=>by
   simp only[M5] at h;cases hp:F7 d j a with
   | mk b q =>
     obtain⟨o,c⟩:=q;rw[hp] at h;simp only at h;cases hp2:M5 d c r with
     | mk s q =>
       obtain⟨f,e⟩:=q;rw[hp2] at h;simp only[pj] at h;obtain⟨rfl,rfl,rfl⟩:=h;exact Nat.le_trans (Yu a hp).2 (Kv r hp2)
theorem Ku{d:Nat}:∀(as':List AV) {j k:Nat} {bs:List AV} {obs:List (Nat×Ob)},M5 d j as'=(bs,obs,k)->∀x∈obs,∃i,j<=i/\i<k/\x.1=1000*i+d
 | [],j,k,bs,obs,h=>by simp only[M5,pj] at h; grind
 | a :: r,j,k,bs,obs,h=>by
   simp only[M5] at h;cases hp:F7 d j a with
   | mk b q =>
     obtain⟨o,l⟩:=q;rw[hp] at h;simp only at h;cases hp2:M5 d l r with
     | mk s q =>
       obtain⟨m,n⟩:=q;rw[hp2] at h;simp only[pj] at h;obtain⟨rfl,rfl,rfl⟩:=h;intro x c;rcases List.mem_append.1 c with c | c
       ·obtain⟨i,g,e,f⟩:=Ku r hp2 x c;exact⟨i,Nat.le_trans (Yu a hp).2 g,e,f⟩
       ·obtain⟨i,g,e,f⟩:=(Yu a hp).1 x c;exact⟨i,g,Nat.lt_of_lt_of_le e (Kv r hp2),f⟩
end
def Gl:(ps:List Par)->B1 ps->List AV
 | [],_=>[]
 | .io _ t :: _,z=>p8 false t z
 | .dat _ :: r,z=>Gl r z
 | .agg _ :: r,z=>Gl r z
 | .fn _ _ :: r,z=>Gl r z
 | .nof _ :: r,z=>Gl r z
 | .nil :: r,z=>Gl r z
 | .os _ _ :: r,z=>Gl r z
def An(o:List (Nat×Ob))(ps:List Par)(z:B1 ps):Option Nat->List (Nat×Ob)
 | none=>[]
 | some id=>match c7 o id with
   | some (.box T _)=>[(id,.box T (Gl ps z))]
   | _=>[]
def Ce{α:Type}:List α->Bool
 | []=>true
 | _ :: _=>false
theorem On{c:Type}{l:List c}(h:Ce l=true):l=[]:=by cases l with
 | nil=>rfl
 | cons a b=>cases h
def isNone{α:Type}:Option α->Bool
 | none=>true
 | some _=>false
def CV(o:List (Nat×Ob)):List (Nat×Ob)->Bool
 | []=>true
 | (i,_) :: r=>Al o i&&CV o r
def Gm(i:Nat):List Nat->Bool
 | []=>true
 | x :: r=>!Nat.beq x i&&Gm i r
def Oo(l:List Nat):Option Nat->Bool
 | none=>true
 | some i=>Gm i l
def SQ:List Par->List AV->Bool
 | .fn f _ :: r,.fn f' _ :: s=>Nat.beq f f'&&SQ r s
 | .nof f :: r,.fn f' _ :: s=>Nat.beq f f'&&SQ r s
 | _ :: r,_ :: s=>SQ r s
 | _,_=>true
/- Data that lead Z0 new memory alone, or nowhere. -/
mutual
def Bt:AV->Bool
 | .d fr t _=>fr||G7 t
 | .ow _ fr t _=>fr||G7 t
 | .ob _ xs=>Kw xs
 | .agg xs=>Kw xs
 | .tup xs=>Kw xs
 | _=>true
def Kw:List AV->Bool
 | []=>true
 | a :: r=>Bt a&&Kw r
end
mutual
theorem ResR.fresh{K K':Bool->Nat->Prop}{w:World}(f:∀fr k,K true k->K' fr k):∀{a:AV} {u:Value} {gs:List (Option Nat)},Bt a=true->ResR K w a u gs->ResR K' w a u gs
 | .v _,_,_,_,h=>h
 | .d fr t x,u,gs,hf,⟨h,e⟩=>by
   refine⟨?_,e⟩;simp only[Bt,Bool.or_eq_true] at hf
   grind[RT.up,RT.free]
 | .ow T fr t xs,u,gs,hf,⟨g,cs,h1,h2,h3,h4⟩=>by
   refine⟨g,cs,h1,h2,h3,h4.mapR (fun c x h=>?_)⟩;simp only[Bt,Bool.or_eq_true] at hf
   grind[RT.up,RT.free]
 | .agg xs,u,gs,hf,⟨us,e,h⟩=>⟨us,e,ResRs.fresh f (by grind[Bt]) h⟩
 | .ob T xs,u,gs,hf,⟨b,us,gs',e1,e2,h1,h⟩=>⟨b,us,gs',e1,e2,h1,ResRs.fresh f (by grind[Bt]) h⟩
 | .tup xs,u,gs,hf,⟨us,e,h⟩=>⟨us,e,ResRs.fresh f (by grind[Bt]) h⟩
theorem ResRs.fresh{K K':Bool->Nat->Prop}{w:World}(b:∀fr k,K true k->K' fr k):∀{as':List AV} {us:List Value} {gs:List (Option Nat)},Kw as'=true->ResRs K w as' us gs->ResRs K' w as' us gs
 | [],_,_,_,h=>h
 | a :: r,us,gs,hf,⟨u,us',g1,g2,e1,e2,h1,h2⟩=>by
   simp only[Kw,ba] at hf;exact⟨u,us',g1,g2,e1,e2,ResR.fresh b hf.1 h1,ResRs.fresh b hf.2 h2⟩
end
def SR(o:List (Nat×Ob))(q:Prop)(rv:AV)(l:List Nat):Option Nat->Option (Prop×AV×List (Nat×Ob)×List Nat)
 | some id=>match rv,c7 o id with
   | .ow T fr t xs,some (.arr _ _ _ _ ver)=>bif G7 t&&Ce l then some (q,.os id (ver+1),[(id,.arr T fr t xs (ver+1))],[id]) else none
   | _,_=>none
 | none=>none
def Im(o:List (Nat×Ob))(d f:Nat)(as':List AV):List Ct->Option (Prop×AV×List (Nat×Ob)×List Nat)
 | []=>none
 | c :: r=>bif Nat.beq c.f f&&SQ c.ps as' then(match P4 o c.ps as' with
   | some (x,l,io)=>match c.res x with
     | ⟨q,rv,z⟩=>bif D9 c.ps then SR o q rv l io else(match F7 d 0 rv with
       | (av,obs,_)=>bif Oo l io&&CV o obs&&(Ce l||(Bt rv&&isNone io)) then some (q,av,obs++An o c.ps z io,(obs.map Prod.fst)++(l++io.toList)) else none)
   | none=>none) else Im o d f as' r
def CW(T:List Ct)(st:St)(p:Pa)(d:Nat):Op->Option (Prop×AV×List (Nat×Ob)×List Nat)
 | .call ⟨.value x,xs,_⟩=>match rd st p x,L8 st p xs.toList with
   | some (.fn f caps),some as'=>Im st.o d f (as'++caps) T
   | _,_=>none
 | _=>none
def Cl(X:Cx)(G:Gh)(a:Act)(op:Op)(ty:TypeId)(av:AV)(obs:List (Nat×Ob)):Prop :=
 ∃f vs,(∀dst pos after g,(execOp a.eval ⟨dst,op,ty,pos,after,g⟩).run X.P G.w=.ok (.enter f vs) G.w) /\
  Calls X.P f vs G.w fun en w'=>∃v G',en=.returned v/\G'.w=w'/\Sat X G'/\GLe G G'/\G'.o=obs++G.o/\AVR G' av v
theorem j0d{o:List (Nat×Ob)}:∀{l:List (Nat×Ob)},CV o l=true->∀x∈l,c7 o x.1=none
 | [],_,_,h=>by cases h
 | (i,b) :: r,h,x,hx=>by
   simp only[CV,ba] at h;rcases List.mem_cons.1 hx with rfl | hx
   ·grind[DV]
   ·exact j0d h.2 x hx
theorem Io{i:Nat}:∀{l:List Nat},Gm i l=true->i ∉ l
 | [],_,h=>by cases h
 | x :: r,h,hx=>by
   simp only[Gm,ba,Bool.not_eq_true'] at h;rcases List.mem_cons.1 hx with rfl | hx
   ·simp at h
   ·exact Io h.2 hx
theorem IOR.get{K:Nat->Prop}{w:World}{b:Nat}:∀{ps:List Par} {z:B1 ps} {Ka:Nat->Prop} {wa:World} {x:w9 ps} {vs:List Value},¬D9 ps=true->IOR K w (some b) ps z->ArgsR Ka wa (some b) ps x vs->∃t,∃z':j7 t,∃T us cs0,Gl ps z=p8 false t z'/\Blk w b us T/\RT K w t us z'/\Blk wa b cs0 T
 | [],_,_,_,_,_,_,_,h=>by cases h.2
 | .os _ _ :: r,_,_,_,_,_,hv,_,_=>(hv rfl).elim
 | .io T t :: r,z,_,_,x,vs,_,⟨b',cs,e,hB,hR⟩,⟨b2,cs2,us,_,e2,_,hB2,_⟩=>by cases e; cases e2; exact⟨t,z,T,cs,_,rfl,hB,hR,hB2⟩
 | .dat _ :: r,z,_,_,x,vs,hv,h,⟨_,_,_,_,k⟩=>IOR.get (ps:=r) hv h k
 | .agg _ :: r,z,_,_,x,vs,hv,h,⟨_,_,_,_,k⟩=>IOR.get (ps:=r) hv h k
 | .fn _ _ :: r,z,_,_,x,vs,hv,h,⟨_,_,_,_,k⟩=>IOR.get (ps:=r) hv h k
 | .nof _ :: r,z,_,_,x,vs,hv,h,⟨_,_,k⟩=>IOR.get (ps:=r) hv h k
 | .nil :: r,z,_,_,x,vs,hv,h,⟨_,_,k⟩=>IOR.get (ps:=r) hv h k
theorem Yv{o:List (Nat×Ob)}:∀{ps:List Par} {as':List AV} {x:w9 ps} {l:List Nat} {io:Option Nat},P4 o ps as'=some (x,l,io)->∀id∈l,∃ob,c7 o id=some ob
 | [],[],x,l,io,h=>by
   simp only[P4,oi,pj] at h
   grind
 | [],_ :: _,x,l,io,h=>by grind[P4]
 | _ :: _,[],x,l,io,h=>by grind[P4]
 | p :: r,a :: as',x,l,io,h=>by
   simp only[P4] at h;split at h
   ·rename_i g d i b;split at h
    ·rename_i y m j c;have f:=Yv c;have e:∀id∈d,∃ob,c7 o id=some ob:=by
      unfold CU at b;split at b
      ·split at b
       ·grind[oi,pj,Gk]
       grind
      ·split at b
       ·grind[oi,pj,Gk]
       grind
      ·rw[ce] at b;split at b
       ·split at b
        ·grind[oi,pj,Gk]
        grind
       grind
      ·grind
      ·grind
      ·grind
      ·grind
      ·cases b
     grind
    grind
   grind
theorem r0j{X:Cx}{G:Gh}(S:Sat X G){d:Nat}{aK:List AV}{us:List Value}(hA:AVRs G aK us){ps:List Par}(aF:¬D9 ps=true){x:w9 ps}{l:List Nat}{m:Option Nat}(F:P4 G.o ps aK=some (x,l,m))(aM:Oo l m=true) :
  (∀k,Am G l k->k<G.w.heap.size)/\∃go,ArgsR (Am G l) G.w go ps x us/\∀(res:w9 ps->Gj ps),CV G.o (F7 d 0 (res x).r).2.1=true/\(Ce l||(Bt (res x).r&&isNone m))=true->∀(en:Ending) (w':World),
  (∃v gs,en=.returned v/\WE go G.w w'/\CT gs/\(∀b,some b∈gs->G.w.heap.size<=b∨(D9 ps=true/\go=some b))/\ResR (fun fr=>Om fr (Am G l) G.w w' gs) w' (res x).r v gs /\
    IOR (fun k=>(Am G l k∨G.w.heap.size<=k)/\UFg w' G.w.heap.size k/\some k ∉ gs/\go≠some k) w' go ps (res x).z) ->
  ∃v G',en=.returned v/\G'.w=w'/\Sat X G'/\GLe G G'/\G'.o=((F7 d 0 (res x).r).2.1++An G.o ps (res x).z m)++G.o/\AVR G' (F7 d 0 (res x).r).1 v:=by
 have aA:=Yv F;obtain⟨_,go,aI,aJ⟩:=Yq S aA F (fun _ h=>h) (fun i hi=>by subst hi; exact Io aM) hA;have aQ:∀k,Am G l k->k<G.w.heap.size:=by
  rintro k (h | ⟨id,aL,c⟩)
  ·exact(S.klt k h).lt
  ·obtain⟨ob,E⟩:=aA id aL;have:=S.obs id ob E;cases ob with
   | box T cs=>obtain⟨b,us,a,n,q,h4⟩:=this; rw[c] at a; cases a; exact(XY q).lt
   | arr T fr t xs aT=>obtain⟨cs,a,n,_⟩:=this; rw[c] at a; exact(Ge a).lt
   | grd T Te fr t xs aH=>obtain⟨vs,bs,a,_⟩:=this; rw[c] at a; exact(Ge a).lt
 have aW:∀k,G.K k->go≠some k:=fun k c e=>by
  rcases aJ with ⟨_,W⟩ | ⟨id,b,T',cs',_,W,ho',hγ'⟩ | ⟨_,_,_,_,_,_,_,_,_,W⟩
  ·grind
  ·rw[W] at e; cases e; exact S.imm id _ _ ho' hγ' c
  grind
 refine⟨aQ,go,aI,fun res aG en w' aD=>?_⟩;obtain⟨v,gs,rfl,hw,hN,s,hR,aV⟩:=aD;have hc:(Oo l m=true/\CV G.o (F7 d 0 (res x).r).2.1=true)/\(Ce l||(Bt (res x).r&&isNone m))=true:=⟨⟨aM,aG.1⟩,aG.2⟩;have s:∀b,some b∈gs->G.w.heap.size<=b:=fun b f=>(s b f).resolve_right (fun h=>aF h.1);have aZ:∀id o b,c7 G.o id=some o->G.γ id=some b->b<G.w.heap.size:=fun id o b E f=>by
  have:=S.obs id o E;cases o with
  | box T cs=>obtain⟨b',us,a,n,q,h4⟩:=this; rw[f] at a; cases a; exact q.lt
  | arr T fr t xs aT=>obtain⟨cs,a,n,_⟩:=this; exact a.lt b f
  | grd T Te fr t xs aH=>obtain⟨vs,bs,a,_⟩:=this; exact a.lt b f
 -- the region that data may lead to now
 let K':Nat->Prop:=fun k=>G.K k∨(G.w.heap.size<=k/\UF w' k/\some k ∉ gs)
 have aX:l=[]->∀k,Am G l k->G.K k:=fun Y k c=>by
  subst Y;rcases c with h | ⟨id,aL,_⟩
  ·exact h
  grind
 have aC:l=[]∨(Bt (res x).r=true/\m=none):=by
  have:=hc.2;simp only[Bool.or_eq_true,ba] at this;rcases this with h | ⟨a,n⟩
  ·grind[On]
  ·refine .inr ⟨a,?_⟩;cases m with
   | none=>rfl
   | some i=>cases n
 obtain⟨KR,aU,hR⟩:∃KR:Bool->Nat->Prop,(∀fr k,KR fr k->K' k/\(fr=true->G.B<=k))/\ResR KR w' (res x).r v gs:=by
  rcases aC with Y | ⟨aB,_⟩
  ·refine⟨_,fun fr k c=>?_,hR⟩;obtain⟨a | a,n,q⟩:=c
   ·grind
   ·exact⟨.inr ⟨a,n.2 a,q⟩,fun _=>Nat.le_trans S.le (Nat.le_trans S.size a)⟩
  ·refine⟨fun _=>Om true (Am G l) G.w w' gs,fun fr k c=>?_,ResR.fresh (fun _ _ h=>h) aB hR⟩;obtain⟨a | a,n,q⟩:=c
   ·grind
   ·exact⟨.inr ⟨a,n.2 a,q⟩,fun _=>Nat.le_trans S.le (Nat.le_trans S.size a)⟩
 have u:(go=none/\An G.o ps (res x).z m=[])∨∃id b T Q t,∃z:j7 t,go=some b/\An G.o ps (res x).z m=[(id,Ob.box T (p8 false t z))]/\c7 G.o id=some (.box T Q)/\G.γ id=some b/\∃us,Blk w' b us T/\RT K' w' t us z:=by
  rcases aJ with ⟨rfl,rfl⟩ | ⟨id,b,T,cs,rfl,rfl,E,hγ⟩ | ⟨_,_,_,_,_,_,_,_,_,e⟩
  rotate_right
  ·grind
  ·exact .inl ⟨rfl,rfl⟩
  ·obtain⟨t,z',T',aO,Q,e,hB,aP,V⟩:=IOR.get aF aV aI;obtain⟨b',aY,a,n,q,h4⟩:=S.obs id _ E;rw[hγ] at a;cases a;have aN:T=T':=by
    unfold Blk at q V;rw[q] at V;simp only[oi,Obj.cells.injEq] at V;exact V.2.1
   subst aN;refine .inr ⟨id,b,T,cs,t,z',rfl,?_,E,hγ,aO,hB,RT.same (w:=w') (fun k c _=>⟨?_,rfl⟩) aP⟩
   ·grind[An]
   ·obtain⟨a | a,n,q,h4⟩:=c
    ·grind
    ·exact .inr ⟨a,n.2 a,q⟩
 obtain⟨S1,L1⟩:=Sat.after S hw (K':=K') (fun k c=>.inl c) (by
  rintro k (h | h)
  ·exact(S.klt k h).same hw.size (hw.block k (S.klt k h).lt (aW k h))
  ·exact h.2.1.g) (by
  rintro k (h | h)
  ·exact S.kfrom k h
  ·exact .inr (Nat.le_trans S.base.2 (Nat.le_trans S.size h.1))) (by
  rintro id o b E f (h | h)
  ·exact S.imm id o b E f h
  grind) (by
  rintro id b f H (h | h)
  ·exact(S.sep id b f H).2.1 h
  ·have:=S.dlt f H; omega) u
 have aR:∀i o,c7 (An G.o ps (res x).z m++G.o) i=some o->∃o',c7 G.o i=some o':=fun i o h=>by
  rcases u with ⟨_,e⟩ | ⟨id,b,T,Q,t,z,_,e,E,_⟩
  ·rw[e] at h; exact⟨o,h⟩
  ·rw[e,List.cons_append,lK] at h;by_cases W:id=i
   ·subst W; exact⟨_,E⟩
   ·rw[if_neg W] at h; exact⟨o,h⟩
 have aS:∀i,H4 (c7 (An G.o ps (res x).z m++G.o) i)=true->H4 (c7 G.o i)=true:=fun i h=>by
  rcases u with ⟨_,e⟩ | ⟨id,b,T,Q,t,z,_,e,E,_⟩
  ·grind
  ·rw[e,List.cons_append,lK] at h;by_cases W:id=i
   ·rw[if_pos W] at h; cases h
   grind
 have hF:SO X ⟨G.ρ,G.γ,K',w',An G.o ps (res x).z m++G.o,G.B,G.δ⟩ gs:=fun b f=>by
  refine⟨Nat.le_trans S.size (s b f),?_,fun i o hi e=>?_,fun i hi H=>?_⟩
  ·rintro(h | h)
   ·have:=(S.klt b h).lt; have:=s b f; omega
   grind
  ·grind
  ·have:=S.dlt hi (aS i H);have:=s b f;omega
 have aB:∀y∈(F7 d 0 (res x).r).2.1,c7 (An G.o ps (res x).z m++G.o) y.1=none:=fun y hy=>by
  grind[j0d,c7,An]
 obtain⟨G',P,hv⟩:=i0d (K:=KR) (res x).r (d:=d) (j:=0) rfl S1 aU hR hN hF aB;refine⟨v,G',rfl,P.w,P.sat,GLe.trans L1 P.le hw.size,?_,hv⟩;rw[P.o,List.append_assoc]
theorem i0U{X:Cx}{G:Gh}(S:Sat X G){d f:Nat}{aA:List AV}{us:List Value}(hA:AVRs G aA us):∀{T:List Ct},(∀c∈T,Ok X.P c)->∀{q:Prop} {av:AV} {obs:List (Nat×Ob)} {fp:List Nat},Im G.o d f aA T=some (q,av,obs,fp)->q ->
  AN X.P f=true/\Calls X.P f us.toArray G.w fun en w'=>∃v G',en=.returned v/\G'.w=w'/\Sat X G'/\GLe G G'/\G'.o=obs++G.o/\AVR G' av v
 | [],_,q,av,obs,fp,h,_=>by cases h
 | c :: r,hT,q,av,obs,fp,h,hq=>by
   have hr:=i0U S (d:=d) hA (T:=r) (fun c Q=>hT c (by grind)) (f:=f) (q:=q) (av:=av) (obs:=obs) (fp:=fp);simp only[Im,ce] at h;split at h
   ·rename_i hf;rw[ba] at hf;have hf:=nb hf.1;split at h
    ·rename_i x l io a;by_cases n:D9 c.ps=true
     ·rw[if_pos n] at h;unfold SR at h;split at h
      ·rename_i id;split at h
       ·rename_i T fr t xs E' aF t' aH j aI ho;rw[ce] at h;split at h
        ·rename_i F;rw[ba] at F;have Y:=On F.2;subst Y;simp only[oi,pj] at h;obtain⟨rfl,rfl,rfl,_⟩:=h;obtain⟨W,s⟩:=hT c (by simp);refine⟨by grind,?_⟩;have aC:=Yv a;obtain⟨_,go,z,u⟩:=Yq S aC a (fun _ h=>h) (fun i hi h=>by cases h) hA;have u:go=G.γ id:=by
          rcases u with ⟨e,_⟩ | ⟨id',b,T',cs',e,_,ho',_⟩ | ⟨id',_,_,_,_,_,e,hg,_⟩
          ·cases e
          ·grind
          ·grind
         subst u;obtain⟨_,_,_,aD⟩:=S.obs id _ ho;have y:∀k,Am G [] k->k<G.w.heap.size:=by
          rintro k (h | ⟨id,aN,hk⟩)
          ·exact(S.klt k h).lt
          ·grind
         rw[<- hf];refine Calls.mono (s x hq G.w us (G.γ id) (Am G []) y z) ?_;rintro en w' ⟨v,gs,rfl,hw,hN,aJ,hR,aL⟩;rw[aI] at hR;obtain⟨g,cs,rfl,H,hO,aG⟩:=hR;have aB:∀b,g=some b->G.γ id=some b∨G.w.heap.size<=b:=fun b hb=>by
          grind
         have m:=S.put (id:=id) (ob:=.arr T fr t xs (j+1)) (r:=v) (g:=g) (w':=w') (go:=G.γ id) ⟨(fun T cs h=>by grind),(fun T aF t' aH aK h=>by grind),by rw[ho]; rfl⟩
          (fun b hb=>⟨⟨_,ho⟩,hb⟩) hw aB
          (fun aM=>⟨cs,by grind[Gh.put],aG.mapR (fun c x h=>RT.free F.1 h),fun b e=>by
            simp only[Gh.put,if_true] at e ⊢;rcases aB b e with h | h
            ·exact aD b h
            ·exact Nat.le_trans S.le (Nat.le_trans S.size h)⟩)
         exact⟨v,_,rfl,rfl,m.1,m.2,rfl,H,T,fr,t,xs,j+1,by rw[show(Gh.put G id (.arr T fr t xs (j+1)) v g w').o=(id,.arr T fr t xs (j+1)) :: G.o from rfl,lK]; simp,Nat.le_refl _,fun _=>by simp[Gh.put]⟩
        ·cases h
       ·cases h
      ·cases h
     rw[if_neg n] at h;split at h
     ·rename_i Q;simp only[ba] at Q;simp only[oi,pj] at h;obtain⟨rfl,rfl,rfl,_⟩:=h;obtain⟨W,s⟩:=hT c (by simp);refine⟨by grind,?_⟩;obtain⟨y,go,z,V⟩:=r0j S (d:=d) hA n a Q.1.1;rw[<- hf];exact Calls.mono (s x hq G.w us go (Am G l) y z) (fun en w' E=>V c.res ⟨Q.1.2,Q.2⟩ en w' E)
     grind
    grind
   grind
theorem k0I{X:Cx}{G:Gh}{a:Act}{st:St}{p:Pa}{T:List Ct}(Y:∀c∈T,Ok X.P c)(S:Sat X G)(H:G.o=st.o)(k:EnvR X.n G st.e a)(m:PathP p a){s:Op}{ty:TypeId}{d:Nat}{q:Prop}{r:AV}{obs:List (Nat×Ob)}{fp:List Nat}
  (h:CW T st p d s=some (q,r,obs,fp)) (Q:q):Cl X G a s ty r obs:=by
 unfold CW at h;split at h
 ·rename_i x t Ts;split at h
  ·rename_i f l F E u;obtain⟨cs,v,w⟩:=C8 k m E;have z:=Br k m u;rw[<- H] at h;obtain⟨i,b⟩:=i0U S (AVRs.app w z) Y h Q;refine⟨f,_,fun V y j g=>?_,b⟩
   haveI:Sg X.P f:=⟨i⟩
   have W:t.map a.eval=(t.toList.map a.eval).toArray:=by grind
   simp only[execOp,resolve,W,v];simp[Deferred.ofValue,invoke,XT]
  grind
 grind
def Bu(Γ:p5)(st:St)(p:Pa)(d:Nat):Op->Option (Prop×AV×List (Nat×Ob)×List Nat)
 | .load T x=>match rd st p x,c7 Γ T with
   | some (.gel id k),some ⟨_,_,_,.sl _,_⟩=>match c7 st.o id with
     | some (.grd T0 Te fr t xs none)=>bif Al st.o d then some (k<xs.length,.os d 0,[(d,.arr Te fr t (xs.getD k []) 0),(id,.grd T0 Te fr t xs (some k))],[d,id]) else none
     | _=>none
   | _,_=>none
 | .slice T x l h none=>match rd st p x,R7 st p l,R7 st p h,c7 Γ T with
   | some (.os id ver),some lo,some none,some ⟨_,_,_,.sl E,_⟩=>match c7 Γ E,c7 st.o id with
     | some te,some (.arr E' fr t xs ver')=>bif Nat.beq ver ver'&&Nat.beq te.size (sz t) then some (Ol (lo.getD 0) xs.length xs.length,.os id (ver+1),[(id,.arr E' fr t (Il xs lo none) (ver+1))],[id]) else none
     | _,_=>none
   | _,_,_,_=>none
 | _=>none
def Cf(Γ:p5)(st:St)(p:Pa):Op->Option (Prop×List (Nat×Ob)×List Nat)
 | .store T x y=>match rd st p x,rd st p y,c7 Γ T with
   | some (.gel id k),some (.os d ver),some ti=>match c7 st.o id,c7 st.o d with
     | some (.grd T0 Te fr t xs (some k')),some (.arr Te' fr' t' l ver')=>match X2 (.sl t') (.sl t) l with
       | some l'=>bif Nat.beq ver ver'&&Nat.beq Te Te'&&Nat.beq ti.size 1 then some (k<xs.length/\k=k',[(id,.grd T0 Te (fr&&fr') t (xs.set k l') none),(d,.arr Te' fr' t' [] (ver+1))],[id,d]) else none
       | none=>none
     | _,_=>none
   | _,_,_=>none
 | _=>none
def Ml(X:Cx)(G:Gh)(a:Act)(op:Op)(ty:TypeId)(av:AV)(obs:List (Nat×Ob)):Prop :=
 ∃v G',(∀dst pos after g,(execOp a.eval ⟨dst,op,ty,pos,after,g⟩).run X.P G.w=.ok (.value v) G'.w)/\Sat X G'/\GLe G G'/\G'.o=obs++G.o/\AVR G' av v
def Ul(X:Cx)(G:Gh)(a:Act)(op:Op)(ty:TypeId)(obs:List (Nat×Ob)):Prop :=
 ∃G',(∀dst pos after g,(execOp a.eval ⟨dst,op,ty,pos,after,g⟩).run X.P G.w=.ok .skip G'.w)/\Sat X G'/\GLe G G'/\G'.o=obs++G.o
theorem v0M{a:Type}{l:List a}{k:Nat}(b:k<l.length)(z:a):l[k]?=some (l.getD k z):=by grind
section
variable {X:Cx} {G:Gh} {a:Act} {st:St} {Γ:p5} {p:Pa}
theorem D0x(S:Sat X G){id d k:Nat}{n Te:TypeId}{fr:Bool}{t:Ty}{xs:List (List (j7 t))}(y:c7 G.o id=some (.grd n Te fr t xs none))(hd:c7 G.o d=none)(u:k<xs.length){vs:List Value}{m:Nat->Option Nat}
  (W:Own G.w n 1 (G.γ id) (G.ρ id) xs.length vs) (f:Rows G id Te fr t xs none vs m) (hB:∀b,G.γ id=some b->G.B<=b) :
  ∃G',Sat X G'/\GLe G G'/\G'.w=G.w/\G'.o=[(d,.arr Te fr t (xs.getD k []) 0),(id,.grd n Te fr t xs (some k))]++G.o/\AVR G' (.os d 0) (vs.getD k (.bool false)):=by
 have aA:¬id=d:=fun e=>by grind
 obtain⟨cs,r1,Y,Q⟩:=f.row k u (fun h=>by cases h);have q:∀b j,j<xs.length->m j=some b->(X.w0.heap.size<=b∨X.io b)/\¬G.K b/\(∀i o,c7 G.o i=some o->G.γ i≠some b)/\∀i,G.δ i b->H4 (c7 G.o i)=true->id=i:=fun b j a c=>S.sep id b ((f.blk b).2 ⟨j,a,(fun h=>by cases h),c⟩) (by rw[y]; rfl)
 have h1:=S.grd (id:=id) (T':=n) (Te':=Te) (fr':=fr) (t':=t) (xs':=xs) (hole':=some k) (D:=fun b=>∃j,j<xs.length/\j≠k/\m j=some b) (w':=G.w) (go:=none) y (fun _ e=>by cases e) (WE.refl _)
  (fun b ⟨j,a,_,c⟩=>by
    grind)
  (fun E=>⟨vs,m,W,⟨f.len,fun b=>⟨fun h=>?_,fun⟨j,a,hh,c⟩=>.inl ⟨rfl,j,a,(fun e=>hh (by rw[e])),c⟩⟩,fun j j' b a z _ _ c v=>f.inj j j' b a z (fun h=>by cases h) (fun h=>by cases h) c v,fun j a _=>f.row j a (fun h=>by cases h),f.one⟩,hB⟩)
 ·obtain⟨S1,V⟩:=h1;have s:∀i,c7 (G.grd id (.grd n Te fr t xs (some k)) (fun b=>∃j,j<xs.length/\j≠k/\m j=some b) G.w).o i=if id=i then some (.grd n Te fr t xs (some k)) else c7 G.o i:=fun i=>lK _ _ _ _
  have P:=S1.add (id:=d) (ob:=.arr Te fr t (xs.getD k []) 0) (r:=vs.getD k (.bool false)) (g:=m k) (by grind)
   (fun b c=>by
     obtain⟨s1,s2,H,T⟩:=q b k u c;refine⟨s1,s2,fun i o hi=>?_,fun i hi x=>?_⟩
     ·rw[s] at hi;by_cases e:id=i
      ·subst e; exact H _ _ y
      ·rw[if_neg e] at hi; exact H i o hi
     ·rw[s] at x;rcases hi with ⟨_,j,a,l,F⟩ | ⟨hi,hib⟩
      ·exact l (f.inj j k b a u (fun h=>by cases h) (fun h=>by cases h) F c)
      ·rw[if_neg (Ne.symm hi)] at x;exact hi (T i hib x).symm)
   (fun E=>⟨cs,by simp only[Gh.put,if_true]; exact r1,Y,fun b e=>by simp only[Gh.put,if_true] at e ⊢; exact Q b e⟩)
  obtain⟨S2,L2⟩:=P;refine⟨_,S2,V.trans L2 (Nat.le_refl _),rfl,rfl,f.one _ ?_,Te,fr,t,xs.getD k [],0,by rw[show ∀G0:Gh,(Gh.put G0 d (.arr Te fr t (xs.getD k []) 0) (vs.getD k (.bool false)) (m k) G0.w).o=(d,.arr Te fr t (xs.getD k []) 0) :: G0.o from fun _=>rfl,lK]; simp,Nat.le_refl _,fun _=>by simp[Gh.put]⟩;exact List.mem_of_getElem? (v0M (by rw[f.len]; exact u) _)
 ·rcases h with ⟨_,j,a,l,c⟩ | ⟨h,_⟩
  ·exact⟨j,a,(fun e=>l (Option.some.inj e).symm),c⟩
  ·exact(h rfl).elim
theorem y0E{w:World}{E s:Nat}{g:Option Nat}{d:Option Addr}{n a:Nat}{cs:List Value}(h:Own w E s g (.slice d n a) n cs){k:Nat}(j:k<=n):∃g',(g'=none∨g'=g)/\n<=a/\Own w E s g' (.slice (if a=k then d else d.map (·.add (k*s))) (n-k) (a-k)) (n-k) (cs.drop (k*s)):=by
 have f:=h.clen;rcases h with ⟨rfl,rfl,rfl,p,e⟩ | ⟨b,o,c,cur,rfl,e,h1,h2,h3,h4,rfl⟩
 ·cases e;have:k=0:=by omega
  subst this;exact⟨none,.inl rfl,Nat.le_refl _,.inl ⟨rfl,rfl,by simp,d,by simp⟩⟩
 ·cases e;by_cases i:a=k
  ·refine⟨none,.inl rfl,h2,.inl ⟨rfl,by omega,?_,some ⟨b,o,none⟩,?_⟩⟩
   ·grind
   grind
  ·refine⟨some b,.inr rfl,h2,.inr ⟨b,o+k*s,a-k,cur,rfl,?_,h1,by omega,by omega,?_,?_⟩⟩
   ·grind[Addr.add]
   ·have:=Nat.mul_le_mul_right s (show k<=a by omega)
    grind[Nat.sub_mul]
   grind[List.drop_take,List.drop_drop,Nat.sub_mul]
theorem k0Y(v:x7 X.P Γ)(S:Sat X G)(hE:EnvR X.n G st.e a)(hp:PathP p a){T E j ty id ver:Nat}{s0 y0:Nat}{z0:Value}{aA:Ty}{x:Operand}{l h:Option Operand}{lo:Option Int}{fr:Bool}{t:Ty}{xs:List (j7 t)}{u:TI}
  (hT:c7 Γ T=some ⟨s0,y0,z0,.sl E,aA⟩) (aC:c7 Γ E=some u) (W:c7 G.o id=some (.arr j fr t xs ver)) (hs:u.size=sz t) (hx:AVR G (.os id ver) (a.eval x)) (hl:R7 st p l=some lo) (hh:R7 st p h=some none) (hq:Ol (lo.getD 0) xs.length xs.length) :
  Ml X G a (.slice T x l h none) ty (.os id (ver+1)) [(id,.arr j fr t (Il xs lo none) (ver+1))]:=by
 obtain⟨_,T1,aJ,t1,aK,aI,g1,g2,g3⟩:=hx;rw[W] at g1;cases g1;have hu:=g3 rfl;obtain⟨cs,hO,hA,Y⟩:=S.obs id _ W;obtain⟨q,d,hv⟩:=hO.len;rw[hv] at hO hu;have hU:=(v T _ hT).2.2.2.2.2;have hI:Info X.P E u.size u.bytes u.zero:=⟨(v E _ aC).1⟩;obtain⟨aO,i,h2,h3,h5⟩:=hI.get;have s:Il xs lo none=xs.drop (lo.getD 0).toNat:=by
  rw[w0j xs lo none hq];simp
 rw[s];have aB:h=none:=by
  rcases SI hE hp hh with ⟨m,_⟩ | ⟨y,n,k,_,e2,_⟩
  ·exact m
  ·cases e2
 subst aB;have aF:(∃n k,l=some n/\a.eval n=.int k (lo.getD 0))∨(l=none/\lo.getD 0=0):=by
  rcases SI hE hp hl with ⟨m,e2⟩ | ⟨y,n,k,m,e2,e3⟩
  ·grind
  ·grind
 generalize lo.getD 0=l0 at *
 obtain⟨q1,q2,q3⟩:=hq;have hk:l0.toNat<=xs.length:=by omega
 obtain⟨g',V,aH,aG⟩:=y0E hO hk;have H:∀Q z f g,(execOp a.eval ⟨Q,.slice T x l none none,ty,z,f,g⟩).run X.P G.w=.ok (.value (.slice (if d=l0.toNat then q else q.map (·.add (l0.toNat*sz t))) (xs.length-l0.toNat) (d-l0.toNat))) G.w:=by
  intro Q z f g;rcases aF with ⟨n1,k1,rfl,m⟩ | ⟨rfl,m⟩
  ·have r2:=run_sliceBound (P:=X.P) (w:=G.w) k1 l0 xs.length .sliceB q1 q2;simp[execOp,hu,Instr.sliceAt,Instr.slice,Instr.sliceBounds,run_underlying hU,Result.andThen,X1 G.w i,h2,hs,m,r2]
  ·simp[execOp,hu,Instr.sliceAt,Instr.slice,Instr.sliceBounds,run_underlying hU,Result.andThen,X1 G.w i,h2,hs,m]
 have h:=S.put (id:=id) (ob:=.arr j fr t (xs.drop l0.toNat) (ver+1)) (r:=.slice (if d=l0.toNat then q else q.map (·.add (l0.toNat*sz t))) (xs.length-l0.toNat) (d-l0.toNat)) (g:=g') (w':=G.w) (go:=G.γ id) ⟨(fun T cs h=>by grind),(fun T aL t' aN aM h=>by grind),by rw[W]; rfl⟩
  (fun b F=>⟨⟨_,W⟩,F⟩) (WE.refl _) (fun b F=>by
    rcases V with h | h
    ·rw[h] at F; cases F
    ·exact .inl (h ▸ F))
  (fun aD=>⟨cs.drop (l0.toNat*sz t),by simp only[Gh.put,if_true,List.length_drop]; exact aG,(AllR.takeD (fun c y hy=>RT.len hy) l0.toNat hA).2.mapR (fun c x hr=>RT.same (w:=G.w) aD.hR hr),fun b e=>by
    simp only[Gh.put,if_true] at e ⊢;rcases V with h | h
    ·rw[h] at e; cases e
    ·exact Y b (h ▸ e)⟩)
 exact⟨_,G.put id (.arr j fr t (xs.drop l0.toNat) (ver+1)) (.slice (if d=l0.toNat then q else q.map (·.add (l0.toNat*sz t))) (xs.length-l0.toNat) (d-l0.toNat)) g' G.w,H,h.1,h.2,rfl,rfl,j,fr,t,xs.drop l0.toNat,ver+1,by rw[show(Gh.put G id (.arr j fr t (xs.drop l0.toNat) (ver+1)) _ _ _).o=(id,.arr j fr t (xs.drop l0.toNat) (ver+1)) :: G.o from rfl,lK]; simp,Nat.le_refl _,fun _=>by simp[Gh.put]⟩
theorem s0J(Q:x7 X.P Γ)(S:Sat X G)(ho:G.o=st.o)(hE:EnvR X.n G st.e a)(hp:PathP p a){op:Op}{ty:TypeId}{d:Nat}{q:Prop}{r:AV}{obs:List (Nat×Ob)}{l:List Nat}
  (h:Bu Γ st p d op=some (q,r,obs,l)) (hq:q):Ml X G a op ty r obs:=by
 unfold Bu at h;split at h
 ·rename_i T x;split at h
  ·rename_i id k s0 y0 z0 E Y h1 h2;split at h
   ·rename_i T0 Te fr t xs z;rw[ce] at h;split at h
    ·rename_i H;simp only[oi,pj] at h;obtain⟨rfl,rfl,rfl,_⟩:=h;rw[<- ho] at z H;have W:=C8 hE hp h1;obtain⟨_,b,o,n,c,u,W⟩:=W;obtain⟨y,bs,F,hR,hB⟩:=S.obs id _ z;have V:G.γ id=some b:=by
      rcases F with ⟨_,hn,_⟩ | ⟨b',o',cap,cur,V,f,_⟩
      ·omega
      ·rw[u] at f;simp only[Value.slice.injEq,oi,Addr.mk.injEq] at f;rw[V,f.1.1]
     have j:At G.w b o y:=by rw[V] at F; obtain⟨o0,c0,e0,j⟩:=F.at; rw[u] at e0; cases e0; exact j
     have s:=v0M (by rw[hR.len]; exact hq:k<y.length) (.bool false);have m:At G.w b (o+k) [y.getD k (.bool false)]:=by
      intro i v f;cases i with
      | zero =>
        simp only[List.getElem?_cons_zero,oi] at f;subst f;have:=j k _ s;omega
      | succ i=>grind
     obtain⟨v,aC,f⟩:=q0K (ty:=ty) (cs:=[.v (y.getD k (.bool false))]) (av:=.v (y.getD k (.bool false))) hE (Q _ _ h2) W m ⟨_,[],rfl,rfl,rfl⟩ rfl;have f:v=_:=f;subst f;obtain⟨G',S',L',hw,aB,hr⟩:=D0x S z (DV H) hq F hR hB;exact⟨_,G',fun aH aF aA g=>by grind,S',L',aB,hr⟩
    grind
   grind
  grind
 ·rename_i T x l0 h0;split at h
  ·rename_i id aG lo s0 y0 z0 E Y h1 h2 z h4;split at h
   ·rename_i te E' fr t xs aD h5 h6;rw[ce] at h;split at h
    ·rename_i H;rw[ba] at H
     grind[oi,pj,nb,k0Y,C8]
    grind
   grind
  grind
 grind
theorem y0b{vs:List Value}{k j:Nat}{u z:Value}(a:k<vs.length):(B3 vs k [u]).getD j z=if j=k then u else vs.getD j z:=by
 grind[B3]
theorem F0a(aX:x7 X.P Γ)(S:Sat X G){id d k ver:Nat}{T0 Te T ty:TypeId}{fr fr':Bool}{t:Ty}{xs:List (List (j7 t))}{l:List (j7 t)}{x y:Operand}{ti:TI}(hT:c7 Γ T=some ti)(hs:ti.size=1)
  (ho:c7 G.o id=some (.grd T0 Te fr t xs (some k))) (hd:c7 G.o d=some (.arr Te fr' t l ver)) (hk:k<xs.length) (hx:AVR G (.gel id k) (a.eval x)) (hy:AVR G (.os d ver) (a.eval y)) :
  Ul X G a (.store T x y) ty [(id,.grd T0 Te (fr&&fr') t (xs.set k l) none),(d,.arr Te fr' t [] (ver+1))]:=by
 haveI:Info X.P T ti.size ti.bytes ti.zero:=⟨(aX T _ hT).1⟩
 have F:¬d=id:=fun e=>by grind
 obtain⟨_,b,o,n,c,aD,aQ⟩:=hx;obtain⟨y0,T1,bL,t1,bH,bD,g1,g2,g3⟩:=hy;rw[hd] at g1;cases g1;have bB:=g3 rfl;obtain⟨cs,aW,hA,bI⟩:=S.obs d _ hd;have aF:Own G.w Te (sz t) (G.γ d) (a.eval y) l.length cs:=by rw[bB]; exact aW
 -- the row lets go of its block
 have h1:=S.put (id:=d) (ob:=.arr Te fr' t [] (ver+1)) (r:=.slice none 0 0) (g:=none) (w':=G.w) (go:=none) ⟨(fun T cs h=>by grind),(fun T fr' t' xs' bK h=>by grind),by rw[hd]; rfl⟩
  (fun _ e=>by cases e) (WE.refl _) (fun _ e=>by cases e) (fun aH=>⟨[],by simp only[Gh.put,if_true]; exact Own.nil,rfl,fun b e=>by grind[Gh.put]⟩)
 generalize hG1:G.put d (.arr Te fr' t [] (ver+1)) (.slice none 0 0) none G.w=G1 at h1;obtain⟨S1,L1⟩:=h1;have aI:G1.w=G.w:=by rw[<- hG1]; rfl
 have aP:G1.K=G.K:=by rw[<- hG1]; rfl
 have aT:G1.B=G.B:=by rw[<- hG1]; rfl
 have E:∀i,c7 G1.o i=if d=i then some (.arr Te fr' t [] (ver+1)) else c7 G.o i:=fun i=>by rw[<- hG1]; exact lK _ _ _ _
 have W:∀i,i≠d->G1.ρ i=G.ρ i:=fun i hi=>by grind[Gh.put]
 have Q:∀i,i≠d->G1.γ i=G.γ i:=fun i hi=>by rw[<- hG1]; simp only[Gh.put,if_neg hi]
 have bC:G1.γ d=none:=by rw[<- hG1]; simp only[Gh.put,if_true]
 have aG:∀i b,G1.δ i b↔i≠d/\G.δ i b:=fun i b=>by rw[<- hG1]; exact Iff.rfl
 have s:c7 G1.o id=some (.grd T0 Te fr t xs (some k)):=by rw[E,if_neg F]; exact ho
 obtain⟨vs,bs,hO,hR,hB⟩:=S1.obs id _ s;have hb:G1.γ id=some b:=by
  rcases hO with ⟨_,hn,_⟩ | ⟨f,o',cap,cur,hb,q,_⟩
  ·omega
  ·rw[W id (Ne.symm F),aD] at q;simp only[Value.slice.injEq,oi,Addr.mk.injEq] at q;rw[hb,q.1.1]
 have aZ:G.γ id=some b:=by rw[<- Q id (Ne.symm F)]; exact hb
 -- the store
 have aK:=hO;rw[hb] at aK;rcases aK with ⟨h,_⟩ | ⟨f,o',cap,cur,m,hv2,k1,k2,k3,k4,k5⟩
 ·cases h
 cases m;have V:G1.ρ id=.slice (some ⟨b,o,none⟩) n c:=(W id (Ne.symm F)).trans aD;have aS:o'=o:=by rw[V] at hv2; cases hv2; rfl
 subst aS;have bE:cur.toList.length=o'+cap:=by rw[Array.length_toList,k4,Nat.mul_one]
 have H:(a.eval y).cells.toList=[a.eval y]:=by
  have:=y0;cases q:a.eval y <;> rw[q] at this <;> first | rfl | (simp[Value.oneCell'] at this)
 have aO:Blk G.w b cur.toList T0:=by unfold Blk; rw[Array.toArray_toList]; rw[aI] at k1; exact k1
 have aR:=Sk (P:=X.P) (T:=T) (o:=o'+k) (v:=a.eval y) H (by rw[hs]; rfl) (Sy (fun u hu=>by cases List.mem_singleton.1 hu; exact y0)) aO (by simp only[List.length_singleton]; omega);have hW:=Sj G.w b (B3 cur.toList (o'+k) [a.eval y]).toArray;have aB:k<vs.length:=by rw[hR.len]; exact hk
 have aA:Own (G.w.setRow b (B3 cur.toList (o'+k) [a.eval y]).toArray) T0 1 (G1.γ id) (G1.ρ id) xs.length (B3 vs k [a.eval y]):=by
  rw[hb] at hO ⊢;have:=Own.set (w':=G.w.setRow b (B3 cur.toList (o'+k) [a.eval y]).toArray) (k:=k) (vs:=[a.eval y]) hO V hk rfl (fun bF aJ=>by
   rw[k1] at aJ;cases aJ;rw[Nat.mul_one]
   grind[setRow_heap])
  rwa [Nat.mul_one] at this
 have aY:∀f,G.γ d=some f->(X.w0.heap.size<=f∨X.io f)/\¬G.K f/\(∀i o,c7 G1.o i=some o->G1.γ i≠some f)/\∀i,G1.δ i f->H4 (c7 G1.o i)=true->False:=fun f m=>by
  refine⟨S.own d _ f hd m,S.imm d _ f hd m,fun i o hi hg=>?_,fun i hi hg=>?_⟩
  ·by_cases e:i=d
   ·grind
   ·rw[E,if_neg (Ne.symm e)] at hi;rw[Q i e] at hg;exact e (S.inj i d _ _ f hi hd hg m)
  ·obtain⟨e,hi⟩:=(aG i f).1 hi;rw[E,if_neg (Ne.symm e)] at hg;exact(S.sep i f hi hg).2.2.1 d _ hd m
 have h2:=S1.grd (id:=id) (T':=T0) (Te':=Te) (fr':=fr&&fr') (t':=t) (xs':=xs.set k l) (hole':=none) (D:=fun f=>G1.δ id f∨G.γ d=some f) (w':=G.w.setRow b (B3 cur.toList (o'+k) [a.eval y]).toArray) (go:=some b) s (fun f e=>by grind) (by grind[WE.of_wr])
  (fun f m=>by
    rcases m with m | m
    ·obtain⟨s1,s2,s3,s4⟩:=S1.sep id f m (by rw[s]; rfl)
     grind
    grind)
  (fun aH=>by
    refine⟨B3 vs k [a.eval y],fun j=>if j=k then G.γ d else bs j,by rw[List.length_set]; exact aA,⟨?_,fun f=>⟨fun h=>?_,fun h=>?_⟩,fun j j' f z aM _ _ aL aC=>?_,fun j z _=>?_,fun v q=>?_⟩,hB⟩
    ·grind[List.length_set,B3,List.length_append,List.length_take,List.length_drop,List.length_singleton]
    ·have h':G1.δ id f∨G.γ d=some f:=by
      rcases h with ⟨_,h⟩ | ⟨h,_⟩
      ·exact h
      ·omega
     rcases h' with h' | h'
     ·obtain⟨j,z,bJ,Y⟩:=(hR.blk f).1 h'
      grind
     ·exact⟨k,by grind,(fun h=>by cases h),by grind⟩
    ·obtain⟨j,z,_,Y⟩:=h;rw[List.length_set] at z;refine .inl ⟨rfl,?_⟩;by_cases e:j=k
     ·grind
     ·rw[if_neg e] at Y; exact .inl ((hR.blk f).2 ⟨j,z,(fun h=>e (Option.some.inj h).symm),Y⟩)
    ·rw[List.length_set] at z aM;have bG:∀i,i<xs.length->i≠k->bs i=some f->G.γ d=some f->False:=fun i hi aU bA aN=>(aY f aN).2.2.2 id ((hR.blk f).2 ⟨i,hi,(fun h=>aU (Option.some.inj h).symm),bA⟩) (by rw[s]; rfl);by_cases e:j=k
     ·grind
     ·by_cases e':j'=k
      ·grind
      ·rw[if_neg e] at aL; rw[if_neg e'] at aC;exact hR.inj j j' f z aM (fun h=>e (Option.some.inj h).symm) (fun h=>e' (Option.some.inj h).symm) aL aC
    ·rw[List.length_set] at z;simp only[y0b aB];by_cases e:j=k
     ·subst e;simp only[if_true];have eg:(xs.set j l).getD j []=l:=by simp[z]
      rw[eg];refine⟨cs,aF.we (w':=G.w.setRow b (B3 cur.toList (o'+j) [a.eval y]).toArray) (WE.of_wr hW) (fun i hi e=>?_),hA.mapR (fun c x hr=>?_),fun f m=>show G1.B<=f from by grind⟩
      ·grind
      ·refine RT.up (RT.same (K':=rg G fr') (w:=G.w) (fun i hi hl=>⟨hi,?_⟩) hr) (fun i hi=>⟨show G1.K i from by rw[aP]; exact hi.1,fun e=>show G1.B<=i from ?_⟩)
       ·exact hW.block i (fun e=>S.imm id _ b ho aZ (by rw[<- e]; exact hi.1))
       ·rw[ba] at e; rw[aT]; exact hi.2 e.2
     ·simp only[if_neg e];obtain⟨aV,r1,r2,r3⟩:=hR.row j z (fun h=>e (Option.some.inj h).symm);have eg:(xs.set k l).getD j []=xs.getD j []:=by simp[List.getElem?_set_ne (Ne.symm e)]
      rw[eg];refine⟨aV,r1.we (WE.of_wr (by rw[aI]; exact hW)) (fun i hi e'=>?_),r2.mapR (fun c x hr=>RT.up (RT.same (w:=G1.w) aH.hR hr) (fun i hi=>⟨hi.1,fun e=>hi.2 (by grind)⟩)),r3⟩;cases hi;exact(S1.sep id b ((hR.blk b).2 ⟨j,z,(fun h=>e (Option.some.inj h).symm),e'⟩) (by rw[s]; rfl)).2.2.1 id _ s hb
    ·unfold B3 at q;rcases List.mem_append.1 q with q | q
     ·rcases List.mem_append.1 q with q | q
      ·exact hR.one v (List.mem_of_mem_take q)
      grind
     ·exact hR.one v (List.mem_of_mem_drop q))
 obtain⟨S2,L2⟩:=h2;refine⟨_,SN aQ aR,S2,L1.trans L2 (by grind),?_⟩;rw[<- hG1];rfl
theorem p0p(f:x7 X.P Γ)(S:Sat X G)(V:G.o=st.o)(u:EnvR X.n G st.e a)(hp:PathP p a){c:Op}{ty:TypeId}{q:Prop}{obs:List (Nat×Ob)}{l:List Nat}
  (h:Cf Γ st p c=some (q,obs,l)) (Y:q):Ul X G a c ty obs:=by
 unfold Cf at h;split at h
 ·rename_i T x y;split at h
  ·rename_i id k d i z H m v;split at h
   ·rename_i Q E fr t xs w Te' g t' s b W F;split at h
    ·rename_i r h6;rw[ce] at h;split at h
     ·rename_i j;simp only[ba] at j
      grind[oi,pj,nb,DR,F0a,C8]
     grind
    grind
   grind
  grind
 grind
end
def L0H:Op->Bool
 | .move _ | .assign _ | .nilCheck _ | .pick .. | .binOp .. | .unOp .. | .convert .. | .fieldAddr .. | .field .. | .load .. | .indexAddr .. | .index .. | .extract .. | .makeFunc .. | .build .. | .slice ..=>true
 | .call ⟨.builtin .len,_,_⟩ | .call ⟨.builtin .min,_,_⟩ | .call ⟨.builtin .max,_,_⟩=>true
 | _=>false
def L0J:Op->Bool
 | .alloc _ | .box .. | .makeSlice .. | .buildSlice .. | .call ⟨.builtin .append,_,_⟩=>true
 | _=>false
def L0G:Op->Bool
 | .store ..=>true
 | _=>false
def X5(Γ:p5)(T:List Ct)(st:St)(p:Pa)(o:Oper):Option (Prop×Option AV×List (Nat×Ob)×List Nat):=match o.dst with
 | some d=>bif L0H o.op then(match H8 Γ st p o.op with
   | some (q,r,l)=>some (q,some r,[],l)
   | none=>match Bu Γ st p d o.op with
     | some (q,r,obs,l)=>some (q,some r,obs,l)
     | none=>none) else bif L0J o.op then(match AR Γ st p d o.op with
     | some (q,r,w,l)=>some (q,some r,[w],l)
     | none=>none) else match CW T st p d o.op with
       | some (q,r,obs,l)=>some (q,some r,obs,l)
       | none=>none
 | none=>bif L0G o.op then(match Cd Γ st p o.op with
   | some (q,w,l)=>some (q,none,[w],l)
   | none=>match Cf Γ st p o.op with
     | some (q,obs,l)=>some (q,none,obs,l)
     | none=>none) else match CW T st p 0 o.op with
     | some (q,_,obs,l)=>some (q,none,obs,l)
     | none=>none
def Bv(all:List Oper)(e:List (Nat×Sl))(o:Oper):Option Pa:=match o.guard with
 | none=>some []
 | some (j,b)=>match B8 all j with
   | some oj=>match oj.dst with
     | some dj=>match c7 e dj with
       | some ⟨q,.d _ .bool _⟩=>some ((dj,b) :: q)
       | _=>none
     | none=>none
   | none=>none
def Gn(e:List (Nat×Sl)):Pa->Prop
 | []=>True
 | (s,b) :: r=>(match c7 e s with
   | some ⟨q,.d _ .bool x⟩=>if Sr q r=true then x=b else True
   | _=>True)/\Gn e r
def Cg(dst:Option Nat)(p:Pa)(av:Option AV)(e:List (Nat×Sl)):List (Nat×Sl):=match dst,av with
 | some d,some a=>(d,⟨p,a⟩) :: e
 | _,_=>e
def O0(P:Program)(ops:Array Oper)(Q:Exit->Act->World->Prop)(o:Oper)(K:Act->World->Prop)(a:Act)(w:World):Prop :=
 if Region.wanted o (yielded ops a.tmps) then o.wp P a w K Q else K (a.put o.dst undef) w
section
variable {X:Cx} {G:Gh} {a:Act} {st:St} {Γ:p5} {T:List Ct}
theorem q0Z(g:EnvR X.n G st.e a):∀{p:Pa},PathP p a->Gn st.e p
 | [],_=>trivial
 | (s,b) :: r,h=>by
   have k:=h (s,b) (by simp);have d:PathP r a:=fun x j=>h x (by grind);refine⟨?_,q0Z g d⟩;split
   ·rename_i q f x i;split
    ·rename_i c;have:=Bs ((g.val s _ i).1 (d.sub c))
     grind
    grind
   grind
theorem Oq{d:Nat}{v:Value}(b:d<a.tmps.size)(t:Nat):(a.put (some d) v).tmps.getD t undef=if d=t then v else a.tmps.getD t undef:=by
 unfold Act.put;by_cases h:d=t
 ·simp_all
 ·simp[h]
theorem q0l{d:Option Nat}{v:Value}:(a.put d v).tmps.size=a.tmps.size/\(a.put d v).defers=a.defers:=by
 cases d <;> simp[Act.put]
theorem m0S{d:Nat}{v:Value}(c:d<a.tmps.size){p:Pa}(h:∀x∈p,x.1≠d):PathP p (a.put (some d) v)↔PathP p a:=by
 constructor <;> intro k x b
 ·have:=k x b;rw[Oq c,if_neg (Ne.symm (h x b))] at this; omega
 ·rw[Oq c,if_neg (Ne.symm (h x b))]; exact k x b
theorem EnvR.put{g:Gh}{d:Nat}{v:Value}{p:Pa}{r:AV}(f:EnvR X.n g st.e a)(h:d<X.n)(k:∀x∈p,x.1≠d)(i:∀t s,c7 st.e t=some s->∀x∈s.p,x.1≠d)
  (j:(PathP p a->AVR g r v)/\(¬PathP p a->v=undef)):EnvR X.n g ((d,⟨p,r⟩) :: st.e) (a.put (some d) v):=by
 have b:d<a.tmps.size:=by rw[f.size]; exact h
 refine⟨by rw[q0l.2]; exact f.defers,by rw[q0l.1]; exact f.size,fun t s c=>?_⟩;rw[lK] at c;rw[Oq b];by_cases e:d=t
 ·rw[if_pos e] at c ⊢
  grind[m0S]
 ·rw[if_neg e] at c ⊢;rw[m0S b (i t s c)];exact f.val t s c
theorem Yw{ops:Array Oper}{all:List Oper}(g:ops=all.toArray){j b:Nat}{d:Oper}(c:B8 all j=some d)(e:d.dst=some b):yielded ops a.tmps j=match a.tmps.getD b undef with
  | .bool v=>some v
  | _=>none:=by
 subst g;rw[X3] at c;unfold yielded;have f:(all.toArray[j]?).bind (·.dst)=some b:=by simp[c,e]
 rw[f];simp only[Option.bind_some];rw[Array.getD_eq_getD_getElem?]
 grind[undef]
theorem s0i{ops:Array Oper}{all:List Oper}(v:ops=all.toArray)(w:EnvR X.n G st.e a){o:Oper}{p:Pa}(c:Bv all st.e o=some p) :
  (Region.wanted o (yielded ops a.tmps)=true/\PathP p a)∨(Region.wanted o (yielded ops a.tmps)=false/\¬PathP p a):=by
 unfold Bv at c;split at c
 ·rename_i z;simp only[oi] at c; subst c;exact .inl ⟨by grind[Region.wanted],fun x t=>by cases t⟩
 ·rename_i j b z;split at c
  ·rename_i E s;split at c
   ·rename_i l r;split at c
    ·rename_i q f x u;simp only[oi] at c; subst c;have g:=Yw (a:=a) v s r;have k:=w.val l _ u;by_cases i:PathP q a
     ·have e:=Bs (k.1 i);rw[e] at g;simp only at g;by_cases m:x=b
      ·subst m;refine .inl ⟨by grind[Region.wanted],fun y d=>?_⟩;rcases List.mem_cons.1 d with rfl | h
       ·exact e
       ·exact i y h
      ·refine .inr ⟨by grind[Region.wanted],fun h=>?_⟩;have:=h (l,b) (by simp)
       grind
     ·have e:=k.2 i;rw[e] at g;simp only[undef] at g;exact .inr ⟨by grind[Region.wanted],fun h=>i (fun y d=>h y (by grind))⟩
    grind
   grind
  grind
theorem Ot(F:x7 X.P Γ)(hT:∀c∈T,Ok X.P c){ops:Array Oper}{all:List Oper}(ha:ops=all.toArray){Q:Exit->Act->World->Prop}(S:Sat X G)(ho:G.o=st.o)(i:EnvR X.n G st.e a){o:Oper}{p:Pa}{q:Prop}{av:Option AV}{obs:List (Nat×Ob)}{fp:List Nat}
  (hp:Bv all st.e o=some p) (h:X5 Γ T st p o=some (q,av,obs,fp)) (V:Gn st.e p->q) (hg:p=[]∨obs=[]) (hd:∀d,o.dst=some d->d<X.n/\(∀x∈p,x.1≠d)/\∀t s,c7 st.e t=some s->∀x∈s.p,x.1≠d)
  {K:Act->World->Prop} (Y:∀a' G',Sat X G'->GLe G G'->G'.o=obs++st.o->EnvR X.n G' (Cg o.dst p av st.e) a'->K a' G'.w):O0 X.P ops Q o K a G.w:=by
 unfold O0;rcases s0i ha i hp with ⟨hw,k⟩ | ⟨hw,k⟩
 ·rw[if_pos hw];have V:=V (q0Z i k);unfold X5 at h;split at h
  ·rename_i d b;obtain⟨m,u,z⟩:=hd d b;rw[ce] at h;split at h
   ·split at h
    ·rename_i q' r l y;simp only[oi,pj] at h;obtain⟨rfl,rfl,rfl,_⟩:=h;obtain⟨v,g,W⟩:=s0E F S ho i k (ty:=o.type) y V;unfold Oper.wp;have:=g o.dst o.pos o.after o.guard;rw[show(execOp a.eval o).run X.P G.w=.ok (.value v) G.w from this];show K (a.put o.dst v) G.w;rw[b];refine Y _ G S (GLe.refl G) (by grind) ?_;rw[b];exact EnvR.put i m u z ⟨fun _=>W,fun h=>(h k).elim⟩
    ·split at h
     ·rename_i q' r E l y;simp only[oi,pj] at h;obtain⟨rfl,rfl,rfl,_⟩:=h;obtain⟨v,G',g,H,j,hO,W⟩:=s0J F S ho i k (ty:=o.type) y V;unfold Oper.wp;have:=g o.dst o.pos o.after o.guard;rw[show(execOp a.eval o).run X.P G.w=.ok (.value v) G'.w from this];show K (a.put o.dst v) G'.w;rw[b];refine Y _ G' H j (by grind) ?_;rw[b];exact EnvR.put (i.mono j) m u z ⟨fun _=>W,fun h=>(h k).elim⟩
     grind
   ·rw[ce] at h;split at h
    ·split at h
     ·rename_i q' r w l y;simp only[oi,pj] at h;obtain⟨rfl,rfl,rfl,_⟩:=h;obtain⟨v,G',g,H,j,hO,W⟩:=s0G F S ho i k (ty:=o.type) y V;unfold Oper.wp;have:=g o.dst o.pos o.after o.guard;rw[show(execOp a.eval o).run X.P G.w=.ok (.value v) G'.w from this];show K (a.put o.dst v) G'.w;rw[b];refine Y _ G' H j (by grind) ?_;rw[b];exact EnvR.put (i.mono j) m u z ⟨fun _=>W,fun h=>(h k).elim⟩
     grind
    ·split at h
     ·rename_i q' r E l y;simp only[oi,pj] at h;obtain⟨rfl,rfl,rfl,_⟩:=h;obtain⟨f,vs,g,hc⟩:=k0I hT S ho i k (ty:=o.type) y V;unfold Oper.wp;have:=g o.dst o.pos o.after o.guard;rw[show(execOp a.eval o).run X.P G.w=.ok (.enter f vs) G.w from this];refine Calls.mono hc ?_;rintro en w' ⟨v,G',rfl,rfl,H,j,hO,W⟩;show K (a.put o.dst v) G'.w;rw[b];refine Y _ G' H j (by grind) ?_;rw[b];exact EnvR.put (i.mono j) m u z ⟨fun _=>W,fun h=>(h k).elim⟩
     grind
  ·rename_i b;rw[ce] at h;split at h
   ·split at h
    ·rename_i q' w l y;simp only[oi,pj] at h;obtain⟨rfl,rfl,rfl,_⟩:=h;obtain⟨G',g,H,j,hO⟩:=s0C F S ho i k (ty:=o.type) y V;unfold Oper.wp;have:=g o.dst o.pos o.after o.guard;rw[show(execOp a.eval o).run X.P G.w=.ok .skip G'.w from this];show K (a.put o.dst undef) G'.w;rw[b];refine Y _ G' H j (by grind) ?_;rw[b];exact i.mono j
    ·split at h
     ·rename_i q' E l y;simp only[oi,pj] at h;obtain⟨rfl,rfl,rfl,_⟩:=h;obtain⟨G',g,H,j,hO⟩:=p0p F S ho i k (ty:=o.type) y V;unfold Oper.wp;have:=g o.dst o.pos o.after o.guard;rw[show(execOp a.eval o).run X.P G.w=.ok .skip G'.w from this];show K (a.put o.dst undef) G'.w;rw[b];refine Y _ G' H j (by grind) ?_;rw[b];exact i.mono j
     grind
   ·split at h
    ·rename_i q' r E l y;simp only[oi,pj] at h;obtain⟨rfl,rfl,rfl,_⟩:=h;obtain⟨f,vs,g,hc⟩:=k0I hT S ho i k (ty:=o.type) y V;unfold Oper.wp;have:=g o.dst o.pos o.after o.guard;rw[show(execOp a.eval o).run X.P G.w=.ok (.enter f vs) G.w from this];refine Calls.mono hc ?_;rintro en w' ⟨v,G',rfl,rfl,H,j,hO,W⟩;show K (a.put o.dst v) G'.w;rw[b];refine Y _ G' H j (by grind) ?_;rw[b];exact i.mono j
    grind
 ·rw[if_neg (by grind)];have aA:obs=[]:=by
   rcases hg with rfl | h
   ·exact(k (fun x hx=>by cases hx)).elim
   ·exact h
  subst aA;refine Y _ G S (GLe.refl G) (by grind) ?_;cases b:o.dst with
  | none=>cases av <;> exact i
  | some d =>
    obtain⟨m,u,z⟩:=hd d b;have:∃r,av=some r:=by
     unfold X5 at h;rw[b] at h;simp only[ce] at h;split at h
     ·grind
     ·grind
    obtain⟨r,rfl⟩:=this;exact EnvR.put i m u z ⟨fun h=>(k h).elim,fun _=>rfl⟩
end
section
variable {e e':List (Nat×Sl)} {o o':List (Nat×Ob)}
theorem CX{x:Operand}{p:Pa}(h:∀t,x=.tmp t->c7 e t=c7 e' t):rd ⟨e,o⟩ p x=rd ⟨e',o'⟩ p x:=by
 cases x with
 | tmp t=>simp only[rd,h t rfl]
 | _=>rfl
theorem Ip{p:Pa}:∀{xs:List Operand},(∀t,.tmp t∈xs->c7 e t=c7 e' t)->L8 ⟨e,o⟩ p xs=L8 ⟨e',o'⟩ p xs
 | [],_=>rfl
 | x :: r,h=>by
   unfold L8;rw[CX (o:=o) (o':=o') (p:=p) (x:=x) (fun t a=>h t (by grind)),Ip (xs:=r) (fun t a=>h t (by grind))]
theorem Yx{v:AV}{cs:List AV}{l:List Nat}(h:X4 o v=some (cs,l))(f:∀id∈l,c7 o id=c7 o' id):X4 o' v=some (cs,l)/\Cc o' v=Cc o v:=by
 unfold X4 at h;split at h
 ·rename_i id a;split at h
  ·rename_i T e c;simp only[oi,pj] at h;obtain⟨rfl,rfl⟩:=h
   grind[X4,Cc]
  grind
 ·rename_i id d k s a;split at h
  ·rename_i T i t j b c;rw[ce] at h;split at h
   ·rename_i g;simp only[oi,pj] at h;obtain⟨rfl,rfl⟩:=h
    grind[X4,Cc]
   grind
  grind
 ·simp only[oi,pj] at h;obtain⟨rfl,rfl⟩:=h;exact⟨rfl,rfl⟩
 grind
theorem v0J{Γ:p5}{T:TypeId}{v r:AV}{n:Int}{q:Prop}{l:List Nat}(h:Kt Γ o T v n=some (q,r,l))(a:∀id∈l,c7 o id=c7 o' id):Kt Γ o' T v n=some (q,r,l):=by
 unfold Kt at h ⊢;split at h
 ·exact h
 ·grind
 ·exact h
 ·grind
 omega
theorem s0u{b a:(t:Ty)->List AV->Option (j7 t×List Nat×Bool)}(f:∀{t:Ty} {cs:List AV} {x:j7 t} {l:List Nat} {d:Bool},b t cs=some (x,l,d)->(∀id∈l,c7 o id=c7 o' id)->a t cs=some (x,l,d))
  {t:Ty} {c:AV} {x:j7 t} {l:List Nat} {d:Bool} (h:AO o b t c=some (x,l,d)) (n:∀id∈l,c7 o id=c7 o' id):AO o' a t c=some (x,l,d):=by
 unfold AO at h;split at h
 ·grind[AO]
 ·exact h
 ·rename_i e id k;split at h
  ·rename_i T u v z g j;rw[ce] at h;split at h
   ·rename_i q;split at h
    ·rename_i y s;simp only[oi,pj] at h;obtain⟨rfl,rfl,rfl⟩:=h
     grind[AO]
    grind
   grind
  grind
 ·rename_i e id i;split at h
  ·rename_i T cs j;split at h
   ·rename_i m w r E;simp only[oi,pj] at h;obtain⟨rfl,rfl,rfl⟩:=h
    grind[hi,AO]
   grind
  grind
 grind
theorem Iq:∀(n:Nat) {t:Ty} {cs:List AV} {x:j7 t} {l:List Nat} {fl:Bool},G9 o n t cs=some (x,l,fl)->(∀id∈l,c7 o id=c7 o' id)->G9 o' n t cs=some (x,l,fl):=by
 intro n
 induction n with
 | zero=>grind[G9]
 | succ n c =>
   intro t cs x l fl h d;cases t with
   | pr a b =>
     unfold G9 at h ⊢
     grind
   | _ =>
     unfold G9 at h ⊢
     grind[s0u]
theorem k0z{v:AV}{t:Ty}{b:List (j7 t)}{a:List Nat}{c:Bool}(h:CS o v=some ⟨t,b,a,c⟩)(d:∀id∈a,c7 o id=c7 o' id):CS o' v=some ⟨t,b,a,c⟩:=by
 unfold CS at h
 grind[id,CS]
theorem Gp{d:Nat}(h:c7 o d=c7 o' d):Al o' d=Al o d:=by grind[Al]
theorem Yy:∀{ps:List Par} {as':List AV} {x:w9 ps} {l:List Nat} {io:Option Nat},P4 o ps as'=some (x,l,io)->(∀id∈l,c7 o id=c7 o' id)->(∀i,io=some i->c7 o i=c7 o' i)->P4 o' ps as'=some (x,l,io)
 | [],[],x,l,io,h,_,_=>h
 | [],_ :: _,x,l,io,h,_,_=>by grind[P4]
 | _ :: _,[],x,l,io,h,_,_=>by grind[P4]
 | p :: r,a :: as',x,l,io,h,hl,hio=>by
   simp only[P4] at h ⊢;split at h
   ·rename_i w g k b;split at h
    ·rename_i y m j v;have H:l=g++m/\((k=none/\io=j)∨(∃i,k=some i/\j=none/\io=some i)):=by
      split at h
      ·grind
      ·grind
      ·cases h
     obtain⟨rfl,d⟩:=H;have f:∀id∈g,c7 o id=c7 o' id:=fun id n=>hl id (by grind);have z:CU o' p a=some (w,g,k):=by
      unfold CU at b;split at b
      ·split at b
       ·rename_i c;simp only[oi,pj] at b;obtain⟨rfl,rfl,rfl⟩:=b
        grind[CU,Iq]
       grind
      ·split at b
       ·rename_i c;simp only[oi,pj] at b;obtain⟨rfl,rfl,rfl⟩:=b
        grind[CU,Iq]
       grind
      ·rw[ce] at b;split at b
       ·rename_i Q;split at b
        ·rename_i c;simp only[oi,pj] at b;obtain⟨rfl,rfl,rfl⟩:=b;simp only[CU,Iq 24 c f,Q,cond_true]
        grind
       grind
      ·exact b
      ·rename_i T t id _;split at b
       ·rename_i T' cs s;rw[ce] at b;split at b
        ·rename_i V;split at b
         ·rename_i F c;simp only[oi,pj] at b;obtain⟨rfl,rfl,rfl⟩:=b;rcases d with ⟨e,_⟩ | ⟨i',e,_,rfl⟩
          ·cases e
          cases e;have q:=hio id rfl;rw[s] at q;simp only[CU,<- q,V,cond_true,Iq 24 c f]
         grind
        grind
       grind
      ·rename_i E t id P _;split at b
       ·rename_i W fr t' xs u s;rw[ce] at b;split at b
        ·rename_i Y;split at b
         ·rename_i F X;simp only[oi,pj] at b;obtain⟨rfl,rfl,rfl⟩:=b;rcases d with ⟨e,_⟩ | ⟨i',e,_,rfl⟩
          ·cases e
          cases e;have q:=hio id rfl
          grind[CU]
         grind
        grind
       grind
      ·exact b
      ·cases b
     have G:=Yy v (fun id n=>hl id (by grind)) (fun i hi=>by
      grind)
     grind
    grind
   grind
theorem e0Z:∀{l:List (Nat×Ob)},(∀x∈l,c7 o x.1=c7 o' x.1)->CV o' l=CV o l
 | [],_=>rfl
 | (i,b) :: r,h=>by
   simp only[CV];rw[Gp (h (i,b) (by simp)),e0Z (fun x a=>h x (by grind))]
theorem i0V{d f:Nat}{k:List AV}:∀{T:List Ct} {q:Prop} {av:AV} {obs:List (Nat×Ob)} {fp:List Nat},Im o d f k T=some (q,av,obs,fp)->(∀id∈fp,c7 o id=c7 o' id)->Im o' d f k T=some (q,av,obs,fp)
 | [],q,av,obs,fp,h,_=>by cases h
 | c :: r,q,av,obs,fp,h,ho=>by
   simp only[Im,ce] at h ⊢;split at h
   ·rename_i s;rw[if_pos s];split at h
    ·rename_i x l m a;by_cases b:D9 c.ps=true
     ·rw[if_pos b] at h;unfold SR at h;split at h
      ·rename_i id;split at h
       ·rename_i T W t X Q F V H G n g;rw[ce] at h;split at h
        ·rename_i v;simp only[oi,pj] at h;obtain⟨rfl,rfl,rfl,rfl⟩:=h;have j:=On (ba _ _ ▸ v).2;subst j;have e:c7 o id=c7 o' id:=ho id (by simp);rw[Yy a (fun _ h=>by cases h) (fun i hi=>by grind)];simp only[b,if_true,SR,n,<- e,g,v,cond_true]
        grind
       grind
      grind
     rw[if_neg b] at h;simp only[if_neg b];split at h
     ·rename_i w;have u:=w;simp only[oi,pj] at h;obtain⟨rfl,rfl,rfl,rfl⟩:=h;have y:∀id∈l,c7 o id=c7 o' id:=fun id P=>ho id (by grind);have e:∀i,m=some i->c7 o i=c7 o' i:=fun i hi=>ho i (by grind);rw[Yy a y e];simp only;rw[e0Z (o:=o) (fun x E=>ho x.1 (List.mem_append.2 (.inl (List.mem_map_of_mem E)))),if_pos u];have:An o' c.ps (c.res x).z m=An o c.ps (c.res x).z m:=by
       cases m with
       | none=>rfl
       | some i=>simp only[An,e i rfl]
      grind
     grind
    grind
   ·rename_i s;rw[if_neg s];exact i0V h ho
def B0P(xs:List Operand):List Nat:=xs.filterMap fun | .tmp t=>some t | _=>none
theorem n0c{xs:List Operand}{t:Nat}(h:.tmp t∈xs):t∈B0P xs:=List.mem_filterMap.2 ⟨_,h,rfl⟩
theorem Yz{p:Pa}{x:Option Operand}(h:∀t,x=some (.tmp t)->c7 e t=c7 e' t):R7 ⟨e,o⟩ p x=R7 ⟨e',o'⟩ p x:=by
 cases x with
 | none=>rfl
 | some y =>
   grind[R7,CX]
theorem g0X{p:Pa}{pl:List (Nat×Nat)}:∀{ps:List (Nat×Operand)} {cs:List AV},(∀t,.tmp t∈ps.map (·.2)->c7 e t=c7 e' t)->AQ ⟨e,o⟩ p pl cs ps=AQ ⟨e',o'⟩ p pl cs ps
 | [],_,_=>rfl
 | (i,x) :: r,cs,h=>by
   unfold AQ;rw[CX (o:=o) (o':=o') (p:=p) (x:=x) (fun t a=>h t (by grind))];have b:=fun cs=>g0X (p:=p) (pl:=pl) (ps:=r) (cs:=cs) (fun t a=>h t (by grind))
   simp_all
theorem g0P{p:Pa}{t:Ty}:∀{ps:List (Nat×Operand)} {k:Nat} {ys:List (j7 t)×Bool},(∀s,.tmp s∈ps.map (·.2)->c7 e s=c7 e' s)->DU ⟨e,o⟩ p t k ps=some ys->DU ⟨e',o'⟩ p t k ps=some ys
 | [],_,_,_,h=>h
 | (i,x) :: r,k,ys,hs,h=>by
   unfold DU at h ⊢;rw[ce] at h ⊢;split at h
   ·rename_i hi;rw[if_pos hi];rw[<- CX (o:=o) (o':=o') (p:=p) (x:=x) (fun t l=>hs t (by grind))];split at h
    ·rename_i v j;split at h
     ·rename_i n m;simp only;split at h
      ·rename_i y f c;rw[Iq 24 c (fun _ h=>by cases h)];simp only;split at h
       ·rename_i d g a;rw[g0P (fun s b=>hs s (by grind)) a];exact h
       grind
      grind
     omega
    omega
   grind
theorem s0F{Γ:p5}{p:Pa}{d:Op}{q:Prop}{r:AV}{l:List Nat}(g:∀t,.tmp t∈d.operands.toList->c7 e t=c7 e' t)(h:H8 Γ ⟨e,o⟩ p d=some (q,r,l))(u:∀id∈l,c7 o id=c7 o' id):H8 Γ ⟨e',o'⟩ p d=some (q,r,l):=by
 have R:∀(p:Pa) (x:Operand),x∈d.operands.toList->rd ⟨e',o'⟩ p x=rd ⟨e,o⟩ p x:=fun p x G=>(CX (fun t i=>g t (by grind))).symm;unfold H8 at h;split at h
 ·grind[H8,Op.operands]
 ·grind[H8,Op.operands]
 ·rename_i x;simp only[H8,R _ x (by simp[Op.operands])];split at h
  ·grind[oi,pj,Yx]
  omega
 ·grind[H8,Op.operands]
 ·grind[H8,Op.operands]
 ·grind[H8,Op.operands]
 ·grind[H8,Op.operands]
 ·rename_i x;simp only[H8,R _ x (by simp[Op.operands])]
  grind
 ·rename_i x f;simp only[H8,R _ x (by simp[Op.operands])];split at h
  ·rename_i v Q F P b n z W;split at h
   ·rename_i m H c y w k;split at h
    ·rename_i V s;simp only[oi,pj] at h;obtain⟨rfl,rfl,rfl⟩:=h;simp only[w,(Yx k u).1,s]
    grind
   grind
  omega
 ·rename_i x;simp only[H8,R _ x (by simp[Op.operands])];split at h
  ·grind[oi,pj,Yx]
  omega
 ·grind[H8,Op.operands,v0J]
 ·grind[H8,Op.operands]
 ·grind[H8,Op.operands]
 ·grind[H8,Op.operands]
 ·grind[L8,Ip,Op.operands,H8]
 ·rename_i T a;have:∀b c,AQ ⟨e',o'⟩ p b c a.toList=AQ ⟨e,o⟩ p b c a.toList:=fun b c=>(g0X (fun t i=>g t (by grind[Op.operands]))).symm
  grind[H8]
 ·grind[R7,Yz,Op.operands,H8]
 ·rename_i j E;have:L8 ⟨e',o'⟩ p j.toList=L8 ⟨e,o⟩ p j.toList:=(Ip (fun t i=>g t (by grind[Op.operands,Call.operands]))).symm;simp only[H8,this]
  grind
 ·grind[L8,Ip,Op.operands,Call.operands,H8]
 ·grind[L8,Ip,Op.operands,Call.operands,H8]
 grind
end
section
variable {e e':List (Nat×Sl)} {o o':List (Nat×Ob)}
theorem s0H{Γ:p5}{p:Pa}{d:Nat}{f:Op}{q:Prop}{r:AV}{w:Nat×Ob}{l:List Nat}(i:∀t,.tmp t∈f.operands.toList->c7 e t=c7 e' t)(h:AR Γ ⟨e,o⟩ p d f=some (q,r,w,l))(c:∀id∈l,c7 o id=c7 o' id):AR Γ ⟨e',o'⟩ p d f=some (q,r,w,l):=by
 have R:∀(x:Operand),x∈f.operands.toList->rd ⟨e',o'⟩ p x=rd ⟨e,o⟩ p x:=fun x X=>(CX (fun t G=>i t (by grind))).symm;unfold AR at h;split at h
 ·simp only[AR];split at h
  ·split at h
   ·rw[ce] at h ⊢;split at h
    ·rename_i b;have a:=h;simp only[oi,pj] at h;obtain⟨_,_,_,rfl⟩:=h;rw[Gp (c d (by simp)),if_pos b]; exact a
    grind
   omega
  omega
 ·rename_i T x;simp only[AR,R x (by simp[Op.operands])];split at h
  ·split at h
   ·rw[ce] at h ⊢;split at h
    ·rename_i b;have a:=h;simp only[oi,pj] at h;obtain⟨_,_,_,rfl⟩:=h;rw[Gp (c d (by simp)),if_pos b]; exact a
    grind
   omega
  omega
 ·rename_i T x y;simp only[AR,R x (by simp[Op.operands]),R y (by simp[Op.operands])];split at h
  ·split at h
   ·split at h
    ·rw[ce] at h ⊢;split at h
     ·rename_i b;have a:=h;simp only[oi,pj] at h;obtain⟨_,_,_,rfl⟩:=h;rw[Gp (c d (by simp)),if_pos b]; exact a
     grind
    ·split at h
     ·split at h
      ·rename_i F;rw[Iq 24 F (fun _ h=>by cases h)];simp only;rw[ce] at h ⊢;split at h
       ·rename_i b;have a:=h;simp only[oi,pj] at h;obtain⟨_,_,_,rfl⟩:=h;rw[Gp (c d (by simp)),if_pos b]; exact a
       grind
      grind
     omega
   omega
  omega
 ·rename_i T n g;simp only[AR];split at h
  ·split at h
   ·split at h
    ·rename_i m H;rw[g0P (e':=e') (o':=o') (fun s Q=>i s (by grind[Op.operands])) H];simp only;rw[ce] at h ⊢;split at h
     ·rename_i b;have a:=h;simp only[oi,pj] at h;obtain⟨_,_,_,rfl⟩:=h;rw[Gp (c d (by simp)),if_pos b]; exact a
     grind
    grind
   omega
  omega
 ·rename_i m V;have:L8 ⟨e',o'⟩ p m.toList=L8 ⟨e,o⟩ p m.toList:=(Ip (fun t G=>i t (by grind[Op.operands,Call.operands]))).symm;simp only[AR,this];split at h
  ·split at h
   ·rename_i u v j;split at h
    ·rename_i E W;rw[ce] at h;split at h
     ·rename_i b;have a:=h;simp only[oi,pj] at h;obtain⟨_,_,_,rfl⟩:=h;have P:=c _ List.mem_cons_self;simp only at v;rw[v] at P;have z:=k0z (o':=o') j (fun id k=>c id (by grind))
      grind
     grind
    grind
   grind
  ·split at h
   ·rename_i u j;split at h
    ·rename_i E;rw[ce] at h;split at h
     ·rename_i b;have a:=h;simp only[oi,pj] at h;obtain⟨_,_,_,rfl⟩:=h;have z:=k0z (o':=o') j (fun id k=>c id (by grind));simp only[u,z,E,Gp (c d (by simp))]
      grind
     grind
    grind
   grind
  omega
 grind
theorem s0D{Γ:p5}{p:Pa}{a:Op}{q:Prop}{w:Nat×Ob}{l:List Nat}(g:∀t,.tmp t∈a.operands.toList->c7 e t=c7 e' t)(h:Cd Γ ⟨e,o⟩ p a=some (q,w,l))(d:∀id∈l,c7 o id=c7 o' id):Cd Γ ⟨e',o'⟩ p a=some (q,w,l):=by
 have R:∀(x:Operand),x∈a.operands.toList->rd ⟨e',o'⟩ p x=rd ⟨e,o⟩ p x:=fun x m=>(CX (fun t n=>g t (by grind))).symm;unfold Cd at h;split at h
 ·rename_i T x y;simp only[Cd,R x (by simp[Op.operands]),R y (by simp[Op.operands])];split at h
  ·grind
  ·split at h
   ·rename_i c k;split at h
    ·rename_i i;rw[ce] at h;split at h
     ·rename_i j;have f:=h;simp only[oi,pj] at h;obtain⟨_,_,rfl⟩:=h;have b:=d _ (List.mem_singleton.2 rfl);simp only at c;rw[c] at b;simp only[<- b,k,Iq (o':=o') 24 i (fun _ h=>by cases h),j,cond_true]; exact f
     grind
    grind
   grind
  omega
 grind
theorem k0J{T:List Ct}{p:Pa}{d:Nat}{a:Op}{q:Prop}{r:AV}{obs:List (Nat×Ob)}{fp:List Nat}(c:∀t,.tmp t∈a.operands.toList->c7 e t=c7 e' t)(h:CW T ⟨e,o⟩ p d a=some (q,r,obs,fp))(b:∀id∈fp,c7 o id=c7 o' id):CW T ⟨e',o'⟩ p d a=some (q,r,obs,fp):=by
 unfold CW at h
 grind[L8,Ip,Op.operands,Call.operands,rd,CX,CW,i0V]
theorem J0e{Γ:p5}{st:St}{p:Pa}{d:Nat}{a:Op}{r:Prop×AV×List (Nat×Ob)×List Nat}(h:Bu Γ st p d a=some r):H8 Γ st p a=none:=by
 unfold Bu at h
 grind[H8,X4]
theorem F0e{Γ:p5}{st:St}{p:Pa}{a:Op}{r:Prop×List (Nat×Ob)×List Nat}(h:Cf Γ st p a=some r):Cd Γ st p a=none:=by
 unfold Cf at h
 grind[Cd]
theorem s0K{Γ:p5}{p:Pa}{d:Nat}{a:Op}{q:Prop}{r:AV}{obs:List (Nat×Ob)}{l:List Nat}(b:∀t,.tmp t∈a.operands.toList->c7 e t=c7 e' t)(h:Bu Γ ⟨e,o⟩ p d a=some (q,r,obs,l))(f:∀id∈l,c7 o id=c7 o' id):Bu Γ ⟨e',o'⟩ p d a=some (q,r,obs,l):=by
 have R:∀(x:Operand),x∈a.operands.toList->rd ⟨e',o'⟩ p x=rd ⟨e,o⟩ p x:=fun x v=>(CX (fun t i=>b t (by grind))).symm;unfold Bu at h;split at h
 ·rename_i T x;simp only[Bu,R x (by simp[Op.operands])];split at h
  ·rename_i w u;split at h
   ·rename_i j;rw[ce] at h;split at h
    ·rename_i k;have m:=h;simp only[oi,pj] at h;obtain⟨_,_,_,rfl⟩:=h;have g:=f _ (List.mem_cons_of_mem _ (List.mem_singleton.2 rfl));simp only at j;rw[j] at g;simp only at k;simp only[<- g,Gp (f d (by simp)),k,cond_true];exact m
    grind
   grind
  omega
 ·rename_i T x l c;have s:R7 ⟨e',o'⟩ p l=R7 ⟨e,o⟩ p l:=(Yz (fun t i=>b t (by grind[Op.operands]))).symm;have n:R7 ⟨e',o'⟩ p c=R7 ⟨e,o⟩ p c:=(Yz (fun t i=>b t (by grind[Op.operands]))).symm;simp only[Bu,R x (by simp[Op.operands]),s,n]
  grind
 grind
theorem p0q{Γ:p5}{p:Pa}{a:Op}{q:Prop}{obs:List (Nat×Ob)}{l:List Nat}(b:∀t,.tmp t∈a.operands.toList->c7 e t=c7 e' t)(h:Cf Γ ⟨e,o⟩ p a=some (q,obs,l))(c:∀id∈l,c7 o id=c7 o' id):Cf Γ ⟨e',o'⟩ p a=some (q,obs,l):=by
 have R:∀(x:Operand),x∈a.operands.toList->rd ⟨e',o'⟩ p x=rd ⟨e,o⟩ p x:=fun x d=>(CX (fun t f=>b t (by grind))).symm;unfold Cf at h;split at h
 ·rename_i T x y;simp only[Cf,R x (by simp[Op.operands]),R y (by simp[Op.operands])];split at h
  ·grind
  omega
 grind
theorem k0H{Γ:p5}{T:List Ct}{p:Pa}{x:Oper}{q:Prop}{av:Option AV}{obs:List (Nat×Ob)}{fp:List Nat}(c:∀t,.tmp t∈x.op.operands.toList->c7 e t=c7 e' t)(h:X5 Γ T ⟨e,o⟩ p x=some (q,av,obs,fp))(b:∀id∈fp,c7 o id=c7 o' id) :
  X5 Γ T ⟨e',o'⟩ p x=some (q,av,obs,fp):=by
 unfold X5 at h ⊢;split at h
 ·rw[ce] at h ⊢;split at h
  ·rename_i a;rw[if_pos a]
   grind[oi,pj,s0F,s0K,J0e]
  ·rename_i a;rw[if_neg a];rw[ce] at h ⊢;split at h
   ·rename_i a;rw[if_pos a]
    grind[oi,pj,s0H]
   ·rename_i a;rw[if_neg a]
    grind[oi,pj,k0J]
 ·rw[ce] at h ⊢;split at h
  ·rename_i a;rw[if_pos a]
   grind[oi,pj,s0D,p0q,F0e]
  ·rename_i a;rw[if_neg a]
   grind[oi,pj,k0J]
end
structure A8 where
 o:Oper
 p:Pa
 av:Option AV
 obs:List (Nat×Ob)
 fp:List Nat
def SS(e:List (Nat×Sl))(p:Pa)(q:Prop):Prop:=match p with
 | []=>q
 | x :: r=>Gn e (x :: r)->q
def Ir(Γ:p5)(T:List Ct)(all:List Oper):List Oper->St->List A8->(St->List A8->Prop)->Prop
 | [],st,rs,K=>K st rs
 | o :: r,st,rs,K=>match Bv all st.e o with
   | some p=>match X5 Γ T st p o with
     | some (q,av,obs,fp)=>bif Ce p||Ce obs then(SS st.e p q/\Ir Γ T all r ⟨Cg o.dst p av st.e,obs++st.o⟩ (⟨o,p,av,obs,fp⟩ :: rs) K) else False
     | none=>False
   | none=>False
def I4(n:Nat):Nat->List Nat->List Oper->Bool
 | _,_,[]=>true
 | i,seen,o :: r=>(match o.dst with
   | some d=>Nat.blt d n&&Gm d seen
   | none=>true)&&(match o.guard with
   | some (j,_)=>Nat.blt j i
   | none=>true)&&I4 n (i+1) (match o.dst with
   | some d=>d :: seen
   | none=>seen) r
def C1(st:St)(R:A8):St:=⟨Cg R.o.dst R.p R.av st.e,R.obs++st.o⟩
def Gq(Γ:p5)(T:List Ct)(all:List Oper):St->List A8->Prop
 | _,[]=>True
 | st,R :: r=>Bv all st.e R.o=some R.p/\(∃q,X5 Γ T st R.p R.o=some (q,R.av,R.obs,R.fp)/\(Gn st.e R.p->q))/\(R.p=[]∨R.obs=[])/\Gq Γ T all (C1 st R) r
theorem Bw{Γ:p5}{T:List Ct}{all:List Oper}{K:St->List A8->Prop}:∀{ops:List Oper} {st:St} {rs:List A8},Ir Γ T all ops st rs K->∃recs:List A8,recs.map (·.o)=ops/\Gq Γ T all st recs/\K (recs.foldl C1 st) (recs.reverse++rs)
 | [],st,rs,h=>⟨[],rfl,trivial,h⟩
 | o :: r,st,rs,h=>by
   unfold Ir at h;split at h
   ·rename_i p k;split at h
    ·rename_i q g a i e;rw[ce] at h;split at h
     ·rename_i l;obtain⟨b,c⟩:=h;obtain⟨recs,m,j,f⟩:=Bw c;refine⟨⟨o,p,g,a,i⟩ :: recs,by grind,⟨k,⟨q,e,?_⟩,?_,j⟩,by simp only[List.foldl_cons,List.reverse_cons,List.append_assoc,List.singleton_append]; exact f⟩
      ·intro d;cases p with
       | nil=>exact b
       | cons x r=>exact b d
      ·rw[Bool.or_eq_true] at l
       grind[On]
     grind
    grind
   grind
theorem YA{a:Type}{l:List a}{j:Nat}{x:a}(h:B8 l j=some x):l[j]?=some x:=by grind[X3]
section
variable {X:Cx} {Γ:p5} {T:List Ct}
theorem Is(m:x7 X.P Γ)(hT:∀c∈T,Ok X.P c){ops:Array Oper}{all:List Oper}(ha:ops=all.toArray){Q:Exit->Act->World->Prop}{rest:List Oper}:∀(recs:List A8) (i:Nat) (seen:List Nat) (st:St) (G:Gh) (a:Act),(∀j,j<recs.length->recs[j]?.map (·.o)=all[i+j]?)->I4 X.n i seen (recs.map (·.o))=true ->
  (∀j oj dj,j<i->all[j]?=some oj->oj.dst=some dj->dj∈seen)->(∀t s,c7 st.e t=some s->∀x∈s.p,x.1∈seen)->Gq Γ T all st recs->Sat X G->G.o=st.o->EnvR X.n G st.e a ->
  (∀G' a',Sat X G'->G'.o=(recs.foldl C1 st).o->EnvR X.n G' (recs.foldl C1 st).e a'->wpList X.P ops Q rest a' G'.w)->wpList X.P ops Q (recs.map (·.o)++rest) a G.w
 | [],i,seen,st,G,a,_,_,_,_,_,S,ho,hE,hK=>hK G a S ho hE
 | R :: r,i,seen,st,G,a,hall,hreg,hseen,hpath,⟨hp,⟨q,hab,hq⟩,hg,hrun⟩,S,ho,hE,hK=>by
   simp only[List.map_cons,I4,ba] at hreg;obtain⟨⟨k,u⟩,E⟩:=hreg;have g:∀d,R.o.dst=some d->d<X.n/\d ∉ seen:=fun d f=>by
    rw[f] at k;simp only[ba] at k;exact⟨by simp_all,Io k.2⟩
   have H:∀x∈R.p,x.1∈seen:=by
    unfold Bv at hp;split at hp
    ·grind
    ·rename_i j b z;rw[z] at u;have l:j<i:=by simpa using u
     split at hp
     ·rename_i oj hj;split at hp
      ·rename_i dj aB;split at hp
       ·rename_i q' f' x' hs;simp only[oi] at hp; rw[<- hp];intro y V;rcases List.mem_cons.1 V with rfl | V
        ·grind[YA]
        ·exact hpath dj _ hs y V
       grind
      grind
     grind
   have f:∀d,R.o.dst=some d->d<X.n/\(∀x∈R.p,x.1≠d)/\∀t s,c7 st.e t=some s->∀x∈s.p,x.1≠d:=fun d f=>⟨(g d f).1,fun x v e=>(g d f).2 (e ▸ H x v),fun t s W x v e=>(g d f).2 (e ▸ hpath t s W x v)⟩
   have aC:=Ot (K:=wpList X.P ops Q (r.map (·.o)++rest)) m hT ha (Q:=Q) S ho hE hp hab hq hg f (fun a' G' S' _ Y F=>by
    refine Is m hT ha r (i+1) _ (C1 st R) G' a' (fun j hj=>?_) E ?_ ?_ hrun S' Y F hK
    ·have:=hall (j+1) (by grind);simp only[List.getElem?_cons_succ] at this;rw[this]; congr 1; omega
    ·intro j oj dj hj h1 h2;rcases Nat.lt_or_ge j i with h | h
     ·grind
     ·have l:j=i:=by omega
      subst l;have h0:=hall 0 (by simp)
      grind
    ·intro t s W x v;have aA:x.1∈seen->x.1∈(match R.o.dst with | some d=>d :: seen | none=>seen):=fun h=>by
      grind
     simp only[C1,Cg] at W
     grind[lK])
   grind[wpList,O0]
theorem D0I(l:x7 X.P Γ)(v:∀c∈T,Ok X.P c){ops:Array Oper}{all:List Oper}(q:ops=all.toArray){Q:Exit->Act->World->Prop}(recs:List A8)(i:Nat)(b:List Nat)(st:St)(G:Gh)(a:Act)(g:∀j,recs[j]?.map (·.o)=all[i+j]?)(h:I4 X.n i b (recs.map (·.o))=true)
  (f:∀j oj dj,j<i->all[j]?=some oj->oj.dst=some dj->dj∈b) (d:∀t s,c7 st.e t=some s->∀x∈s.p,x.1∈b) (k:Gq Γ T all st recs) (S:Sat X G) (m:G.o=st.o) (r:EnvR X.n G st.e a)
  (u:∀G' a',Sat X G'->G'.o=(recs.foldl C1 st).o->EnvR X.n G' (recs.foldl C1 st).e a'->Q .normal a' G'.w):wpList X.P ops Q (recs.map (·.o)) a G.w:=by
 have:=Is (rest:=[]) l v q recs i b st G a (fun j _=>g j) h f d k S m r u
 rwa [List.append_nil] at this
end
def B0(D:Nat->Bool):Nat->List A8->St->St
 | _,[],st=>st
 | i,R :: r,st=>B0 D (i+1) r (if D i=true then C1 st R else st)
def DW(R:A8)(t:Nat):Prop:=R.o.dst=some t
def Gr(R:A8)(id:Nat):Prop:=∃x∈R.obs,x.1=id
theorem SU(st:St)(R:A8)(t:Nat)(h:¬DW R t):c7 (C1 st R).e t=c7 st.e t:=by
 simp only[C1,Cg];split
 ·rename_i d a b _;rw[lK,if_neg (fun e=>h (by rw[<- e]; exact b))]
 ·rfl
theorem SV(st:St)(R:A8)(id:Nat)(h:¬Gr R id):c7 (C1 st R).o id=c7 st.o id:=by
 simp only[C1];exact Yr (fun x a e=>h ⟨x,a,e⟩)
theorem m0B{st st':St}{R:A8}{t:Nat}(h:c7 st.e t=c7 st'.e t):c7 (C1 st R).e t=c7 (C1 st' R).e t:=by
 simp only[C1,Cg]
 grind[lK]
theorem y0S{b:Type}{l m a:List (Nat×b)}{i:Nat}(h:c7 m i=c7 a i):c7 (l++m) i=c7 (l++a) i:=by
 induction l with
 | nil=>exact h
 | cons x r c =>
   grind[lK]
theorem m0A{st st':St}{R:A8}{id:Nat}(h:c7 st.o id=c7 st'.o id):c7 (C1 st R).o id=c7 (C1 st' R).o id:=y0S h
theorem Ou{D b:Nat->Bool}{t:Nat}:∀{recs:List A8} {i:Nat} {st st':St},(∀j R,recs[j]?=some R->DW R t->D (i+j)=b (i+j))->c7 st.e t=c7 st'.e t->c7 (B0 D i recs st).e t=c7 (B0 b i recs st').e t
 | [],_,_,_,_,h=>h
 | R :: r,i,st,st',hD,h=>by
   simp only[B0];refine Ou (fun j c d a=>by have:=hD (j+1) c (by grind) a; rwa [show i+(j+1)=i+1+j by omega] at this) ?_;by_cases a:DW R t
   ·have:=hD 0 R rfl a;simp only[Nat.add_zero] at this
    grind[m0B]
   grind[SU]
theorem Ov{D b:Nat->Bool}{id:Nat}:∀{recs:List A8} {i:Nat} {st st':St},(∀j R,recs[j]?=some R->Gr R id->D (i+j)=b (i+j))->c7 st.o id=c7 st'.o id->c7 (B0 D i recs st).o id=c7 (B0 b i recs st').o id
 | [],_,_,_,_,h=>h
 | R :: r,i,st,st',hD,h=>by
   simp only[B0];refine Ov (fun j c d a=>by have:=hD (j+1) c (by grind) a; rwa [show i+(j+1)=i+1+j by omega] at this) ?_;by_cases a:Gr R id
   ·have:=hD 0 R rfl a;simp only[Nat.add_zero] at this
    grind[m0A]
   grind[SV]
theorem YB{D:Nat->Bool}{t:Nat}{R:A8}:∀{recs:List A8} {i j:Nat} {st st':St},recs[j]?=some R->DW R t->R.av≠none->D (i+j)=true->(∀k R',j<k->recs[k]?=some R'->DW R' t->D (i+k)=false)->c7 (B0 D i recs st).e t=c7 (C1 st' R).e t
 | R0 :: r,i,0,st,st',hj,hw,hav,hD,hl=>by
   simp only[List.getElem?_cons_zero,oi] at hj; subst hj;simp only[Nat.add_zero] at hD;simp only[B0,hD,if_true];have f:c7 (B0 D (i+1) r (C1 st R0)).e t=c7 (C1 st R0).e t:=by
    have:∀{recs:List A8} {i:Nat} {st:St},(∀k R',recs[k]?=some R'->DW R' t->D (i+k)=false)->c7 (B0 D i recs st).e t=c7 st.e t:=by
     intro recs
     induction recs with
     | nil=>intro i st _; rfl
     | cons d m g =>
       intro i st h;simp only[B0];rw[g (fun k R' c b=>by have:=h (k+1) R' (by grind) b; rwa [show i+(k+1)=i+1+k by omega] at this)];split
       ·rename_i l;refine SU st d t (fun b=>?_);have:=h 0 d rfl b
        grind
       ·rfl
    exact this (fun k R' c b=>by have:=hl (k+1) R' (by omega) (by grind) b; rwa [show i+(k+1)=i+1+k by omega] at this)
   rw[f];unfold DW at hw;simp only[C1,Cg,hw];cases h:R0.av with
   | none=>grind
   | some a=>simp only[lK,if_true]
 | R0 :: r,i,j+1,st,st',hj,hw,hav,hD,hl=>by
   simp only[B0];exact YB (j:=j) (by grind) hw hav (by grind) (fun k R' n c b=>by have:=hl (k+1) R' (by omega) (by grind) b; rwa [show i+(k+1)=i+1+k by omega] at this)
theorem o0H{a:Type}{l m b:List (Nat×a)}{i:Nat}(h:∃x∈l,x.1=i):c7 (l++m) i=c7 (l++b) i:=by
 induction l with
 | nil=>grind
 | cons x r c =>
   obtain⟨d,v⟩:=x;rw[List.cons_append,List.cons_append,lK,lK]
   grind
theorem YC{D:Nat->Bool}{id:Nat}{R:A8}:∀{recs:List A8} {i j:Nat} {st st':St},recs[j]?=some R->Gr R id->D (i+j)=true->(∀k R',j<k->recs[k]?=some R'->Gr R' id->D (i+k)=false)->c7 (B0 D i recs st).o id=c7 (C1 st' R).o id
 | R0 :: r,i,0,st,st',hj,hw,hD,hl=>by
   simp only[List.getElem?_cons_zero,oi] at hj; subst hj;simp only[Nat.add_zero] at hD;simp only[B0,hD,if_true];have d:c7 (B0 D (i+1) r (C1 st R0)).o id=c7 (C1 st R0).o id:=by
    have:∀{recs:List A8} {i:Nat} {st:St},(∀k R',recs[k]?=some R'->Gr R' id->D (i+k)=false)->c7 (B0 D i recs st).o id=c7 st.o id:=by
     intro recs
     induction recs with
     | nil=>intro i st _; rfl
     | cons c g e =>
       intro i st h;simp only[B0];rw[e (fun k R' b a=>by have:=h (k+1) R' (by grind) a; rwa [show i+(k+1)=i+1+k by omega] at this)];split
       ·rename_i f;refine SV st c id (fun a=>?_);have:=h 0 c rfl a
        grind
       ·rfl
    exact this (fun k R' b a=>by have:=hl (k+1) R' (by omega) (by grind) a; rwa [show i+(k+1)=i+1+k by omega] at this)
   rw[d];exact o0H hw
 | R0 :: r,i,j+1,st,st',hj,hw,hD,hl=>by
   simp only[B0];exact YC (j:=j) (by grind) hw (by grind) (fun k R' l b a=>by have:=hl (k+1) R' (by omega) (by grind) a; rwa [show i+(k+1)=i+1+k by omega] at this)
theorem YD{D:Nat->Bool}:∀{recs:List A8} {i:Nat} {st:St},(∀j,j<recs.length->D (i+j)=true)->B0 D i recs st=recs.foldl C1 st
 | [],_,_,_=>rfl
 | R :: r,i,st,h=>by
   have a:=h 0 (by simp);simp only[Nat.add_zero] at a;simp only[B0,a,if_true,List.foldl_cons];exact YD (fun j b=>by have:=h (j+1) (by grind); rwa [show i+(j+1)=i+1+j by omega] at this)
theorem YE{Γ:p5}{T:List Ct}{all:List Oper}:∀{recs:List A8} {i:Nat} {st:St} {j:Nat} {R:A8},Gq Γ T all st recs->recs[j]?=some R ->
  ∃sj,sj=B0 (fun k=>decide (k<i+j)) i recs st/\Bv all sj.e R.o=some R.p/\(∃q,X5 Γ T sj R.p R.o=some (q,R.av,R.obs,R.fp)/\(Gn sj.e R.p->q))/\(R.p=[]∨R.obs=[])
 | [],_,_,j,_,_,h=>by grind
 | R0 :: r,i,st,0,R,⟨h1,h2,h3,h4⟩,h=>by
   simp only[List.getElem?_cons_zero,oi] at h; subst h;have:∀{recs:List A8} {i j:Nat} {st:St},i<=j->B0 (fun k=>decide (k<i)) j recs st=st:=by
    intro recs
    induction recs with
    | nil=>intro i j st _; rfl
    | cons R r a =>
      intro i j st b;simp only[B0];rw[if_neg (by grind)];exact a (by omega)
   simp_all
 | R0 :: r,i,st,j+1,R,⟨h1,h2,h3,h4⟩,h=>by
   obtain⟨sj,e,d,f,c⟩:=YE (i:=i+1) (j:=j) h4 (by simpa using h)
   grind[B0]
def AS(o:Oper):List Nat:=o.after.toList.filterMap fun e=>bif Region.binds .any e then some e.on else none
def AT:Nat->List Oper->Bool
 | _,[]=>true
 | i,o :: r=>(AS o).all (fun k=>Nat.blt k i)&&AT (i+1) r
def J2:List (List Nat)->List Oper->List (List Nat)
 | acc,[]=>acc
 | acc,o :: r=>J2 (acc++[AS o++(AS o).flatMap fun k=>(B8 acc k).getD []]) r
def M6(x:Nat):List Nat->Bool
 | []=>false
 | y :: r=>Nat.beq x y||M6 x r
theorem P5{x:Nat}:∀{l:List Nat},M6 x l=true↔x∈l
 | []=>by simp[M6]
 | y :: r=>by
   simp only[M6,Bool.or_eq_true,List.mem_cons,P5 (l:=r)]
   simp_all
theorem Gs{o:Oper}{k:Nat}:k∈AS o↔∃e∈o.after,Region.binds .any e=true/\e.on=k:=by
 unfold AS
 grind
def SW(D:Nat->Bool)(all:List Oper):Prop:=∀i o,all[i]?=some o->D i=true->∀k∈AS o,D k=true
theorem YF{all:List Oper}:∀{rest:List Oper} {acc:List (List Nat)},(∀j:Nat,rest[j]?=all[acc.length+j]?)->AT acc.length rest=true ->
  (∀(i:Nat) (l:List Nat),acc[i]?=some l->(∀k∈l,k<i)/\∀D,SW D all->∀o,all[i]?=some o->(∀k∈AS o,D k=true)->∀k∈l,D k=true) ->
  ∀(i:Nat) (l:List Nat),(J2 acc rest)[i]?=some l->(∀k∈l,k<i)/\∀D,SW D all->∀o,all[i]?=some o->(∀k∈AS o,D k=true)->∀k∈l,D k=true
 | [],acc,_,_,h=>h
 | o :: r,acc,hall,hb,h=>by
   simp only[AT,ba,List.all_eq_true] at hb;simp only[J2];refine YF (fun j=>?_) (by grind) (fun i l hi=>?_)
   ·have:=hall (j+1);simp only[List.getElem?_cons_succ] at this;rw[this]; congr 1; simp; omega
   ·rcases Nat.lt_or_ge i acc.length with q | hge
    ·rw[List.getElem?_append_left q] at hi;exact h i l hi
    ·have u:i=acc.length:=by
      rcases Nat.eq_or_lt_of_le hge with e | e
      ·exact e.symm
      ·rw[List.getElem?_eq_none (by simp; omega)] at hi; cases hi
     subst u;simp only[List.getElem?_concat_length,oi] at hi;subst hi;have z:∀k:Nat,k∈AS o->k<acc.length:=fun k z=>by simp_all
     refine⟨fun k d=>?_,fun D y F a s k d=>?_⟩
     ·grind[X3,List.getElem?_eq_getElem]
     ·have v:=hall 0;simp only[List.getElem?_cons_zero,Nat.add_zero] at v;rw[<- v] at a;cases a;rcases List.mem_append.1 d with w | w
      ·grind
      ·obtain⟨m,x,n⟩:=List.mem_flatMap.1 w;rw[X3] at n;have c:=z m x;rw[List.getElem?_eq_getElem c] at n;have t:=s m x;obtain⟨g,f⟩:∃g,all[m]?=some g:=by
        grind
       exact(h m acc[m] (List.getElem?_eq_getElem c)).2 D y g f (fun E b=>y m g f t E b) k n
end Go.Proofs.Xv
end
section
set_option maxHeartbeats 0
namespace Go.Proofs.Xv
open Go Go.RowKit Go.Proofs.Sv
theorem Sat.congr{X:Cx}{G:Gh}(S:Sat X G){o':List (Nat×Ob)}(h:∀i,c7 o' i=c7 G.o i):Sat X { G with o:=o' }/\GLe G { G with o:=o' }:=by
 have c:GLe G { G with o:=o' }:=⟨rfl,fun k F _=>⟨F,rfl⟩,fun i T u hi=>⟨rfl,T,u,(h i).trans hi⟩,fun i T s f t j d hi=>⟨rfl,T,s,f,t,j,d,(h i).trans hi⟩,fun i T f t j e hi=>⟨T,f,t,j,e,(h i).trans hi,Nat.le_refl _,fun _=>rfl⟩⟩;have a:∀i o,c7 o' i=some o->c7 G.o i=some o:=fun i o hi=>(h i).symm.trans hi;refine⟨⟨S.base,S.os,S.tape,S.output,S.size,S.block,fun i o hi=>?_,fun i r o w b hi q=>S.inj i r o w b (a i o hi) (a r w q),fun i o b hi=>S.imm i o b (a i o hi),fun i o b hi=>S.own i o b (a i o hi),S.klt,S.kfrom,fun i b x V=>?_,fun i v h=>(S.pin i v h).mono c⟩,c⟩
 rotate_right
 ·obtain⟨W,Y,Q,P⟩:=S.sep i b x (by grind)
  grind
 have:=S.obs i o (a i o hi);cases o with
 | box T u=>obtain⟨b,y,n,l,m,E⟩:=this; exact⟨b,y,n,l,m,E.mono c⟩
 | arr T f t j e=>exact this
 | grd T s f t j d =>
   obtain⟨H,z,n,l,m⟩:=this;exact⟨H,z,n,l.up c (fun _=>Iff.rfl) (WE.refl (g:=none) _) (fun _ _ h=>by cases h),m⟩
theorem EnvR.congr{n:Nat}{G:Gh}{e e':List (Nat×Sl)}{a:Act}(h:EnvR n G e a)(b:∀t,c7 e' t=c7 e t):EnvR n G e' a :=
 ⟨h.defers,h.size,fun t s c=>h.val t s (by grind)⟩
theorem g0O{all:List Oper}{e e':List (Nat×Sl)}{o:Oper}{p:Pa}(h:Bv all e o=some p)(a:∀x∈p,c7 e x.1=c7 e' x.1):Bv all e' o=some p:=by
 unfold Bv at h ⊢;split at h
 ·exact h
 grind[oi,c7,List.mem_cons_self]
theorem YG{e e':List (Nat×Sl)}:∀{p:Pa},(∀x∈p,c7 e x.1=c7 e' x.1)->Gn e p->Gn e' p
 | [],_,_=>trivial
 | (s,b) :: r,h,⟨h1,h2⟩=>by
   refine⟨?_,YG (fun x a=>h x (by grind)) h2⟩
   simp_all
def YH(R:A8):List Nat:=B0P R.o.op.operands.toList++R.p.map Prod.fst
def Ow(l m:List Nat):Bool:=l.all fun x=>!M6 x m
def CY(bs:List (List Nat))(i:Nat)(A:A8)(k:Nat)(B:A8):Bool :=
 (match A.o.dst with
   | some d=>(!M6 d (YH B)||(M6 i ((B8 bs k).getD [])||M6 k ((B8 bs i).getD [])))&&(!M6 d (B.p.map Prod.fst)||M6 i ((B8 bs k).getD []))
   | none=>true)&&(Ow (A.obs.map Prod.fst) (B.fp++B.obs.map Prod.fst)||(M6 i ((B8 bs k).getD [])||M6 k ((B8 bs i).getD [])))
def Kx(f:Nat->A8->Bool):Nat->List A8->Bool
 | _,[]=>true
 | i,R :: r=>f i R&&Kx f (i+1) r
theorem Ox{f:Nat->A8->Bool}:∀{recs:List A8} {i:Nat},Kx f i recs=true->∀j R,recs[j]?=some R->f (i+j) R=true
 | [],_,_,j,R,h=>by grind
 | R0 :: r,i,h,0,R,hj=>by
   grind[Kx]
 | R0 :: r,i,h,j+1,R,hj=>by
   simp only[Kx,ba] at h;have:=Ox h.2 j R (by grind)
   grind
def YI(A:A8):Bool:=match A.o.dst with
 | some d=>!M6 d (A.p.map Prod.fst)
 | none=>true
def It(bs:List (List Nat))(recs:List A8):Bool:=Kx (fun i A=>YI A&&Kx (fun k B=>Nat.beq i k||CY bs i A k B) 0 recs) 0 recs
theorem Gt{a:List (List Nat)}{recs:List A8}(h:It a recs=true){i k:Nat}{A B:A8}(hi:recs[i]?=some A)(d:recs[k]?=some B)(c:i≠k):CY a i A k B=true:=by
 have b:=Ox h i A hi;rw[ba] at b;have e:=Ox b.2 k B d
 simp_all
theorem YJ{n:Nat}:∀{l:List Oper} {i:Nat} {seen:List Nat},I4 n i seen l=true->(∀(j:Nat) (o:Oper) (d:Nat),l[j]?=some o->o.dst=some d->d<n/\d ∉ seen)/\(∀(j k:Nat) (o o':Oper) (d:Nat),l[j]?=some o->l[k]?=some o'->o.dst=some d->o'.dst=some d->j=k)
 | [],_,_,_=>⟨fun j o d h=>by grind,fun j k o o' d h=>by grind⟩
 | o0 :: r,i,seen,h=>by
   simp only[I4,ba] at h;obtain⟨⟨a,_⟩,e⟩:=h;obtain⟨f,m⟩:=YJ e;have c:∀d,d∈seen->d∈(match o0.dst with | some d=>d :: seen | none=>seen):=fun d b=>by
    grind
   have g:∀d,o0.dst=some d->d<n/\d ∉ seen:=fun d b=>by
    rw[b] at a;simp only[ba] at a;exact⟨by simp_all,Io a.2⟩
   grind
theorem YK{b:Type}{p a:b->Bool}:∀{l:List b},(∀x,a x=true->p x=true)->(∃x∈l,p x=true/\a x=false)->(l.filter a).length < (l.filter p).length
 | [],_,⟨x,hx,_⟩=>by cases hx
 | y :: r,h,⟨x,hx,h1,h2⟩=>by
   have d:∀l:List b,(l.filter a).length<=(l.filter p).length:=fun l=>by
    induction l with
    | nil=>grind
    | cons z s c =>
      grind
   rcases List.mem_cons.1 hx with rfl | hx
   ·grind
   ·have c:=YK h ⟨x,hx,h1,h2⟩;simp only[List.filter_cons];by_cases hz:a y=true
    ·rw[if_pos hz,if_pos (h y hz)]; simp only[List.length_cons]; omega
    ·rw[if_neg hz];split
     ·simp only[List.length_cons]; omega
     ·exact c
theorem YL{D:Nat->Bool}{t:Nat}{s:Sl}:∀{recs:List A8} {i:Nat} {st:St},c7 (B0 D i recs st).e t=some s->c7 st.e t=some s∨∃k R,recs[k]?=some R/\D (i+k)=true/\s.p=R.p
 | [],_,_,h=>.inl h
 | R :: r,i,st,h=>by
   simp only[B0] at h;rcases YL h with a | ⟨k,R',h1,h2,h3⟩
   ·by_cases b:D i=true
    ·rw[if_pos b] at a;simp only[C1,Cg] at a;split at a
     ·rw[lK] at a;split at a
      ·cases a;exact .inr ⟨0,R,rfl,b,rfl⟩
      grind
     grind
    grind
   ·exact .inr ⟨k+1,R',by grind,by grind,h3⟩
theorem w0I{Γ:p5}{T:List Ct}{st:St}{p:Pa}{o:Oper}{d:Nat}{q:Prop}{av:Option AV}{obs:List (Nat×Ob)}{fp:List Nat}(h:X5 Γ T st p o=some (q,av,obs,fp))(a:o.dst=some d):av≠none:=by
 grind[X5]
section
variable {X:Cx} {Γ:p5} {T:List Ct}
theorem z0N(bE:x7 X.P Γ)(hT:∀c∈T,Ok X.P c){l:List Oper}{recs:List A8}{st:St}{Q:Exit->Act->World->Prop}(hl:recs.map (·.o)=l)(aS:Gq Γ T l st recs)(aT:∀t s,c7 st.e t=some s->s.p=[])
  (aO:I4 X.n 0 [] l=true) (aA:AT 0 l=true) (E:It (J2 [] l) recs=true) (hK:∀G' a',Sat X G'->G'.o=(recs.foldl C1 st).o->EnvR X.n G' (recs.foldl C1 st).e a'->Q .normal a' G'.w) :
  ∀(fuel:Nat) (listed:Array Bool) (G:Gh) (a:Act),((List.range l.length).filter fun i=>!listed.getD i true).length<=fuel->listed.size=l.length->SW (fun k=>listed.getD k false) l->Sat X G->(∀id,c7 G.o id=c7 (B0 (fun k=>listed.getD k false) 0 recs st).o id) ->
   EnvR X.n G (B0 (fun k=>listed.getD k false) 0 recs st).e a->wpAny X.P .any l.toArray Q fuel listed a G.w:=by
 have bQ:recs.length=l.length:=by rw[<- hl]; simp
 have bJ:∀(j:Nat) (R:A8),recs[j]?=some R->l[j]?=some R.o:=fun j R h=>by rw[<- hl,List.getElem?_map,h]; rfl
 have aY:∀(j:Nat) (o:Oper),l[j]?=some o->∃R,recs[j]?=some R/\R.o=o:=fun j o h=>by
  rw[<- hl,List.getElem?_map] at h;cases hr:recs[j]? with
  | none=>rw[hr] at h; cases h
  | some R=>rw[hr] at h; cases h; exact⟨R,rfl,rfl⟩
 have bB:=YF (all:=l) (rest:=l) (acc:=[]) (fun j=>by simp) aA (fun i m h=>by grind);have aF:=YJ aO;have aH:∀(i:Nat) (o:Oper) (k:Nat),l[i]?=some o->k∈AS o->k<i:=by
  have:∀{m:List Oper} {i:Nat},AT i m=true->∀j o k,m[j]?=some o->k∈AS o->k<i+j:=by
   intro m
   induction m with
   | nil=>grind
   | cons o0 r ih =>
     intro i h j o k hj u;simp only[AT,ba,List.all_eq_true] at h;cases j with
     | zero=>simp only[List.getElem?_cons_zero,oi] at hj; simp_all
     | succ j=>grind
  intro i o k v h2;have:=this aA i o k v h2; omega
 -- all is done: the end
 have aC:∀(listed:Array Bool) (G:Gh) (a:Act),(∀i,i<l.length->listed.getD i false=true)->Sat X G->(∀id,c7 G.o id=c7 (B0 (fun k=>listed.getD k false) 0 recs st).o id)->EnvR X.n G (B0 (fun k=>listed.getD k false) 0 recs st).e a->Q .normal a G.w:=by
  intro listed G a aJ S hO hE;rw[YD (fun j hj=>by grind)] at hO hE;obtain⟨S',L'⟩:=S.congr (o':=(recs.foldl C1 st).o) (fun i=>(hO i).symm);exact hK ⟨G.ρ,G.γ,G.K,G.w,(recs.foldl C1 st).o,G.B,G.δ⟩ a S' rfl (hE.mono L')
 intro fuel
 induction fuel with
 | zero =>
   intro listed G a hf bG aB S hO hE;have aI:(List.range l.length).filter (fun i=>!listed.getD i true)=[]:=List.eq_nil_of_length_eq_zero (by omega);have aJ:∀i,i<l.length->listed.getD i true=true:=fun i hi=>by
    cases h:listed.getD i true with
    | true=>rfl
    | false =>
      have:i∈(List.range l.length).filter (fun i=>!listed.getD i true):=List.mem_filter.2 ⟨List.mem_range.2 hi,by grind⟩;rw[aI] at this; cases this
   refine⟨?_,aC listed G a (fun i hi=>?_) S hO hE⟩
   ·grind[Region.ready,hi,mem_ready,Nat.lt_or_ge,List.getElem?_eq_none]
   grind
 | succ fuel ih =>
   intro listed G a hf bG aB S hO hE;refine⟨fun hr=>aC listed G a ?_ S hO hE,fun i hi=>?_⟩
   · -- nothing is ready: all is done
     intro i
     induction i using Nat.strongRecOn with
     | ind i aX =>
       intro hi;cases h:listed.getD i false with
       | true=>rfl
       | false =>
         have:i∈Region.ready .any l.toArray listed:=mem_ready.2 ⟨by
          grind,l[i],by grind,fun e he hb=>aX e.on (aH i l[i] e.on (List.getElem?_eq_getElem hi) (Gs.2 ⟨e,he,hb,rfl⟩)) (by have:=aH i l[i] e.on (List.getElem?_eq_getElem hi) (Gs.2 ⟨e,he,hb,rfl⟩); omega)⟩
         rw[hr] at this; cases this
   ·obtain⟨aN,o,ho,bM⟩:=mem_ready.1 hi;rw[List.getElem?_toArray] at ho;obtain⟨R,hR,rfl⟩:=aY i o ho;have aQ:i<l.length:=by
     rcases Nat.lt_or_ge i l.length with h | h
     ·exact h
     ·grind
    have bR:listed.getD i false=false:=by
     have hs:i<listed.size:=by omega
     rw[Array.getD_eq_getD_getElem?,Array.getElem?_eq_getElem hs] at aN ⊢;exact aN
    -- what stands ahead of i is done
    have bU:∀k∈((B8 (J2 [] l) i).getD []),k<i/\listed.getD k false=true:=by
     intro k u;rw[X3] at u;cases hb:(J2 [] l)[i]? with
     | none=>grind
     | some m =>
       grind[Gs]
    have bS:∀k,listed.getD k false=true->k<l.length->∀m∈((B8 (J2 [] l) k).getD []),m<k/\listed.getD m false=true:=by
     intro k u g m hm;rw[X3] at hm;cases hb:(J2 [] l)[k]? with
     | none=>grind
     | some b =>
       rw[hb] at hm;obtain⟨g1,g2⟩:=bB k b hb;exact⟨g1 m hm,g2 _ aB l[k] (List.getElem?_eq_getElem g) (fun k' aV=>aB k l[k] (List.getElem?_eq_getElem g) u k' aV) m hm⟩
    have bK:∀k,k<l.length->∀m∈((B8 (J2 [] l) k).getD []),m<k:=by
     intro k g m hm;rw[X3] at hm;cases hb:(J2 [] l)[k]? with
     | none=>grind
     | some b=>grind
    -- ordered with i: done exactly if earlier in the text
    have aD:∀k,k<l.length->k≠i->(M6 k ((B8 (J2 [] l) i).getD [])||M6 i ((B8 (J2 [] l) k).getD []))=true->listed.getD k false=decide (k<i):=by
     intro k g bO h;rw[Bool.or_eq_true] at h;rcases h with h | h
     ·grind[P5]
     ·grind[P5]
    obtain⟨sj,aG,bD,⟨q,aP,hq⟩,hg⟩:=YE (i:=0) aS hR;rw[Nat.zero_add] at aG
    -- the slots and objects that i looks at are as in the text's order
    have aL:∀t,t∈YH R->c7 sj.e t=c7 (B0 (fun k=>listed.getD k false) 0 recs st).e t:=by
     intro t ht;rw[aG];refine Ou (fun k R' u H=>?_) rfl;rw[Nat.zero_add];by_cases f:k=i
     ·grind
     ·have F:=Gt E u hR f;have g:k<l.length:=by
       rcases Nat.lt_or_ge k l.length with h | h
       ·exact h
       ·grind
      simp only[CY,ba] at F;have H:R'.o.dst=some t:=H;rw[H] at F;simp only[ba] at F;have v:=F.1.1;rw[Bool.or_eq_true] at v;rcases v with v | v
      ·grind[P5]
      ·exact(aD k g f (by omega)).symm
    have aZ:∀id,id∈R.fp++R.obs.map Prod.fst->c7 sj.o id=c7 G.o id:=by
     intro id aM;rw[hO,aG];refine Ov (fun k R' u H=>?_) rfl;rw[Nat.zero_add];by_cases f:k=i
     ·grind
     ·have F:=Gt E u hR f;have g:k<l.length:=by
       rcases Nat.lt_or_ge k l.length with h | h
       ·exact h
       ·grind
      simp only[CY,ba] at F;have v:=F.2;rw[Bool.or_eq_true] at v;obtain⟨y,hy,aW⟩:=H;rcases v with v | v
      ·grind[Ow,List.all_eq_true,List.mem_map_of_mem,P5]
      ·exact(aD k g f (Bool.or_comm _ _ ▸ v)).symm
    have aR:∀x∈R.p,c7 sj.e x.1=c7 (B0 (fun k=>listed.getD k false) 0 recs st).e x.1:=fun x hx=>aL x.1 (List.mem_append.2 (.inr (List.mem_map_of_mem hx)));have bI:=g0O bD aR;have aK:X5 Γ T ⟨(B0 (fun k=>listed.getD k false) 0 recs st).e,G.o⟩ R.p R.o=some (q,R.av,R.obs,R.fp) :=
     k0H (e:=sj.e) (o:=sj.o) (fun t ht=>aL t (List.mem_append.2 (.inl (n0c ht)))) aP (fun id aM=>aZ id (List.mem_append.2 (.inl aM)))
    have hd:∀d,R.o.dst=some d->d<X.n/\(∀x∈R.p,x.1≠d)/\∀t s,c7 (B0 (fun k=>listed.getD k false) 0 recs st).e t=some s->∀x∈s.p,x.1≠d:=by
     intro d hd;refine⟨(aF.1 i R.o d ho hd).1,fun x hx e=>?_,fun t s ht x hx e=>?_⟩
     ·have v:=Ox E i R hR;rw[Nat.zero_add,ba] at v
      grind[YI,P5]
     ·rcases YL ht with h | ⟨k,Rk,u,W,hsp⟩
      ·grind
      ·rw[Nat.zero_add] at W;have f:i≠k:=fun e'=>by grind
       have g:k<l.length:=by
        rcases Nat.lt_or_ge k l.length with h | h
        ·exact h
        ·grind
       have F:=Gt E hR u f;simp only[CY,ba,hd] at F;have h2:=F.1.2;rw[Bool.or_eq_true] at h2
       grind[P5]
    have V:∀k,(listed.setIfInBounds i true).getD k false=if k=i then true else listed.getD k false:=fun k=>by
     by_cases f:k=i
     ·subst f;have hs:k<listed.size:=by omega
      simp[hs]
     ·rw[if_neg f]; exact getD_set_ne false (Ne.symm f)
    have bP:=Ot (st:=⟨(B0 (fun k=>listed.getD k false) 0 recs st).e,G.o⟩) (K:=wpAny X.P .any l.toArray Q fuel (listed.setIfInBounds i true)) bE hT (ops:=l.toArray) (all:=l) rfl (Q:=Q) S rfl hE bI aK (fun F=>hq (YG (fun x hx=>(aR x hx).symm) F)) hg hd (fun a' G' S' _ bH bC=>by
     refine ih (listed.setIfInBounds i true) G' a' ?_ (by grind) ?_ S' ?_ ?_
     ·have:((List.range l.length).filter fun j=>!(listed.setIfInBounds i true).getD j true).length < ((List.range l.length).filter fun j=>!listed.getD j true).length:=by
       refine YK (fun j hj=>?_) ⟨i,List.mem_range.2 aQ,by grind,?_⟩
       ·by_cases bL:i=j
        ·grind
        grind
       ·grind
      omega
     ·intro k o u W m hm;simp only[V] at W ⊢;by_cases aU:m=i
      ·grind
      ·rw[if_neg aU];by_cases f:k=i
       ·subst f;rw[ho] at u;cases u;obtain⟨e,he,bT,rfl⟩:=Gs.1 hm
        grind
       ·rw[if_neg f] at W;exact aB k o u W m hm
     ·intro id;rw[bH];by_cases H:Gr R id
      ·rw[YC (D:=fun k=>(listed.setIfInBounds i true).getD k false) (st':=⟨[],G.o⟩) hR H (by grind) (fun k Rk bA u Y=>?_)]
       ·rfl
       ·rw[Nat.zero_add];simp only[V,if_neg (show k≠i by omega)];have g:k<l.length:=by
         rcases Nat.lt_or_ge k l.length with h | h
         ·exact h
         ·grind
        have F:=Gt E u hR (show k≠i by omega);simp only[CY,ba] at F;have v:=F.2;rw[Bool.or_eq_true] at v;obtain⟨y,hy,aW⟩:=Y;obtain⟨z,hz,bN⟩:=H;rcases v with v | v
        ·simp only[Ow,List.all_eq_true] at v
         grind[List.mem_map_of_mem,P5]
        grind
      ·have e1:=SV ⟨[],G.o⟩ R id H;simp only[C1] at e1;rw[e1,hO];refine Ov (fun k Rk u Y=>?_) rfl;rw[Nat.zero_add];simp only[V];rw[if_neg (fun e=>by grind)]
     ·refine bC.congr (fun t=>?_);by_cases H:DW R t
      ·have bF:=w0I aP H;rw[YB (D:=fun k=>(listed.setIfInBounds i true).getD k false) (st':=⟨(B0 (fun k=>listed.getD k false) 0 recs st).e,G.o⟩) hR H bF (by grind) (fun k Rk bA u Y=>by
        have:=aF.2 i k R.o Rk.o t ho (bJ k Rk u) H Y;omega)]
       rfl
      ·have e1:=SU ⟨(B0 (fun k=>listed.getD k false) 0 recs st).e,G.o⟩ R t H;simp only[C1] at e1;rw[e1];refine Ou (fun k Rk u Y=>?_) rfl;rw[Nat.zero_add];simp only[V];rw[if_neg (fun e=>by grind)])
    grind[wpOp,O0]
end
end Go.Proofs.Xv
end
section
namespace Go.Proofs.Xv
open Go Go.RowKit Go.Proofs.Sv
def VX(X:Cx)(st:St)(c:Code)(Q:Exit->Act->World->Prop):Prop:=∀G a,Sat X G->G.o=st.o->EnvR X.n G st.e a->c.wp X.P Q a G.w
def FX(X:Cx)(st:St)(x:Exit)(Q:Exit->Act->World->Prop):Prop:=∀G a,Sat X G->G.o=st.o->EnvR X.n G st.e a->Q x a G.w
def Oy(e:List (Nat×Sl)):List Nat->List (Nat×Sl)
 | []=>[]
 | t :: r=>match c7 e t with
   | some ⟨[],a⟩=>(t,⟨[],a⟩) :: Oy e r
   | _=>Oy e r
def Oz:List Nat->List (Nat×Ob)->List (Nat×Ob)
 | _,[]=>[]
 | seen,(i,b) :: r=>bif M6 i seen then Oz seen r else(i,b) :: Oz (i :: seen) r
def cut(keep:List Nat)(st:St):St:=⟨Oy st.e keep,Oz [] st.o⟩
theorem YM{e:List (Nat×Sl)}:∀{keep:List Nat} {t:Nat} {s:Sl},c7 (Oy e keep) t=some s->c7 e t=some s/\s.p=[]
 | [],t,s,h=>by cases h
 | k :: r,t,s,h=>by
   unfold Oy at h;split at h
   ·rename_i a b;rw[lK] at h;split at h
    ·grind
    ·exact YM h
   ·exact YM h
theorem YN:∀{o:List (Nat×Ob)} {seen:List Nat} {i:Nat},i ∉ seen->c7 (Oz seen o) i=c7 o i
 | [],_,_,_=>rfl
 | (j,b) :: r,seen,i,h=>by
   unfold Oz;rw[ce,lK];split
   ·rename_i c;have:¬j=i:=fun e=>h (by grind[P5]);rw[if_neg this];exact YN h
   ·rw[lK];split
    ·rfl
    ·rename_i a;exact YN (by grind)
theorem Iu{X:Cx}{st:St}{G:Gh}{a:Act}(b:List Nat)(S:Sat X G)(f:G.o=st.o)(c:EnvR X.n G st.e a):∃G',Sat X G'/\G'.o=(cut b st).o/\G'.w=G.w/\EnvR X.n G' (cut b st).e a:=by
 obtain⟨d,g⟩:=S.congr (o':=(cut b st).o) (fun i=>by rw[f]; exact YN (by simp));refine⟨_,d,rfl,rfl,c.defers,c.size,fun t s h=>?_⟩;obtain⟨j,_⟩:=YM h;have:=(c.mono g).val t s j;omega
def J3(e:List (Nat×Sl)):Bool:=e.all fun x=>Ce x.2.p
theorem Bx{e:List (Nat×Sl)}(h:J3 e=true):∀t s,c7 e t=some s->s.p=[]:=by
 intro t s a;have:∃x∈e,x.2=s:=by
  induction e with
  | nil=>cases a
  | cons y r c =>
    obtain⟨d,v⟩:=y;rw[lK] at a;split at a
    ·simp_all
    grind[J3]
 obtain⟨x,b,rfl⟩:=this
 grind[J3,List.all_eq_true,On]
section
variable {X:Cx} {st:St} {Q:Exit->Act->World->Prop}
theorem vQ{x y:Code}(h:VX X st x (Sa X.P y Q)):VX X st (.seq x y) Q:=fun G a S c b=>wp_seq (h G a S c b)
theorem vB{id:Nat}{c:Code}(h:VX X st c (Oa id Q)):VX X st (.block id c) Q:=fun G a S d b=>wp_block (h G a S d b)
theorem vK(h:FX X st .normal Q):VX X st .skip Q:=fun G a S c b=>wp_skip (h G a S c b)
theorem j0(h:FX X st .ret Q):VX X st .ret Q:=fun G a S c b=>wp_ret (h G a S c b)
theorem vE{id:Nat}(h:FX X st (.exit id) Q):VX X st (.exit id) Q:=fun G a S c b=>wp_exit (h G a S c b)
theorem YO{c:Operand}{x y:Code}{f b:Bool}(l:rd st [] c=some (.d f .bool b))(j:b=true->VX X st x Q)(k:b=false->VX X st y Q):VX X st (.cond c x y) Q:=fun G a S i g=>by
 have e:=Bs (C8 g (p:=[]) (fun _ h=>by cases h) l);exact wp_cond_split e (fun h=>j h G a S i g) (fun h=>k h G a S i g)
theorem t0i{c:Operand}{x y:Code}{f:Bool}(b:rd st [] c=some (.d f .bool true))(a:VX X st x Q):VX X st (.cond c x y) Q:=YO b (fun _=>a) (fun h=>by cases h)
theorem t0j{c:Operand}{x y:Code}{f:Bool}(b:rd st [] c=some (.d f .bool false))(a:VX X st y Q):VX X st (.cond c x y) Q:=YO b (fun h=>by cases h) (fun _=>a)
theorem fQ{y:Code}(h:VX X st y Q):FX X st .normal (Sa X.P y Q):=fun G a S c b=>h G a S c b
theorem fE{y:Code}{id:Nat}(h:FX X st (.exit id) Q):FX X st (.exit id) (Sa X.P y Q):=fun G a S c b=>h G a S c b
theorem fR{y:Code}(h:FX X st .ret Q):FX X st .ret (Sa X.P y Q):=fun G a S c b=>h G a S c b
theorem fK{id:Nat}(h:FX X st .normal Q):FX X st .normal (Oa id Q):=fun G a S c b=>h G a S c b
theorem l7{id:Nat}(h:FX X st .ret Q):FX X st .ret (Oa id Q):=fun G a S c b=>h G a S c b
theorem fX{id b:Nat}(c:Nat.beq b id=true)(h:FX X st .normal Q):FX X st (.exit b) (Oa id Q):=fun G a S e d=>by
 have:b=id:=by simpa using c
 show(if b=id then Q .normal a G.w else Q (.exit b) a G.w);rw[if_pos this]; exact h G a S e d
theorem n0p{id b:Nat}(e:Nat.beq b id=false)(h:FX X st (.exit b) Q):FX X st (.exit b) (Oa id Q):=fun G a S d c=>by
 have:¬b=id:=fun h=>by simp_all
 show(if b=id then Q .normal a G.w else Q (.exit b) a G.w);rw[if_neg this]; exact h G a S d c
theorem A0g{Γ:p5}{T:List Ct}(i:x7 X.P Γ)(V:∀c∈T,Ok X.P c){id:Nat}{l:List Oper}(b:List Nat)(o:I4 X.n 0 [] l=true)(z:J3 st.e=true)
  (h:Ir Γ T l l st [] fun st' _=>FX X (cut b st') .normal Q):VX X st (.region id l.toArray false) Q:=by
 intro G a S y r;obtain⟨d,e1,F,u⟩:=Bw h;refine wp_region_lit ?_;have:=D0I i V (ops:=l.toArray) (all:=l) rfl (Q:=Q) d 0 [] st G a (fun j=>by grind) (by grind) (fun j oj W hj=>by omega) (fun t s ht x Y=>by grind[Bx]) F S y r
  (fun G' q w k g=>by
    obtain⟨H,v,m,E,f⟩:=Iu b w k g;have:=u H q v m f
    grind)
 grind
theorem C0C{Γ:p5}{T:List Ct}(q:x7 X.P Γ)(hT:∀c∈T,Ok X.P c)[Y:K1 X.P]{id:Nat}{l:List Oper}(d:List Nat)(b:(I4 X.n 0 [] l&&AT 0 l)=true)(s:J3 st.e=true)
  (h:Ir Γ T l l st [] fun st' rs=>It (J2 [] l) rs.reverse=true/\FX X (cut d st') .normal Q):VX X st (.region id l.toArray true) Q:=by
 intro G a S ho E;rw[ba] at b;obtain⟨recs,e1,e2,x,W⟩:=Bw h;rw[List.append_nil,List.reverse_reverse] at x;refine wp_region_any Y.h ?_;have f:Ext G.w { G.w with drawn:=G.w.drawn+1 }:=(Below.refl _ _).drew;obtain⟨S1,F⟩:=S.ext f;have:=z0N q hT (Q:=Q) (l:=l) (recs:=recs) (st:=st) e1 e2 (Bx s) b.1 b.2 x (fun G' z V t m=>by
   obtain⟨G2,H,v,aA,g⟩:=Iu d V t m;have:=W G2 z H v g
   grind) l.length (Array.replicate l.length false) { G with w:={ G.w with drawn:=G.w.drawn+1 } } a
  (by grind) (by simp) (fun i o _ hD=>by
    by_cases hi:i<l.length
    ·simp_all
    grind) S1 (fun id=>by
    have:∀{recs:List A8} {i:Nat} {st:St},(∀j,(Array.replicate l.length false).getD j false=false)->B0 (fun k=>(Array.replicate l.length false).getD k false) i recs st=st:=by
     intro recs
     induction recs with
     | nil=>intro i st _; rfl
     | cons R r y=>grind[B0]
    rw[this (fun j=>by by_cases u:j<l.length <;> simp[u])]
    grind) (by
    have:∀{recs:List A8} {i:Nat} {st:St},(∀j,(Array.replicate l.length false).getD j false=false)->B0 (fun k=>(Array.replicate l.length false).getD k false) i recs st=st:=by
     intro recs
     induction recs with
     | nil=>intro i st _; rfl
     | cons R r y=>grind[B0]
    rw[this (fun j=>by by_cases u:j<l.length <;> simp[u])];exact E.mono F)
 omega
end
def Gu:Option Ob->Nat->Prop
 | some (.arr _ _ _ _ v),ver=>v=ver
 | _,_=>False
theorem YP{b:Option Ob}{ver:Nat}(h:Gu b ver):∃T fr t xs,b=some (.arr T fr t xs ver):=by
 unfold Gu at h
 grind
def OA:Option Ob->Prop
 | some (.box _ _)=>True
 | _=>False
theorem q0M{b:Option Ob}(h:OA b):∃T cs,b=some (.box T cs):=by
 unfold OA at h
 grind
def SX:Option Ob->Prop
 | none=>True
 | _=>False
theorem v0G{b:Option Ob}(h:SX b):b=none:=by
 grind[SX]
def Iv:Value->Prop
 | .slice none 0 0=>True
 | _=>False
theorem YQ{u:Value}(h:Iv u):u=.slice none 0 0:=by
 grind[Iv]
def YR:(t:Ty)->j7 t->Prop
 | .sl _,x=>x=[]
 | _,_=>False
theorem D0V{K:Nat->Prop}{w:World}:∀{t:Ty} {x:j7 t},YR t x->RT K w t [.slice none 0 0] x
 | .sl _,x,h=>by
   have h:x=[]:=h;subst h;exact⟨none,0,rfl,Nat.le_refl _,by omega,.inl rfl⟩
def YS:Option Ob->Prop
 | some (.grd ..)=>True
 | _=>False
theorem v0E{b:Option Ob}(h:YS b):∃T Te fr t xs hole,b=some (.grd T Te fr t xs hole):=by
 unfold YS at h
 grind
def YT:Option Nat->Prop
 | none=>True
 | some _=>False
theorem m0X{h:Option Nat}(k:YT h):h=none:=by
 cases h with
 | none=>rfl
 | some _=>exact k.elim
/- The first value may be taken for the second one. -/
mutual
def M7(o o':List (Nat×Ob)):AV->AV->Prop
 | .d fr t x,b=>match b with
   | .d fr' t' y=>(fr'=true->fr=true)/\X2 t t' x=some y
   | _=>False
 | .v x,b=>match b with
   | .v y=>x=y
   | .os id ver=>Iv x/\SX (c7 o id)/\Gu (c7 o' id) ver
   | .d _ t y=>Iv x/\YR t y
   | _=>False
 | .os id ver,b=>match b with
   | .os id' ver'=>id=id'/\Gu (c7 o id) ver/\Gu (c7 o' id) ver'
   | _=>False
 | .ptr id off,b=>match b with
   | .ptr id' off'=>id=id'/\off=off'/\OA (c7 o' id)
   | _=>False
 | .agg xs,b=>match b with
   | .agg ys=>Ch o o' xs ys
   | _=>False
 | .tup xs,b=>match b with
   | .tup ys=>Ch o o' xs ys
   | _=>False
 | .fn f xs,b=>match b with
   | .fn g ys=>f=g/\Ch o o' xs ys
   | _=>False
 | .og id,b=>match b with
   | .og id'=>id=id'/\YS (c7 o' id)
   | _=>False
 | _,_=>False
def Ch(o o':List (Nat×Ob)):List AV->List AV->Prop
 | [],ys=>match ys with
   | []=>True
   | _=>False
 | a :: r,ys=>match ys with
   | b :: s=>M7 o o' a b/\Ch o o' r s
   | _=>False
end
def YU(o o':List (Nat×Ob)):Option Ob->Ob->Prop
 | some (.box T cs),.box T' cs'=>T=T'/\Ch o o' cs cs'
 | some (.arr T fr t xs _),.arr T' fr' t' ys _=>T=T'/\(fr'=true->fr=true)/\X2 (.sl t) (.sl t') xs=some ys
 | none,.arr _ _ _ ys _=>ys=[]
 | some (.grd T Te fr t xs h),.grd T' Te' fr' t' ys h'=>T=T'/\Te=Te'/\YT h/\YT h'/\(fr'=true->fr=true)/\X2 (.sl (.sl t)) (.sl (.sl t')) xs=some ys
 | _,_=>False
def YV(o o':List (Nat×Ob))(b:AV):Option Sl->Prop
 | some ⟨[],a⟩=>M7 o o' a b
 | _=>False
def YW:Pa->Prop
 | []=>True
 | _=>False
theorem I0H{q:Pa}(h:YW q):q=[]:=by
 grind[YW]
def SY(o o':List (Nat×Ob))(e:List (Nat×Sl)):List (Nat×Sl)->Prop
 | []=>True
 | (t,s) :: r=>YW s.p/\YV o o' s.a (c7 e t)/\SY o o' e r
def OB(o o':List (Nat×Ob)):List (Nat×Ob)->Prop
 | []=>True
 | (i,b) :: r=>YU o o' (c7 o i) b/\OB o o' r
def pins(o':List (Nat×Ob)):List (Nat×Ob)->Prop
 | []=>True
 | (i,.box _ _) :: r=>(bif Nat.ble 500000 i then OA (c7 o' i) else True)/\pins o' r
 | (_,.arr ..) :: r=>pins o' r
 | (_,.grd ..) :: r=>pins o' r
def OC(st st':St):Prop:=SY st.o st'.o st.e st'.e/\OB st.o st'.o st'.o/\pins st'.o st.o
def Z0(G:Gh)(o':List (Nat×Ob)):Gh :=
 ⟨fun i=>match c7 G.o i with | some _=>G.ρ i | none=>.slice none 0 0,fun i=>match c7 G.o i with | some _=>G.γ i | none=>none,G.K,G.w,o',G.B,G.δ⟩
theorem Iw{G:Gh}{o':List (Nat×Ob)}{i:Nat}{b:Ob}(h:c7 G.o i=some b):(Z0 G o').ρ i=G.ρ i:=by grind[Z0]
theorem SZ{G:Gh}{o':List (Nat×Ob)}{i:Nat}{b:Ob}(h:c7 G.o i=some b):(Z0 G o').γ i=G.γ i:=by grind[Z0]
theorem q0N{G:Gh}{o':List (Nat×Ob)}{i:Nat}(h:c7 G.o i=none):(Z0 G o').ρ i=.slice none 0 0:=by grind[Z0]
theorem q0O{G:Gh}{o':List (Nat×Ob)}{i:Nat}(h:c7 G.o i=none):(Z0 G o').γ i=none:=by grind[Z0]
mutual
theorem n0B{G:Gh}{o':List (Nat×Ob)}:∀{a b:AV} {u:Value},M7 G.o o' a b->AVR G a u->AVR (Z0 G o') b u
 | .d m t x,b,u,h,c=>by
   unfold M7 at h;split at h
   ·obtain⟨i,g⟩:=h;obtain⟨e,rfl⟩:=DR g;subst e;exact RT.up c (fun k n=>⟨n.1,fun e=>n.2 (i e)⟩)
   grind
 | .v x,b,u,h,c=>by
   have c:u=x:=c;unfold M7 at h;split at h
   ·exact c.trans h
   ·obtain⟨j,i,g⟩:=h;have j:=YQ j;have i:=v0G i;obtain⟨T,m,t,l,g⟩:=YP g;subst c;subst j;exact⟨rfl,T,m,t,l,_,g,Nat.le_refl _,fun _=>(q0N i).symm⟩
   ·obtain⟨j,i⟩:=h;have j:=YQ j;subst c;subst j;exact D0V i
   grind
 | .os id ver,b,u,h,⟨j,T,m,t,l,ver',k1,k2,k3⟩=>by
   unfold M7 at h;split at h
   ·obtain⟨rfl,i,g⟩:=h;obtain⟨z,w,y,s,i⟩:=YP i;obtain⟨E,r,F,q,g⟩:=YP g;rw[k1] at i;cases i;exact⟨j,_,_,_,_,_,g,Nat.le_refl _,fun _=>(k3 rfl).trans (Iw k1).symm⟩
   grind
 | .ptr id off,b,u,h,⟨⟨T,cs,k1⟩,b',k2,k3⟩=>by
   unfold M7 at h;split at h
   ·obtain⟨rfl,rfl,g⟩:=h;exact⟨q0M g,b',(Iw k1).trans k2,k3⟩
   grind
 | .agg l,b,u,h,⟨us,e,c⟩=>by
   unfold M7 at h;split at h
   ·exact⟨us,e,OD h c⟩
   grind
 | .tup l,b,u,h,⟨us,e,c⟩=>by
   unfold M7 at h;split at h
   ·exact⟨us,e,OD h c⟩
   grind
 | .fn f l,b,u,h,⟨us,e,c⟩=>by
   unfold M7 at h;split at h
   ·obtain⟨rfl,h⟩:=h;exact⟨us,e,OD h c⟩
   grind
 | .pel _ _ _ _ _,b,u,h,c=>by grind[M7]
 | .gel _ _,b,u,h,c=>by grind[M7]
 | .og id,b,u,h,⟨j,⟨T,Te,m,t,l,hole,k1⟩,k2⟩=>by
   unfold M7 at h;split at h
   ·obtain⟨rfl,g⟩:=h;exact⟨j,v0E g,k2.trans (Iw k1).symm⟩
   grind
 | .ow _ _ _ _,b,u,h,c=>c.elim
 | .ob _ _,b,u,h,c=>c.elim
theorem OD{G:Gh}{o':List (Nat×Ob)}:∀{as' bs:List AV} {us:List Value},Ch G.o o' as' bs->AVRs G as' us->AVRs (Z0 G o') bs us
 | [],bs,us,h,hu=>by
   unfold Ch at h;split at h
   ·exact hu
   grind
 | a :: r,bs,us,h,⟨u,us',e,k1,k2⟩=>by
   unfold Ch at h;split at h
   ·exact⟨u,us',e,n0B h.1 k1,OD h.2 k2⟩
   grind
end
theorem YX{o o':List (Nat×Ob)}:∀{l:List (Nat×Ob)} {i:Nat} {b:Ob},OB o o' l->c7 l i=some b->YU o o' (c7 o i) b
 | [],_,_,_,h=>by cases h
 | (j,c) :: r,i,b,h,hl=>by
   rw[lK] at hl;split at hl
   ·rename_i e; subst e; cases hl; exact h.1
   ·exact YX h.2 hl
theorem w0h{o o':List (Nat×Ob)}{e:List (Nat×Sl)}:∀{l:List (Nat×Sl)} {t:Nat} {s:Sl},SY o o' e l->c7 l t=some s->s.p=[]/\YV o o' s.a (c7 e t)
 | [],_,_,_,h=>by cases h
 | (j,c) :: r,t,s,h,hl=>by
   rw[lK] at hl;split at hl
   ·rename_i e; subst e; cases hl; exact⟨I0H h.1,h.2.1⟩
   ·exact w0h h.2.2 hl
theorem Ta{o':List (Nat×Ob)}:∀{l:List (Nat×Ob)} {i:Nat} {T:TypeId} {cs:List AV},pins o' l->c7 l (500000+i)=some (.box T cs)->OA (c7 o' (500000+i))
 | [],_,_,_,_,h=>by cases h
 | (j,.arr ..) :: r,i,_,_,h,hl=>by
   rw[lK] at hl;split at hl
   ·cases hl
   ·exact Ta (l:=r) h hl
 | (j,.grd ..) :: r,i,_,_,h,hl=>by
   rw[lK] at hl;split at hl
   ·cases hl
   ·exact Ta (l:=r) h hl
 | (j,.box ..) :: r,i,_,_,h,hl=>by
   rw[lK] at hl;split at hl
   ·rename_i e; subst e;have:=h.1
    simp_all
   ·exact Ta h.2 hl
theorem z0t{X:Cx}{G:Gh}{o':List (Nat×Ob)}(S:Sat X G)(h:OB G.o o' o')(E:pins o' G.o):Sat X (Z0 G o'):=by
 have g:∀{i:Nat} {b:Nat},(Z0 G o').γ i=some b->(∃c,c7 G.o i=some c)/\G.γ i=some b:=fun {i b} r=>by
  cases hl:c7 G.o i with
  | none=>grind[q0O]
  | some c=>grind[SZ]
 have Q:∀i,H4 (c7 o' i)=true->H4 (c7 G.o i)=true:=fun i hg=>by
  obtain⟨T,F,n,t,m,d,e⟩:=Og hg;have a:=YX h e;cases hl:c7 G.o i with
  | none=>rw[hl] at a; exact a.elim
  | some c =>
    rw[hl] at a;cases c with
    | box T s=>exact a.elim
    | arr T n t m w=>exact a.elim
    | grd T F n t m d=>rfl
 refine⟨S.base,S.os,S.tape,S.output,S.size,S.block,?_,?_,?_,?_,S.klt,S.kfrom,fun i b r hg=>?_,fun i v hv=>?_⟩
 rotate_right
 rotate_right
 ·obtain⟨s1,s2,s3,s4⟩:=S.sep i b r (Q i hg);exact⟨s1,s2,fun j o ho hj=>by grind,fun j hj aA=>s4 j hj (Q j aA)⟩
 ·obtain⟨⟨T,s,l⟩,b,f,q⟩:=S.pin i v hv;exact⟨q0M (Ta E l),b,(Iw l).trans f,q⟩
 ·intro id o ho;have a:=YX h ho;cases hl:c7 G.o id with
  | none =>
    rw[hl] at a;cases o with
    | box T s=>exact a.elim
    | grd T F n t m d=>exact a.elim
    | arr T n t m w =>
      have hx:m=[]:=a;subst hx;refine⟨[],?_,rfl,fun b r=>by grind⟩;rw[q0O hl,q0N hl];exact .inl ⟨rfl,rfl,rfl,none,rfl⟩
  | some c =>
    rw[hl] at a;have:=S.obs id c hl;cases c with
    | box T s =>
      cases o with
      | arr z n t m w=>exact a.elim
      | grd T F n t m d=>exact a.elim
      | box z P =>
        obtain⟨rfl,a⟩:=a;obtain⟨b,us,l,f,q,V⟩:=this;exact⟨b,us,(SZ hl).trans l,(Iw hl).trans f,q,OD a V⟩
    | arr T n t m w =>
      cases o with
      | box z P=>exact a.elim
      | arr z H t' ys W =>
        obtain⟨rfl,l,f⟩:=a;obtain⟨e,rfl⟩:=DR f;cases e;obtain⟨s,k1,u,k3⟩:=this;refine⟨s,?_,u.mapR (fun c x hr=>RT.up hr (fun k y=>⟨y.1,fun e=>y.2 (l e)⟩)),fun b r=>k3 b (g r).2⟩;rw[SZ hl,Iw hl];exact k1
      | grd T F n t m d=>exact a.elim
    | grd T F n t m d =>
      cases o with
      | box z P=>exact a.elim
      | arr z H t' ys W=>exact a.elim
      | grd z Te' H t' ys Y =>
        obtain⟨rfl,rfl,e1,e2,l,f⟩:=a;have e1:=m0X e1;have e2:=m0X e2;subst e1; subst e2;obtain⟨e,rfl⟩:=DR f;cases e;obtain⟨vs,bs,k1,u,k3⟩:=this;refine⟨vs,bs,by rw[SZ hl,Iw hl]; exact k1,⟨u.len,u.blk,u.inj,fun k y hh=>?_,u.one⟩,fun b r=>k3 b (g r).2⟩;obtain⟨s,r1,r2,r3⟩:=u.row k y hh;exact⟨s,r1,r2.mapR (fun c x hr=>RT.up hr (fun k y=>⟨y.1,fun e=>y.2 (l e)⟩)),r3⟩
 ·intro i i' o1 o2 b l f q V;obtain⟨⟨c,a⟩,q⟩:=g q;obtain⟨⟨c',aB⟩,V⟩:=g V;exact S.inj i i' c c' b a aB q V
 ·intro i o1 b l f;obtain⟨⟨c,a⟩,f⟩:=g f;exact S.imm i c b a f
 ·intro i o1 b l f;obtain⟨⟨c,a⟩,f⟩:=g f;exact S.own i c b a f
theorem YY{X:Cx}{G:Gh}{st st':St}{a:Act}(h:OC st st')(S:Sat X G)(j:G.o=st.o)(c:EnvR X.n G st.e a):∃G',Sat X G'/\G'.o=st'.o/\G'.w=G.w/\EnvR X.n G' st'.e a:=by
 obtain⟨g,d,f⟩:=h;rw[<- j] at g d f;refine⟨Z0 G st'.o,z0t S d f,rfl,rfl,c.defers,c.size,fun t s l=>?_⟩;obtain⟨m,b⟩:=w0h g l;rw[m];refine⟨fun _=>?_,fun k=>(k (fun _ h=>by cases h)).elim⟩;unfold YV at b;split at b
 ·rename_i q i;exact n0B b ((c.val t _ i).1 (fun _ h=>by cases h))
 grind
section
variable {X:Cx} {st:St} {Q:Exit->Act->World->Prop}
def Tb(X:Cx){σ:Type}(E:σ->St)(J:σ->Prop)(μ:σ->Nat)(s:σ)(Q:Exit->Act->World->Prop):Exit->Act->World->Prop
 | .normal,a,w=>∃s',μ s'<μ s/\J s'/\∃G,Sat X G/\G.o=(E s').o/\G.w=w/\EnvR X.n G (E s').e a
 | e,a,w=>Q e a w
theorem C0A{c:Code}(st':St)(h:OC st st')(k:VX X st' c Q):VX X st c Q:=fun G a S f i=>by
 obtain⟨j,e,b,g,d⟩:=YY h S f i;have:=k j a e b d
 grind
theorem C0z{b:Code}{d:Type}(E:d->St)(J:d->Prop)(f:d->Nat)(g:d)(z:J g)(j:OC st (E g))
  (c:∀s,J s->VX X (E s) b (Tb X E J f s Q)):VX X st (.loop b) Q:=by
 intro G a S q i;obtain⟨F,v,h,l,k⟩:=YY j S q i;refine wp_loop_ghost (fun m a w=>∃s,f s=m/\J s/\∃G,Sat X G/\G.o=(E s).o/\G.w=w/\EnvR X.n G (E s).e a) (f g) ⟨g,rfl,z,F,v,h,l,k⟩ ?_;rintro m a w ⟨s,rfl,P,G,S,q,rfl,i⟩;refine wp_mono (c s P G a S q i) ?_;intro x T V r;cases x with
 | normal =>
   obtain⟨t,H,u,y⟩:=r;exact⟨f t,H,t,rfl,u,y⟩
 | _=>exact r
theorem E0w{b:Type}{E:b->St}{J:b->Prop}{e:b->Nat}{s:b}(c:b)(k:J c)(h:e c<e s)(l:OC st (E c)):FX X st .normal (Tb X E J e s Q):=fun G a S j m=>by
 obtain⟨n,i,d,f,g⟩:=YY l S j m;exact⟨c,h,k,n,i,d,f,g⟩
theorem n0o{b:Type}{E:b->St}{J:b->Prop}{c:b->Nat}{s:b}{id:Nat}(h:FX X st (.exit id) Q):FX X st (.exit id) (Tb X E J c s Q):=fun G a S d e=>h G a S d e
theorem o0T{b:Type}{E:b->St}{J:b->Prop}{c:b->Nat}{s:b}(h:FX X st .ret Q):FX X st .ret (Tb X E J c s Q):=fun G a S d e=>h G a S d e
end
def O1:Nat->(ps:List Par)->w9 ps->List (Nat×Sl)
 | _,[],_=>[]
 | i,.dat t :: r,x=>(i,⟨[],.d false t x.1⟩) :: O1 (i+1) r x.2
 | i,.agg t :: r,x=>(i,⟨[],.agg (p8 false t x.1)⟩) :: O1 (i+1) r x.2
 | i,.fn f c :: r,x=>(i,⟨[],.fn f (p8 false c x.1)⟩) :: O1 (i+1) r x.2
 | i,.nof f :: r,x=>(i,⟨[],.fn f []⟩) :: O1 (i+1) r x.2
 | i,.nil :: r,x=>(i,⟨[],.v (.pointer none)⟩) :: O1 (i+1) r x.2
 | i,.io _ _ :: r,x=>(i,⟨[],.ptr (500000+i) 0⟩) :: O1 (i+1) r x.2
 | i,.os _ _ :: r,x=>(i,⟨[],.os (500000+i) 0⟩) :: O1 (i+1) r x.2
def H2:Nat->(ps:List Par)->w9 ps->List (Nat×Ob)
 | _,[],_=>[]
 | i,.io T t :: _,x=>[(500000+i,.box T (p8 false t x.1))]
 | i,.os E t :: _,x=>[(500000+i,.arr E true t x.1 0)]
 | i,.dat _ :: r,x=>H2 (i+1) r x.2
 | i,.agg _ :: r,x=>H2 (i+1) r x.2
 | i,.fn _ _ :: r,x=>H2 (i+1) r x.2
 | i,.nof _ :: r,x=>H2 (i+1) r x.2
 | i,.nil :: r,x=>H2 (i+1) r x.2
def s9:Nat->List Par->Option Nat->Option (Nat×Value)
 | _,[],_=>none
 | i,.io _ _ :: _,some b=>some (i,.pointer (some ⟨b,0,none⟩))
 | _,.os _ _ :: _,_=>none
 | i,_ :: r,go=>s9 (i+1) r go
def Ci:List Par->Bool
 | []=>true
 | .io _ _ :: _=>false
 | .os _ _ :: _=>false
 | .dat _ :: r=>Ci r
 | .agg _ :: r=>Ci r
 | .fn _ _ :: r=>Ci r
 | .nof _ :: r=>Ci r
 | .nil :: r=>Ci r
def Z1:List Par->Bool
 | []=>true
 | .io _ _ :: r=>Ci r
 | .os _ _ :: r=>Ci r
 | .dat _ :: r=>Z1 r
 | .agg _ :: r=>Z1 r
 | .fn _ _ :: r=>Z1 r
 | .nof _ :: r=>Z1 r
 | .nil :: r=>Z1 r
theorem Ix:∀{ps:List Par} {i:Nat} {x:w9 ps},Ci ps=true->H2 i ps x=[]
 | [],_,_,_=>rfl
 | .io _ _ :: _,_,_,h=>by cases h
 | .os _ _ :: _,_,_,h=>by cases h
 | .dat _ :: r,i,x,h=>Ix (ps:=r) (i:=i+1) h
 | .agg _ :: r,i,x,h=>Ix (ps:=r) (i:=i+1) h
 | .fn _ _ :: r,i,x,h=>Ix (ps:=r) (i:=i+1) h
 | .nof _ :: r,i,x,h=>Ix (ps:=r) (i:=i+1) h
 | .nil :: r,i,x,h=>Ix (ps:=r) (i:=i+1) h
theorem Ky{K:Nat->Prop}{w:World}{go:Option Nat}:∀{ps:List Par} {z:B1 ps},Ci ps=true->IOR K w go ps z
 | [],_,_=>trivial
 | .io _ _ :: _,_,h=>by cases h
 | .os _ _ :: _,_,h=>by cases h
 | .dat _ :: r,z,h=>Ky (ps:=r) h
 | .agg _ :: r,z,h=>Ky (ps:=r) h
 | .fn _ _ :: r,z,h=>Ky (ps:=r) h
 | .nof _ :: r,z,h=>Ky (ps:=r) h
 | .nil :: r,z,h=>Ky (ps:=r) h
theorem Kz:∀{ps:List Par},Ci ps=true->¬D9 ps=true
 | [],_=>fun e=>by cases e
 | .io _ _ :: _,h=>by cases h
 | .os _ _ :: _,h=>by cases h
 | .dat _ :: r,h=>Kz (ps:=r) h
 | .agg _ :: r,h=>Kz (ps:=r) h
 | .fn _ _ :: r,h=>Kz (ps:=r) h
 | .nof _ :: r,h=>Kz (ps:=r) h
 | .nil :: r,h=>Kz (ps:=r) h
theorem KA{K:Nat->Prop}{w:World}{go:Option Nat}:∀{ps:List Par} {z:B1 ps},Z1 ps=true->D9 ps=true->IOR K w go ps z
 | [],_,_,_=>trivial
 | .io _ _ :: r,_,h,g=>(Kz (ps:=r) h g).elim
 | .os _ _ :: r,_z,h,_=>Ky (ps:=r) h
 | .dat _ :: r,_z,h,g=>KA (ps:=r) h g
 | .agg _ :: r,_z,h,g=>KA (ps:=r) h g
 | .fn _ _ :: r,_z,h,g=>KA (ps:=r) h g
 | .nof _ :: r,_z,h,g=>KA (ps:=r) h g
 | .nil :: r,_z,h,g=>KA (ps:=r) h g
theorem Iy:∀{ps:List Par},Ci ps=true->Z1 ps=true
 | [],_=>rfl
 | .io _ _ :: _,h=>by cases h
 | .os _ _ :: _,h=>by cases h
 | .dat _ :: r,h=>Iy (ps:=r) h
 | .agg _ :: r,h=>Iy (ps:=r) h
 | .fn _ _ :: r,h=>Iy (ps:=r) h
 | .nof _ :: r,h=>Iy (ps:=r) h
 | .nil :: r,h=>Iy (ps:=r) h
def Iz(o:Option (Nat×Value)):Nat->Value->Prop:=fun i v=>o=some (i,v)
def Ao:List Par->List Value->Value
 | .io _ _ :: _,v :: _=>v
 | .os _ _ :: _,v :: _=>v
 | _ :: r,_ :: us=>Ao r us
 | _,_=>undef
def CZ(K:Nat->Prop)(w:World)(go:Option Nat)(r0:Value)(B:Nat)(o:List (Nat×Ob)):Gh:=⟨fun _=>r0,fun _=>go,K,w,o,B,fun _ _=>False⟩
@[reducible] def cx (P:Program) (n:Nat) (y:World×(Nat->Prop)×(Nat->Prop)×(Nat->Value->Prop)×Nat):Cx:=⟨P,n,y.1,y.2.1,y.2.2.1,y.2.2.2.1,y.2.2.2.2⟩
def L5(ps:List Par)(w:World):Nat:=bif D9 ps then 0 else w.heap.size
theorem YZ{ps:List Par}{w:World}(h:¬D9 ps=true):L5 ps w=w.heap.size:=by
 grind[L5]
theorem k0F{ps:List Par}{w:World}(h:D9 ps=true):L5 ps w=0:=by
 grind[L5]
theorem w0x(ps:List Par)(w:World):L5 ps w<=w.heap.size:=by
 by_cases h:D9 ps=true
 ·rw[k0F h]; exact Nat.zero_le _
 ·rw[YZ h]; exact Nat.le_refl _
theorem Tc{K:Nat->Prop}{w:World}{go:Option Nat}{r0:Value}{B:Nat}{o:List (Nat×Ob)}{t:Ty}{us:List Value}{x:j7 t}(h:RT K w t us x):RT (rg (CZ K w go r0 B o) false) (CZ K w go r0 B o).w t us x :=
 RT.up h (fun _ a=>⟨a,fun e=>by cases e⟩)
theorem Gv{K:Nat->Prop}{w:World}:∀{ps:List Par} {i:Nat} {x:w9 ps} {vs:List Value} {go:Option Nat},ArgsR K w go ps x vs ->
  (H2 i ps x=[]/\go=none/\s9 i ps go=none/\¬D9 ps=true)∨(∃j b T t z cs,H2 i ps x=[(500000+j,.box T (p8 false t z))]/\go=some b/\s9 i ps go=some (j,.pointer (some ⟨b,0,none⟩))/\Ao ps vs=.pointer (some ⟨b,0,none⟩)/\Blk w b cs T/\RT K w t cs z/\¬K b) ∨
    ∃j E t,∃xs:List (j7 t),∃cs,H2 i ps x=[(500000+j,.arr E true t xs 0)]/\s9 i ps go=none/\(Ao ps vs).oneCell'=true/\Own w E (sz t) go (Ao ps vs) xs.length cs/\AllR (RT K w t) cs xs/\(∀b,go=some b->¬K b)/\D9 ps=true
 | [],i,x,vs,go,h=>.inl ⟨rfl,h.2,rfl,fun e=>by cases e⟩
 | .dat t :: r,i,x,vs,go,⟨v,us,e,_,h⟩=>by
   subst e;have:=Gv (i:=i+1) h;cases go <;> exact this
 | .agg t :: r,i,x,vs,go,⟨v,us,e,_,h⟩=>by
   subst e;have:=Gv (i:=i+1) h;cases go <;> exact this
 | .fn f t :: r,i,x,vs,go,⟨v,us,e,_,h⟩=>by
   subst e;have:=Gv (i:=i+1) h;cases go <;> exact this
 | .nof f :: r,i,x,vs,go,⟨us,e,h⟩=>by
   subst e;have:=Gv (i:=i+1) h;cases go <;> exact this
 | .nil :: r,i,x,vs,go,⟨us,e,h⟩=>by
   subst e;have:=Gv (i:=i+1) h;cases go <;> exact this
 | .io T t :: r,i,x,vs,go,⟨b,cs,us,e,hgo,h1,h2,h3,h⟩=>by
   subst hgo;subst e;exact .inr (.inl ⟨i,b,T,t,x.1,cs,rfl,rfl,rfl,rfl,h2,h3,h1⟩)
 | .os E t :: r,i,x,vs,go,⟨v,cs,us,e,h1,h2,h3,h4,h⟩=>by
   subst e;exact .inr (.inr ⟨i,E,t,x.1,cs,rfl,(by cases go <;> rfl),h2,h3,h4,h1,rfl⟩)
theorem DX{K:Nat->Prop}{w:World}{o:List (Nat×Ob)}{g0:Option Nat}{r0:Value}{B:Nat}:∀{ps:List Par} {i:Nat} {x:w9 ps} {vs:List Value} {go:Option Nat},Z1 ps=true->ArgsR K w go ps x vs->(H2 i ps x≠[]->Ao ps vs=r0)->(∀z∈H2 i ps x,c7 o z.1=some z.2) ->
  ∀t s,c7 (O1 i ps x) t=some s->i<=t/\s.p=[]/\∃u,vs[t-i]?=some u/\AVR (CZ K w g0 r0 B o) s.a u
 | [],i,x,vs,go,_,h,_,_,t,s,ht=>by cases ht
 | .dat ty :: r,i,x,vs,go,hn,⟨v,us,e,h1,h⟩,hg,hz,t,s,ht=>by
   subst e;unfold O1 at ht;rw[lK] at ht;split at ht
   ·rename_i e; subst e; cases ht; exact⟨Nat.le_refl _,rfl,v,by simp,Tc h1⟩
   ·obtain⟨l,d,u,m,c⟩:=DX (ps:=r) (i:=i+1) hn h hg hz t s ht;exact⟨by omega,d,u,by grind,c⟩
 | .agg ty :: r,i,x,vs,go,hn,⟨v,us,e,h1,h⟩,hg,hz,t,s,ht=>by
   subst e;unfold O1 at ht;rw[lK] at ht;split at ht
   ·rename_i e; subst e; cases ht; exact⟨Nat.le_refl _,rfl,_,by simp,v,rfl,DS (Tc h1)⟩
   ·obtain⟨l,d,u,m,c⟩:=DX (ps:=r) (i:=i+1) hn h hg hz t s ht;exact⟨by omega,d,u,by grind,c⟩
 | .fn f ty :: r,i,x,vs,go,hn,⟨v,us,e,h1,h⟩,hg,hz,t,s,ht=>by
   subst e;unfold O1 at ht;rw[lK] at ht;split at ht
   ·rename_i e; subst e; cases ht; exact⟨Nat.le_refl _,rfl,_,by simp,v,rfl,DS (Tc h1)⟩
   ·obtain⟨l,d,u,m,c⟩:=DX (ps:=r) (i:=i+1) hn h hg hz t s ht;exact⟨by omega,d,u,by grind,c⟩
 | .nof f :: r,i,x,vs,go,hn,⟨us,e,h⟩,hg,hz,t,s,ht=>by
   subst e;unfold O1 at ht;rw[lK] at ht;split at ht
   ·rename_i e; subst e; cases ht; exact⟨Nat.le_refl _,rfl,_,by simp,[],rfl,rfl⟩
   ·obtain⟨l,d,u,m,c⟩:=DX (ps:=r) (i:=i+1) hn h hg hz t s ht;exact⟨by omega,d,u,by grind,c⟩
 | .nil :: r,i,x,vs,go,hn,⟨us,e,h⟩,hg,hz,t,s,ht=>by
   subst e;unfold O1 at ht;rw[lK] at ht;split at ht
   ·rename_i e; subst e; cases ht; exact⟨Nat.le_refl _,rfl,_,by simp,rfl⟩
   ·obtain⟨l,d,u,m,c⟩:=DX (ps:=r) (i:=i+1) hn h hg hz t s ht;exact⟨by omega,d,u,by grind,c⟩
 | .io T ty :: r,i,x,vs,go,hn,⟨b,cs,us,e,hgo,h1,h2,h3,h⟩,hg,hz,t,s,ht=>by
   subst e;have k:Value.pointer (some ⟨b,0,none⟩)=r0:=hg (fun e=>by cases e);unfold O1 at ht;rw[lK] at ht;split at ht
   ·rename_i e; subst e; cases ht;exact⟨Nat.le_refl _,rfl,_,by simp,⟨_,_,hz _ (List.mem_singleton.2 rfl)⟩,b,k.symm,rfl⟩
   ·have j:H2 (i+1) r x.2=[]:=Ix hn;obtain⟨l,d,u,m,c⟩:=DX (ps:=r) (i:=i+1) (Iy hn) h (fun e=>(e j).elim) (fun z g=>by rw[j] at g; cases g) t s ht;exact⟨by omega,d,u,by grind,c⟩
 | .os E ty :: r,i,x,vs,go,hn,⟨v,cs,us,e,h1,h2,h3,h4,h⟩,hg,hz,t,s,ht=>by
   subst e;have k:v=r0:=hg (fun e=>by cases e);unfold O1 at ht;rw[lK] at ht;split at ht
   ·rename_i e; subst e; cases ht;exact⟨Nat.le_refl _,rfl,_,by simp,h2,_,_,_,_,_,hz _ (List.mem_singleton.2 rfl),Nat.le_refl _,fun _=>k⟩
   ·have j:H2 (i+1) r x.2=[]:=Ix hn;obtain⟨l,d,u,m,c⟩:=DX (ps:=r) (i:=i+1) (Iy hn) h (fun e=>(e j).elim) (fun z g=>by rw[j] at g; cases g) t s ht;exact⟨by omega,d,u,by grind,c⟩
theorem ArgsR.len{K:Nat->Prop}{w:World}:∀{ps:List Par} {x:w9 ps} {vs:List Value} {go:Option Nat},ArgsR K w go ps x vs->vs.length=ps.length
 | [],x,vs,go,h=>by rw[h.1]; rfl
 | .dat t :: r,x,vs,go,⟨v,us,e,_,h⟩=>by rw[e,List.length_cons,h.len]; rfl
 | .agg t :: r,x,vs,go,⟨v,us,e,_,h⟩=>by rw[e,List.length_cons,h.len]; rfl
 | .fn f t :: r,x,vs,go,⟨v,us,e,_,h⟩=>by rw[e,List.length_cons,h.len]; rfl
 | .nof f :: r,x,vs,go,⟨us,e,h⟩=>by rw[e,List.length_cons,h.len]; rfl
 | .nil :: r,x,vs,go,⟨us,e,h⟩=>by rw[e,List.length_cons,h.len]; rfl
 | .io T t :: r,x,vs,go,⟨b,cs,us,e,_,_,_,_,h⟩=>by rw[e,List.length_cons,h.len]; rfl
 | .os E t :: r,x,vs,go,⟨v,cs,us,e,_,_,_,_,h⟩=>by rw[e,List.length_cons,h.len]; rfl
theorem m0C{P:Program}{n:Nat}{K:Nat->Prop}{w:World}{ps:List Par}{x:w9 ps}{vs:List Value}{go:Option Nat}(m:∀k,K k->k<w.heap.size)(h:ArgsR K w go ps x vs) :
  Sat (cx P n ⟨w,fun k=>go=some k,K,Iz (s9 0 ps go),L5 ps w⟩) (CZ K w go (Ao ps vs) (L5 ps w) (H2 0 ps x)):=by
 have m:∀k,K k->UFg w w.heap.size k:=fun k d=>⟨m k d,fun h=>absurd (m k d) (Nat.not_lt.2 h)⟩;have q:∀i,(CZ K w go (Ao ps vs) (L5 ps w) (H2 0 ps x)).γ i=go:=fun _=>rfl;have g:=w0x ps w;rcases Gv (i:=0) h with ⟨l,F,r,_⟩ | ⟨j,b,T,t,z,cs,l,F,r,hr,h1,h2,h3⟩ | ⟨j,E,t,xs,cs,l,r,h1,h2,h3,h4,hv⟩
 ·have a:∀i o,c7 (CZ K w go (Ao ps vs) (L5 ps w) (H2 0 ps x)).o i=some o->False:=fun i o e=>by
   have:c7 (H2 0 ps x) i=some o:=e;rw[l] at this; cases this
  refine⟨⟨rfl,g⟩,rfl,rfl,rfl,Nat.le_refl _,fun _ _ _=>rfl,fun i o e=>(a i o e).elim,fun i _ o _ _ e=>(a i o e).elim,fun i o _ e=>(a i o e).elim,fun i o _ e=>(a i o e).elim,m,fun k d=>.inl d,fun _ _ h=>h.elim,fun i v e=>?_⟩;have:s9 0 ps go=some (i,v):=e
  grind
 ·subst F;have a:∀i o,c7 (CZ K w (some b) (Ao ps vs) (L5 ps w) (H2 0 ps x)).o i=some o->i=500000+j/\o=.box T (p8 false t z):=fun i o e=>by
   have:c7 (H2 0 ps x) i=some o:=e;rw[l,lK] at this;split at this
   ·grind
   ·cases this
  refine⟨⟨rfl,g⟩,rfl,rfl,rfl,Nat.le_refl _,fun _ _ _=>rfl,fun i o e=>?_,fun i u o y _ e f _ _=>(a i o e).1.trans (a u y f).1.symm,fun i o s e f d=>?_,fun i o s e f=>.inr (by grind),m,fun k d=>.inl d,fun _ _ h=>h.elim,fun i v e=>?_⟩
  ·obtain⟨rfl,rfl⟩:=a i o e;exact⟨b,cs,rfl,hr,h1,DS (Tc h2)⟩
  ·rw[q] at f; cases f; exact h3 d
  ·have:s9 0 ps (some b)=some (i,v):=e;rw[r] at this;cases this;refine⟨⟨T,p8 false t z,?_⟩,b,hr,rfl⟩;show c7 (H2 0 ps x) _=_;rw[l,lK,if_pos rfl]
 ·have a:∀i o,c7 (CZ K w go (Ao ps vs) (L5 ps w) (H2 0 ps x)).o i=some o->i=500000+j/\o=.arr E true t xs 0:=fun i o e=>by
   have:c7 (H2 0 ps x) i=some o:=e;rw[l,lK] at this;split at this
   ·grind
   ·cases this
  have H:=k0F (w:=w) hv;refine⟨⟨rfl,g⟩,rfl,rfl,rfl,Nat.le_refl _,fun _ _ _=>rfl,fun i o e=>?_,fun i u o y _ e f _ _=>(a i o e).1.trans (a u y f).1.symm,fun i o s e f d=>?_,fun i o s e f=>.inr (by grind),m,fun k d=>.inl d,fun _ _ h=>h.elim,fun i v e=>?_⟩
  ·obtain⟨rfl,rfl⟩:=a i o e;exact⟨cs,h2,h3.mapR (fun c x G=>RT.up G (fun k d=>⟨d,fun _=>by show L5 ps w<=k; omega⟩)),fun b _=>by show L5 ps w<=b; omega⟩
  ·rw[q] at f; exact h4 s f d
  ·have:s9 0 ps go=some (i,v):=e;rw[r] at this;cases this
/- A value as the wanted result: on what condition, the rows handed over, the objects that become data. -/
mutual
def M8(o:List (Nat×Ob)):AV->AV->Option (Prop×List (Option Nat)×List Nat)
 | a,.ow T fr t xs=>match a with
   | .os id ver=>match c7 o id with
     | some (.arr T' fr' t' ys ver')=>bif Nat.beq ver ver'&&Nat.beq T' T then some ((fr=true->fr'=true)/\X2 (.sl t') (.sl t) ys=some xs,[some id],[]) else none
     | _=>none
   | .v x=>some (Iv x/\xs=[],[none],[])
   | _=>none
 | a,.d fr t x=>match G9 o 24 t [a] with
   | some (y,l,fl)=>some ((fr=true->fl=true)/\y=x,[],l)
   | none=>none
 | a,.ob T rs=>match a with
   | .ptr id 0=>match c7 o id with
     | some (.box T' cs)=>bif Nat.beq T' T then(match Da o cs rs with
       | some (q,m,f)=>some (q,some id :: m,f)
       | none=>none) else none
     | _=>none
   | _=>none
 | a,.v x=>match a with
   | .v y=>some (y=x,[],[])
   | _=>none
 | a,.agg rs=>match a with
   | .agg as'=>Da o as' rs
   | _=>none
 | a,.tup rs=>match a with
   | .tup as'=>Da o as' rs
   | _=>none
 | _,_=>none
def Da(o:List (Nat×Ob)):List AV->List AV->Option (Prop×List (Option Nat)×List Nat)
 | as',[]=>match as' with
   | []=>some (True,[],[])
   | _=>none
 | as',r :: rs=>match as' with
   | a :: t=>match M8 o a r with
     | some (q,m,f)=>match Da o t rs with
       | some (q',m',f')=>some (q/\q',m++m',f++f')
       | none=>none
     | none=>none
   | []=>none
end
def X6(G:Gh)(mv:List (Option Nat)):List (Option Nat):=mv.map fun o=>o.bind G.γ
def Za(G:Gh)(mv:List (Option Nat)):Prop:=∀id,some id∈mv->∃o,c7 G.o id=some o
mutual
theorem Td{X:Cx}{G:Gh}(S:Sat X G){K':Nat->Prop}(z:∀k,G.K k->K' k){Kf:Bool->Nat->Prop}(E:∀fr k,rk G K' fr k->Kf fr k):∀{a r:AV} {u:Value} {q:Prop} {mv:List (Option Nat)} {fz:List Nat},M8 G.o a r=some (q,mv,fz)->q->(∀id∈fz,(∃o,c7 G.o id=some o)->∀b,G.γ id=some b->K' b)->AVR G a u ->
  ResR Kf G.w r u (X6 G mv)/\Za G mv
 | a,.ow T fr t xs,u,q,mv,fz,h,hq,hz,f=>by
   unfold M8 at h;split at h
   ·rename_i id aG;split at h
    ·rename_i T' aF t' ys aB H;rw[ce] at h;split at h
     ·rename_i P;simp only[ba] at P;have Q:=nb P.1;have W:=nb P.2;subst Q; subst W;simp only[oi,pj] at h;obtain⟨rfl,rfl,rfl⟩:=h;obtain⟨g,j⟩:=hq;obtain⟨e,rfl⟩:=DR j;cases e;obtain⟨h0,T1,aC,t1,aD,aA,k1,k2,k3⟩:=f;rw[H] at k1;cases k1;have f:=k3 rfl;subst f;obtain⟨cs,g1,F,g3⟩:=S.obs id _ H;exact⟨⟨G.γ id,cs,rfl,h0,g1,F.mapR (fun c x hr=>RT.up hr (fun k n=>E fr k ⟨z k n.1,fun e=>n.2 (g e)⟩))⟩,fun i hi=>by
       grind⟩
     grind
    grind
   ·rename_i x;simp only[oi,pj] at h;obtain⟨rfl,rfl,rfl⟩:=h;obtain⟨g,rfl⟩:=hq;have g:=YQ g;have f:u=x:=f;subst f;subst g;exact⟨⟨none,[],rfl,rfl,.inl ⟨rfl,rfl,rfl,none,rfl⟩,rfl⟩,fun i hi=>by grind⟩
   grind
 | a,.d fr t x,u,q,mv,fz,h,hq,hz,f=>by
   unfold M8 at h;split at h
   ·rename_i y l fl Y;simp only[oi,pj] at h;obtain⟨rfl,rfl,rfl⟩:=h;obtain⟨g,rfl⟩:=hq;exact⟨⟨RT.up (Gf S z 24 Y (fun id s=>hz id s (Gk 24 Y id s)) ⟨u,[],rfl,f,rfl⟩) (fun k n=>E fr k ⟨n.1,fun e=>n.2 (g e)⟩),rfl⟩,fun i hi=>by cases hi⟩
   grind
 | a,.ob T rs,u,q,mv,fz,h,hq,hz,f=>by
   unfold M8 at h;split at h
   ·rename_i id;split at h
    ·rename_i T' cs H;rw[ce] at h;split at h
     ·rename_i V;have V:=nb V;subst V;split at h
      ·rename_i q1 m1 f1 g;simp only[oi,pj] at h;obtain⟨rfl,rfl,rfl⟩:=h;obtain⟨_,b,hb,rfl⟩:=f;obtain⟨b',m,g1,F,g3,g4⟩:=S.obs id _ H;rw[hb] at F;cases F;obtain⟨a1,a2⟩:=Tf S z E g hq hz g4;refine⟨⟨b,m,X6 G m1,by grind[X6],rfl,g3,a1⟩,fun i hi=>?_⟩;rcases List.mem_cons.1 hi with e | hi
       ·grind
       ·exact a2 i hi
      grind
     grind
    grind
   grind
 | a,.v x,u,q,mv,fz,h,hq,hz,f=>by
   unfold M8 at h;split at h
   ·simp only[oi,pj] at h;obtain⟨rfl,rfl,rfl⟩:=h;exact⟨⟨(show u=_ from f).trans hq,rfl⟩,fun i hi=>by cases hi⟩
   grind
 | a,.agg rs,u,q,mv,fz,h,hq,hz,f=>by
   unfold M8 at h;split at h
   ·obtain⟨m,e,f⟩:=f;obtain⟨g,j⟩:=Tf S z E h hq hz f;exact⟨⟨m,e,g⟩,j⟩
   grind
 | a,.tup rs,u,q,mv,fz,h,hq,hz,f=>by
   unfold M8 at h;split at h
   ·obtain⟨m,e,f⟩:=f;obtain⟨g,j⟩:=Tf S z E h hq hz f;exact⟨⟨m,e,g⟩,j⟩
   grind
 | a,.ptr _ _,u,q,mv,fz,h,hq,hz,f=>by grind[M8]
 | a,.pel _ _ _ _ _,u,q,mv,fz,h,hq,hz,f=>by grind[M8]
 | a,.os _ _,u,q,mv,fz,h,hq,hz,f=>by grind[M8]
 | a,.fn _ _,u,q,mv,fz,h,hq,hz,f=>by grind[M8]
 | a,.gel _ _,u,q,mv,fz,h,hq,hz,f=>by grind[M8]
 | a,.og _,u,q,mv,fz,h,hq,hz,f=>by grind[M8]
theorem Tf{X:Cx}{G:Gh}(S:Sat X G){K':Nat->Prop}(j:∀k,G.K k->K' k){Kf:Bool->Nat->Prop}(l:∀fr k,rk G K' fr k->Kf fr k):∀{as' rs:List AV} {us:List Value} {q:Prop} {mv:List (Option Nat)} {fz:List Nat},Da G.o as' rs=some (q,mv,fz)->q->(∀id∈fz,(∃o,c7 G.o id=some o)->∀b,G.γ id=some b->K' b)->AVRs G as' us ->
  ResRs Kf G.w rs us (X6 G mv)/\Za G mv
 | as',[],us,q,mv,fz,h,hq,hz,hu=>by
   unfold Da at h;split at h
   ·simp only[oi,pj] at h;obtain⟨rfl,rfl,rfl⟩:=h;exact⟨⟨hu,rfl⟩,fun i hi=>by cases hi⟩
   grind
 | as',r :: rs,us,q,mv,fz,h,hq,hz,hu=>by
   unfold Da at h;split at h
   ·rename_i a t;split at h
    ·rename_i H v F n;split at h
     ·rename_i P x Q m;simp only[oi,pj] at h;obtain⟨rfl,rfl,rfl⟩:=h;obtain⟨u,c,e,f,d⟩:=hu;obtain⟨s,E⟩:=Td S j l n hq.1 (fun id g=>hz id (by grind)) f;obtain⟨z,y⟩:=Tf S j l m hq.2 (fun id g=>hz id (by grind)) d;refine⟨⟨u,c,X6 G v,X6 G x,e,by simp[X6],s,z⟩,fun i hi=>?_⟩;rcases List.mem_append.1 hi with h | h
      ·exact E i h
      ·exact y i h
     grind
    grind
   grind
end
def Z2(o:List (Nat×Ob)):Nat->(ps:List Par)->B1 ps->Option (Prop×List Nat×Option Nat)
 | _,[],_=>some (True,[],none)
 | i,.io T t :: _,z=>match c7 o (500000+i) with
   | some (.box T' cs)=>bif Nat.beq T' T then(match G9 o 24 t cs with
     | some (y,l,_)=>some (y=z,l,some (500000+i))
     | none=>none) else none
   | _=>none
 | i,.dat _ :: r,z=>Z2 o (i+1) r z
 | i,.agg _ :: r,z=>Z2 o (i+1) r z
 | i,.fn _ _ :: r,z=>Z2 o (i+1) r z
 | i,.nof _ :: r,z=>Z2 o (i+1) r z
 | i,.nil :: r,z=>Z2 o (i+1) r z
 | i,.os _ _ :: r,z=>Z2 o (i+1) r z
def OE(Γ:p5)(st:St):ResultVar->Option (Prop×AV)
 | .tmp t=>match c7 st.e t with
   | some ⟨[],a⟩=>some (True,a)
   | _=>none
 | .cell t ty=>match c7 st.e t with
   | some ⟨[],p⟩=>match X4 st.o p with
     | some (cs,_)=>match c7 Γ ty with
       | some ti=>match Kr ti cs with
         | some a=>some (Cc st.o p,a)
         | none=>none
       | none=>none
     | none=>none
   | _=>none
def IA(Γ:p5)(st:St):List ResultVar->Option (Prop×List AV)
 | []=>some (True,[])
 | r :: rs=>match OE Γ st r with
   | some (q,a)=>match IA Γ st rs with
     | some (q',l)=>some (q/\q',a :: l)
     | none=>none
   | none=>none
def IB(tmps:Array Value):ResultVar->Sem Value
 | .tmp t=>pure (tmps.getD t undef)
 | .cell a t=>do loadVar t (<- asAddr (tmps.getD a undef))
theorem s0d{X:Cx}{Γ:p5}(s:x7 X.P Γ){G:Gh}{st:St}{a:Act}(S:Sat X G)(ho:G.o=st.o)(F:EnvR X.n G st.e a){r:ResultVar}{q:Prop}{b:AV}(h:OE Γ st r=some (q,b))(T:q) :
  ∃v,(IB a.tmps r).run X.P G.w=.ok v G.w/\AVR G b v:=by
 unfold OE at h;split at h
 ·rename_i t;split at h
  ·rename_i a0 x;simp only[oi,pj] at h;obtain⟨rfl,rfl⟩:=h;exact⟨_,rfl,(F.val t _ x).1 (fun _ h=>by cases h)⟩
  grind
 ·rename_i t k;split at h
  ·rename_i p x;split at h
   ·rename_i cs l E;split at h
    ·rename_i f z;split at h
     ·rename_i av d;simp only[oi,pj] at h;obtain⟨rfl,rfl⟩:=h;rw[<- ho] at E T;obtain⟨bk,o,W,hp,g,y⟩:=Yg S E T ((F.val t _ x).1 (fun _ h=>by cases h));obtain⟨hi,aA,_,_,m⟩:=s _ _ z;have m:=C0g m;have i:∀v,(loadVar k ⟨bk,o,none⟩).run X.P G.w=.ok v G.w->(IB a.tmps (.cell t k)).run X.P G.w=.ok v G.w:=fun v hv=>by
       grind[undef,Array.getD_eq_getD_getElem?,IB,asAddr]
      unfold Kr at d;rw[ce] at d;split at d
      ·rename_i H;rw[ce] at d;split at d
       ·rename_i j;simp only[oi] at d; subst d;have j:=Nat.le_of_ble_eq_true j
        haveI:Sf X.P k:=⟨m.1 H⟩
        haveI:Info X.P k f.size f.bytes f.zero:=⟨hi⟩
        have Q:=y.len;exact⟨_,i _ (i0s (by grind) (Yd g f.size)),W.take f.size,rfl,(y.take _).1⟩
       grind
      ·rename_i H;split at d
       ·rename_i c r;simp only[oi] at d; subst d
        haveI:Sc X.P k:=⟨m.2 (by grind)⟩
        obtain⟨u,V,rfl,Y,_⟩:=y;exact⟨u,i _ (i0r (by simpa using g 0 u rfl)),Y⟩
       grind
     grind
    grind
   grind
  grind
theorem h0Y{X:Cx}{Γ:p5}(c:x7 X.P Γ){G:Gh}{st:St}{a:Act}(S:Sat X G)(f:G.o=st.o)(g:EnvR X.n G st.e a):∀{rs:List ResultVar} {q:Prop} {bs:List AV},IA Γ st rs=some (q,bs)->q ->
  ∃vs,(rs.mapM (IB a.tmps)).run X.P G.w=.ok vs G.w/\AVRs G bs vs/\vs.length=rs.length
 | [],q,bs,h,hq=>by
   simp only[IA,oi,pj] at h;obtain⟨rfl,rfl⟩:=h;exact⟨[],rfl,rfl,rfl⟩
 | r :: rs,q,bs,h,hq=>by
   unfold IA at h;split at h
   ·rename_i t b k;split at h
    ·rename_i x l i;simp only[oi,pj] at h;obtain⟨rfl,rfl⟩:=h;obtain⟨v,s,j⟩:=s0d c S f g k hq.1;obtain⟨vs,u,d,m⟩:=h0Y c S f g i hq.2;exact⟨v :: vs,by simp_all,⟨v,vs,rfl,j,d⟩,by grind⟩
    grind
   grind
def Zb:List AV->AV
 | [a]=>a
 | as'=>.tup as'
def M0y:List Value->Value
 | [v]=>v
 | vs=>.tuple vs.toArray
theorem Zc{G:Gh}{c:List AV}{vs:List Value}(h:AVRs G c vs):AVR G (Zb c) (M0y vs):=by
 match c,vs,h with
 | [],vs,h=>have h:vs=[]:=h; subst h; exact⟨[],rfl,rfl⟩
 | [a],vs,⟨u,us,e,h1,d⟩=>have d:us=[]:=d; subst d; subst e; exact h1
 | a :: b :: r,vs,⟨u,us,e,h1,u2,us2,e2,d,h3⟩=>subst e2; subst e; exact⟨u :: u2 :: us2,rfl,u,_,rfl,h1,u2,us2,rfl,d,h3⟩
theorem h0X{b:Func}{rs:List ResultVar}(c:b.results=rs.toArray){P:Program}{a:Array Value}{w:World}{vs:List Value}(h:(rs.mapM (IB a)).run P w=.ok vs w):(results b a).run P w=.ok (M0y vs) w:=by
 have d:results b a=(do
   let vs <- Array.mapM (IB a) rs.toArray
   pure (if h:vs.size=1 then vs[0] else .tuple vs)):=by
  unfold results;rw[c];congr 1
 have:(Array.mapM (IB a) rs.toArray).run P w=.ok vs.toArray w:=by
  rw[List.mapM_toArray];simp[h,Result.andThen]
 rw[d];simp only[Sem.run_bind,this,Result.andThen]
 match vs with
 | []=>rfl
 | [v]=>rfl
 | v :: u :: r=>rfl
def onceN:List (Option Nat)->Bool
 | []=>true
 | none :: r=>onceN r
 | some i :: r=>notInS i r&&onceN r
where notInS (i:Nat):List (Option Nat)->Bool
 | []=>true
 | none :: r=>notInS i r
 | some j :: r=>!(Nat.beq i j)&&notInS i r
def OF(mv:List (Option Nat)):List Nat->Bool
 | []=>true
 | i :: r=>onceN.notInS i mv&&OF mv r
theorem OG{i:Nat}:∀{l:List (Option Nat)},onceN.notInS i l=true->some i ∉ l
 | [],_=>by simp
 | none :: r,h=>by
   have:=OG (l:=r) h;simpa using this
 | some j :: r,h=>by
   simp only[onceN.notInS,ba,Bool.not_eq_true'] at h;have:=OG h.2;simp only[List.mem_cons,oi,not_or];exact⟨fun e=>by simp_all,this⟩
theorem r0r{mv:List (Option Nat)}:∀{l:List Nat},OF mv l=true->∀i∈l,some i ∉ mv
 | j :: r,h,i,hi=>by
   simp only[OF,ba] at h;rcases List.mem_cons.1 hi with rfl | hi
   ·grind[OG]
   ·exact r0r h.2 i hi
theorem Tg{X:Cx}{G:Gh}(S:Sat X G):∀{mv:List (Option Nat)},onceN mv=true->Za G mv->CT (X6 G mv)
 | [],_,_=>trivial
 | none :: r,h,ha=>⟨(fun b e=>by cases e),Tg S (mv:=r) h (fun i hi=>ha i (List.mem_cons_of_mem _ hi))⟩
 | some i :: r,h,ha=>by
   simp only[onceN,ba] at h;refine⟨fun b e c=>?_,Tg S h.2 (fun i hi=>ha i (List.mem_cons_of_mem _ hi))⟩;have e:G.γ i=some b:=e;obtain⟨o,f,a⟩:=List.mem_map.1 c;cases o with
   | none=>grind
   | some j =>
     have a:G.γ j=some b:=a;obtain⟨_,g⟩:=ha i (by simp);obtain⟨_,d⟩:=ha j (List.mem_cons_of_mem _ f);have:=S.inj i j _ _ b g d e a
     grind[OG]
def Th(f:Nat->Bool):Option Nat->Bool
 | none=>true
 | some i=>f i
/- Data that lead nowhere. -/
mutual
def DY:AV->Bool
 | .d _ t _=>G7 t
 | .ow _ _ t _=>G7 t
 | .ob _ xs=>KB xs
 | .agg xs=>KB xs
 | .tup xs=>KB xs
 | _=>true
def KB:List AV->Bool
 | []=>true
 | a :: r=>DY a&&KB r
end
mutual
theorem ResR.kf{K K':Bool->Nat->Prop}{w:World}:∀{a:AV} {u:Value} {gs:List (Option Nat)},DY a=true->ResR K w a u gs->ResR K' w a u gs
 | .v _,_,_,_,h=>h
 | .d fr t x,u,gs,hf,⟨h,e⟩=>⟨RT.free (by grind[DY]) h,e⟩
 | .ow T fr t xs,u,gs,hf,⟨g,cs,h1,h2,h3,h4⟩=>⟨g,cs,h1,h2,h3,h4.mapR (fun c x h=>RT.free (by grind[DY]) h)⟩
 | .agg xs,u,gs,hf,⟨us,e,h⟩=>⟨us,e,ResRs.kf (by grind[DY]) h⟩
 | .ob T xs,u,gs,hf,⟨b,us,gs',e1,e2,h1,h⟩=>⟨b,us,gs',e1,e2,h1,ResRs.kf (by grind[DY]) h⟩
 | .tup xs,u,gs,hf,⟨us,e,h⟩=>⟨us,e,ResRs.kf (by grind[DY]) h⟩
theorem ResRs.kf{K K':Bool->Nat->Prop}{w:World}:∀{as':List AV} {us:List Value} {gs:List (Option Nat)},KB as'=true->ResRs K w as' us gs->ResRs K' w as' us gs
 | [],_,_,_,h=>h
 | a :: r,us,gs,hf,⟨u,us',g1,g2,e1,e2,h1,h2⟩=>by
   simp only[KB,ba] at hf;exact⟨u,us',g1,g2,e1,e2,ResR.kf hf.1 h1,ResRs.kf hf.2 h2⟩
end
def Gw(Γ:p5)(st:St)(rs:List ResultVar)(r:AV)(ps:List Par)(z:B1 ps):Prop :=
 match IA Γ st rs with
 | some (q0,as')=>match M8 st.o (Zb as') r with
   | some (q,mv,fz)=>match Z2 st.o 0 ps z with
     | some (q',fz',pin)=>bif onceN mv&&OF mv (fz++fz')&&Th (fun i=>Gm i (fz++fz')) pin&&(!D9 ps||DY r)&&Th (fun i=>onceN.notInS i mv) pin then q0/\q/\q' else False
     | none=>False
   | none=>False
 | none=>False
def KC(c:Ct)(x:w9 c.ps)(w:World)(go:Option Nat)(K:Nat->Prop)(en:Ending)(w':World):Prop :=
 ∃v gs,en=.returned v/\WE go w w'/\CT gs/\(∀b,some b∈gs->w.heap.size<=b∨(D9 c.ps=true/\go=some b))/\ResR (fun fr=>Om fr K w w' gs) w' (c.res x).r v gs /\
  IOR (fun k=>(K k∨w.heap.size<=k)/\UFg w' w.heap.size k/\some k ∉ gs/\go≠some k) w' go c.ps (c.res x).z
theorem IC{X:Cx}{G:Gh}(S:Sat X G){K' Kf:Nat->Prop}(a:∀k,G.K k->K' k)(c:∀k,K' k->Kf k){go:Option Nat}:∀{ps:List Par} {i:Nat} {z:B1 ps} {q:Prop} {fz:List Nat} {pin:Option Nat},¬D9 ps=true->Z2 G.o i ps z=some (q,fz,pin)->q->X.pin=Iz (s9 i ps go)->((∃b,go=some b)∨pin=none) ->
  (∀id∈fz,(∃o,c7 G.o id=some o)->∀b,G.γ id=some b->K' b)->IOR Kf G.w go ps z/\∀id,pin=some id->∃T cs,c7 G.o id=some (.box T cs)/\G.γ id=go
 | .os _ _ :: _,_,_,_,_,_,hv,_,_,_,_,_=>(hv rfl).elim
 | [],i,z,q,fz,pin,_,h,hq,_,_,_=>by
   simp only[Z2,oi,pj] at h;obtain⟨_,_,rfl⟩:=h;exact⟨trivial,fun _ e=>by cases e⟩
 | .io T t :: r,i,z,q,fz,pin,_,h,hq,hp,hg,hz=>by
   unfold Z2 at h;split at h
   ·rename_i V cs v;rw[ce] at h;split at h
    ·rename_i g;have g:=nb g;subst g;split at h
     ·rename_i y l W j;simp only[oi,pj] at h;obtain⟨rfl,rfl,rfl⟩:=h;obtain rfl:=hq;rcases hg with ⟨b,rfl⟩ | hg
      ·obtain⟨_,P,E,F⟩:=S.pin i (.pointer (some ⟨b,0,none⟩)) (by rw[hp]; rfl);cases F;obtain⟨Q,n,H,m,u,s⟩:=S.obs _ _ v;rw[E] at m;cases m;exact⟨⟨b,n,rfl,u,RT.up (Gf S a 24 j (fun id d=>hz id d (Gk 24 j id d)) s) (fun k x=>c k x.1)⟩,fun id e=>by grind⟩
      grind
     grind
    grind
   grind
 | .dat t :: r,i,z,q,fz,pin,hv,h,hq,hp,hg,hz=>IC (ps:=r) (i:=i+1) S a c hv h hq (by cases go <;> exact hp) hg hz
 | .agg t :: r,i,z,q,fz,pin,hv,h,hq,hp,hg,hz=>IC (ps:=r) (i:=i+1) S a c hv h hq (by cases go <;> exact hp) hg hz
 | .fn f t :: r,i,z,q,fz,pin,hv,h,hq,hp,hg,hz=>IC (ps:=r) (i:=i+1) S a c hv h hq (by cases go <;> exact hp) hg hz
 | .nof f :: r,i,z,q,fz,pin,hv,h,hq,hp,hg,hz=>IC (ps:=r) (i:=i+1) S a c hv h hq (by cases go <;> exact hp) hg hz
 | .nil :: r,i,z,q,fz,pin,hv,h,hq,hp,hg,hz=>IC (ps:=r) (i:=i+1) S a c hv h hq (by cases go <;> exact hp) hg hz
theorem KD{K:Nat->Prop}{w:World}{o:List (Nat×Ob)}:∀{ps:List Par} {i:Nat} {x:w9 ps} {vs:List Value} {go:Option Nat} {z:B1 ps} {q:Prop} {fz:List Nat} {pin:Option Nat},¬D9 ps=true->ArgsR K w go ps x vs->Z2 o i ps z=some (q,fz,pin)->(go=none/\pin=none)∨∃b j,go=some b/\pin=some j
 | .os _ _ :: _,_,_,_,_,_,_,_,_,hv,_,_=>(hv rfl).elim
 | [],i,x,vs,go,z,q,fz,pin,_,ha,h=>by
   simp only[Z2,oi,pj] at h;exact .inl ⟨ha.2,h.2.2.symm⟩
 | .io T t :: r,i,x,vs,go,z,q,fz,pin,_,⟨b,_,_,_,hg,_⟩,h=>by
   grind[Z2]
 | .dat t :: r,i,x,vs,go,z,q,fz,pin,hv,⟨_,_,_,_,ha⟩,h=>KD (ps:=r) (i:=i+1) hv ha h
 | .agg t :: r,i,x,vs,go,z,q,fz,pin,hv,⟨_,_,_,_,ha⟩,h=>KD (ps:=r) (i:=i+1) hv ha h
 | .fn f t :: r,i,x,vs,go,z,q,fz,pin,hv,⟨_,_,_,_,ha⟩,h=>KD (ps:=r) (i:=i+1) hv ha h
 | .nof f :: r,i,x,vs,go,z,q,fz,pin,hv,⟨_,_,ha⟩,h=>KD (ps:=r) (i:=i+1) hv ha h
 | .nil :: r,i,x,vs,go,z,q,fz,pin,hv,⟨_,_,ha⟩,h=>KD (ps:=r) (i:=i+1) hv ha h
theorem Zd{P:Program}{n:Nat}{Γ:p5}(aK:x7 P Γ){c:Ct}{x:w9 c.ps}{w:World}{K:Nat->Prop}{go:Option Nat}{vs:List Value}(aN:Z1 c.ps=true)(ha:ArgsR K w go c.ps x vs)
  {fn:Func} {rs:List ResultVar} (hr:fn.results=rs.toArray) {st:St} (h:Gw Γ st rs (c.res x).r c.ps (c.res x).z) :
  ∀G a,Sat (cx P n ⟨w,fun k=>go=some k,K,Iz (s9 0 c.ps go),L5 c.ps w⟩) G->G.o=st.o->EnvR n G st.e a->a.defers=[]/\∃v,(results fn a.tmps).run P G.w=.ok v G.w/\KC c x w go K (.returned v) G.w:=by
 intro G a S ho hE;unfold Gw at h;split at h
 ·rename_i q0 aT h0;split at h
  ·rename_i q E fz i;split at h
   ·rename_i q' aG aQ F;rw[ce] at h;split at h
    ·rename_i u;simp only[ba] at u;obtain⟨⟨⟨⟨aF,aI⟩,aH⟩,aB⟩,aD⟩:=u;obtain⟨aL,hq,aC⟩:=h;obtain⟨us,e1,hu,_⟩:=h0Y (X:=cx P n ⟨w,fun k=>go=some k,K,Iz (s9 0 c.ps go),L5 c.ps w⟩) aK S ho hE h0 aL;rw[<- ho] at i F;have aS:=r0r aI;obtain⟨_,m⟩:=Td (K':=fun _=>True) (Kf:=fun _ _=>True) S (fun _ _=>trivial) (fun _ _ _=>trivial) i hq (fun _ _ _ _ _=>trivial) (Zc hu);have y:∀k,some k∈X6 G E->∃id,some id∈E/\G.γ id=some k:=fun k d=>by
      obtain⟨o,i,F⟩:=List.mem_map.1 d;cases o with
      | none=>cases F
      | some id=>grind
     by_cases l:D9 c.ps=true
     ·obtain⟨hR,_⟩:=Td (K':=fun _=>True) (Kf:=fun _ _=>True) S (fun _ _=>trivial) (fun _ _ _=>trivial) i hq (fun _ _ _ _ _=>trivial) (Zc hu);rw[l,Bool.not_true,Bool.false_or] at aB;refine⟨hE.defers,_,h0X hr e1,_,X6 G E,rfl,⟨S.os,S.tape,S.output,S.size,fun k d hg=>S.block k d hg⟩,Tg S aF m,fun b u=>?_,ResR.kf aB hR,KA aN l⟩;obtain⟨j,W,V⟩:=y b u;obtain⟨_,Q⟩:=m j W;rcases S.own j _ b Q V with h | h
      ·grind
      grind
     have aJ:=YZ (w:=w) l;have aA:=KD l ha F;obtain⟨_,s⟩:=IC (K':=fun _=>True) (Kf:=fun _=>True) (go:=go) S (fun _ _=>trivial) (fun _ _=>trivial) l F aC rfl (by
      grind) (fun _ _ _ _ _=>trivial)
     have aP:∀id∈fz++aG,∀o,c7 G.o id=some o->∀k,G.γ id=some k->w.heap.size<=k/\UFg G.w w.heap.size k/\some k ∉ X6 G E/\go≠some k:=fun id Y o f k d=>by
      have aM:go≠some k:=fun e=>by
       rcases aA with ⟨h,_⟩ | ⟨b,j,h,hj⟩
       ·grind
       ·obtain⟨T,cs,k1,k2⟩:=s j hj;have:=S.inj id j _ _ k f k1 d (k2.trans e);subst this;rw[hj] at aH;exact Io aH Y
      refine⟨?_,?_,?_,aM⟩
      ·rcases S.own id o k f d with h | h
       ·exact h
       grind
      ·have:=S.obs id o f;cases o with
       | box T cs=>obtain⟨b',us,i,F,h3,h4⟩:=this; rw[d] at i; cases i; exact(XY h3).g
       | arr T fr t xs aU=>obtain⟨cs,i,F,_⟩:=this; rw[d] at i; exact(Ge i).g
       | grd T Te fr t xs aO=>obtain⟨vs,bs,i,_⟩:=this; rw[d] at i; exact(Ge i).g
      ·intro hm;obtain⟨j,W,V⟩:=y k hm;obtain⟨_,Q⟩:=m j W;have:=S.inj id j _ _ k f Q d V
       grind
     have aR:∀k,G.K k->(K k∨w.heap.size<=k)/\UFg G.w w.heap.size k/\some k ∉ X6 G E/\go≠some k:=fun k d=>by
      refine⟨by
       have h:K k∨L5 c.ps w<=k:=S.kfrom k d
       rwa [aJ] at h,S.klt k d,fun hm=>?_,fun e=>?_⟩
      ·obtain⟨j,W,V⟩:=y k hm;obtain⟨_,Q⟩:=m j W;exact S.imm j _ k Q V d
      ·rcases aA with ⟨h,_⟩ | ⟨b,j,h,hj⟩
       ·grind
       ·obtain⟨T,cs,k1,k2⟩:=s j hj;exact S.imm j _ k k1 (k2.trans e) d
     let K':Nat->Prop:=fun k=>G.K k∨∃id∈fz++aG,G.γ id=some k/\∃o,c7 G.o id=some o
     have H:∀k,K' k->(K k∨w.heap.size<=k)/\UFg G.w w.heap.size k/\some k ∉ X6 G E/\go≠some k:=fun k d=>by
      grind
     obtain⟨hR,_⟩:=Td (K':=K') (Kf:=fun fr=>Om fr K w G.w (X6 G E)) S (fun _ h=>.inl h) (fun fr k d=>by
      obtain⟨a1,a2,a3,_⟩:=H k d.1;refine⟨?_,a2,a3⟩;cases fr with
      | false =>
        grind
      | true=>exact .inr (by
        have h:G.B<=k:=d.2 rfl;have e:G.B=L5 c.ps w:=S.base.1;omega)) i hq (fun id Y ⟨o,f⟩ b u=>.inr ⟨id,by grind,u,o,f⟩) (Zc hu)
     obtain⟨hI,_⟩:=IC (K':=K') (Kf:=fun k=>(K k∨w.heap.size<=k)/\UFg G.w w.heap.size k/\some k ∉ X6 G E/\go≠some k) (go:=go) S (fun _ h=>.inl h) H l F aC rfl (by
      grind) (fun id Y ⟨o,f⟩ b u=>.inr ⟨id,by grind,u,o,f⟩)
     refine⟨hE.defers,_,h0X hr e1,_,X6 G E,rfl,⟨S.os,S.tape,S.output,S.size,fun k d hg=>S.block k d hg⟩,Tg S aF m,fun b u=>?_,hR,hI⟩;obtain⟨j,W,V⟩:=y b u;obtain⟨_,Q⟩:=m j W;rcases S.own j _ b Q V with h | h
     ·grind
     ·have h:go=some b:=h;rcases aA with ⟨h',_⟩ | ⟨b',i',h',hj⟩
      ·grind
      ·obtain⟨T,cs,k1,k2⟩:=s i' hj;have:=S.inj i' j _ _ b k1 Q (k2.trans h) V;subst this;rw[hj] at aD;exact(OG aD W).elim
    grind
   grind
  grind
 grind
def wfs:(ps:List Par)->w9 ps->Prop
 | [],_=>True
 | .dat t :: r,x=>wf t x.1/\wfs r x.2
 | .agg t :: r,x=>wf t x.1/\wfs r x.2
 | .fn _ c :: r,x=>wf c x.1/\wfs r x.2
 | .nof _ :: r,x=>wfs r x.2
 | .nil :: r,x=>wfs r x.2
 | .io _ t :: r,x=>wf t x.1/\wfs r x.2
 | .os _ t :: r,x=>wf (.sl t) x.1/\wfs r x.2
theorem B0U{K:Nat->Prop}{w:World}{E s:Nat}{t:Ty}{g:Option Nat}{v:Value}{cs:List Value}{xs:List (j7 t)}(h:Own w E s g v xs.length cs)(a:AllR (RT K w t) cs xs):wf (.sl t) xs:=by
 refine⟨?_,fun x d=>?_⟩
 ·rcases h with ⟨_,h,_⟩ | ⟨b,o,cap,cur,_,_,_,h1,h2,_⟩
  ·omega
  grind[maxLen,Nat.le_trans]
 ·obtain⟨c,e⟩:=a.mem x d;exact RT.wf e
theorem ArgsR.wfs{K:Nat->Prop}{w:World}:∀{ps:List Par} {x:w9 ps} {vs:List Value} {go:Option Nat},ArgsR K w go ps x vs->Xv.wfs ps x
 | [],_x,_vs,_go,_=>trivial
 | .dat _t :: _r,_x,_vs,_go,⟨_v,_us,_e,h1,h⟩=>⟨RT.wf h1,ArgsR.wfs h⟩
 | .agg _t :: _r,_x,_vs,_go,⟨_v,_us,_e,h1,h⟩=>⟨RT.wf h1,ArgsR.wfs h⟩
 | .fn _f _t :: _r,_x,_vs,_go,⟨_v,_us,_e,h1,h⟩=>⟨RT.wf h1,ArgsR.wfs h⟩
 | .nof _f :: r,_x,_vs,_go,⟨_us,_e,h⟩=>ArgsR.wfs (ps:=r) h
 | .nil :: r,_x,_vs,_go,⟨_us,_e,h⟩=>ArgsR.wfs (ps:=r) h
 | .io _ _t :: _r,_x,_vs,_go,⟨_,_cs,_us,_e,_,_,_,h1,h⟩=>⟨RT.wf h1,ArgsR.wfs h⟩
 | .os _ _t :: _r,_x,_vs,_go,⟨_v,_cs,_us,_e,_,_,h1,h2,h⟩=>⟨B0U h1 h2,ArgsR.wfs h⟩
theorem L0a{P:Program}{Γ:p5}(F:x7 P Γ){c:Ct}{v:Func}{e:Code}{n:Nat}(rs:List ResultVar)(hf:P.funcs[c.f]?=some v)(hn:v.ntmps=n)(hb:v.body=some e)(hr:v.results=rs.toArray)(he:AN P c.f=true)(d:(Nat.ble c.ps.length n&&Z1 c.ps)=true)
  (h:∀y x,(c.res x).q->Xv.wfs c.ps x->∀Q,(∀st,Gw Γ st rs (c.res x).r c.ps (c.res x).z->FX (cx P n y) st .normal Q/\FX (cx P n y) st .ret Q)->VX (cx P n y) ⟨O1 0 c.ps x,H2 0 c.ps x⟩ e Q):Ok P c:=by
 refine⟨he,fun x hq w m H K hK l=>?_⟩;rw[ba] at d;obtain⟨d,g⟩:=d;have d:=Nat.le_of_ble_eq_true d;have aA:=l.len;refine calls_of_wp hf hb ?_;have:=h ⟨w,fun k=>H=some k,K,Iz (s9 0 c.ps H),L5 c.ps w⟩ x hq l.wfs (bodyPost P v (KC c x w H K)) (fun st V=>?_) (CZ K w H (Ao c.ps m) (L5 c.ps w) (H2 0 c.ps x)) { tmps:=m.toArray++Array.replicate (v.ntmps-m.toArray.size) undef,defers:=[] } (m0C hK l) rfl ⟨rfl,by grind,fun t s ht=>?_⟩
 ·exact this
 ·exact⟨fun G a S Y X=>Zd F g l hr V G a S Y X,fun G a S Y X=>Zd F g l hr V G a S Y X⟩
 ·obtain⟨_,a2,u,a3,a4⟩:=DX (i:=0) (o:=H2 0 c.ps x) (r0:=Ao c.ps m) (B:=L5 c.ps w) (g0:=H) g l (fun _=>rfl) (fun z hz=>by
   rcases Gv (i:=0) l with ⟨W,_⟩ | ⟨j,b,T,t,z',cs,W,_⟩ | ⟨j,E,t,xs,cs,W,_⟩
   ·grind
   ·rw[W] at hz ⊢;cases List.mem_singleton.1 hz;rw[lK,if_pos rfl]
   ·rw[W] at hz ⊢;cases List.mem_singleton.1 hz;rw[lK,if_pos rfl]) t s ht
  rw[a2];refine⟨fun _=>?_,fun hn=>(hn (fun _ h=>by cases h)).elim⟩;have aB:t<m.length:=by
   rcases Nat.lt_or_ge t m.length with h' | h'
   ·exact h'
   ·grind
  rw[Array.getD_eq_getD_getElem?,Array.getElem?_append_left (by omega)]
  grind
def KE:Option AV->Bool
 | some (.pel ..)=>false
 | some (.gel ..)=>false
 | _=>true
theorem Ze{o:List (Nat×Ob)}{v:AV}(h:KE (some v)=true):Cc o v:=by
 cases v <;> first | trivial | cases h
def AU(st:St)(p:Pa):Op->Bool
 | .move _ | .assign _ | .pick .. | .unOp .not .. | .fieldAddr .. | .field .. | .extract .. | .makeFunc .. | .build .. | .alloc _ | .box .. | .buildSlice ..=>true
 | .call ⟨.builtin .len,_,_⟩ | .call ⟨.builtin .min,_,_⟩ | .call ⟨.builtin .max,_,_⟩=>true
 | .load _ x | .nilCheck x | .store _ x _=>KE (rd st p x)
 | .binOp .eql .. | .binOp .neq .. | .binOp .lss .. | .binOp .leq .. | .binOp .gtr .. | .binOp .geq ..=>true
 | _=>false
theorem I0N{k a:IntKind}{b:Bool}{q:Prop}{r:AV}(h:CQ k a b=some (q,r)):q:=by
 grind[CQ]
theorem I0U{b:Option TI}{a:BinOp}{u v r:AV}{q:Prop}(c:(match a with | .eql | .neq | .lss | .leq | .gtr | .geq=>true | _=>false)=true)(h:Oj b a u v=some (q,r)):q:=by
 unfold Oj at h
 grind[I0N,oi,pj,absurd]
theorem J0a{Γ:p5}{st:St}{p:Pa}{c:Op}{q:Prop}{r:AV}{l:List Nat}(a:AU st p c=true)(h:H8 Γ st p c=some (q,r,l)):q:=by
 unfold H8 at h;split at h
 case h_5 op' T x y n =>
  split at h
  ·split at h
   ·rename_i d;simp only[oi,pj] at h;obtain⟨rfl,_⟩:=h;refine I0U ?_ d;cases op' <;> first | rfl | exact a
   grind
  grind
 case h_3 x =>
  split at h
  ·rename_i v b;split at h
   ·simp only[oi,pj] at h;obtain⟨rfl,_⟩:=h;exact Ze (by rw[<- b]; exact a)
   grind
  grind
 all_goals try (simp[AU] at a; done)
 case h_10 T x =>
  split at h
  ·rename_i v f b e;split at h
   ·split at h
    ·simp only[oi,pj] at h;obtain⟨rfl,_⟩:=h;exact Ze (by rw[<- b]; exact a)
    grind
   grind
  grind
 all_goals (repeat' (split at h))
 all_goals first
  | cases h; done
  | (simp only[oi,pj] at h; rw[<- h.1]; trivial)
  | (rw[ce] at h
     split at h
     ·grind
     ·cases h)
theorem J0c{Γ:p5}{st:St}{p:Pa}{d:Nat}{a:Op}{q:Prop}{r:AV}{w:Nat×Ob}{l:List Nat}(b:AU st p a=true)(h:AR Γ st p d a=some (q,r,w,l)):q:=by
 unfold AR at h
 grind[AU]
theorem I0Z{Γ:p5}{st:St}{p:Pa}{a:Op}{q:Prop}{w:Nat×Ob}{l:List Nat}(b:AU st p a=true)(h:Cd Γ st p a=some (q,w,l)):q:=by
 unfold Cd at h
 grind[AU,KE]
theorem J0d{Γ:p5}{st:St}{p:Pa}{d:Nat}{a:Op}{r:Prop×AV×List (Nat×Ob)×List Nat}(b:AU st p a=true)(h:Bu Γ st p d a=some r):False:=by
 unfold Bu at h
 grind[AU,KE]
theorem F0d{Γ:p5}{st:St}{p:Pa}{a:Op}{r:Prop×List (Nat×Ob)×List Nat}(b:AU st p a=true)(h:Cf Γ st p a=some r):False:=by
 unfold Cf at h
 grind[AU,KE]
theorem J0b{Γ:p5}{T:List Ct}{st:St}{p:Pa}{o:Oper}{q:Prop}{av:Option AV}{obs:List (Nat×Ob)}{l:List Nat}(b:AU st p o.op=true)(h:X5 Γ T st p o=some (q,av,obs,l)):q:=by
 have a:∀d q r obs l,CW T st p d o.op≠some (q,r,obs,l):=fun d q r obs l a=>by
  unfold CW at a
  grind[AU]
 unfold X5 at h;split at h
 ·rw[ce] at h;split at h
  ·grind[oi,pj,J0a,J0d]
  ·rw[ce] at h
   grind[oi,pj,J0c]
 ·rw[ce] at h
  grind[oi,pj,I0Z,F0d]
def O2(Γ:p5)(T:List Ct)(all:List Oper):List Oper->St->List A8->Option (Prop×St×List A8)
 | [],st,rs=>some (True,st,rs)
 | o :: r,st,rs=>match Bv all st.e o with
   | some p=>match X5 Γ T st p o with
     | some (q,av,obs,fp)=>bif Ce p||Ce obs then(match O2 Γ T all r ⟨Cg o.dst p av st.e,obs++st.o⟩ (⟨o,p,av,obs,fp⟩ :: rs) with
       | some (V,st',rs')=>some (bif AU st p o.op then V else(SS st.e p q/\V),st',rs')
       | none=>none) else none
     | none=>none
   | none=>none
theorem F0N{e:List (Nat×Sl)}{p:Pa}{q:Prop}(h:q):SS e p q:=by
 unfold SS
 grind
theorem Ap{Γ:p5}{T:List Ct}{all:List Oper}{K:St->List A8->Prop}:∀{ops:List Oper} {st:St} {rs:List A8} {V:Prop} {st':St} {rs':List A8},O2 Γ T all ops st rs=some (V,st',rs')->V->K st' rs'->Ir Γ T all ops st rs K
 | [],st,rs,V,st',rs',h,hV,hK=>by
   simp only[O2,oi,pj] at h;obtain⟨_,rfl,rfl⟩:=h;exact hK
 | o :: r,st,rs,V,st',rs',h,hV,hK=>by
   unfold O2 at h;unfold Ir;split at h
   ·rename_i p j
    try (rw[j]; simp only)
    split at h
    ·rename_i q l d m b
     try (rw[b]; simp only)
     rw[ce] at h ⊢;split at h
     ·rename_i e;rw[if_pos e];split at h
      ·rename_i k f g c;simp only[oi,pj] at h;obtain⟨a,rfl,rfl⟩:=h;rw[ce] at a;split at a
       ·rename_i i;subst a;exact⟨F0N (J0b i b),Ap c hV hK⟩
       ·subst a;exact⟨hV.1,Ap c hV.2 hK⟩
      grind
     grind
    grind
   grind
def OH(n:Nat)(Γ:p5)(T:List Ct)(l:List Oper)(keep:List Nat)(st:St):Option (Prop×St) :=
 bif I4 n 0 [] l&&J3 st.e then(match O2 Γ T l l st [] with
  | some (V,st',_)=>some (V,cut keep st')
  | none=>none) else none
def Ti(n:Nat)(Γ:p5)(T:List Ct)(l:List Oper)(keep:List Nat)(st:St):Option (Prop×St) :=
 bif I4 n 0 [] l&&AT 0 l&&J3 st.e then(match O2 Γ T l l st [] with
  | some (V,st',rs)=>bif It (J2 [] l) rs.reverse then some (V,cut keep st') else none
  | none=>none) else none
section
variable {P:Program} {n:Nat} {y:World×(Nat->Prop)×(Nat->Prop)×(Nat->Value->Prop)×Nat} {st:St} {Q:Exit->Act->World->Prop} {Γ:p5} {T:List Ct}
theorem rs(d:x7 P Γ)(k:∀c∈T,Ok P c)(a:List Nat)(st':St)(V:Prop){id:Nat}{l:List Oper}{c:Code}(h:OH n Γ T l a st=some (V,st'))(f:V)(j:VX (cx P n y) st' c Q):VX (cx P n y) st (.seq (.region id l.toArray false) c) Q:=by
 unfold OH at h;rw[ce] at h;split at h
 ·rename_i b;rw[ba] at b;split at h
  ·rename_i m g i e;simp only[oi,pj] at h;obtain⟨rfl,rfl⟩:=h;exact vQ (A0g (X:=cx P n y) d k a b.1 b.2 (Ap e f (fQ j)))
  grind
 grind
theorem re(d:x7 P Γ)(k:∀c∈T,Ok P c)(a:List Nat)(st':St)(V:Prop){id:Nat}{l:List Oper}(h:OH n Γ T l a st=some (V,st'))(f:V)(j:FX (cx P n y) st' .normal Q):VX (cx P n y) st (.region id l.toArray false) Q:=by
 unfold OH at h;rw[ce] at h;split at h
 ·rename_i b;rw[ba] at b;split at h
  ·rename_i m g i e;simp only[oi,pj] at h;obtain⟨rfl,rfl⟩:=h;exact A0g (X:=cx P n y) d k a b.1 b.2 (Ap e f j)
  grind
 grind
theorem de(d:x7 P Γ)(m:∀c∈T,Ok P c)[o:K1 P](a:List Nat)(st':St)(V:Prop){id:Nat}{l:List Oper}(h:Ti n Γ T l a st=some (V,st'))(f:V)(k:FX (cx P n y) st' .normal Q):VX (cx P n y) st (.region id l.toArray true) Q:=by
 unfold Ti at h;rw[ce] at h;split at h
 ·rename_i b;rw[ba] at b;split at h
  ·rename_i q g i e;rw[ce] at h;split at h
   ·rename_i j;simp only[oi,pj] at h;obtain⟨rfl,rfl⟩:=h;exact C0C (X:=cx P n y) d m a b.1 b.2 (Ap e f ⟨j,k⟩)
   grind
  grind
 grind
theorem ds(b:x7 P Γ)(f:∀c∈T,Ok P c)[g:K1 P](a:List Nat)(st':St)(V:Prop){id:Nat}{l:List Oper}{c:Code}(h:Ti n Γ T l a st=some (V,st'))(d:V)(e:VX (cx P n y) st' c Q):VX (cx P n y) st (.seq (.region id l.toArray true) c) Q :=
 vQ (de b f a st' V h d (fQ e))
end
theorem D0z{P:Program}:x7 P []:=fun _ _ h=>by cases h
theorem tK{P:Program}{T:TypeId}{c:TI}{Γ:p5}(h:Ih P T c)(d:x7 P Γ):x7 P ((T,c) :: Γ):=fun e b a=>by
 rw[lK] at a;split at a
 ·grind
 ·exact d e b a
abbrev i64:Ty:=.int .i64
abbrev p(t:Nat)(a:AV):Nat×Sl:=(t,⟨[],a⟩)
abbrev I(x:Int):AV:=.d true (.int .i64) x
abbrev J(x:Int):AV:=.d false (.int .i64) x
abbrev B(x:Bool):AV:=.d true .bool x
abbrev C(x:Bool):AV:=.d false .bool x
abbrev S(x:ByteArray):AV:=.d true .str x
abbrev U(x:ByteArray):AV:=.d false .str x
abbrev D(t:Ty)(x:j7 t):AV:=.d false t x
abbrev N(t:Ty)(x:j7 t):AV:=.d true t x
abbrev L(t:Ty)(x:List (j7 t)):AV:=.d false (.sl t) x
abbrev M(t:Ty)(x:List (j7 t)):AV:=.d true (.sl t) x
abbrev nil:AV:=.v (.slice none 0 0)
theorem ev{Γ:p5}{st:St}{rs:List ResultVar}{r:AV}{ps:List Par}{z:B1 ps}(V:Prop)(h:Gw Γ st rs r ps z=V)(a:V):Gw Γ st rs r ps z:=h ▸ a
theorem tn{P:Program}:∀c∈([]:List Ct),Ok P c:=fun _ h=>by cases h
theorem tc{P:Program}{c:Ct}{T:List Ct}(h:Ok P c)(a:∀c∈T,Ok P c):∀c'∈c :: T,Ok P c':=fun c' b=>by
 grind
end Go.Proofs.Xv
end
section
namespace Go.Proofs.Xd
open Go Go.Proofs.Xv
theorem JX{c:Type}{a b:List c}(d:c)(e:a.length=b.length)(h:∀i,i<a.length->a.getD i d=b.getD i d):a=b:=by
 apply List.ext_getElem?
 grind
def cnt:(t:Ty)->j7 t->Nat
 | .int _,_=>0
 | .bool,_=>0
 | .str,s=>s.size
 | .sl e,xs=>xs.length+(xs.map (cnt e)).sum
 | .pt e,x=>cnt e x
 | .pr a b,x=>cnt a x.1+cnt b x.2
theorem C0o{t:Ty}{a:List (j7 t)}{i:Nat}{d:j7 t}(h:i<a.length):cnt t (a.getD i d)<=(a.map (cnt t)).sum:=by
 rw[gq,List.getElem?_eq_getElem h];have c:∀(l:List (j7 t)) (x:j7 t),x∈l->cnt t x<=(l.map (cnt t)).sum:=by
  intro l
  induction l with
  | nil=>grind
  | cons y r b =>
    grind
 simp_all
theorem J0{a b:Ty}{x:j7 (.pr a b)}:cnt (.pr a b) x=cnt a x.1+cnt b x.2:=by grind[cnt]
theorem FV{k:IntKind}{x:Int}:cnt (.int k) x=0:=by grind[cnt]
theorem Xo{x:Bool}:cnt .bool x=0:=by grind[cnt]
theorem FW{x:ByteArray}:cnt .str x=x.size:=by grind[cnt]
theorem AK{e:Ty}{x:List (j7 e)}:cnt (.sl e) x=x.length+(x.map (cnt e)).sum:=by grind[cnt]
theorem FU{k:IntKind}{x:List Int}:cnt (.sl (.int k)) x=x.length:=by
 have:∀l:List Int,(l.map (cnt (.int k))).sum=0:=by
  intro l
  induction l with
  | nil=>rfl
  | cons a r b=>grind[cnt]
 grind[AK]
end Go.Proofs.Xd
end
section
namespace Go.Proofs.Xl
def gd{ρ:Type}(V:Prop)[Decidable V](e:Option ρ):Option ρ:=if V then e else none
def lt{α β:Type}(x:α)(f:α->β):β:=f x
def vl{α:Type}[Inhabited α](o:Option α):α:=o.getD default
def c9(x:Int):Prop := -9223372036854775808<=x/\x<=9223372036854775807
instance (x:Int):Decidable (c9 x):=inferInstanceAs (Decidable (_/\_))
def ix(i:Int)(n:Nat):Prop:=0<=i/\i < (n:Int)
instance (i:Int)(n:Nat):Decidable (ix i n):=inferInstanceAs (Decidable (_/\_))
def U2:Nat:=36893488147419103232
def H3{σ ρ:Type}(F:(σ->Option ρ)->σ->Option ρ):Nat->σ->Option ρ
 | 0,_=>none
 | n+1,s=>F (H3 F n) s
def lp{σ ρ:Type}(F:(σ->Option ρ)->σ->Option ρ)(s:σ):Option ρ:=H3 F U2 s
theorem K9{ρ:Type}{V:Prop}[Decidable V]{e:Option ρ}{r:ρ}(h:gd V e=some r):V/\e=some r:=by
 grind[gd]
theorem gP{ρ:Type}{V:Prop}[Decidable V]{e:Option ρ}(h:V):gd V e=e:=if_pos h
theorem vS{a:Type}[Inhabited a](x:a):vl (some x)=x:=rfl
theorem u0v{a:Type}[Inhabited a]{o:Option a}(h:o.isSome=true):o=some (vl o):=by cases o with
 | none=>cases h
 | some x=>rfl
end Go.Proofs.Xl
namespace Go.Proofs.Xv
open Go Go.RowKit Go.Proofs.Sv Go.Proofs.Xl
def P6{α β:Type}(f:α->β):Option α->Option β
 | some x=>some (f x)
 | none=>none
theorem R9{b a:Type}{f:b->a}{o:Option b}{y:a}(h:P6 f o=some y):∃x,o=some x/\f x=y:=by
 cases o with
 | none=>cases h
 | some x=>exact⟨x,rfl,by cases h; rfl⟩
def Zf(o o':List (Nat×Ob))(x:Value)(id ver:Nat):Option AV:=match x with
 | .slice none 0 0=>match c7 o id with
   | none=>match c7 o' id with
     | some (.arr _ _ _ _ v)=>bif Nat.beq v ver then some (.os id ver) else none
     | _=>none
   | _=>none
 | _=>none
def Zg(x:Value)(fr:Bool)(e:Ty):Option AV:=match x with
 | .slice none 0 0=>some (.d fr (.sl e) [])
 | _=>none
def Zh(o o':List (Nat×Ob))(id ver id' ver':Nat):Option AV:=bif Nat.beq id id' then(match c7 o id with
    | some (.arr _ _ _ _ v)=>match c7 o' id with
      | some (.arr _ _ _ _ v')=>bif Nat.beq v ver&&Nat.beq v' ver' then some (.os id' ver') else none
      | _=>none
    | _=>none) else none
def wkP(o':List (Nat×Ob))(id off:Nat):Option AV:=match c7 o' id with
 | some (.box _ _)=>some (.ptr id off)
 | _=>none
def wkG(o':List (Nat×Ob))(id:Nat):Option AV:=match c7 o' id with
 | some (.grd ..)=>some (.og id)
 | _=>none
mutual
def Z3(o o':List (Nat×Ob)):AV->AV->Option AV
 | .d fr t x,b=>match b with
   | .d fr' t' _=>bif !fr'||fr then P6 (.d fr' t') (X2 t t' x) else none
   | _=>none
 | .v x,b=>match b with
   | .v _=>some (.v x)
   | .os id ver=>Zf o o' x id ver
   | .d fr (.sl e) _=>Zg x fr e
   | _=>none
 | .os id ver,b=>match b with
   | .os id' ver'=>Zh o o' id ver id' ver'
   | _=>none
 | .ptr id off,b=>match b with
   | .ptr _ _=>wkP o' id off
   | _=>none
 | .agg xs,b=>match b with
   | .agg ys=>P6 .agg (Gx o o' xs ys)
   | _=>none
 | .tup xs,b=>match b with
   | .tup ys=>P6 .tup (Gx o o' xs ys)
   | _=>none
 | .fn f xs,b=>match b with
   | .fn _ ys=>P6 (.fn f) (Gx o o' xs ys)
   | _=>none
 | .og id,b=>match b with
   | .og _=>wkG o' id
   | _=>none
 | _,_=>none
def Gx(o o':List (Nat×Ob)):List AV->List AV->Option (List AV)
 | [],ys=>match ys with
   | []=>some []
   | _=>none
 | a :: r,ys=>match ys with
   | b :: s=>match Z3 o o' a b with
     | some x=>P6 (x :: ·) (Gx o o' r s)
     | none=>none
   | _=>none
end
def Zi(o o':List (Nat×Ob)):Option Ob->Ob->Option Ob
 | some (.box T cs),.box _ cs'=>P6 (.box T) (Gx o o' cs cs')
 | some (.arr T fr t xs _),.arr _ fr' t' _ v'=>bif !fr'||fr then P6 (fun z=>.arr T fr' t' z v') (X2 (.sl t) (.sl t') xs) else none
 | none,.arr T fr t _ v=>some (.arr T fr t [] v)
 | some (.grd T Te fr t xs none),.grd _ _ fr' t' _ none=>bif !fr'||fr then P6 (fun z=>.grd T Te fr' t' z none) (X2 (.sl (.sl t)) (.sl (.sl t')) xs) else none
 | _,_=>none
def Tj(o o':List (Nat×Ob))(e:List (Nat×Sl)):List (Nat×Sl)->Option (List (Nat×Sl))
 | []=>some []
 | (t,s) :: r=>match s.p,c7 e t with
   | [],some ⟨[],a⟩=>match Z3 o o' a s.a with
     | some x=>P6 ((t,⟨[],x⟩) :: ·) (Tj o o' e r)
     | none=>none
   | _,_=>none
def Tk(o o':List (Nat×Ob)):List (Nat×Ob)->Option (List (Nat×Ob))
 | []=>some []
 | (i,b) :: r=>match Zi o o' (c7 o i) b with
   | some x=>P6 ((i,x) :: ·) (Tk o o' r)
   | none=>none
def KF(o':List (Nat×Ob)):List (Nat×Ob)->Bool
 | []=>true
 | (i,.box _ _) :: r=>(bif Nat.ble 500000 i then(match c7 o' i with | some (.box _ _)=>true | _=>false) else true)&&KF o' r
 | (_,.arr ..) :: r=>KF o' r
 | (_,.grd ..) :: r=>KF o' r
def Gy(a b:St):Option St:=match Tj a.o b.o a.e b.e with
 | some e=>match Tk a.o b.o b.o with
   | some o=>bif KF b.o a.o then some ⟨e,o⟩ else none
   | none=>none
 | none=>none
theorem F0K{o o':List (Nat×Ob)}{x:Value}{id ver:Nat}(h:Zf o o' x id ver=some (.os id ver)):Iv x/\SX (c7 o id)/\Gu (c7 o' id) ver:=by
 unfold Zf at h;split at h
 ·split at h
  ·rename_i c;split at h
   ·rename_i a;rw[ce] at h;split at h
    ·rename_i b;have:=nb b;subst this;rw[c,a];exact⟨trivial,trivial,rfl⟩
    grind
   grind
  grind
 grind
theorem F0I{o o':List (Nat×Ob)}{id ver b a:Nat}(h:Zh o o' id ver b a=some (.os b a)):id=b/\Gu (c7 o id) ver/\Gu (c7 o' id) a:=by
 unfold Zh at h;rw[ce] at h;split at h
 ·rename_i c;split at h
  ·rename_i i;split at h
   ·rename_i e;rw[ce] at h;split at h
    ·rename_i d;rw[ba] at d;have f:=nb d.1;have g:=nb d.2;subst f; subst g;rw[i,e];exact⟨nb c,rfl,rfl⟩
    grind
   grind
  grind
 grind
theorem F0L{x:Value}{fr:Bool}{e:Ty}{y:j7 (.sl e)}(h:Zg x fr e=some (.d fr (.sl e) y)):Iv x/\YR (.sl e) y:=by
 unfold Zg at h;split at h
 ·simp only[oi,AV.d.injEq,heq_eq_eq,true_and] at h;exact⟨trivial,h.symm⟩
 grind
theorem Zj{a b:Bool}(h:(!a||b)=true):a=true->b=true:=by
 grind
mutual
theorem A0e{o o':List (Nat×Ob)}:∀{a b:AV},Z3 o o' a b=some b->M7 o o' a b
 | .d fr t x,b,h=>by
   unfold Z3 at h;unfold M7;split at h
   ·rename_i g i y;rw[ce] at h;split at h
    ·rename_i j;obtain⟨z,c,e⟩:=R9 h
     grind
    grind
   grind
 | .v x,b,h=>by
   unfold Z3 at h
   grind[M7,F0K,F0L]
 | .os id ver,b,h=>by
   unfold Z3 at h
   grind[M7,F0I]
 | .ptr id off,b,h=>by
   unfold Z3 at h;unfold M7;split at h
   ·unfold wkP at h;split at h
    ·rename_i c;simp only[oi,AV.ptr.injEq] at h;obtain⟨rfl,rfl⟩:=h;exact⟨rfl,rfl,by rw[c]; trivial⟩
    grind
   grind
 | .agg xs,b,h=>by
   unfold Z3 at h;unfold M7;split at h
   ·obtain⟨z,c,e⟩:=R9 h;simp only[AV.agg.injEq] at e;subst e;exact OI c
   grind
 | .tup xs,b,h=>by
   unfold Z3 at h;unfold M7;split at h
   ·obtain⟨z,c,e⟩:=R9 h;simp only[AV.tup.injEq] at e;subst e;exact OI c
   grind
 | .fn f xs,b,h=>by
   unfold Z3 at h;unfold M7;split at h
   ·obtain⟨z,c,e⟩:=R9 h;simp only[AV.fn.injEq] at e;obtain⟨rfl,rfl⟩:=e;exact⟨rfl,OI c⟩
   grind
 | .pel ..,b,h=>by grind[Z3]
 | .gel ..,b,h=>by grind[Z3]
 | .og id,b,h=>by
   unfold Z3 at h;unfold M7;split at h
   ·unfold wkG at h;split at h
    ·rename_i c;simp only[oi,AV.og.injEq] at h;subst h;exact⟨rfl,by rw[c]; trivial⟩
    grind
   grind
 | .ow ..,b,h=>by grind[Z3]
 | .ob ..,b,h=>by grind[Z3]
theorem OI{o o':List (Nat×Ob)}:∀{as' bs:List AV},Gx o o' as' bs=some bs->Ch o o' as' bs
 | [],bs,h=>by
   grind[Gx,Ch]
 | a :: r,bs,h=>by
   unfold Gx at h;unfold Ch;split at h
   ·split at h
    ·rename_i x c;obtain⟨z,d,b⟩:=R9 h;simp only[List.cons.injEq] at b;obtain⟨rfl,rfl⟩:=b;exact⟨A0e c,OI d⟩
    grind
   grind
end
theorem F0J{o o':List (Nat×Ob)}{a:Option Ob}{b:Ob}(h:Zi o o' a b=some b):YU o o' a b:=by
 unfold Zi at h;split at h
 ·obtain⟨z,d,c⟩:=R9 h;simp only[Ob.box.injEq] at c;obtain⟨rfl,rfl⟩:=c;exact⟨rfl,OI d⟩
 ·rw[ce] at h;split at h
  ·rename_i e;obtain⟨z,d,c⟩:=R9 h;simp only[Ob.arr.injEq,heq_eq_eq,true_and,and_true] at c;obtain⟨rfl,rfl⟩:=c;exact⟨rfl,Zj e,d⟩
  grind
 ·simp only[oi,Ob.arr.injEq,heq_eq_eq,true_and,and_true] at h;exact h.symm
 ·rw[ce] at h;split at h
  ·rename_i e;obtain⟨z,d,c⟩:=R9 h;simp only[Ob.grd.injEq,heq_eq_eq,true_and,and_true] at c;obtain⟨rfl,rfl,rfl⟩:=c;exact⟨rfl,rfl,trivial,trivial,Zj e,d⟩
  grind
 grind
theorem t0g{o o':List (Nat×Ob)}{e:List (Nat×Sl)}:∀{l:List (Nat×Sl)},Tj o o' e l=some l->SY o o' e l
 | [],_=>trivial
 | (t,s) :: r,h=>by
   unfold Tj at h;split at h
   ·rename_i g b;split at h
    ·rename_i x c;obtain⟨z,f,a⟩:=R9 h;simp only[List.cons.injEq,pj,true_and] at a;obtain⟨d,rfl⟩:=a;subst d;exact⟨trivial,by rw[b]; exact A0e c,t0g f⟩
    grind
   grind
theorem t0f{o o':List (Nat×Ob)}:∀{l:List (Nat×Ob)},Tk o o' l=some l->OB o o' l
 | [],_=>trivial
 | (t,s) :: r,h=>by
   unfold Tk at h;split at h
   ·rename_i x b;obtain⟨z,c,a⟩:=R9 h;simp only[List.cons.injEq,pj,true_and] at a;obtain⟨rfl,rfl⟩:=a;exact⟨F0J b,t0f c⟩
   grind
theorem Tl{o':List (Nat×Ob)}:∀{l:List (Nat×Ob)},KF o' l=true->pins o' l
 | [],_=>trivial
 | (_,.arr ..) :: r,h=>Tl (l:=r) h
 | (_,.grd ..) :: r,h=>Tl (l:=r) h
 | (i,.box _ _) :: r,h=>by
   simp only[KF,ba] at h;refine⟨?_,Tl h.2⟩;have a:=h.1;rw[ce] at a ⊢;split
   ·rename_i hi;rw[if_pos hi] at a;split at a
    ·rename_i b; rw[b]; trivial
    grind
   grind
theorem Zk{a b:St}(h:Gy a b=some b):OC a b:=by
 unfold Gy at h;split at h
 ·rename_i e c;split at h
  ·rename_i o f;rw[ce] at h;split at h
   ·rename_i d;cases h;exact⟨t0g c,t0f f,Tl d⟩
   grind
  grind
 grind
mutual
def Z4(o:List (Nat×Ob)):AV->AV->Option (AV×List (Option Nat)×List Nat)
 | a,.ow T fr t _=>match a with
   | .os id ver=>match c7 o id with
     | some (.arr T' fr' t' ys ver')=>bif Nat.beq ver ver'&&Nat.beq T' T&&(!fr||fr') then P6 (fun z=>(.ow T fr t z,[some id],[])) (X2 (.sl t') (.sl t) ys) else none
     | _=>none
   | .v x=>match x with
     | .slice none 0 0=>some (.ow T fr t [],[none],[])
     | _=>none
   | _=>none
 | a,.d fr t _=>match G9 o 24 t [a] with
   | some (y,l,fl)=>bif !fr||fl then some (.d fr t y,[],l) else none
   | none=>none
 | a,.ob T rs=>match a with
   | .ptr id 0=>match c7 o id with
     | some (.box T' cs)=>bif Nat.beq T' T then(match ID o cs rs with
       | some (x,l,m)=>some (.ob T x,some id :: l,m)
       | none=>none) else none
     | _=>none
   | _=>none
 | a,.v _=>match a with
   | .v y=>some (.v y,[],[])
   | _=>none
 | a,.agg rs=>match a with
   | .agg as'=>match ID o as' rs with
     | some (x,l,m)=>some (.agg x,l,m)
     | none=>none
   | _=>none
 | a,.tup rs=>match a with
   | .tup as'=>match ID o as' rs with
     | some (x,l,m)=>some (.tup x,l,m)
     | none=>none
   | _=>none
 | _,_=>none
def ID(o:List (Nat×Ob)):List AV->List AV->Option (List AV×List (Option Nat)×List Nat)
 | as',[]=>match as' with
   | []=>some ([],[],[])
   | _=>none
 | as',r :: rs=>match as' with
   | a :: t=>match Z4 o a r with
     | some (x,m,f)=>match ID o t rs with
       | some (xs,m',f')=>some (x :: xs,m++m',f++f')
       | none=>none
     | none=>none
   | []=>none
end
def Db(o:List (Nat×Ob)):Nat->(ps:List Par)->B1 ps->Option (B1 ps×List Nat×Option Nat)
 | _,[],z=>some (z,[],none)
 | i,.io T t :: _,_=>match c7 o (500000+i) with
   | some (.box T' cs)=>bif Nat.beq T' T then(match G9 o 24 t cs with
     | some (y,l,_)=>some (y,l,some (500000+i))
     | none=>none) else none
   | _=>none
 | i,.dat _ :: r,z=>Db o (i+1) r z
 | i,.agg _ :: r,z=>Db o (i+1) r z
 | i,.fn _ _ :: r,z=>Db o (i+1) r z
 | i,.nof _ :: r,z=>Db o (i+1) r z
 | i,.nil :: r,z=>Db o (i+1) r z
 | i,.os _ _ :: r,z=>Db o (i+1) r z
def v0e(Γ:p5)(st:St):ResultVar->Option AV
 | .tmp t=>match c7 st.e t with
   | some ⟨[],a⟩=>some a
   | _=>none
 | .cell t ty=>match c7 st.e t with
   | some ⟨[],p⟩=>bif KE (some p) then(match X4 st.o p with
     | some (cs,_)=>match c7 Γ ty with
       | some ti=>Kr ti cs
       | none=>none
     | none=>none) else none
   | _=>none
def OJ(Γ:p5)(st:St):List ResultVar->Option (List AV)
 | []=>some []
 | r :: rs=>match v0e Γ st r with
   | some a=>P6 (a :: ·) (OJ Γ st rs)
   | none=>none
def OK(Γ:p5)(st:St)(rs:List ResultVar)(ps:List Par)(r:AV)(z:B1 ps):Option (AV×B1 ps) :=
 match OJ Γ st rs with
 | some as'=>match Z4 st.o (Zb as') r with
   | some (r',mv,fz)=>match Db st.o 0 ps z with
     | some (z',fz',pin)=>bif onceN mv&&OF mv (fz++fz')&&Th (fun i=>Gm i (fz++fz')) pin&&(!D9 ps||DY r')&&Th (fun i=>onceN.notInS i mv) pin then some (r',z') else none
     | none=>none
   | none=>none
 | none=>none
mutual
theorem B0V{o:List (Nat×Ob)}:∀{a r:AV} {mv:List (Option Nat)} {fz:List Nat},Z4 o a r=some (r,mv,fz)->∃q:Prop,q/\M8 o a r=some (q,mv,fz)
 | a,.ow T fr t xs,mv,fz,h=>by
   unfold Z4 at h;unfold M8;split at h
   ·split at h
    ·rename_i u c w n i k;rw[ce] at h;split at h
     ·rename_i g;simp only[ba] at g;obtain⟨z,E,f⟩:=R9 h;simp only[pj,AV.ow.injEq,heq_eq_eq,true_and] at f;obtain⟨rfl,rfl,rfl⟩:=f;refine⟨(fr=true->c=true)/\X2 (.sl w) (.sl t) n=some z,⟨Zj g.2,E⟩,?_⟩
      grind
     grind
    grind
   ·split at h
    ·simp only[oi,pj,AV.ow.injEq,heq_eq_eq,true_and] at h;obtain⟨rfl,rfl,rfl⟩:=h;exact⟨_,⟨trivial,rfl⟩,rfl⟩
    grind
   grind
 | a,.d fr t x,mv,fz,h=>by
   unfold Z4 at h;unfold M8;split at h
   ·rename_i y l H j;rw[ce] at h;split at h
    ·rename_i G;simp only[oi,pj,AV.d.injEq,heq_eq_eq,true_and] at h;obtain⟨rfl,rfl,rfl⟩:=h
     try rw[j]
     grind
    grind
   grind
 | a,.ob T rs,mv,fz,h=>by
   unfold Z4 at h;unfold M8;split at h
   ·split at h
    ·rename_i u P k;rw[ce] at h;split at h
     ·rename_i F;split at h
      ·rename_i x l m b;simp only[oi,pj,AV.ob.injEq,true_and] at h;obtain⟨rfl,rfl,rfl⟩:=h;obtain⟨q,s,e⟩:=Tm b;refine⟨q,s,?_⟩
       grind
      grind
     grind
    grind
   grind
 | a,.v x,mv,fz,h=>by
   unfold Z4 at h;unfold M8;split at h
   ·simp only[oi,pj,AV.v.injEq] at h;obtain⟨rfl,rfl,rfl⟩:=h
    grind
   grind
 | a,.agg rs,mv,fz,h=>by
   unfold Z4 at h;unfold M8;split at h
   ·split at h
    ·rename_i x l m b;simp only[oi,pj,AV.agg.injEq] at h;obtain⟨rfl,rfl,rfl⟩:=h;exact Tm b
    grind
   grind
 | a,.tup rs,mv,fz,h=>by
   unfold Z4 at h;unfold M8;split at h
   ·split at h
    ·rename_i x l m b;simp only[oi,pj,AV.tup.injEq] at h;obtain⟨rfl,rfl,rfl⟩:=h;exact Tm b
    grind
   grind
 | a,.ptr _ _,mv,fz,h=>by grind[Z4]
 | a,.pel ..,mv,fz,h=>by grind[Z4]
 | a,.os _ _,mv,fz,h=>by grind[Z4]
 | a,.fn _ _,mv,fz,h=>by grind[Z4]
 | a,.gel _ _,mv,fz,h=>by grind[Z4]
 | a,.og _,mv,fz,h=>by grind[Z4]
theorem Tm{o:List (Nat×Ob)}:∀{as' rs:List AV} {mv:List (Option Nat)} {fz:List Nat},ID o as' rs=some (rs,mv,fz)->∃q:Prop,q/\Da o as' rs=some (q,mv,fz)
 | as',[],mv,fz,h=>by
   unfold ID at h;unfold Da;split at h
   ·simp only[oi,pj,true_and] at h;obtain⟨rfl,rfl⟩:=h
    grind
   grind
 | as',r :: rs,mv,fz,h=>by
   unfold ID at h;unfold Da;split at h
   ·split at h
    ·rename_i x m f d;split at h
     ·rename_i i k j a;simp only[oi,pj,List.cons.injEq] at h;obtain⟨⟨rfl,rfl⟩,rfl,rfl⟩:=h;obtain⟨q,e,l⟩:=B0V d;obtain⟨c,b,g⟩:=Tm a;refine⟨q/\c,⟨e,b⟩,?_⟩
      grind
     grind
    grind
   grind
end
theorem IE{o:List (Nat×Ob)}:∀{ps:List Par} {i:Nat} {z:B1 ps} {fz:List Nat} {pin:Option Nat},Db o i ps z=some (z,fz,pin)->∃q:Prop,q/\Z2 o i ps z=some (q,fz,pin)
 | [],i,z,fz,pin,h=>by
   simp only[Db,oi,pj,true_and] at h;obtain⟨rfl,rfl⟩:=h;exact⟨_,trivial,rfl⟩
 | .io T t :: r,i,z',fz,pin,h=>by
   unfold Db at h;unfold Z2;split at h
   ·rename_i d f c;rw[ce] at h;split at h
    ·rename_i a;split at h
     ·rename_i y l e b;simp only[oi,pj] at h;obtain⟨rfl,rfl,rfl⟩:=h;refine⟨y=y,rfl,?_⟩
      grind
     grind
    grind
   grind
 | .dat _ :: r,i,z,fz,pin,h=>IE (ps:=r) (i:=i+1) h
 | .agg _ :: r,i,z,fz,pin,h=>IE (ps:=r) (i:=i+1) h
 | .fn _ _ :: r,i,z,fz,pin,h=>IE (ps:=r) (i:=i+1) h
 | .nof _ :: r,i,z,fz,pin,h=>IE (ps:=r) (i:=i+1) h
 | .nil :: r,i,z,fz,pin,h=>IE (ps:=r) (i:=i+1) h
 | .os _ _ :: r,i,z,fz,pin,h=>IE (ps:=r) (i:=i+1) h
theorem u0O{Γ:p5}{st:St}:∀{rs:List ResultVar} {as':List AV},OJ Γ st rs=some as'->∃q:Prop,q/\IA Γ st rs=some (q,as')
 | [],as',h=>by
   simp only[OJ,oi] at h;subst h;exact⟨_,trivial,rfl⟩
 | r :: rs,as',h=>by
   unfold OJ at h;unfold IA;split at h
   ·rename_i a b;obtain⟨l,k,e⟩:=R9 h;subst e;obtain⟨q,s,i⟩:=u0O k;have:∃c:Prop,c/\OE Γ st r=some (c,a):=by
     unfold v0e at b;unfold OE;split at b
     ·split at b
      ·rename_i d;cases b;refine⟨True,trivial,?_⟩
       grind
      grind
     ·split at b
      ·rename_i d;rw[ce] at b;split at b
       ·rename_i j;split at b
        ·rename_i m;split at b
         ·rename_i n;refine⟨Cc st.o _,Ze j,?_⟩
          grind
         grind
        grind
       grind
      grind
    obtain⟨c,f,g⟩:=this;rw[g,i]
    grind
   grind
theorem Tn{Γ:p5}{st:St}{rs:List ResultVar}{ps:List Par}{r:AV}{z:B1 ps}(h:OK Γ st rs ps r z=some (r,z)):Gw Γ st rs r ps z:=by
 unfold OK at h;split at h
 ·rename_i e d;split at h
  ·rename_i v s fz a;split at h
   ·rename_i i f c b;rw[ce] at h;split at h
    ·rename_i l;simp only[oi,pj] at h;obtain⟨rfl,rfl⟩:=h;obtain⟨m,g,j⟩:=u0O d;obtain⟨o,k,u⟩:=B0V a;obtain⟨t,n,q⟩:=IE b
     grind[Gw]
    grind
   grind
  grind
 grind
end Go.Proofs.Xv
end
section
namespace Go.Proofs.Xv
open Go Go.RowKit Go.Proofs.Sv Go.Proofs.Xl
def H5(b:Bool)(n:Nat)(Γ:p5)(T:List Ct)(l:List Oper)(keep:List Nat)(st:St):Option (Prop×St):=bif b then Ti n Γ T l keep st else OH n Γ T l keep st
def KG(st:St)(c:Operand):Option Bool:=match rd st [] c with
 | some (.d _ .bool b)=>some b
 | _=>none
theorem Zl{st:St}{c:Operand}{b:Bool}(h:KG st c=some b):∃f,rd st [] c=some (.d f .bool b):=by
 grind[KG]
theorem ct{X:Cx}{st:St}{Q:Exit->Act->World->Prop}{c:Operand}{a d:Code}(b:KG st c=some true)(h:VX X st a Q):VX X st (.cond c a d) Q:=(Zl b).elim fun _ b=>t0i b h
theorem cf{X:Cx}{st:St}{Q:Exit->Act->World->Prop}{c:Operand}{a d:Code}(b:KG st c=some false)(h:VX X st d Q):VX X st (.cond c a d) Q:=(Zl b).elim fun _ b=>t0j b h
section
variable {P:Program} {n:Nat} {y:World×(Nat->Prop)×(Nat->Prop)×(Nat->Value->Prop)×Nat} {st:St} {Q:Exit->Act->World->Prop} {Γ:p5} {T:List Ct} {ρ α:Type} {r:ρ}
theorem To(d:x7 P Γ)(g:∀c∈T,Ok P c)[i:K1 P]{a:List Nat}{st':St}{V:Prop}{id:Nat}{l:List Oper}{b:Bool}(h:H5 b n Γ T l a st=some (V,st'))(e:V)(f:FX (cx P n y) st' .normal Q):VX (cx P n y) st (.region id l.toArray b) Q:=by
 cases b with
 | true=>exact de d g a st' V h e f
 | false=>exact re d g a st' V h e f
theorem za(d:x7 P Γ)(f:∀c∈T,Ok P c)[g:K1 P](a:List Nat)(st':St){id:Nat}{l:List Oper}{b:Bool}(h:H5 b n Γ T l a st=some (True,st'))(e:FX (cx P n y) st' .normal Q):VX (cx P n y) st (.region id l.toArray b) Q :=
 To d f h trivial e
theorem zb(d:x7 P Γ)(g:∀c∈T,Ok P c)[i:K1 P](a:List Nat)(st':St){V:Prop}[Decidable V]{e:Option ρ}{id:Nat}{l:List Oper}{b:Bool}(H:gd V e=some r)(h:H5 b n Γ T l a st=some (V,st'))(f:e=some r->FX (cx P n y) st' .normal Q):VX (cx P n y) st (.region id l.toArray b) Q :=
 To d g h (K9 H).1 (f (K9 H).2)
theorem zc(d:x7 P Γ)(g:∀c∈T,Ok P c)[i:K1 P](a:List Nat)(S:α->St){x:α}{f:α->Option ρ}{id:Nat}{l:List Oper}{b:Bool}(H:lt x f=some r)(h:H5 b n Γ T l a st=some (True,S x))(e:∀v,f v=some r->FX (cx P n y) (S v) .normal Q):VX (cx P n y) st (.region id l.toArray b) Q :=
 To d g h trivial (e x H)
theorem zd(d:x7 P Γ)(g:∀c∈T,Ok P c)[i:K1 P](a:List Nat)(S:α->St){V:Prop}[Decidable V]{x:α}{f:α->Option ρ}{id:Nat}{l:List Oper}{b:Bool}(H:gd V (lt x f)=some r)(h:H5 b n Γ T l a st=some (V,S x))(e:∀v,f v=some r->FX (cx P n y) (S v) .normal Q):VX (cx P n y) st (.region id l.toArray b) Q :=
 To d g h (K9 H).1 (e x (K9 H).2)
theorem qa(d:x7 P Γ)(f:∀c∈T,Ok P c)[g:K1 P](a:List Nat)(st':St){id:Nat}{l:List Oper}{b:Bool}{c:Code}(h:H5 b n Γ T l a st=some (True,st'))(e:VX (cx P n y) st' c Q):VX (cx P n y) st (.seq (.region id l.toArray b) c) Q :=
 vQ (za d f a st' h (fQ e))
theorem qb(d:x7 P Γ)(g:∀c∈T,Ok P c)[i:K1 P](a:List Nat)(st':St){V:Prop}[Decidable V]{e:Option ρ}{id:Nat}{l:List Oper}{b:Bool}{c:Code}(H:gd V e=some r)(h:H5 b n Γ T l a st=some (V,st'))(f:e=some r->VX (cx P n y) st' c Q):VX (cx P n y) st (.seq (.region id l.toArray b) c) Q :=
 vQ (zb d g a st' H h fun H=>fQ (f H))
theorem qc(d:x7 P Γ)(g:∀c∈T,Ok P c)[i:K1 P](a:List Nat)(S:α->St){x:α}{f:α->Option ρ}{id:Nat}{l:List Oper}{b:Bool}{c:Code}(H:lt x f=some r)(h:H5 b n Γ T l a st=some (True,S x))(e:∀v,f v=some r->VX (cx P n y) (S v) c Q):VX (cx P n y) st (.seq (.region id l.toArray b) c) Q :=
 vQ (zc d g a S H h fun v H=>fQ (e v H))
theorem qd(d:x7 P Γ)(g:∀c∈T,Ok P c)[i:K1 P](a:List Nat)(S:α->St){V:Prop}[Decidable V]{x:α}{f:α->Option ρ}{id:Nat}{l:List Oper}{b:Bool}{c:Code}(H:gd V (lt x f)=some r)(h:H5 b n Γ T l a st=some (V,S x))(e:∀v,f v=some r->VX (cx P n y) (S v) c Q):VX (cx P n y) st (.seq (.region id l.toArray b) c) Q :=
 vQ (zd d g a S H h fun v H=>fQ (e v H))
theorem cd{X:Cx}{c:Operand}{a d:Code}{b:Bool}{f g:Option ρ}(H:(if b=true then f else g)=some r)(e:KG st c=some b)(j:f=some r->VX X st a Q)(k:g=some r->VX X st d Q):VX X st (.cond c a d) Q :=
 (Zl e).elim fun _ i=>YO i (fun h=>j (by grind)) (fun h=>k (by grind))
theorem jn{X:Cx}{b:Type}(r:ρ)(E:b->St)(J:b->Option ρ){a d:Code}(h:∀s,J s=some r->VX X (E s) d Q)(k:∀Q',(∀{s st'},J s=some r->Gy st' (E s)=some (E s)->FX X st' .normal Q')->(∀{st' id},FX X st' (.exit id) Q->FX X st' (.exit id) Q')->(∀{st'},FX X st' .ret Q->FX X st' .ret Q')->VX X st a Q'):VX X st (.seq a d) Q :=
 vQ (k _ (fun H c=>fQ (C0A _ (Zk c) (h _ H))) fE fR)
theorem lx{X:Cx}{c:Type}(E:c->St)(d:c){F:(c->Option ρ)->c->Option ρ}{a:Code}(H:lp F d=some r)(f:Gy st (E d)=some (E d))
  (b:∀Q' (g:c->Option ρ),(∀{s st'},g s=some r->Gy st' (E s)=some (E s)->FX X st' .normal Q')->(∀{st' id},FX X st' (.exit id) Q->FX X st' (.exit id) Q')->(∀{st'},FX X st' .ret Q->FX X st' .ret Q')->∀s,F g s=some r->VX X (E s) a Q'):VX X st (.loop a) Q:=by
 refine C0z (fun z:Nat×c=>E z.2) (fun z=>H3 F z.1 z.2=some r) (fun z=>z.1) (U2,d) H (Zk f) ?_;rintro⟨m,s⟩ hz;cases m with
 | zero=>cases hz
 | succ m=>exact b _ (H3 F m) (fun {e st'} i h=>E0w (m,e) i (Nat.lt_succ_self m) (Zk h)) n0o o0T s hz
end
def k8(f:FuncId)(ps:List Par){ρ:Type}[Inhabited ρ](F:w9 ps->Option ρ)(R:ρ->AV)(Z:ρ->B1 ps):Ct:=⟨f,ps,fun x=>⟨(F x).isSome=true,R (vl (F x)),Z (vl (F x))⟩⟩
def N0x(X:Cx)(Γ:p5)(rs:List ResultVar)(ps:List Par){ρ:Type}(R:ρ->AV)(Z:ρ->B1 ps)(r:ρ)(x:Exit)(Q:Exit->Act->World->Prop):Prop :=
 ∀{st:St} {e:ρ},some e=some r->OK Γ st rs ps (R e) (Z e)=some (R e,Z e)->FX X st x Q
theorem okl{P:Program}{Γ:p5}(k:x7 P Γ){f:FuncId}{ps:List Par}{ρ:Type}[Inhabited ρ]{F:w9 ps->Option ρ}{R:ρ->AV}{Z:ρ->B1 ps}{g:Func}{a:Code}{n:Nat}(rs:List ResultVar)
  (u:P.funcs[f]?=some g) (o:g.ntmps=n) (m:g.body=some a) (q:g.results=rs.toArray) (b:AN P f=true) (i:(Nat.ble ps.length n&&Z1 ps)=true)
  (h:∀y x r,F x=some r->∀Q,N0x (cx P n y) Γ rs ps R Z r .normal Q->N0x (cx P n y) Γ rs ps R Z r .ret Q->VX (cx P n y) ⟨O1 0 ps x,H2 0 ps x⟩ a Q):Ok P (k8 f ps F R Z):=by
 refine L0a (c:=k8 f ps F R Z) k rs u o m q b i (fun y x t d Q l=>?_);have s:=u0v t;refine h y x _ s Q ?_ ?_
 ·intro j e b d;cases b;exact(l j (Tn d)).1
 ·intro j e b d;cases b;exact(l j (Tn d)).2
mutual
def frz:AV->AV
 | .ow _ fr t xs=>.d (fr||G7 t) (.sl t) xs
 | .agg xs=>.agg (frzs xs)
 | .tup xs=>.tup (frzs xs)
 | a=>a
def frzs:List AV->List AV
 | []=>[]
 | a :: r=>frz a :: frzs r
end
mutual
def KH:AV->Bool
 | .ob ..=>false
 | .agg xs=>OL xs
 | .tup xs=>OL xs
 | _=>true
def OL:List AV->Bool
 | []=>true
 | a :: r=>KH a&&OL r
end
theorem Tp{w:World}{T:TypeId}{t:Ty}{g:Option Nat}{u:Value}{xs:List (j7 t)}{cs:List Value}{K:Nat->Prop}(c:Own w T (sz t) g u xs.length cs)(i:AllR (RT K w t) cs xs)(k:∀b,g=some b->K b):RT K w (.sl t) [u] xs:=by
 cases g with
 | none =>
   rcases c with ⟨_,f,_,p,l⟩ | ⟨b,_,_,_,hb,_⟩
   ·have:xs=[]:=List.eq_nil_of_length_eq_zero f;subst this;exact⟨p,0,by grind,Nat.le_refl _,by omega,.inl rfl⟩
   grind
 | some b =>
   obtain⟨e,j,d,a⟩:=c.at;rcases c with ⟨h,_⟩ | ⟨b',o1,cap,cur,hb,hv2,k1,k2,k3,k4,k5⟩
   ·cases h
   ·cases hb;rw[hv2] at d; cases d;exact⟨_,j,by rw[hv2],k2,(by grind[maxLen]),.inr ⟨b,e,cs,rfl,k b rfl,a,i⟩⟩
mutual
theorem ResR.frz{K K':Bool->Nat->Prop}{w:World}(f:∀fr k,K fr k->K' fr k):∀{a:AV} {u:Value} {gs:List (Option Nat)},KH a=true->(∀b,some b∈gs->∀fr,K' fr b)->ResR K w a u gs->ResR K' w (Xv.frz a) u []
 | .v _,_,_,_,_,h=>⟨h.1,rfl⟩
 | .d fr t x,u,gs,_,_,⟨h,_⟩=>⟨RT.up h (f fr),rfl⟩
 | .agg xs,u,gs,hn,hg,⟨us,e,h⟩=>⟨us,e,ResRs.frz f (by grind[KH]) hg h⟩
 | .ob _ _,_,_,hn,_,_=>by grind[KH]
 | .tup xs,u,gs,hn,hg,⟨us,e,h⟩=>⟨us,e,ResRs.frz f (by grind[KH]) hg h⟩
 | .ow T fr t xs,u,gs,_,hg,⟨g,cs,e,_,hO,hA⟩=>by
   refine⟨Tp hO (hA.mapR (fun c x j=>?_)) (fun b i=>hg b (by grind) _),rfl⟩
   grind[G7,RT.free,RT.up]
theorem ResRs.frz{K K':Bool->Nat->Prop}{w:World}(c:∀fr k,K fr k->K' fr k):∀{as':List AV} {us:List Value} {gs:List (Option Nat)},OL as'=true->(∀b,some b∈gs->∀fr,K' fr b)->ResRs K w as' us gs->ResRs K' w (Xv.frzs as') us []
 | [],us,gs,_,_,h=>⟨h.1,rfl⟩
 | a :: r,us,gs,hn,hg,⟨u,us',g1,g2,e1,e2,h1,h2⟩=>by
   simp only[OL,ba] at hn;exact⟨u,us',[],[],e1,rfl,ResR.frz c hn.1 (fun b d=>hg b (by grind)) h1,ResRs.frz c hn.2 (fun b d=>hg b (by grind)) h2⟩
end
theorem IOR.up{K K':Nat->Prop}{w:World}{go:Option Nat}(a:∀k,K k->K' k):∀{ps:List Par} {z:B1 ps},IOR K w go ps z->IOR K' w go ps z
 | [],_,_=>trivial
 | .io _ _ :: _,_,⟨b,cs,h1,h2,h3⟩=>⟨b,cs,h1,h2,RT.up h3 a⟩
 | .dat _ :: r,_z,h=>IOR.up (ps:=r) a h
 | .agg _ :: r,_z,h=>IOR.up (ps:=r) a h
 | .fn _ _ :: r,_z,h=>IOR.up (ps:=r) a h
 | .nof _ :: r,_z,h=>IOR.up (ps:=r) a h
 | .nil :: r,_z,h=>IOR.up (ps:=r) a h
 | .os _ _ :: r,_z,h=>IOR.up (ps:=r) a h
theorem ResR.lt{K:Bool->Nat->Prop}{w:World}:∀{a:AV} {u:Value} {gs:List (Option Nat)},ResR K w a u gs->∀b,some b∈gs->UF w b:=by
 suffices H:(∀(a:AV) {u:Value} {gs:List (Option Nat)},ResR K w a u gs->∀b,some b∈gs->UF w b) from fun {a}=>H a
 intro a;refine AV.rec (motive_1:=fun a=>∀{u:Value} {gs:List (Option Nat)},ResR K w a u gs->∀b,some b∈gs->UF w b) (motive_2:=fun l=>∀{d:List Value} {gs:List (Option Nat)},ResRs K w l d gs->∀b,some b∈gs->UF w b) ?_ ?_ ?_ ?_ ?_ ?_ ?_ ?_ ?_ ?_ ?_ ?_ ?_ ?_ a
 ·intro x u gs h b c; rw[h.2] at c; cases c
 ·intro k t x u gs h b c; rw[h.2] at c; cases c
 ·intro f i u gs h b c; obtain⟨d,_,h⟩:=h; grind
 ·intro f i u gs h b c; obtain⟨d,_,h⟩:=h; grind
 ·intro _ _ u gs h; exact h.elim
 ·intro _ _ _ _ _ u gs h; exact h.elim
 ·intro _ _ u gs h; exact h.elim
 ·intro _ _ _ u gs h; exact h.elim
 ·intro T k t f u gs h b c;obtain⟨g,G,e,_,P,_⟩:=h
  grind[List.mem_singleton,Ge]
 ·intro _ _ u gs h; exact h.elim
 ·intro _ u gs h; exact h.elim
 ·intro T f i u gs h b c;obtain⟨z,d,n,e,_,y,h⟩:=h
  grind[XY]
 ·intro d gs h b c; rw[h.2] at c; cases c
 ·intro a r m o d gs h b c;obtain⟨u,j,v,F,_,E,s,q⟩:=h
  grind
theorem Up{P:Program}{f:FuncId}{ps:List Par}{ρ:Type}[Inhabited ρ]{F:w9 ps->Option ρ}{R:ρ->AV}{Z:ρ->B1 ps}(h:Ok P (k8 f ps F R Z))(n:D9 ps=false:=by rfl)(d:∀r,KH (R r)=true:=by intro _; rfl):Ok P (k8 f ps F (fun r=>frz (R r)) Z):=by
 refine⟨h.1,fun x u w y t K G E=>?_⟩;refine Calls.mono (h.2 x u w y t K G E) ?_;rintro T Q ⟨v,o,e,q,H,i,m,s⟩;have j:=ResR.lt m;have i:∀b,some b∈o->w.heap.size<=b:=fun b a=>(i b a).resolve_right (fun h=>by have l:D9 ps=true:=h.1; rw[n] at l; cases l);refine⟨v,[],e,q,trivial,(fun b a=>nomatch a),ResR.frz (fun z k c=>⟨c.1,c.2.1,by simp⟩) (d _) (fun b a z=>⟨.inr (i b a),(j b a).g,by simp⟩) m,IOR.up (fun k c=>⟨c.1,c.2.1,by simp,c.2.2.2⟩) s⟩
mutual
def Aq(id ver:Nat)(fr:Bool)(t:Ty)(xs:List (j7 t)):AV->Option AV
 | .os i v=>bif Nat.beq i id then(bif Nat.beq v ver then some (.d fr (.sl t) xs) else none) else some (.os i v)
 | .pel i v k s off=>bif Nat.beq i id then none else some (.pel i v k s off)
 | .agg l=>P6 .agg (DZ id ver fr t xs l)
 | .tup l=>P6 .tup (DZ id ver fr t xs l)
 | .fn f l=>P6 (.fn f) (DZ id ver fr t xs l)
 | .ptr i off=>bif Nat.beq i id then none else some (.ptr i off)
 | .v x=>some (.v x)
 | .d fr t x=>some (.d fr t x)
 | .ow T fr t x=>some (.ow T fr t x)
 | .ob T l=>some (.ob T l)
 | .og i=>bif Nat.beq i id then some (.d fr (.sl t) xs) else some (.og i)
 | .gel i k=>bif Nat.beq i id then none else some (.gel i k)
def DZ(id ver:Nat)(fr:Bool)(t:Ty)(xs:List (j7 t)):List AV->Option (List AV)
 | []=>some []
 | a :: r=>match Aq id ver fr t xs a with
   | some b=>P6 (b :: ·) (DZ id ver fr t xs r)
   | none=>none
end
def Fa(id ver:Nat)(fr:Bool)(t:Ty)(xs:List (j7 t)):List (Nat×Sl)->List (Nat×Sl)
 | []=>[]
 | (k,s) :: r=>match Aq id ver fr t xs s.a with
   | some b=>(k,⟨s.p,b⟩) :: Fa id ver fr t xs r
   | none=>Fa id ver fr t xs r
def Ar(id ver:Nat)(fr:Bool)(t:Ty)(xs:List (j7 t)):List (Nat×Ob)->Option (List (Nat×Ob))
 | []=>some []
 | (k,o) :: r=>bif Nat.beq k id then Ar id ver fr t xs r else(match o with
   | .box T cs=>match DZ id ver fr t xs cs with
     | some cs'=>P6 ((k,.box T cs') :: ·) (Ar id ver fr t xs r)
     | none=>none
   | o=>P6 ((k,o) :: ·) (Ar id ver fr t xs r))
def IF:List (Nat×Sl)->Bool
 | []=>true
 | (k,_) :: r=>(r.all fun x=>!Nat.beq x.1 k)&&IF r
def Gz(id:Nat)(st:St):Option St:=match c7 st.o id with
 | some (.arr _ fr t xs ver)=>bif IF st.e then(match Ar id ver (fr||G7 t) t xs st.o with
   | some o=>some ⟨Fa id ver (fr||G7 t) t xs st.e,o⟩
   | none=>none) else none
 | some (.grd _ _ fr t xs none)=>bif IF st.e then(match Ar id 0 (fr||G7 t) (.sl t) xs st.o with
   | some o=>some ⟨Fa id 0 (fr||G7 t) (.sl t) xs st.e,o⟩
   | none=>none) else none
 | _=>none
section
variable {X:Cx} {G:Gh} {id ver:Nat} {fr:Bool} {t:Ty} {xs:List (j7 t)}
def Fb(G:Gh)(id:Nat)(o:List (Nat×Ob)):Gh:=⟨G.ρ,G.γ,fun k=>G.K k∨G.γ id=some k∨(H4 (c7 G.o id)=true/\G.δ id k),G.w,o,G.B,G.δ⟩
theorem Fc{o:List (Nat×Ob)}:∀{l r:List (Nat×Ob)},Ar id ver fr t xs l=some r->∀i,(i=id->c7 r i=none)/\(i≠id->match c7 l i with
  | some (.box T cs)=>∃cs',DZ id ver fr t xs cs=some cs'/\c7 r i=some (.box T cs')
  | some o=>c7 r i=some o
  | none=>c7 r i=none)
 | [],r,h,i=>by
   simp only[Ar,oi] at h;subst h;exact⟨fun _=>rfl,fun _=>rfl⟩
 | (k,ob) :: l,r,h,i=>by
   unfold Ar at h;rw[ce] at h;split at h
   ·rename_i a;have a:=nb a;obtain⟨b,c⟩:=Fc (o:=o) h i;refine⟨b,fun hi=>?_⟩;rw[lK,if_neg (by omega)]
    grind
   ·rename_i a;have a:k≠id:=fun e=>a (by simp_all);split at h
    ·rename_i T cs;split at h
     ·rename_i cs' d;obtain⟨z,hz,rfl⟩:=R9 h;obtain⟨b,c⟩:=Fc (o:=o) hz i;refine⟨fun hi=>?_,fun hi=>?_⟩
      ·rw[lK,if_neg (by rw[hi]; exact a)]; exact b hi
      ·rw[lK,lK];by_cases e:k=i
       ·rw[if_pos e,if_pos e]; exact⟨cs',d,rfl⟩
       ·rw[if_neg e,if_neg e]; exact c hi
     ·cases h
    ·rename_i g;obtain⟨z,hz,rfl⟩:=R9 h;obtain⟨b,c⟩:=Fc (o:=o) hz i;refine⟨fun hi=>?_,fun hi=>?_⟩
     ·rw[lK,if_neg (by rw[hi]; exact a)]; exact b hi
     ·rw[lK,lK];by_cases e:k=i
      ·rw[if_pos e,if_pos e];cases ob with
       | box T cs=>exact(g T cs rfl).elim
       | arr T f j x v=>rfl
       | grd T m f j x h=>rfl
      ·rw[if_neg e,if_neg e]; exact c hi
def KI(G:Gh)(id ver:Nat)(fr:Bool)(t:Ty)(xs:List (j7 t))(o':List (Nat×Ob)):Prop:=∀u,AVR G (.os id ver) u∨AVR G (.og id) u->AVR (Fb G id o') (.d fr (.sl t) xs) u
mutual
theorem Tq{o':List (Nat×Ob)}(g:KI G id ver fr t xs o')(hz:Ar id ver fr t xs G.o=some o'):∀{a b:AV} {u:Value},Aq id ver fr t xs a=some b->AVR G a u->AVR (Fb G id o') b u
 | .os i v,b,u,h,c=>by
   unfold Aq at h;rw[ce] at h;have E:=c;obtain⟨H,w,n,F,m,q,j,r,Q⟩:=c;split at h
   ·rename_i hi;have hi:=nb hi;subst hi;rw[ce] at h;split at h
    ·rename_i V;have V:=nb V;subst V;cases h;exact g u (.inl E)
    grind
   ·rename_i hi;cases h;have hi:i≠id:=fun e=>hi (by simp_all);have:=(Fc (o:=G.o) hz i).2 hi;rw[j] at this;exact⟨H,w,n,F,m,q,this,r,Q⟩
 | .og i,b,u,h,c=>by
   unfold Aq at h;rw[ce] at h;have E:=c;obtain⟨H,⟨w,Te1,n,F,m,y,j⟩,r⟩:=c;split at h
   ·rename_i hi;have hi:=nb hi;subst hi;cases h;exact g u (.inr E)
   ·rename_i hi;cases h;have hi:i≠id:=fun e=>hi (by simp_all);have:=(Fc (o:=G.o) hz i).2 hi;rw[j] at this;exact⟨H,⟨w,Te1,n,F,m,y,this⟩,r⟩
 | .gel i k,b,u,h,c=>by
   unfold Aq at h;rw[ce] at h;obtain⟨⟨w,Te1,n,F,m,y,j⟩,r⟩:=c;split at h
   ·cases h
   ·rename_i hi;cases h;have hi:i≠id:=fun e=>hi (by simp_all);have:=(Fc (o:=G.o) hz i).2 hi;rw[j] at this;exact⟨⟨w,Te1,n,F,m,y,this⟩,r⟩
 | .pel i v k s off,b,u,h,c=>by
   unfold Aq at h;rw[ce] at h;obtain⟨H,w,n,F,m,q,j,r,Q⟩:=c;split at h
   ·cases h
   ·rename_i hi;cases h;have hi:i≠id:=fun e=>hi (by simp_all);have:=(Fc (o:=G.o) hz i).2 hi;rw[j] at this;exact⟨H,w,n,F,m,q,this,r,Q⟩
 | .ptr i off,b,u,h,c=>by
   unfold Aq at h;rw[ce] at h;obtain⟨⟨w,X,j⟩,r⟩:=c;split at h
   ·cases h
   ·rename_i hi;cases h;have hi:i≠id:=fun e=>hi (by simp_all);have:=(Fc (o:=G.o) hz i).2 hi;rw[j] at this;obtain⟨T,_,Q⟩:=this;exact⟨⟨w,T,Q⟩,r⟩
 | .agg l,b,u,h,c=>by
   unfold Aq at h;obtain⟨z,j,rfl⟩:=R9 h;obtain⟨P,e,c⟩:=c;exact⟨P,e,OM g hz j c⟩
 | .tup l,b,u,h,c=>by
   unfold Aq at h;obtain⟨z,j,rfl⟩:=R9 h;obtain⟨P,e,c⟩:=c;exact⟨P,e,OM g hz j c⟩
 | .fn f l,b,u,h,c=>by
   unfold Aq at h;obtain⟨z,j,rfl⟩:=R9 h;obtain⟨P,e,c⟩:=c;exact⟨P,e,OM g hz j c⟩
 | .v x,b,u,h,c=>by unfold Aq at h; cases h; exact c
 | .d f t' x,b,u,h,c=>by
   unfold Aq at h; cases h;exact RT.up c (fun k W=>⟨.inl W.1,W.2⟩)
 | .ow ..,b,u,h,c=>c.elim
 | .ob ..,b,u,h,c=>c.elim
theorem OM{o':List (Nat×Ob)}(c:KI G id ver fr t xs o')(hz:Ar id ver fr t xs G.o=some o'):∀{as' bs:List AV} {us:List Value},DZ id ver fr t xs as'=some bs->AVRs G as' us->AVRs (Fb G id o') bs us
 | [],bs,us,h,hu=>by
   simp only[DZ,oi] at h;subst h; exact hu
 | a :: r,bs,us,h,⟨u,us',e,h1,h2⟩=>by
   unfold DZ at h;split at h
   ·rename_i b f;obtain⟨z,d,rfl⟩:=R9 h;exact⟨u,us',e,Tq c hz f h1,OM c hz d h2⟩
   grind
end
theorem y0w{T:TypeId}{f:Bool}(S:Sat X G)(i:c7 G.o id=some (.arr T f t xs ver))(w:fr=(f||G7 t))(o':List (Nat×Ob)):KI G id ver fr t xs o':=fun u q=>by
 rcases q with ⟨z,P,n,H,s,h,d,y,l⟩ | ⟨_,⟨_,_,_,_,_,_,d⟩,_⟩
 ·rw[i] at d;cases d;rw[l rfl];obtain⟨E,m,r,v⟩:=S.obs id _ i;refine Tp m (r.mapR (fun c x j=>?_)) (fun b g=>⟨.inr (.inl g),fun _=>v b g⟩);subst w;by_cases F:G7 t=true
  ·grind[RT.free]
  ·exact RT.up j (fun k a=>⟨.inl a.1,fun e=>a.2 (by grind)⟩)
 grind
theorem w0F{a:Type}{R:List Value->a->Prop}:∀{vs:List Value} {xs:List a},vs.length=xs.length->(∀(k:Nat) v x,vs[k]?=some v->xs[k]?=some x->R [v] x)->AllR R vs xs
 | [],[],_,_=>rfl
 | v :: vs,x :: xs,hl,h=>⟨[v],vs,rfl,h 0 v x rfl rfl,w0F (by grind) (fun k d c e b=>h (k+1) d c e b)⟩
 | [],_ :: _,hl,_=>by grind
 | _ :: _,[],hl,_=>by grind
theorem y0v{T Te:TypeId}{j:Bool}{xs:List (List (j7 t))}(S:Sat X G)(r:c7 G.o id=some (.grd T Te j t xs none))(W:fr=(j||G7 t))(o':List (Nat×Ob)):KI G id ver fr (.sl t) xs o':=fun u H=>by
 rcases H with ⟨h0,T1,F,t1,P,m,h1,Y,l⟩ | ⟨_,_,l⟩
 ·grind
 ·rw[l];obtain⟨Q,bs,E,i,V⟩:=S.obs id _ r;refine Tp (t:=.sl t) E (w0F i.len (fun k v x y f=>?_)) (fun b d=>⟨.inr (.inl d),fun _=>V b d⟩);have g:k<xs.length:=by
   rcases Nat.lt_or_ge k xs.length with h | h
   ·exact h
   ·rw[List.getElem?_eq_none h] at f; cases f
  obtain⟨cs,s,n,w⟩:=i.row k g (fun h=>by cases h);have ev:Q.getD k (.bool false)=v:=by rw[gq,y]; rfl
  have q:xs.getD k []=x:=by rw[gq,f]; rfl
  rw[ev,q] at s;rw[q] at n;refine Tp s (n.mapR (fun c x z=>?_)) (fun b d=>⟨.inr (.inr ⟨by rw[r]; rfl,(i.blk b).2 ⟨k,g,(fun h=>by cases h),d⟩⟩),fun _=>w b d⟩);subst W;by_cases g:G7 t=true
  ·grind[RT.free]
  ·exact RT.up z (fun k a=>⟨.inl a.1,fun e=>a.2 (by grind)⟩)
theorem Zm{aG:Ob}{o':List (Nat×Ob)}(S:Sat X G)(ho:c7 G.o id=some aG)(F:∀k,G.γ id=some k->UF G.w k/\G.B<=k)(z:KI G id ver fr t xs o')(hz:Ar id ver fr t xs G.o=some o')(aI:Nat.blt id 500000=true):Sat X (Fb G id o'):=by
 have V:=Fc (o:=G.o) hz;have d:∀i m,c7 o' i=some m->i≠id/\∃n,c7 G.o i=some n:=fun i m h=>by
  grind
 have Q:∀i,H4 (c7 o' i)=true->i≠id/\H4 (c7 G.o i)=true:=fun i r=>by
  grind[Og,hi]
 refine⟨S.base,S.os,S.tape,S.output,S.size,S.block,?_,?_,?_,?_,?_,?_,?_,?_⟩
 ·intro i m h;obtain⟨hi,n,l⟩:=d i m h;have:=(V i).2 hi;rw[l] at this;have y:=S.obs i n l;cases n with
  | box Y aA =>
    obtain⟨H,e1,e2⟩:=this;have h:c7 o' i=some m:=h;rw[e2] at h;cases h;obtain⟨b,us,P,u,E,g4⟩:=y;exact⟨b,us,P,u,E,OM z hz e1 g4⟩
  | arr Y aC t1 aF aK =>
    simp only at this;have h:c7 o' i=some m:=h;rw[this] at h;cases h;obtain⟨cs,P,u,E⟩:=y;exact⟨cs,P,u.mapR (fun c x hr=>RT.up hr (fun k a=>⟨.inl a.1,a.2⟩)),E⟩
  | grd Y Te1 aC t1 aF aH =>
    simp only at this;have h:c7 o' i=some m:=h;rw[this] at h;cases h;obtain⟨vs,bs,P,u,E⟩:=y;refine⟨vs,bs,P,⟨u.len,u.blk,u.inj,fun k a hh=>?_,u.one⟩,E⟩;obtain⟨cs,r1,r2,r3⟩:=u.row k a hh;exact⟨cs,r1,r2.mapR (fun c x hr=>RT.up hr (fun k a=>⟨.inl a.1,a.2⟩)),r3⟩
 ·intro i i' m n b h h' q aB;obtain⟨_,s,l⟩:=d i m h;obtain⟨_,o2,h2⟩:=d i' n h';exact S.inj i i' s o2 b l h2 q aB
 ·intro i m b h q a;obtain⟨hi,s,l⟩:=d i m h;rcases a with a | a | ⟨r,a⟩
  ·exact S.imm i s b l q a
  ·exact hi (S.inj i id s _ b l ho q a)
  ·exact(S.sep id b a r).2.2.1 i s l q
 ·intro i m b h q;obtain⟨_,s,l⟩:=d i m h;exact S.own i s b l q
 ·intro k a;rcases a with a | a | ⟨r,a⟩
  ·exact S.klt k a
  ·exact(F k a).1.g
  ·exact(S.duf a r).g
 ·intro k a;rcases a with a | a | ⟨r,a⟩
  ·exact S.kfrom k a
  ·exact .inr (by rw[<- S.base.1]; exact(F k a).2)
  ·obtain⟨T,Te,f,t,xs,aL,e⟩:=Og r;obtain⟨vs,bs,_,hR,_⟩:=S.obs id _ e;obtain⟨j,W,hh,q⟩:=(hR.blk k).1 a;obtain⟨_,_,_,h3⟩:=hR.row j W hh;exact .inr (by rw[<- S.base.1]; exact h3 k q)
 ·intro i b q r;obtain⟨hi,r⟩:=Q i r;obtain⟨s1,s2,s3,s4⟩:=S.sep i b q r;refine⟨s1,?_,fun j o W aJ=>?_,fun j W aD=>s4 j W (Q j aD).2⟩
  ·rintro(a | a | ⟨aM,a⟩)
   ·grind
   ·grind
   grind
  ·obtain⟨_,s,l⟩:=d j o W;exact s3 j s l aJ
 ·intro i v hv;obtain⟨⟨Y,aA,l⟩,h2⟩:=S.pin i v hv;have hi:500000+i≠id:=fun e=>by
   have:id<500000:=by simpa using aI
   omega
  have:=(V (500000+i)).2 hi;rw[l] at this;obtain⟨H,_,e⟩:=this;exact⟨⟨Y,H,e⟩,h2⟩
theorem KJ:∀{e:List (Nat×Sl)},IF e=true->∀{k:Nat} {s:Sl},c7 (Fa id ver fr t xs e) k=some s->∃a,c7 e k=some ⟨s.p,a⟩/\Aq id ver fr t xs a=some s.a
 | [],_,k,s,h=>by cases h
 | (j,s0) :: r,hn,k,s,h=>by
   simp only[IF,ba,List.all_eq_true,Bool.not_eq_true'] at hn;unfold Fa at h;split at h
   ·rename_i b c;rw[lK] at h ⊢;split at h
    ·rename_i e;cases h;exact⟨s0.a,by simp_all,c⟩
    ·rename_i e;rw[if_neg e];exact KJ hn.2 h
   ·obtain⟨a,m,f⟩:=KJ hn.2 h;refine⟨a,?_,f⟩;rw[lK];split
    ·rename_i e;exfalso;have:∀{e:List (Nat×Sl)},(∀x∈e,Nat.beq x.1 j=false)->c7 e j=none:=by
      intro e
      induction e with
      | nil=>intro _; rfl
      | cons y r g =>
        intro i;obtain⟨d,v⟩:=y;rw[lK,if_neg]
        ·grind
        ·intro l
         simp_all
     grind
    omega
end
theorem Zn{X:Cx}{st st':St}{id:Nat}(h:Gz id st=some st')(l:Nat.blt id 500000=true){G:Gh}{a:Act}(S:Sat X G)(u:G.o=st.o)(i:EnvR X.n G st.e a):∃G',Sat X G'/\G'.o=st'.o/\G'.w=G.w/\EnvR X.n G' st'.e a:=by
 unfold Gz at h;split at h
 ·rename_i T y t Q ver d;rw[ce] at h;split at h
  ·rename_i r;split at h
   ·rename_i j hz;cases h;rw[<- u] at d hz;have c:=y0w S d rfl j;obtain⟨z,m,H,g⟩:=S.obs id _ d;refine⟨Fb G id j,Zm S d (fun k f=>⟨by grind[Ge],g k f⟩) c hz l,rfl,rfl,i.defers,i.size,fun k s f=>?_⟩;obtain⟨b,q,v⟩:=KJ r f;obtain⟨E,P⟩:=i.val k _ q
    grind[Tq]
   grind
  grind
 ·rename_i T W y t Q d;rw[ce] at h;split at h
  ·rename_i r;split at h
   ·rename_i j hz;cases h;rw[<- u] at d hz;have c:=y0v (ver:=0) S d rfl j;obtain⟨F,V,m,x,g⟩:=S.obs id _ d;refine⟨Fb G id j,Zm S d (fun k f=>⟨by grind[Ge],g k f⟩) c hz l,rfl,rfl,i.defers,i.size,fun k s f=>?_⟩;obtain⟨b,q,v⟩:=KJ r f;obtain⟨E,P⟩:=i.val k _ q
    grind[Tq]
   grind
  grind
 grind
theorem fz{X:Cx}{st:St}{c:Code}{Q:Exit->Act->World->Prop}(id:Nat)(st':St)(h:Gz id st=some st')(d:Nat.blt id 500000=true)(k:VX X st' c Q):VX X st c Q:=fun G a S g i=>by
 obtain⟨l,f,b,j,e⟩:=Zn h d S g i;have:=k l a f b e
 grind
theorem UN{X:Cx}{st:St}{c:Code}{Q:Exit->Act->World->Prop}{ρ:Type}{r:ρ}(H:none=some r):VX X st c Q:=by cases H
def KK:List Par->Bool
 | []=>true
 | .dat (.int _) :: r=>KK r
 | .dat .bool :: r=>KK r
 | .dat .str :: r=>KK r
 | _=>false
def sc:(ps:List Par)->w9 ps->List Value
 | [],_=>[]
 | .dat (.int k) :: r,x=>.int k x.1 :: sc r x.2
 | .dat .bool :: r,x=>.bool x.1 :: sc r x.2
 | .dat .str :: r,x=>.string x.1 :: sc r x.2
 | _ :: r,x=>sc r x.2
theorem Tr{K:Nat->Prop}{w:World}:∀{ps:List Par} {x:w9 ps} {vs:List Value} {go:Option Nat},KK ps=true->ArgsR K w go ps x vs->vs=sc ps x/\go=none
 | [],x,vs,go,_,h=>h
 | .dat (.int k) :: r,x,vs,go,hs,⟨v,us,e,a,h⟩=>by
   obtain⟨b,c⟩:=Tr (ps:=r) hs h;refine⟨?_,c⟩;rw[e,b];have a:=a.1;simp only[List.cons.injEq,and_true] at a;rw[a]; rfl
 | .dat .bool :: r,x,vs,go,hs,⟨v,us,e,a,h⟩=>by
   obtain⟨b,c⟩:=Tr (ps:=r) hs h;refine⟨?_,c⟩;rw[e,b];have a:[v]=_:=a;simp only[List.cons.injEq,and_true] at a;rw[a]; rfl
 | .dat .str :: r,x,vs,go,hs,⟨v,us,e,a,h⟩=>by
   obtain⟨b,c⟩:=Tr (ps:=r) hs h;refine⟨?_,c⟩;rw[e,b];have a:=a.1;simp only[List.cons.injEq,and_true] at a;rw[a]; rfl
theorem Tt{K:Nat->Prop}{w:World}{go:Option Nat}:∀{ps:List Par} (z:B1 ps),KK ps=true->IOR K w go ps z
 | [],_,_=>trivial
 | .dat (.int _) :: r,z,h=>Tt (ps:=r) z h
 | .dat .bool :: r,z,h=>Tt (ps:=r) z h
 | .dat .str :: r,z,h=>Tt (ps:=r) z h
theorem B0X{P:Program}{f:FuncId}{ps:List Par}{ρ:Type}[Inhabited ρ]{F:w9 ps->Option ρ}{t:Ty}{D:ρ->j7 t}{Z:ρ->B1 ps}(a:KK ps=true)(m:AN P f=true)
  (h:∀x r w,F x=some r->wfs ps x->Calls P f (sc ps x).toArray w fun en w'=>∃v,en=.returned v/\Ext w w'/\RT (fun _=>False) w' t [v] (D r)):Ok P (k8 f ps F (fun r=>.d true t (D r)) Z):=by
 refine⟨m,fun x l w s o K q c=>?_⟩;obtain⟨rfl,rfl⟩:=Tr a c;refine Calls.mono (h x _ w (u0v l) c.wfs) ?_;rintro en w' ⟨v,e,n,i⟩;exact⟨v,[],e,WE.of_ext n,trivial,(fun b g=>nomatch g),⟨RT.up i (fun k j=>j.elim),rfl⟩,Tt _ a⟩
theorem H0V{K:Nat->Prop}{w:World}{k:IntKind}{x:Int}(h:lo k<=x/\x<=hi k):RT K w (.int k) [.int k x] x:=⟨rfl,h⟩
theorem H0U{K:Nat->Prop}{w:World}{s:ByteArray}(h:s.size<=9223372036854775807):RT K w .str [.string s] s:=⟨rfl,h⟩
end Go.Proofs.Xv
end
section
namespace Go.Proofs.Xl
instance N0l{α β:Type}[Inhabited α]:Inhabited (α ⊕ β):=⟨.inl default⟩
def Bc{α β:Type}:Option (α ⊕ β)->Bool
 | some (.inl _)=>true
 | _=>false
def Jt{α β:Type}:Option (α ⊕ β)->Bool
 | some (.inr _)=>true
 | _=>false
def vL{α β:Type}[Inhabited α]:Option (α ⊕ β)->α
 | some (.inl a)=>a
 | _=>default
def vR{α β:Type}[Inhabited β]:Option (α ⊕ β)->β
 | some (.inr b)=>b
 | _=>default
def two{α β γ:Type}(f:α->γ)(g:β->γ):α ⊕ β->γ
 | .inl a=>f a
 | .inr b=>g b
end Go.Proofs.Xl
namespace Go.Proofs.Xv
open Go Go.RowKit Go.Proofs.Sv Go.Proofs.Xl
def MJ(f:FuncId)(ps:List Par){α β:Type}[Inhabited α](F:w9 ps->Option (α ⊕ β))(R:α->AV)(z:B1 ps):Ct:=⟨f,ps,fun x=>⟨Bc (F x)=true,R (vL (F x)),z⟩⟩
def MK(f:FuncId)(ps:List Par){α β:Type}[Inhabited β](F:w9 ps->Option (α ⊕ β))(R:β->AV)(z:B1 ps):Ct:=⟨f,ps,fun x=>⟨Jt (F x)=true,R (vR (F x)),z⟩⟩
theorem VE{P:Program}{f:FuncId}{ps:List Par}{d e:Type}[Inhabited (d ⊕ e)][Inhabited d]{F:w9 ps->Option (d ⊕ e)}{g:d->AV}{RB:e->AV}{z:B1 ps}(h:Ok P (k8 f ps F (two g RB) (fun _=>z))):Ok P (MJ f ps F g z):=by
 refine⟨h.1,fun x c w l i K k j=>?_⟩;have c:Bc (F x)=true:=c;cases hF:F x with
 | none=>rw[hF] at c; cases c
 | some s =>
   cases s with
   | inr b=>rw[hF] at c; cases c
   | inl a =>
     have:=h.2 x (show(F x).isSome=true by grind) w l i K k j;simp only[k8,MJ] at this ⊢;rw[hF] at this ⊢;exact this
theorem VF{P:Program}{f:FuncId}{ps:List Par}{e d:Type}[Inhabited (e ⊕ d)][Inhabited d]{F:w9 ps->Option (e ⊕ d)}{i:e->AV}{RB:d->AV}{z:B1 ps}(h:Ok P (k8 f ps F (two i RB) (fun _=>z))):Ok P (MK f ps F RB z):=by
 refine⟨h.1,fun x c w l g K k j=>?_⟩;have c:Jt (F x)=true:=c;cases hF:F x with
 | none=>rw[hF] at c; cases c
 | some s =>
   cases s with
   | inl b=>rw[hF] at c; cases c
   | inr a =>
     have:=h.2 x (show(F x).isSome=true by grind) w l g K k j;simp only[k8,MK] at this ⊢;rw[hF] at this ⊢;exact this
theorem sp{X:Cx}{st:St}{c:Code}{Q:Exit->Act->World->Prop}{ρ:Type}{r:ρ}{b:Bool}{d a:Option ρ}(H:(if b=true then d else a)=some r)(f:d=some r->VX X st c Q)(e:a=some r->VX X st c Q):VX X st c Q:=by
 grind
end Go.Proofs.Xv
end
section
namespace Go.Proofs.Xv
open Go Go.RowKit Go.Proofs.Sv Go.Proofs.Xl
abbrev Z(e:List (Nat×Sl))(o:List (Nat×Ob)):St:=⟨e,o⟩
abbrev R(i:Nat):AV:=.ptr i 0
abbrev O(i:Nat):AV:=.os i 0
abbrev A(T:TypeId)(t:Ty)(xs:List (j7 t))(v:Nat):Ob:=.arr T true t xs v
abbrev K(T:TypeId)(t:Ty)(x:j7 t):Ob:=.box T (p8 false t x)
class HG(P:Program)(Γ:outParam p5):Prop where
 h:x7 P Γ
class HT(P:Program)(T:outParam (List Ct)):Prop where
 h:∀c∈T,Ok P c
def Tu(st:St):List Nat:=st.e.map Prod.fst
section
variable {P:Program} {n:Nat} {y:World×(Nat->Prop)×(Nat->Prop)×(Nat->Value->Prop)×Nat} {st:St} {Q:Exit->Act->World->Prop} {Γ:p5} {T:List Ct} {ρ α:Type} {r:ρ}
theorem zD[a:HG P Γ][d:HT P T][e:K1 P](S:α->St){V:Prop}[Decidable V]{x:α}{f:α->Option ρ}{id:Nat}{l:List Oper}{b:Bool}(H:gd V (lt x f)=some r)(c:∀v,f v=some r->FX (cx P n y) (S v) .normal Q)(h:H5 b n Γ T l (Tu (S x)) st=some (V,S x):=by kernel_rfl):VX (cx P n y) st (.region id l.toArray b) Q:=zd a.h d.h _ S H h c
theorem qB[a:HG P Γ][f:HT P T][g:K1 P](st':St){V:Prop}[Decidable V]{e:Option ρ}{id:Nat}{l:List Oper}{b:Bool}{c:Code}(H:gd V e=some r)(d:e=some r->VX (cx P n y) st' c Q)(h:H5 b n Γ T l (Tu st') st=some (V,st'):=by kernel_rfl):VX (cx P n y) st (.seq (.region id l.toArray b) c) Q:=qb a.h f.h _ st' H h d
theorem qC[a:HG P Γ][e:HT P T][g:K1 P](S:α->St){x:α}{f:α->Option ρ}{id:Nat}{l:List Oper}{b:Bool}{c:Code}(H:lt x f=some r)(d:∀v,f v=some r->VX (cx P n y) (S v) c Q)(h:H5 b n Γ T l (Tu (S x)) st=some (True,S x):=by kernel_rfl):VX (cx P n y) st (.seq (.region id l.toArray b) c) Q:=qc a.h e.h _ S H h d
theorem qD[a:HG P Γ][e:HT P T][g:K1 P](S:α->St){V:Prop}[Decidable V]{x:α}{f:α->Option ρ}{id:Nat}{l:List Oper}{b:Bool}{c:Code}(H:gd V (lt x f)=some r)(d:∀v,f v=some r->VX (cx P n y) (S v) c Q)(h:H5 b n Γ T l (Tu (S x)) st=some (V,S x):=by kernel_rfl):VX (cx P n y) st (.seq (.region id l.toArray b) c) Q:=qd a.h e.h _ S H h d
theorem cD{X:Cx}{c:Operand}{a d:Code}{b:Bool}{f e:Option ρ}(H:(if b=true then f else e)=some r)(i:f=some r->VX X st a Q)(g:e=some r->VX X st d Q)(h:KG st c=some b:=by kernel_rfl):VX X st (.cond c a d) Q:=cd H h i g
theorem jN{X:Cx}{b:Type}(r:ρ)(E:b->St)(J:b->Option ρ){a d:Code}(h:∀s,J s=some r->VX X (E s) d Q)(k:∀Q',(∀{s st'},J s=some r->(h:Gy st' (E s)=some (E s):=by kernel_rfl)->FX X st' .normal Q')->(∀{st' id},FX X st' (.exit id) Q->FX X st' (.exit id) Q')->(∀{st'},FX X st' .ret Q->FX X st' .ret Q')->VX X st a Q'):VX X st (.seq a d) Q:=jn r E J h (fun Q' n e t=>k Q' (fun H h=>n H h) e t)
theorem lX{X:Cx}{c:Type}(E:c->St)(d:c){F:(c->Option ρ)->c->Option ρ}{a:Code}(H:lp F d=some r)
 (b:∀Q' (g:c->Option ρ),(∀{s st'},g s=some r->(h:Gy st' (E s)=some (E s):=by kernel_rfl)->FX X st' .normal Q')->(∀{st' id},FX X st' (.exit id) Q->FX X st' (.exit id) Q')->(∀{st'},FX X st' .ret Q->FX X st' .ret Q')->∀s,F g s=some r->VX X (E s) a Q') (f:Gy st (E d)=some (E d):=by kernel_rfl):VX X st (.loop a) Q:=lx E d H f (fun Q' g n e t s H=>b Q' g (fun H h=>n H h) e t s H)
def Tv:List Nat->St->Option St
 | [],st=>some st
 | i :: r,st=>bif Nat.blt i 500000 then(Gz i st).bind (Tv r) else none
theorem N0n{X:Cx}{c:Code}{Q:Exit->Act->World->Prop}:∀(ids:List Nat) {st st':St},Tv ids st=some st'->VX X st' c Q->VX X st c Q
 | [],st,st',h,k=>by cases h; exact k
 | i :: r,st,st',h,k=>by
   unfold Tv at h;cases hid:Nat.blt i 500000 with
   | false=>grind
   | true =>
     rw[hid] at h;cases hz:Gz i st with
     | none=>grind
     | some s =>
       rw[hz] at h;exact fz i s hz hid (N0n r h k)
theorem Vz{X:Cx}{c:Code}(a:List Nat)(st':St)(k:VX X st' c Q)(h:Tv a st=some st':=by kernel_rfl):VX X st c Q:=N0n a h k
theorem fZ{X:Cx}{c:Code}(id:Nat)(st':St)(k:VX X st' c Q)(h:Gz id st=some st':=by kernel_rfl)(a:Nat.blt id 500000=true:=by kernel_rfl):VX X st c Q:=fz id st' h a k
end
def Tw(X:Cx)(Γ:p5)(rs:List ResultVar)(ps:List Par){ρ:Type}(R:ρ->AV)(Z:ρ->B1 ps)(r:ρ)(x:Exit)(Q:Exit->Act->World->Prop):Prop :=
 ∀{st:St} {e:ρ},some e=some r->(h:OK Γ st rs ps (R e) (Z e)=some (R e,Z e):=by kernel_rfl)->FX X st x Q
theorem okL{P:Program}{Γ:p5}[g:HG P Γ]{f:FuncId}{ps:List Par}{ρ:Type}[Inhabited ρ]{F:w9 ps->Option ρ}{R:ρ->AV}{Z:ρ->B1 ps}{d:Func}{c:Code}{n:Nat}(rs:List ResultVar)
  (m:P.funcs[f]?=some d) (j:d.ntmps=n) (k:d.results=rs.toArray)
  (h:∀y x r,F x=some r->∀Q,Tw (cx P n y) Γ rs ps R Z r .normal Q->Tw (cx P n y) Γ rs ps R Z r .ret Q->VX (cx P n y) ⟨O1 0 ps x,H2 0 ps x⟩ c Q)
  (i:d.body=some c:=by rfl) (l:AN P f=true:=by kernel_rfl) (e:(Nat.ble ps.length n&&Z1 ps)=true:=by rfl):Ok P (k8 f ps F R Z) :=
 okl g.h rs m j i k l e (fun y x r H Q a b=>h y x r H Q (fun H h=>a H h) (fun H h=>b H h))
end Go.Proofs.Xv
end
section
namespace Go.Proofs.Xv
open Go Go.Proofs Go.Proofs.Sv
def Zo(P:Program)(T:TypeId):Nat->List (Nat×Nat)->List (Option (Nat×Bool))
 | _,[]=>[]
 | k,_ :: r=>Oe P T k :: Zo P T (k+1) r
theorem C0k{P:Program}{T:TypeId}:∀{l:List (Nat×Nat)} {k:Nat},Zo P T k l=l.map (fun x=>some (x.1,true))->Su P T k l
 | [],_,_=>trivial
 | _ :: _,_,h=>⟨(List.cons.inj h).1,C0k (List.cons.inj h).2⟩
abbrev J0g:=(Option (Nat×Nat×Option Value)×Bool×Bool×Bool)×Bool×Option (List (Nat×Nat))×Bool×List (Option (Nat×Bool))×Bool×Option (List (Bool×Bool))×Option TypeDesc
def Zp(P:Program)(x:Nat×TI):J0g :=
 ((Se P x.1,CP x.2.zero.cells.toList x.2.size,Nat.blt 0 x.2.size,ones x.2.zero.cells.toList),match x.2.kd with
 | .agg pl e _=>(Bq P x.1,Kl P x.1,Of P x.1,Zo P x.1 0 pl,(!e||Ya P x.1),Yb P x.1,none)
 | .arr _ _=>(Bq P x.1,none,true,[],true,none,P.underlying x.1)
 | .oth=>(X0 P x.1,none,true,[],true,none,none)
 | _=>(X0 P x.1,none,true,[],true,none,P.underlying x.1))
def Zq(P:Program)(x:Nat×TI):J0g :=
 ((some (x.2.size,x.2.bytes,some x.2.zero),true,true,true),match x.2.kd with
 | .agg pl _ ag=>(true,some pl,true,pl.map (fun x=>some (x.1,true)),true,some (ag.map fun b=>(b,!b)),none)
 | .arr m E=>(true,none,true,[],true,none,some (.array m E))
 | .sl E=>(true,none,true,[],true,none,some (.slice E))
 | .str=>(true,none,true,[],true,none,some .string)
 | .bool=>(true,none,true,[],true,none,some .bool)
 | .int k=>(true,none,true,[],true,none,some (.int k))
 | .ptr=>(true,none,true,[],true,none,some (.pointer (P.pointee x.1)))
 | .oth=>(true,none,true,[],true,none,none))
theorem K0C{P:Program}{x:Nat×TI}(h:Zp P x=Zq P x):Ih P x.1 x.2:=by
 obtain⟨T,c,b,zero,e,k⟩:=x;unfold Zp Zq at h;simp only[pj] at h;obtain⟨⟨j,d,i,f⟩,a⟩:=h;refine⟨j,d,i,f,?_⟩;cases e <;> simp only[pj] at a <;> unfold Sx
 ·exact⟨a.1,a.2.1,a.2.2.1,C0k a.2.2.2.1,fun g=>by simpa [g] using a.2.2.2.2.1,a.2.2.2.2.2.1⟩
 ·exact⟨a.1,a.2.2.2.2.2.2⟩
 ·exact⟨a.1,a.2.2.2.2.2.2⟩
 ·exact⟨a.1,a.2.2.2.2.2.2⟩
 ·exact⟨a.1,a.2.2.2.2.2.2⟩
 ·exact⟨a.1,a.2.2.2.2.2.2⟩
 ·exact a.1
 ·exact⟨a.1,a.2.2.2.2.2.2⟩
theorem Ra{P:Program}{Γ:p5}(h:Γ.map (Zp P)=Γ.map (Zq P)):x7 P Γ:=by
 induction Γ with
 | nil=>exact D0z
 | cons x r a =>
   simp only[List.map_cons,List.cons.injEq] at h;exact tK (K0C h.1) (a h.2)
end Go.Proofs.Xv
end
