/- Calls by contracts. Over any program. -/
import Derived.Test.YtechodbafnmddaaGreatDoorXA
import Derived.KernelRfl
set_option maxHeartbeats 0
section
namespace Go.Proofs.Xv
open Go Go.RowKit Go.Proofs.Sv
theorem Sat.after{X:Cx}{G:Gh}(S:Sat X G){w':World}{go:Option Nat}(n:WE go G.w w'){K':Nat->Prop}(hK:∀k,G.K k->K' k)(aB:∀k,K' k->UFg w' X.w0.heap.size k)(F:∀k,K' k->X.K0 k∨X.base<=k)
  (aC:∀id o b,a8 G.o id=some o->G.γ id=some b->¬K' b) (aF:∀id b,G.δ id b->C5 (a8 G.o id)=true->¬K' b) {a:List (Nat×Ob)}
  (hu:(go=none/\a=[])∨∃id b T cs0 t,∃z:c7 t,go=some b/\a=[(id,Ob.box T (s5 false t z))]/\a8 G.o id=some (.box T cs0)/\G.γ id=some b/\∃us,Blk w' b us T/\RT K' w' t us z) :
  Sat X ⟨G.ρ,G.γ,K',w',a++G.o,G.B,G.δ⟩/\GLe G ⟨G.ρ,G.γ,K',w',a++G.o,G.B,G.δ⟩:=by
 have W:∀k,G.K k->go≠some k:=fun k m e=>by
  grind
 have P:∀k,G.K k->k<G.w.heap.size->w'.heap[k]?=G.w.heap[k]?:=fun k m hl=>n.block k hl (W k m)
 -- where the objects stand
 have V:∀i,(∃T cs0 t,∃z:c7 t,a8 (a++G.o) i=some (.box T (s5 false t z))/\a8 G.o i=some (.box T cs0)/\go=G.γ i/\(∃b us,G.γ i=some b/\Blk w' b us T/\RT K' w' t us z))∨(a8 (a++G.o) i=a8 G.o i/\∀o b,a8 G.o i=some o->G.γ i=some b->go≠some b):=fun i=>by
  rcases hu with ⟨rfl,rfl⟩ | ⟨id,b,T,cs0,t,z,rfl,rfl,g,hγ,us,hB,hR⟩
  ·grind
  ·by_cases e:id=i
   ·subst e;exact .inl ⟨T,cs0,t,z,by rw[List.cons_append,lK,if_pos rfl],g,hγ.symm,b,us,hγ,hB,hR⟩
   ·refine .inr ⟨by rw[List.cons_append,lK,if_neg e]; rfl,fun o b' d E e'=>?_⟩;cases e';exact e (S.inj id i _ _ b g d hγ E)
 have l:GLe G ⟨G.ρ,G.γ,K',w',a++G.o,G.B,G.δ⟩:=by
  refine⟨rfl,fun k m hl=>⟨hK k m,P k m hl⟩,fun i T cs hi=>⟨rfl,?_⟩,fun i T Te fr t xs Q hi=>⟨rfl,?_⟩,fun i T fr t xs aA hi=>?_⟩
  ·grind
  ·grind
  ·grind
 have f:∀i o,a8 (a++G.o) i=some o->∃o',a8 G.o i=some o':=fun i o h=>by
  grind
 have u:∀i,C5 (a8 (a++G.o) i)=true->C5 (a8 G.o i)=true:=fun i h=>by
  rcases V i with ⟨T',_,t,z,q,_⟩ | ⟨q,_⟩
  ·rw[q] at h; cases h
  grind
 refine⟨⟨S.base,n.os.trans S.os,n.tape.trans S.tape,n.output.trans S.output,Nat.le_trans S.size n.size,fun k m hi=>?_,?_,?_,?_,?_,aB,F,fun i b s hg=>?_,fun i v h=>(S.pin i v h).mono l⟩,l⟩
 rotate_right
 ·have hg:=u i hg;obtain⟨s1,s2,s3,s4⟩:=S.sep i b s hg
  grind
 ·refine(n.block k (Nat.lt_of_lt_of_le m S.size) (fun e=>?_)).trans (S.block k m hi);rcases hu with ⟨rfl,_⟩ | ⟨id,b,T,cs0,t,z,rfl,_,g,hγ,_⟩
  ·cases e
  ·cases e;rcases S.own id _ k g hγ with h | h
   ·omega
   grind
 ·intro i o g;rcases V i with ⟨T,cs0,t,z,q,H,_,b,us,h3,h4,h5⟩ | ⟨q,H⟩
  ·rw[q] at g;cases g;obtain⟨b',aD,r,y,_⟩:=S.obs i _ H;rw[h3] at r;cases r;exact⟨b,us,h3,y,h4,X3 (RT.up h5 (fun k m=>⟨m,(fun e=>by cases e)⟩))⟩
  ·have d:a8 G.o i=some o:=by rw[<- q]; exact g
   have:=S.obs i o d;cases o with
   | box T cs =>
     obtain⟨b,us,r,y,Y,g4⟩:=this;exact⟨b,us,r,y,Y.we n (fun j hj e=>by grind),g4.mono l⟩
   | arr T fr t xs aA =>
     obtain⟨cs,r,y,Y⟩:=this;exact⟨cs,r.we n (fun j hj e=>H _ j d e hj),y.mapR (fun c x hr=>RT.same (w:=G.w) l.hR hr),Y⟩
   | grd T Te fr t xs Q =>
     obtain⟨vs,bs,r,y,Y⟩:=this;refine⟨vs,bs,r.we n (fun j hj e=>H _ j d e hj),y.up l (fun _=>Iff.rfl) n (fun b s u=>?_),Y⟩;rcases hu with ⟨rfl,_⟩ | ⟨id,b',T,cs0,t,z,rfl,_,ho2,hγ,_⟩
     ·grind
     ·cases u;exact(S.sep i b s (by rw[d]; rfl)).2.2.1 id _ ho2 hγ
 ·intro i i' o o' b g d s E;obtain⟨o1,q⟩:=f i o g;obtain⟨o2,H⟩:=f i' o' d;exact S.inj i i' o1 o2 b q H s E
 ·grind
 ·intro i o b g s;obtain⟨o1,q⟩:=f i o g;exact S.own i o1 b q s
theorem Sat.add{X:Cx}{G:Gh}(S:Sat X G){id:Nat}{ob:Ob}{r:Value}{g:Option Nat}(hd:a8 G.o id=none)(hg:∀b,g=some b->(X.w0.heap.size<=b∨X.io b)/\¬G.K b/\(∀i o,a8 G.o i=some o->G.γ i≠some b)/\∀i,G.δ i b->C5 (a8 G.o i)=true->False)
  (aB:GLe G (G.put id ob r g G.w)->ObR (G.put id ob r g G.w) id ob):Sat X (G.put id ob r g G.w)/\GLe G (G.put id ob r g G.w):=by
 have d:∀i,a8 (G.put id ob r g G.w).o i=if id=i then some ob else a8 G.o i:=fun i=>lK _ _ _ _
 have z:∀i o,a8 G.o i=some o->¬id=i:=fun i o h e=>by grind
 have f:GLe G (G.put id ob r g G.w):=by
  refine⟨rfl,fun k s _=>⟨s,rfl⟩,fun i T y hi=>?_,fun i T Y P t H q hi=>?_,fun i T P t H E hi=>?_⟩
  ·grind[Gh.put]
  ·grind[Gh.put]
  ·have e:=z i _ hi;rw[d,if_neg e];simp only[Gh.put,if_neg (Ne.symm e)]
   grind
 refine⟨⟨S.base,S.os,S.tape,S.output,S.size,S.block,?_,?_,?_,?_,S.klt,S.kfrom,fun i b c n=>?_,fun i v h=>(S.pin i v h).mono f⟩,f⟩
 rotate_right
 ·obtain⟨hn,c⟩:=c;rw[d,if_neg (Ne.symm hn)] at n;obtain⟨s1,s2,s3,s4⟩:=S.sep i b c n;refine⟨s1,s2,fun j o a x=>?_,fun j x aA=>?_⟩
  ·grind[Gh.put]
  ·obtain⟨aC,x⟩:=x
   grind
 ·intro i o a;rw[d] at a;by_cases e:id=i
  ·grind
  ·rw[if_neg e] at a;have:=S.obs i o a;cases o with
   | box T y =>
     obtain⟨b,us,W,u,F,h4⟩:=this;exact⟨b,us,by grind[Gh.put],by grind[Gh.put],F,h4.mono f⟩
   | arr T P t H E =>
     obtain⟨y,W,u,F⟩:=this;exact⟨y,by grind[Gh.put],u,by grind[Gh.put]⟩
   | grd T Y P t H q =>
     obtain⟨vs,bs,W,u,F⟩:=this;exact⟨vs,bs,by grind[Gh.put],u.up f (fun b=>⟨fun h=>h.2,fun h=>⟨Ne.symm e,h⟩⟩) (WE.refl (g:=none) _) (fun _ _ h=>by cases h),by grind[Gh.put]⟩
 ·intro i V o o' b a m c l;rw[d] at a m;simp only[Gh.put] at c l;by_cases e:i=id
  ·grind
  ·rw[if_neg e] at c;rw[if_neg (Ne.symm e)] at a;by_cases Q:V=id
   ·grind
   ·rw[if_neg Q] at l;rw[if_neg (Ne.symm Q)] at m;exact S.inj i V o o' b a m c l
 ·intro i o b a c s;rw[d] at a;simp only[Gh.put] at c s;by_cases e:i=id
  ·grind
  ·rw[if_neg e] at c;rw[if_neg (Ne.symm e)] at a;exact S.imm i o b a c s
 ·intro i o b a c;rw[d] at a;simp only[Gh.put] at c;by_cases e:i=id
  ·grind
  ·rw[if_neg e] at c;rw[if_neg (Ne.symm e)] at a;exact S.own i o b a c
mutual
def C8(d:Nat):Nat->AV->AV×List (Nat×Ob)×Nat
 | j,.ow T fr t xs=>(.os (1000*j+d) 0,[(1000*j+d,.arr T fr t xs 0)],j+1)
 | j,.ob T xs=>match I4 d j xs with | (ys,o,k)=>(.ptr (1000*k+d) 0,(1000*k+d,.box T ys) :: o,k+1)
 | j,.agg xs=>match I4 d j xs with | (ys,o,k)=>(.agg ys,o,k)
 | j,.tup xs=>match I4 d j xs with | (ys,o,k)=>(.tup ys,o,k)
 | j,.v x=>(.v x,[],j)
 | j,.d fr t x=>(.d fr t x,[],j)
 | j,a=>(a,[],j)
def I4(d:Nat):Nat->List AV->List AV×List (Nat×Ob)×Nat
 | j,[]=>([],[],j)
 | j,a :: r=>match C8 d j a with
   | (b,o,k)=>match I4 d k r with | (s,o',k')=>(b :: s,o'++o,k')
end
theorem TS{a:Type}{l m:List (Nat×a)}{i:Nat}(h:∀x∈l,x.1≠i):a8 (l++m) i=a8 m i:=by
 induction l with
 | nil=>rfl
 | cons x r b =>
   obtain⟨d,v⟩:=x;rw[List.cons_append,lK,if_neg (h (d,v) (by simp))]
   grind
structure TT(X:Cx)(d j k:Nat)(G:Gh)(obs:List (Nat×Ob))(gs:List (Option Nat))(G':Gh):Prop where
 sat:Sat X G'
 le:GLe G G'
 w:G'.w=G.w
 K:G'.K=G.K
 o:G'.o=obs++G.o
 jk:j<=k
 num:∀x∈obs,∃i,j<=i/\i<k/\x.1=1000*i+d
 far:∀b,some b ∉ gs->(∀i o,a8 G.o i=some o->G.γ i≠some b)->∀i o,a8 G'.o i=some o->G'.γ i≠some b
 dl:∀i b,G'.δ i b->C5 (a8 G'.o i)=true->G.δ i b/\C5 (a8 G.o i)=true
def Pn(X:Cx)(G:Gh)(gs:List (Option Nat)):Prop:=∀b,some b∈gs->X.w0.heap.size<=b/\¬G.K b/\(∀i o,a8 G.o i=some o->G.γ i≠some b)/\∀i,G.δ i b->C5 (a8 G.o i)=true->False
theorem l0O:∀{g h:List (Option Nat)},BL (g++h)->BL g/\BL h/\∀b,some b∈g->some b ∉ h
 | [],h,k=>⟨trivial,k,fun _ a=>by cases a⟩
 | x :: r,h,⟨k1,k2⟩=>by
   obtain⟨d,f,i⟩:=l0O k2;refine⟨⟨fun b a c=>k1 b a (by simp[c]),d⟩,f,fun b a c=>?_⟩;rcases List.mem_cons.1 a with e | a
   ·exact k1 b e.symm (by simp[c])
   grind
theorem TU{X:Cx}{d j:Nat}{G:Gh}(S:Sat X G){a:List (Option Nat)}:TT X d j j G [] a G :=
 ⟨S,GLe.refl G,rfl,rfl,rfl,Nat.le_refl _,(fun _ h=>by cases h),(fun _ _ h=>h),fun _ _ h b=>⟨h,b⟩⟩
mutual
theorem h0z{X:Cx}{d:Nat}{K:Bool->Nat->Prop}:∀(a:AV) {j k:Nat} {b:AV} {obs:List (Nat×Ob)} {G:Gh} {u:Value} {gs:List (Option Nat)},C8 d j a=(b,obs,k)->Sat X G->(∀fr i,K fr i->rg G fr i)->ResR K G.w a u gs->BL gs->Pn X G gs->(∀x∈obs,a8 G.o x.1=none) ->
  ∃G',TT X d j k G obs gs G'/\AVR G' b u
 | .ow T fr t xs,j,k,b,obs,G,u,gs,h,S,hK,hR,hN,hF,hfr=>by
   simp only[C8,pj] at h;obtain⟨rfl,rfl,rfl⟩:=h;obtain⟨g,cs,rfl,E,hO,hA⟩:=hR;have hd:=hfr _ (List.mem_singleton.2 rfl);have f:=S.add (id:=1000*j+d) (ob:=.arr T fr t xs 0) (r:=u) (g:=g) hd (fun b m=>let h:=hF b (by grind); ⟨.inl h.1,h.2⟩) (fun z=>⟨cs,by grind[Gh.put],hA.mapR (fun c x hr=>RT.same (w:=G.w) (fun k hk _=>⟨hK fr k hk,rfl⟩) hr),fun b e=>by simp only[Gh.put,if_true] at e ⊢; subst e; exact Nat.le_trans S.le (hF b (by simp)).1⟩);refine⟨_,⟨f.1,f.2,rfl,rfl,rfl,Nat.le_succ _,fun x F=>?_,fun b m q i o hi=>?_,fun i b m n=>?_⟩,E,T,fr,t,xs,0,?_,Nat.le_refl _,fun _=>by simp[Gh.put]⟩
   ·cases List.mem_singleton.1 F;exact⟨j,Nat.le_refl _,Nat.lt_succ_self _,rfl⟩
   ·rw[show(Gh.put G (1000*j+d) (.arr T fr t xs 0) u g G.w).o=(1000*j+d,.arr T fr t xs 0) :: G.o from rfl,lK] at hi
    grind[Gh.put]
   ·obtain⟨hn,m⟩:=m;rw[show(Gh.put G (1000*j+d) (.arr T fr t xs 0) u g G.w).o=(1000*j+d,.arr T fr t xs 0) :: G.o from rfl,lK,if_neg (Ne.symm hn)] at n;exact⟨m,n⟩
   ·rw[show(Gh.put G (1000*j+d) (.arr T fr t xs 0) u g G.w).o=(1000*j+d,.arr T fr t xs 0) :: G.o from rfl,lK]; simp
 | .agg xs,j,k,b,obs,G,u,gs,h,S,hK,⟨us,e,hR⟩,hN,hF,hfr=>by
   simp only[C8] at h;cases f:I4 d j xs with
   | mk H r =>
     obtain⟨o,s⟩:=r;rw[f] at h;simp only[pj] at h;obtain⟨rfl,rfl,rfl⟩:=h;obtain⟨G',E,W⟩:=Po xs f S hK hR hN hF hfr;exact⟨G',E,us,e,W⟩
 | .tup xs,j,k,b,obs,G,u,gs,h,S,hK,⟨us,e,hR⟩,hN,hF,hfr=>by
   simp only[C8] at h;cases f:I4 d j xs with
   | mk H r =>
     obtain⟨o,s⟩:=r;rw[f] at h;simp only[pj] at h;obtain⟨rfl,rfl,rfl⟩:=h;obtain⟨G',E,W⟩:=Po xs f S hK hR hN hF hfr;exact⟨G',E,us,e,W⟩
 | .v x,j,k,b,obs,G,u,gs,h,S,hK,⟨hR,e⟩,hN,hF,hfr=>by
   simp only[C8,pj] at h;obtain⟨rfl,rfl,rfl⟩:=h;exact⟨G,TU S,hR⟩
 | .d fr t x,j,k,b,obs,G,u,gs,h,S,hK,⟨hR,e⟩,hN,hF,hfr=>by
   simp only[C8,pj] at h;obtain⟨rfl,rfl,rfl⟩:=h;exact⟨G,TU S,RT.same (w:=G.w) (fun k hk _=>⟨hK fr k hk,rfl⟩) hR⟩
 | .ptr _ _,_,_,_,_,_,_,_,_,_,_,hR,_,_,_=>hR.elim
 | .pel _ _ _ _ _,_,_,_,_,_,_,_,_,_,_,hR,_,_,_=>hR.elim
 | .os _ _,_,_,_,_,_,_,_,_,_,_,hR,_,_,_=>hR.elim
 | .fn _ _,_,_,_,_,_,_,_,_,_,_,hR,_,_,_=>hR.elim
 | .gel _ _,_,_,_,_,_,_,_,_,_,_,hR,_,_,_=>hR.elim
 | .og _,_,_,_,_,_,_,_,_,_,_,hR,_,_,_=>hR.elim
 | .ob T xs,j,k,b,obs,G,u,gs,h,S,hK,⟨b0,us,gs',eg,hu,hB,hR⟩,hN,hF,hfr=>by
   subst eg;simp only[C8] at h;cases f:I4 d j xs with
   | mk H r =>
     obtain⟨o,s⟩:=r;rw[f] at h;simp only[pj] at h;obtain⟨rfl,rfl,rfl⟩:=h;obtain⟨n1,n2⟩:=hN;have P:=HY xs f;have z:=HZ xs f;obtain⟨Q,l,A1⟩:=Po xs f S hK hR n2 (fun b m=>hF b (by grind)) (fun x F=>hfr x (by grind));obtain⟨f1,f2,f3,f4⟩:=hF b0 (by simp);have hd:a8 Q.o (1000*s+d)=none:=by
      rw[l.o,TS]
      ·simp_all
      ·intro y hy e;obtain⟨i',aC,aB,aA⟩:=P y hy;rw[aA] at e;omega
     have f:=l.sat.add (id:=1000*s+d) (ob:=.box T H) (r:=u) (g:=some b0) hd (fun b m=>by
      cases m;exact⟨.inl f1,by rw[l.K]; exact f2,l.far b0 (n1 b0 rfl) f3,fun i hi V=>f4 i (l.dl i b0 hi V).1 (l.dl i b0 hi V).2⟩) (fun z=>⟨b0,us,by simp[Gh.put],by simp[Gh.put,hu],by show Blk Q.w b0 us T; rw[l.w]; exact hB,A1.mono z⟩)
     have Y:(Gh.put Q (1000*s+d) (.box T H) u (some b0) Q.w).o=(1000*s+d,.box T H) :: Q.o:=rfl;refine⟨_,⟨f.1,GLe.trans l.le f.2 (by rw[l.w]; exact Nat.le_refl _),l.w,l.K,by rw[Y,l.o]; rfl,by omega,fun x F=>?_,fun b m q i o hi=>?_,fun i b m n=>?_⟩,⟨T,H,by rw[Y,lK,if_pos rfl]⟩,b0,by simp[Gh.put,hu],by rw[hu]⟩
     ·rcases List.mem_cons.1 F with rfl | F
      ·exact⟨s,by omega,by omega,rfl⟩
      ·obtain⟨i,E,W,h3⟩:=l.num x F;exact⟨i,E,by omega,h3⟩
     ·rw[Y,lK] at hi;simp only[Gh.put];by_cases e:i=1000*s+d
      ·grind
      ·rw[if_neg e];rw[if_neg (Ne.symm e)] at hi;exact l.far b (fun h=>m (by simp[h])) q i o hi
     ·obtain⟨hn,m⟩:=m;rw[Y,lK,if_neg (Ne.symm hn)] at n;exact l.dl i b m n
theorem Po{X:Cx}{d:Nat}{K:Bool->Nat->Prop}:∀(as':List AV) {j k:Nat} {bs:List AV} {obs:List (Nat×Ob)} {G:Gh} {us:List Value} {gs:List (Option Nat)},I4 d j as'=(bs,obs,k)->Sat X G->(∀fr i,K fr i->rg G fr i)->ResRs K G.w as' us gs->BL gs->Pn X G gs->(∀x∈obs,a8 G.o x.1=none) ->
  ∃G',TT X d j k G obs gs G'/\AVRs G' bs us
 | [],j,k,bs,obs,G,us,gs,h,S,hK,⟨hR,e⟩,hN,hF,hfr=>by
   simp only[I4,pj] at h;obtain⟨rfl,rfl,rfl⟩:=h;exact⟨G,TU S,hR⟩
 | a :: r,j,k,bs,obs,G,us,gs,h,S,hK,⟨u,us',g1,g2,e1,e2,hR1,hR2⟩,hN,hF,hfr=>by
   subst e1; subst e2;simp only[I4] at h;cases hp:C8 d j a with
   | mk b q =>
     obtain⟨o,V⟩:=q;rw[hp] at h;simp only at h;cases hp2:I4 d V r with
     | mk s q =>
       obtain⟨o',k2⟩:=q;rw[hp2] at h;simp only[pj] at h;obtain⟨rfl,rfl,rfl⟩:=h;obtain⟨n1,n2,n3⟩:=l0O hN;obtain⟨T,c,A1⟩:=h0z a hp S hK hR1 n1 (fun b g=>hF b (by simp[g])) (fun x l=>hfr x (by simp[l]));have H:Pn X T g2:=fun b g=>by
        obtain⟨f1,f2,f3,f4⟩:=hF b (by simp[g]);exact⟨f1,by rw[c.K]; exact f2,c.far b (fun h=>n3 b h g) f3,fun i hi E=>f4 i (c.dl i b hi E).1 (c.dl i b hi E).2⟩
       have t:∀x∈o',a8 T.o x.1=none:=fun x l=>by
        obtain⟨i,aB,aA,Q⟩:∃i,V<=i/\i<k2/\x.1=1000*i+d:=by
         exact HY r hp2 x l
        rw[c.o,TS]
        ·grind
        ·intro y hy e;obtain⟨i',Y,W,F⟩:=c.num y hy;rw[F,Q] at e;omega
       obtain⟨G2,f,A2⟩:=Po r hp2 c.sat (fun fr i hi=>by obtain⟨z,v⟩:=hK fr i hi; exact⟨by rw[c.K]; exact z,fun e=>by rw[c.le.hB]; exact v e⟩) (by rw[c.w]; exact hR2) n2 H t;refine⟨G2,⟨f.sat,?_,f.w.trans c.w,f.K.trans c.K,?_,Nat.le_trans c.jk f.jk,?_,?_,fun i b g m=>c.dl i b (f.dl i b g m).1 (f.dl i b g m).2⟩,u,us',rfl,A1.mono f.le,A2⟩
       ·exact GLe.trans c.le f.le (by rw[c.w]; exact Nat.le_refl _)
       ·rw[f.o,c.o,List.append_assoc]
       ·intro x l;rcases List.mem_append.1 l with l | l
        ·obtain⟨i,z,v,P⟩:=f.num x l;exact⟨i,Nat.le_trans c.jk z,v,P⟩
        ·obtain⟨i,z,v,P⟩:=c.num x l;exact⟨i,z,Nat.lt_of_lt_of_le v f.jk,P⟩
       ·intro b g n;exact f.far b (fun h=>g (by simp[h])) (c.far b (fun h=>g (by simp[h])) n)
theorem TV{d:Nat}:∀(a:AV) {j k:Nat} {b:AV} {obs:List (Nat×Ob)},C8 d j a=(b,obs,k)->(∀x∈obs,∃i,j<=i/\i<k/\x.1=1000*i+d)/\j<=k
 | .ow T fr t xs,j,k,b,obs,h=>by
   simp only[C8,pj] at h;obtain⟨rfl,rfl,rfl⟩:=h;refine⟨fun x c=>?_,Nat.le_succ _⟩;cases List.mem_singleton.1 c;exact⟨j,Nat.le_refl _,Nat.lt_succ_self _,rfl⟩
 | .agg xs,j,k,b,obs,h=>by
   simp only[C8] at h;cases hp:I4 d j xs with
   | mk l r =>
     obtain⟨o,g⟩:=r;rw[hp] at h;simp only[pj] at h;obtain⟨rfl,rfl,rfl⟩:=h;exact⟨HY xs hp,HZ xs hp⟩
 | .tup xs,j,k,b,obs,h=>by
   simp only[C8] at h;cases hp:I4 d j xs with
   | mk l r =>
     obtain⟨o,g⟩:=r;rw[hp] at h;simp only[pj] at h;obtain⟨rfl,rfl,rfl⟩:=h;exact⟨HY xs hp,HZ xs hp⟩
 | .v x,j,k,b,obs,h=>by simp only[C8,pj] at h; grind
 | .d fr t x,j,k,b,obs,h=>by simp only[C8,pj] at h; grind
 | .ptr _ _,j,k,b,obs,h=>by simp only[C8,pj] at h; grind
 | .pel _ _ _ _ _,j,k,b,obs,h=>by simp only[C8,pj] at h; grind
 | .os _ _,j,k,b,obs,h=>by simp only[C8,pj] at h; grind
 | .fn _ _,j,k,b,obs,h=>by simp only[C8,pj] at h; grind
 | .gel _ _,j,k,b,obs,h=>by simp only[C8,pj] at h; grind
 | .og _,j,k,b,obs,h=>by simp only[C8,pj] at h; grind
 | .ob T xs,j,k,b,obs,h=>by
   simp only[C8] at h;cases hp:I4 d j xs with
   | mk l r =>
     obtain⟨o,g⟩:=r;rw[hp] at h;simp only[pj] at h;obtain⟨rfl,rfl,rfl⟩:=h;have e:=HY xs hp;have f:=HZ xs hp;refine⟨fun x c=>?_,by omega⟩;rcases List.mem_cons.1 c with rfl | c
     ·exact⟨g,f,by omega,rfl⟩
     ·obtain⟨i,n,q,m⟩:=e x c;exact⟨i,n,by omega,m⟩
theorem HZ{d:Nat}:∀(as':List AV) {j k:Nat} {bs:List AV} {obs:List (Nat×Ob)},I4 d j as'=(bs,obs,k)->j<=k
 | [],j,k,bs,obs,h=>by simp only[I4,pj] at h; omega
 | a :: r,j,k,bs,obs,h=>by
   simp only[I4] at h;cases hp:C8 d j a with
   | mk b q =>
     obtain⟨o,c⟩:=q;rw[hp] at h;simp only at h;cases hp2:I4 d c r with
     | mk s q =>
       obtain⟨f,e⟩:=q;rw[hp2] at h;simp only[pj] at h;obtain⟨rfl,rfl,rfl⟩:=h;exact Nat.le_trans (TV a hp).2 (HZ r hp2)
theorem HY{d:Nat}:∀(as':List AV) {j k:Nat} {bs:List AV} {obs:List (Nat×Ob)},I4 d j as'=(bs,obs,k)->∀x∈obs,∃i,j<=i/\i<k/\x.1=1000*i+d
 | [],j,k,bs,obs,h=>by simp only[I4,pj] at h; grind
 | a :: r,j,k,bs,obs,h=>by
   simp only[I4] at h;cases hp:C8 d j a with
   | mk b q =>
     obtain⟨o,l⟩:=q;rw[hp] at h;simp only at h;cases hp2:I4 d l r with
     | mk s q =>
       obtain⟨m,n⟩:=q;rw[hp2] at h;simp only[pj] at h;obtain⟨rfl,rfl,rfl⟩:=h;intro x c;rcases List.mem_append.1 c with c | c
       ·obtain⟨i,e,f,g⟩:=HY r hp2 x c;exact⟨i,Nat.le_trans (TV a hp).2 e,f,g⟩
       ·obtain⟨i,e,f,g⟩:=(TV a hp).1 x c;exact⟨i,e,Nat.lt_of_lt_of_le f (HZ r hp2),g⟩
end
def DB:(ps:List m0)->A3 ps->List AV
 | [],_=>[]
 | .io _ t :: _,z=>s5 false t z
 | .dat _ :: r,z=>DB r z
 | .agg _ :: r,z=>DB r z
 | .fn _ _ :: r,z=>DB r z
 | .nof _ :: r,z=>DB r z
 | .nil :: r,z=>DB r z
 | .os _ _ :: r,z=>DB r z
def X7(o:List (Nat×Ob))(ps:List m0)(z:A3 ps):Option Nat->List (Nat×Ob)
 | none=>[]
 | some id=>match a8 o id with
   | some (.box T _)=>[(id,.box T (DB ps z))]
   | _=>[]
def BM{α:Type}:List α->Bool
 | []=>true
 | _ :: _=>false
theorem Md{c:Type}{l:List c}(h:BM l=true):l=[]:=by cases l with
 | nil=>rfl
 | cons a b=>cases h
def isNone{α:Type}:Option α->Bool
 | none=>true
 | some _=>false
def CG(o:List (Nat×Ob)):List (Nat×Ob)->Bool
 | []=>true
 | (i,_) :: r=>U9 o i&&CG o r
def Gb(i:Nat):List Nat->Bool
 | []=>true
 | x :: r=>!Nat.beq x i&&Gb i r
def TW(l:List Nat):Option Nat->Bool
 | none=>true
 | some i=>Gb i l
def Pp:List m0->List AV->Bool
 | .fn f _ :: r,.fn f' _ :: s=>Nat.beq f f'&&Pp r s
 | .nof f :: r,.fn f' _ :: s=>Nat.beq f f'&&Pp r s
 | _ :: r,_ :: s=>Pp r s
 | _,_=>true
/- Data that lead S8 new memory alone, or nowhere. -/
mutual
def Ba:AV->Bool
 | .d fr t _=>fr||x7 t
 | .ow _ fr t _=>fr||x7 t
 | .ob _ xs=>Ia xs
 | .agg xs=>Ia xs
 | .tup xs=>Ia xs
 | _=>true
def Ia:List AV->Bool
 | []=>true
 | a :: r=>Ba a&&Ia r
end
mutual
theorem ResR.fresh{K K':Bool->Nat->Prop}{w:World}(f:∀fr k,K true k->K' fr k):∀{a:AV} {u:Value} {gs:List (Option Nat)},Ba a=true->ResR K w a u gs->ResR K' w a u gs
 | .v _,_,_,_,h=>h
 | .d fr t x,u,gs,hf,⟨h,e⟩=>by
   refine⟨?_,e⟩;simp only[Ba,Bool.or_eq_true] at hf
   grind[RT.up,RT.free]
 | .ow T fr t xs,u,gs,hf,⟨g,cs,h1,h2,h3,h4⟩=>by
   refine⟨g,cs,h1,h2,h3,h4.mapR (fun c x h=>?_)⟩;simp only[Ba,Bool.or_eq_true] at hf
   grind[RT.up,RT.free]
 | .agg xs,u,gs,hf,⟨us,e,h⟩=>⟨us,e,ResRs.fresh f (by grind[Ba]) h⟩
 | .ob T xs,u,gs,hf,⟨b,us,gs',e1,e2,h1,h⟩=>⟨b,us,gs',e1,e2,h1,ResRs.fresh f (by grind[Ba]) h⟩
 | .tup xs,u,gs,hf,⟨us,e,h⟩=>⟨us,e,ResRs.fresh f (by grind[Ba]) h⟩
theorem ResRs.fresh{K K':Bool->Nat->Prop}{w:World}(b:∀fr k,K true k->K' fr k):∀{as':List AV} {us:List Value} {gs:List (Option Nat)},Ia as'=true->ResRs K w as' us gs->ResRs K' w as' us gs
 | [],_,_,_,h=>h
 | a :: r,us,gs,hf,⟨u,us',g1,g2,e1,e2,h1,h2⟩=>by
   simp only[Ia,ba] at hf;exact⟨u,us',g1,g2,e1,e2,ResR.fresh b hf.1 h1,ResRs.fresh b hf.2 h2⟩
end
def Pq(o:List (Nat×Ob))(q:Prop)(rv:AV)(l:List Nat):Option Nat->Option (Prop×AV×List (Nat×Ob)×List Nat)
 | some id=>match rv,a8 o id with
   | .ow T fr t xs,some (.arr _ _ _ _ ver)=>bif x7 t&&BM l then some (q,.os id (ver+1),[(id,.arr T fr t xs (ver+1))],[id]) else none
   | _,_=>none
 | none=>none
def Gc(o:List (Nat×Ob))(d f:Nat)(as':List AV):List Ct->Option (Prop×AV×List (Nat×Ob)×List Nat)
 | []=>none
 | c :: r=>bif Nat.beq c.f f&&Pp c.ps as' then(match H2 o c.ps as' with
   | some (x,l,io)=>match c.res x with
     | ⟨q,rv,z⟩=>bif C7 c.ps then Pq o q rv l io else(match C8 d 0 rv with
       | (av,obs,_)=>bif TW l io&&CG o obs&&(BM l||(Ba rv&&isNone io)) then some (q,av,obs++X7 o c.ps z io,(obs.map Prod.fst)++(l++io.toList)) else none)
   | none=>none) else Gc o d f as' r
def BN(T:List Ct)(st:St)(p:Pa)(d:Nat):Op->Option (Prop×AV×List (Nat×Ob)×List Nat)
 | .call ⟨.value x,xs,_⟩=>match rd st p x,H9 st p xs.toList with
   | some (.fn f caps),some as'=>Gc st.o d f (as'++caps) T
   | _,_=>none
 | _=>none
def Cl(X:Cx)(G:Gh)(a:Act)(op:Op)(ty:TypeId)(av:AV)(obs:List (Nat×Ob)):Prop :=
 ∃f vs,(∀dst pos after g,(execOp a.eval ⟨dst,op,ty,pos,after,g⟩).run X.P G.w=.ok (.enter f vs) G.w) /\
  Calls X.P f vs G.w fun en w'=>∃v G',en=.returned v/\G'.w=w'/\Sat X G'/\GLe G G'/\G'.o=obs++G.o/\AVR G' av v
theorem i0i{o:List (Nat×Ob)}:∀{l:List (Nat×Ob)},CG o l=true->∀x∈l,a8 o x.1=none
 | [],_,_,h=>by cases h
 | (i,b) :: r,h,x,hx=>by
   simp only[CG,ba] at h;rcases List.mem_cons.1 hx with rfl | hx
   ·grind[CF]
   ·exact i0i h.2 x hx
theorem Me{i:Nat}:∀{l:List Nat},Gb i l=true->i ∉ l
 | [],_,h=>by cases h
 | x :: r,h,hx=>by
   simp only[Gb,ba,Bool.not_eq_true'] at h;rcases List.mem_cons.1 hx with rfl | hx
   ·simp at h
   ·exact Me h.2 hx
theorem IOR.get{K:Nat->Prop}{w:World}{b:Nat}:∀{ps:List m0} {z:A3 ps} {Ka:Nat->Prop} {wa:World} {x:s8 ps} {vs:List Value},¬C7 ps=true->IOR K w (some b) ps z->ArgsR Ka wa (some b) ps x vs->∃t,∃z':c7 t,∃T us cs0,DB ps z=s5 false t z'/\Blk w b us T/\RT K w t us z'/\Blk wa b cs0 T
 | [],_,_,_,_,_,_,_,h=>by cases h.2
 | .os _ _ :: r,_,_,_,_,_,hv,_,_=>(hv rfl).elim
 | .io T t :: r,z,_,_,x,vs,_,⟨b',cs,e,hB,hR⟩,⟨b2,cs2,us,_,e2,_,hB2,_⟩=>by cases e; cases e2; exact⟨t,z,T,cs,_,rfl,hB,hR,hB2⟩
 | .dat _ :: r,z,_,_,x,vs,hv,h,⟨_,_,_,_,k⟩=>IOR.get (ps:=r) hv h k
 | .agg _ :: r,z,_,_,x,vs,hv,h,⟨_,_,_,_,k⟩=>IOR.get (ps:=r) hv h k
 | .fn _ _ :: r,z,_,_,x,vs,hv,h,⟨_,_,_,_,k⟩=>IOR.get (ps:=r) hv h k
 | .nof _ :: r,z,_,_,x,vs,hv,h,⟨_,_,k⟩=>IOR.get (ps:=r) hv h k
 | .nil :: r,z,_,_,x,vs,hv,h,⟨_,_,k⟩=>IOR.get (ps:=r) hv h k
theorem TX{o:List (Nat×Ob)}:∀{ps:List m0} {as':List AV} {x:s8 ps} {l:List Nat} {io:Option Nat},H2 o ps as'=some (x,l,io)->∀id∈l,∃ob,a8 o id=some ob
 | [],[],x,l,io,h=>by
   simp only[H2,oi,pj] at h
   grind
 | [],_ :: _,x,l,io,h=>by grind[H2]
 | _ :: _,[],x,l,io,h=>by grind[H2]
 | p :: r,a :: as',x,l,io,h=>by
   simp only[H2] at h;split at h
   ·rename_i f c g b;split at h
    ·rename_i y m j d;have i:=TX d;have e:∀id∈c,∃ob,a8 o id=some ob:=by
      unfold AZ at b;split at b
      ·split at b
       ·grind[oi,pj,DA]
       grind
      ·split at b
       ·grind[oi,pj,DA]
       grind
      ·rw[ce] at b;split at b
       ·split at b
        ·grind[oi,pj,DA]
        grind
       grind
      ·grind
      ·grind
      ·grind
      ·grind
      ·cases b
     grind
    grind
   grind
theorem w0N{X:Cx}{G:Gh}(S:Sat X G){d:Nat}{aG:List AV}{us:List Value}(hA:AVRs G aG us){ps:List m0}(aI:¬C7 ps=true){x:s8 ps}{l:List Nat}{m:Option Nat}(u:H2 G.o ps aG=some (x,l,m))(aM:TW l m=true) :
  (∀k,S9 G l k->k<G.w.heap.size)/\∃go,ArgsR (S9 G l) G.w go ps x us/\∀(res:s8 ps->Res ps),CG G.o (C8 d 0 (res x).r).2.1=true/\(BM l||(Ba (res x).r&&isNone m))=true->∀(en:Ending) (w':World),
  (∃v gs,en=.returned v/\WE go G.w w'/\BL gs/\(∀b,some b∈gs->G.w.heap.size<=b∨(C7 ps=true/\go=some b))/\ResR (fun fr=>Mc fr (S9 G l) G.w w' gs) w' (res x).r v gs /\
    IOR (fun k=>(S9 G l k∨G.w.heap.size<=k)/\UFg w' G.w.heap.size k/\some k ∉ gs/\go≠some k) w' go ps (res x).z) ->
  ∃v G',en=.returned v/\G'.w=w'/\Sat X G'/\GLe G G'/\G'.o=((C8 d 0 (res x).r).2.1++X7 G.o ps (res x).z m)++G.o/\AVR G' (C8 d 0 (res x).r).1 v:=by
 have aA:=TX u;obtain⟨_,go,aL,aF⟩:=HX S aA u (fun _ h=>h) (fun i hi=>by subst hi; exact Me aM) hA;have aP:∀k,S9 G l k->k<G.w.heap.size:=by
  rintro k (h | ⟨id,aH,c⟩)
  ·exact(S.klt k h).lt
  ·obtain⟨ob,E⟩:=aA id aH;have:=S.obs id ob E;cases ob with
   | box T cs=>obtain⟨b,us,a,n,q,h4⟩:=this; rw[c] at a; cases a; exact(Tw q).lt
   | arr T fr t xs aV=>obtain⟨cs,a,n,_⟩:=this; rw[c] at a; exact(Dx a).lt
   | grd T Te fr t xs aJ=>obtain⟨vs,bs,a,_⟩:=this; rw[c] at a; exact(Dx a).lt
 have aO:∀k,G.K k->go≠some k:=fun k c e=>by
  rcases aF with ⟨_,W⟩ | ⟨id,b,T',cs',_,W,ho',hγ'⟩ | ⟨_,_,_,_,_,_,_,_,_,W⟩
  ·grind
  ·rw[W] at e; cases e; exact S.imm id _ _ ho' hγ' c
  grind
 refine⟨aP,go,aL,fun res aK en w' aC=>?_⟩;obtain⟨v,gs,rfl,hw,hN,s,hR,aR⟩:=aC;have hc:(TW l m=true/\CG G.o (C8 d 0 (res x).r).2.1=true)/\(BM l||(Ba (res x).r&&isNone m))=true:=⟨⟨aM,aK.1⟩,aK.2⟩;have s:∀b,some b∈gs->G.w.heap.size<=b:=fun b f=>(s b f).resolve_right (fun h=>aI h.1);have aX:∀id o b,a8 G.o id=some o->G.γ id=some b->b<G.w.heap.size:=fun id o b E f=>by
  have:=S.obs id o E;cases o with
  | box T cs=>obtain⟨b',us,a,n,q,h4⟩:=this; rw[f] at a; cases a; exact q.lt
  | arr T fr t xs aV=>obtain⟨cs,a,n,_⟩:=this; exact a.lt b f
  | grd T Te fr t xs aJ=>obtain⟨vs,bs,a,_⟩:=this; exact a.lt b f
 -- the region that data may lead to now
 let K':Nat->Prop:=fun k=>G.K k∨(G.w.heap.size<=k/\UF w' k/\some k ∉ gs)
 have aZ:l=[]->∀k,S9 G l k->G.K k:=fun Y k c=>by
  subst Y;rcases c with h | ⟨id,aH,_⟩
  ·exact h
  grind
 have aD:l=[]∨(Ba (res x).r=true/\m=none):=by
  have:=hc.2;simp only[Bool.or_eq_true,ba] at this;rcases this with h | ⟨a,n⟩
  ·grind[Md]
  ·refine .inr ⟨a,?_⟩;cases m with
   | none=>rfl
   | some i=>cases n
 obtain⟨KR,aT,hR⟩:∃KR:Bool->Nat->Prop,(∀fr k,KR fr k->K' k/\(fr=true->G.B<=k))/\ResR KR w' (res x).r v gs:=by
  rcases aD with Y | ⟨aB,_⟩
  ·refine⟨_,fun fr k c=>?_,hR⟩;obtain⟨a | a,n,q⟩:=c
   ·grind
   ·exact⟨.inr ⟨a,n.2 a,q⟩,fun _=>Nat.le_trans S.le (Nat.le_trans S.size a)⟩
  ·refine⟨fun _=>Mc true (S9 G l) G.w w' gs,fun fr k c=>?_,ResR.fresh (fun _ _ h=>h) aB hR⟩;obtain⟨a | a,n,q⟩:=c
   ·grind
   ·exact⟨.inr ⟨a,n.2 a,q⟩,fun _=>Nat.le_trans S.le (Nat.le_trans S.size a)⟩
 have F:(go=none/\X7 G.o ps (res x).z m=[])∨∃id b T V t,∃z:c7 t,go=some b/\X7 G.o ps (res x).z m=[(id,Ob.box T (s5 false t z))]/\a8 G.o id=some (.box T V)/\G.γ id=some b/\∃us,Blk w' b us T/\RT K' w' t us z:=by
  rcases aF with ⟨rfl,rfl⟩ | ⟨id,b,T,cs,rfl,rfl,E,hγ⟩ | ⟨_,_,_,_,_,_,_,_,_,e⟩
  rotate_right
  ·grind
  ·exact .inl ⟨rfl,rfl⟩
  ·obtain⟨t,z',T',aW,V,e,hB,aN,Q⟩:=IOR.get aI aR aL;obtain⟨b',aY,a,n,q,h4⟩:=S.obs id _ E;rw[hγ] at a;cases a;have aU:T=T':=by
    unfold Blk at q Q;rw[q] at Q;simp only[oi,Obj.cells.injEq] at Q;exact Q.2.1
   subst aU;refine .inr ⟨id,b,T,cs,t,z',rfl,?_,E,hγ,aW,hB,RT.same (w:=w') (fun k c _=>⟨?_,rfl⟩) aN⟩
   ·grind[X7]
   ·obtain⟨a | a,n,q,h4⟩:=c
    ·grind
    ·exact .inr ⟨a,n.2 a,q⟩
 obtain⟨S1,L1⟩:=Sat.after S hw (K':=K') (fun k c=>.inl c) (by
  rintro k (h | h)
  ·exact(S.klt k h).same hw.size (hw.block k (S.klt k h).lt (aO k h))
  ·exact h.2.1.g) (by
  rintro k (h | h)
  ·exact S.kfrom k h
  ·exact .inr (Nat.le_trans S.base.2 (Nat.le_trans S.size h.1))) (by
  rintro id o b E f (h | h)
  ·exact S.imm id o b E f h
  grind) (by
  rintro id b f H (h | h)
  ·exact(S.sep id b f H).2.1 h
  ·have:=S.dlt f H; omega) F
 have aQ:∀i o,a8 (X7 G.o ps (res x).z m++G.o) i=some o->∃o',a8 G.o i=some o':=fun i o h=>by
  rcases F with ⟨_,e⟩ | ⟨id,b,T,V,t,z,_,e,E,_⟩
  ·rw[e] at h; exact⟨o,h⟩
  ·rw[e,List.cons_append,lK] at h;by_cases W:id=i
   ·subst W; exact⟨_,E⟩
   ·rw[if_neg W] at h; exact⟨o,h⟩
 have aS:∀i,C5 (a8 (X7 G.o ps (res x).z m++G.o) i)=true->C5 (a8 G.o i)=true:=fun i h=>by
  rcases F with ⟨_,e⟩ | ⟨id,b,T,V,t,z,_,e,E,_⟩
  ·grind
  ·rw[e,List.cons_append,lK] at h;by_cases W:id=i
   ·rw[if_pos W] at h; cases h
   grind
 have hF:Pn X ⟨G.ρ,G.γ,K',w',X7 G.o ps (res x).z m++G.o,G.B,G.δ⟩ gs:=fun b f=>by
  refine⟨Nat.le_trans S.size (s b f),?_,fun i o hi e=>?_,fun i hi H=>?_⟩
  ·rintro(h | h)
   ·have:=(S.klt b h).lt; have:=s b f; omega
   grind
  ·grind
  ·have:=S.dlt hi (aS i H);have:=s b f;omega
 have aB:∀y∈(C8 d 0 (res x).r).2.1,a8 (X7 G.o ps (res x).z m++G.o) y.1=none:=fun y hy=>by
  grind[i0i,a8,X7]
 obtain⟨G',P,hv⟩:=h0z (K:=KR) (res x).r (d:=d) (j:=0) rfl S1 aT hR hN hF aB;refine⟨v,G',rfl,P.w,P.sat,GLe.trans L1 P.le hw.size,?_,hv⟩;rw[P.o,List.append_assoc]
theorem i0b{X:Cx}{G:Gh}(S:Sat X G){d f:Nat}{Q:List AV}{us:List Value}(hA:AVRs G Q us):∀{T:List Ct},(∀c∈T,Ok X.P c)->∀{q:Prop} {av:AV} {obs:List (Nat×Ob)} {fp:List Nat},Gc G.o d f Q T=some (q,av,obs,fp)->q ->
  AT X.P f=true/\Calls X.P f us.toArray G.w fun en w'=>∃v G',en=.returned v/\G'.w=w'/\Sat X G'/\GLe G G'/\G'.o=obs++G.o/\AVR G' av v
 | [],_,q,av,obs,fp,h,_=>by cases h
 | c :: r,hT,q,av,obs,fp,h,hq=>by
   have hr:=i0b S (d:=d) hA (T:=r) (fun c hc=>hT c (by grind)) (f:=f) (q:=q) (av:=av) (obs:=obs) (fp:=fp);simp only[Gc,ce] at h;split at h
   ·rename_i H;rw[ba] at H;have H:=nb H.1;split at h
    ·rename_i x l io a;by_cases u:C7 c.ps=true
     ·rw[if_pos u] at h;unfold Pq at h;split at h
      ·rename_i id;split at h
       ·rename_i T fr t xs E' aG t' aH j aF ho;rw[ce] at h;split at h
        ·rename_i z;rw[ba] at z;have aA:=Md z.2;subst aA;simp only[oi,pj] at h;obtain⟨rfl,rfl,rfl,_⟩:=h;obtain⟨V,F⟩:=hT c (by simp);refine⟨by grind,?_⟩;have aC:=TX a;obtain⟨_,go,E,n⟩:=HX S aC a (fun _ h=>h) (fun i hi h=>by cases h) hA;have n:go=G.γ id:=by
          rcases n with ⟨e,_⟩ | ⟨id',b,T',cs',e,_,ho',_⟩ | ⟨id',_,_,_,_,_,e,hg,_⟩
          ·cases e
          ·grind
          ·grind
         subst n;obtain⟨_,_,_,aD⟩:=S.obs id _ ho;have s:∀k,S9 G [] k->k<G.w.heap.size:=by
          rintro k (h | ⟨id,aL,hk⟩)
          ·exact(S.klt k h).lt
          ·grind
         rw[<- H];refine Calls.mono (F x hq G.w us (G.γ id) (S9 G []) s E) ?_;rintro en w' ⟨v,gs,rfl,hw,hN,aK,hR,aM⟩;rw[aF] at hR;obtain⟨g,cs,rfl,W,hO,aI⟩:=hR;have Y:∀b,g=some b->G.γ id=some b∨G.w.heap.size<=b:=fun b hb=>by
          grind
         have m:=S.put (id:=id) (ob:=.arr T fr t xs (j+1)) (r:=v) (g:=g) (w':=w') (go:=G.γ id) ⟨(fun T cs h=>by grind),(fun T aG t' aH aJ h=>by grind),by rw[ho]; rfl⟩
          (fun b hb=>⟨⟨_,ho⟩,hb⟩) hw Y
          (fun aN=>⟨cs,by grind[Gh.put],aI.mapR (fun c x h=>RT.free z.1 h),fun b e=>by
            simp only[Gh.put,if_true] at e ⊢;rcases Y b e with h | h
            ·exact aD b h
            ·exact Nat.le_trans S.le (Nat.le_trans S.size h)⟩)
         exact⟨v,_,rfl,rfl,m.1,m.2,rfl,W,T,fr,t,xs,j+1,by rw[show(Gh.put G id (.arr T fr t xs (j+1)) v g w').o=(id,.arr T fr t xs (j+1)) :: G.o from rfl,lK]; simp,Nat.le_refl _,fun _=>by simp[Gh.put]⟩
        ·cases h
       ·cases h
      ·cases h
     rw[if_neg u] at h;split at h
     ·rename_i hc;simp only[ba] at hc;simp only[oi,pj] at h;obtain⟨rfl,rfl,rfl,_⟩:=h;obtain⟨V,F⟩:=hT c (by simp);refine⟨by grind,?_⟩;obtain⟨s,go,E,aB⟩:=w0N S (d:=d) hA u a hc.1.1;rw[<- H];exact Calls.mono (F x hq G.w us go (S9 G l) s E) (fun en w' y=>aB c.res ⟨hc.1.2,hc.2⟩ en w' y)
     grind
    grind
   grind
theorem j0H{X:Cx}{G:Gh}{a:Act}{st:St}{p:Pa}{T:List Ct}(y:∀c∈T,Ok X.P c)(S:Sat X G)(W:G.o=st.o)(t:EnvR X.n G st.e a)(m:PathP p a){k:Op}{ty:TypeId}{d:Nat}{q:Prop}{r:AV}{obs:List (Nat×Ob)}{fp:List Nat}
  (h:BN T st p d k=some (q,r,obs,fp)) (z:q):Cl X G a k ty r obs:=by
 unfold BN at h;split at h
 ·rename_i x s Ts;split at h
  ·rename_i f l w Q E;obtain⟨cs,H,V⟩:=x8 t m Q;have F:=Am t m E;rw[<- W] at h;obtain⟨i,b⟩:=i0b S (AVRs.app V F) y h z;refine⟨f,_,fun Y u j g=>?_,b⟩
   haveI:To X.P f:=⟨i⟩
   have v:s.map a.eval=(s.toList.map a.eval).toArray:=by grind
   simp only[execOp,resolve,v,H];simp[Deferred.ofValue,invoke,g0h]
  grind
 grind
def An(Γ:m3)(st:St)(p:Pa)(d:Nat):Op->Option (Prop×AV×List (Nat×Ob)×List Nat)
 | .load T x=>match rd st p x,a8 Γ T with
   | some (.gel id k),some ⟨_,_,_,.sl _,_⟩=>match a8 st.o id with
     | some (.grd T0 Te fr t xs none)=>bif U9 st.o d then some (k<xs.length,.os d 0,[(d,.arr Te fr t (xs.getD k []) 0),(id,.grd T0 Te fr t xs (some k))],[d,id]) else none
     | _=>none
   | _,_=>none
 | .slice T x l h none=>match rd st p x,M5 st p l,M5 st p h,a8 Γ T with
   | some (.os id ver),some lo,some none,some ⟨_,_,_,.sl E,_⟩=>match a8 Γ E,a8 st.o id with
     | some te,some (.arr E' fr t xs ver')=>bif Nat.beq ver ver'&&Nat.beq te.size (sz t) then some (Mb (lo.getD 0) xs.length xs.length,.os id (ver+1),[(id,.arr E' fr t (Ga xs lo none) (ver+1))],[id]) else none
     | _,_=>none
   | _,_,_,_=>none
 | _=>none
def Bb(Γ:m3)(st:St)(p:Pa):Op->Option (Prop×List (Nat×Ob)×List Nat)
 | .store T x y=>match rd st p x,rd st p y,a8 Γ T with
   | some (.gel id k),some (.os d ver),some ti=>match a8 st.o id,a8 st.o d with
     | some (.grd T0 Te fr t xs (some k')),some (.arr Te' fr' t' l ver')=>match P6 (.sl t') (.sl t) l with
       | some l'=>bif Nat.beq ver ver'&&Nat.beq Te Te'&&Nat.beq ti.size 1 then some (k<xs.length/\k=k',[(id,.grd T0 Te (fr&&fr') t (xs.set k l') none),(d,.arr Te' fr' t' [] (ver+1))],[id,d]) else none
       | none=>none
     | _,_=>none
   | _,_,_=>none
 | _=>none
def Ml(X:Cx)(G:Gh)(a:Act)(op:Op)(ty:TypeId)(av:AV)(obs:List (Nat×Ob)):Prop :=
 ∃v G',(∀dst pos after g,(execOp a.eval ⟨dst,op,ty,pos,after,g⟩).run X.P G.w=.ok (.value v) G'.w)/\Sat X G'/\GLe G G'/\G'.o=obs++G.o/\AVR G' av v
def Ul(X:Cx)(G:Gh)(a:Act)(op:Op)(ty:TypeId)(obs:List (Nat×Ob)):Prop :=
 ∃G',(∀dst pos after g,(execOp a.eval ⟨dst,op,ty,pos,after,g⟩).run X.P G.w=.ok .skip G'.w)/\Sat X G'/\GLe G G'/\G'.o=obs++G.o
theorem t0A{a:Type}{l:List a}{k:Nat}(b:k<l.length)(z:a):l[k]?=some (l.getD k z):=by grind
section
variable {X:Cx} {G:Gh} {a:Act} {st:St} {Γ:m3} {p:Pa}
theorem A0E(S:Sat X G){id d k:Nat}{n Te:TypeId}{fr:Bool}{t:Ty}{xs:List (List (c7 t))}(F:a8 G.o id=some (.grd n Te fr t xs none))(hd:a8 G.o d=none)(u:k<xs.length){vs:List Value}{l:Nat->Option Nat}
  (hO:Own G.w n 1 (G.γ id) (G.ρ id) xs.length vs) (f:Rows G id Te fr t xs none vs l) (hB:∀b,G.γ id=some b->G.B<=b) :
  ∃G',Sat X G'/\GLe G G'/\G'.w=G.w/\G'.o=[(d,.arr Te fr t (xs.getD k []) 0),(id,.grd n Te fr t xs (some k))]++G.o/\AVR G' (.os d 0) (vs.getD k (.bool false)):=by
 have aA:¬id=d:=fun e=>by grind
 obtain⟨cs,T,r2,V⟩:=f.row k u (fun h=>by cases h);have s:∀b j,j<xs.length->l j=some b->(X.w0.heap.size<=b∨X.io b)/\¬G.K b/\(∀i o,a8 G.o i=some o->G.γ i≠some b)/\∀i,G.δ i b->C5 (a8 G.o i)=true->id=i:=fun b j a c=>S.sep id b ((f.blk b).2 ⟨j,a,(fun h=>by cases h),c⟩) (by rw[F]; rfl)
 have h1:=S.grd (id:=id) (T':=n) (Te':=Te) (fr':=fr) (t':=t) (xs':=xs) (hole':=some k) (D:=fun b=>∃j,j<xs.length/\j≠k/\l j=some b) (w':=G.w) (go:=none) F (fun _ e=>by cases e) (WE.refl _)
  (fun b ⟨j,a,_,c⟩=>by
    grind)
  (fun y=>⟨vs,l,hO,⟨f.len,fun b=>⟨fun h=>?_,fun⟨j,a,P,c⟩=>.inl ⟨rfl,j,a,(fun e=>P (by rw[e])),c⟩⟩,fun j j' b a v _ _ c E=>f.inj j j' b a v (fun h=>by cases h) (fun h=>by cases h) c E,fun j a _=>f.row j a (fun h=>by cases h),f.one⟩,hB⟩)
 ·obtain⟨Y,Q⟩:=h1;have q:∀i,a8 (G.grd id (.grd n Te fr t xs (some k)) (fun b=>∃j,j<xs.length/\j≠k/\l j=some b) G.w).o i=if id=i then some (.grd n Te fr t xs (some k)) else a8 G.o i:=fun i=>lK _ _ _ _
  have h2:=Y.add (id:=d) (ob:=.arr Te fr t (xs.getD k []) 0) (r:=vs.getD k (.bool false)) (g:=l k) (by grind)
   (fun b c=>by
     obtain⟨s1,s2,H,s4⟩:=s b k u c;refine⟨s1,s2,fun i o hi=>?_,fun i hi x=>?_⟩
     ·rw[q] at hi;by_cases e:id=i
      ·subst e; exact H _ _ F
      ·rw[if_neg e] at hi; exact H i o hi
     ·rw[q] at x;rcases hi with ⟨_,j,a,m,z⟩ | ⟨hi,hib⟩
      ·exact m (f.inj j k b a u (fun h=>by cases h) (fun h=>by cases h) z c)
      ·rw[if_neg (Ne.symm hi)] at x;exact hi (s4 i hib x).symm)
   (fun y=>⟨cs,by simp only[Gh.put,if_true]; exact T,r2,fun b e=>by simp only[Gh.put,if_true] at e ⊢; exact V b e⟩)
  obtain⟨S2,W⟩:=h2;refine⟨_,S2,Q.trans W (Nat.le_refl _),rfl,rfl,f.one _ ?_,Te,fr,t,xs.getD k [],0,by rw[show ∀G0:Gh,(Gh.put G0 d (.arr Te fr t (xs.getD k []) 0) (vs.getD k (.bool false)) (l k) G0.w).o=(d,.arr Te fr t (xs.getD k []) 0) :: G0.o from fun _=>rfl,lK]; simp,Nat.le_refl _,fun _=>by simp[Gh.put]⟩;exact List.mem_of_getElem? (t0A (by rw[f.len]; exact u) _)
 ·rcases h with ⟨_,j,a,m,c⟩ | ⟨h,_⟩
  ·exact⟨j,a,(fun e=>m (Option.some.inj e).symm),c⟩
  ·exact(h rfl).elim
theorem v0T{w:World}{E s:Nat}{g:Option Nat}{d:Option Addr}{n a:Nat}{cs:List Value}(h:Own w E s g (.slice d n a) n cs){k:Nat}(i:k<=n):∃g',(g'=none∨g'=g)/\n<=a/\Own w E s g' (.slice (if a=k then d else d.map (·.add (k*s))) (n-k) (a-k)) (n-k) (cs.drop (k*s)):=by
 have f:=h.clen;rcases h with ⟨rfl,rfl,rfl,p,e⟩ | ⟨b,o,c,cur,rfl,e,h1,h2,h3,h4,rfl⟩
 ·cases e;have:k=0:=by omega
  subst this;exact⟨none,.inl rfl,Nat.le_refl _,.inl ⟨rfl,rfl,by simp,d,by simp⟩⟩
 ·cases e;by_cases j:a=k
  ·refine⟨none,.inl rfl,h2,.inl ⟨rfl,by omega,?_,some ⟨b,o,none⟩,?_⟩⟩
   ·grind
   grind
  ·refine⟨some b,.inr rfl,h2,.inr ⟨b,o+k*s,a-k,cur,rfl,?_,h1,by omega,by omega,?_,?_⟩⟩
   ·grind[Addr.add]
   ·have:=Nat.mul_le_mul_right s (show k<=a by omega)
    grind[Nat.sub_mul]
   grind[List.drop_take,List.drop_drop,Nat.sub_mul]
theorem j0T(H:s6 X.P Γ)(S:Sat X G)(hE:EnvR X.n G st.e a)(hp:PathP p a){T E m ty id ver:Nat}{s0 y0:Nat}{z0:Value}{aB:Ty}{x:Operand}{l h:Option Operand}{lo:Option Int}{fr:Bool}{t:Ty}{xs:List (c7 t)}{s:TI}
  (hT:a8 Γ T=some ⟨s0,y0,z0,.sl E,aB⟩) (Y:a8 Γ E=some s) (W:a8 G.o id=some (.arr m fr t xs ver)) (hs:s.size=sz t) (hx:AVR G (.os id ver) (a.eval x)) (hl:M5 st p l=some lo) (hh:M5 st p h=some none) (hq:Mb (lo.getD 0) xs.length xs.length) :
  Ml X G a (.slice T x l h none) ty (.os id (ver+1)) [(id,.arr m fr t (Ga xs lo none) (ver+1))]:=by
 obtain⟨_,T1,aO,t1,aK,aI,g1,g2,g3⟩:=hx;rw[W] at g1;cases g1;have hu:=g3 rfl;obtain⟨cs,hO,hA,aA⟩:=S.obs id _ W;obtain⟨q,d,hv⟩:=hO.len;rw[hv] at hO hu;have hU:=(H T _ hT).2.2.2.2.2;have hI:Info X.P E s.size s.bytes s.zero:=⟨(H E _ Y).1⟩;obtain⟨aL,f,h2,h3,h5⟩:=hI.get;have Q:Ga xs lo none=xs.drop (lo.getD 0).toNat:=by
  rw[t0R xs lo none hq];simp
 rw[Q];have aG:h=none:=by
  rcases Ph hE hp hh with ⟨j,_⟩ | ⟨y,n,k,_,e2,_⟩
  ·exact j
  ·cases e2
 subst aG;have aC:(∃n k,l=some n/\a.eval n=.int k (lo.getD 0))∨(l=none/\lo.getD 0=0):=by
  rcases Ph hE hp hl with ⟨j,e2⟩ | ⟨y,n,k,j,e2,e3⟩
  ·grind
  ·grind
 generalize lo.getD 0=l0 at *
 obtain⟨q1,q2,q3⟩:=hq;have hk:l0.toNat<=xs.length:=by omega
 obtain⟨g',F,aH,aF⟩:=v0T hO hk;have z:∀V u i g,(execOp a.eval ⟨V,.slice T x l none none,ty,u,i,g⟩).run X.P G.w=.ok (.value (.slice (if d=l0.toNat then q else q.map (·.add (l0.toNat*sz t))) (xs.length-l0.toNat) (d-l0.toNat))) G.w:=by
  intro V u i g;rcases aC with ⟨n1,k1,rfl,j⟩ | ⟨rfl,j⟩
  ·have r2:=run_sliceBound (P:=X.P) (w:=G.w) k1 l0 xs.length .sliceB q1 q2;simp[execOp,hu,Instr.sliceAt,Instr.slice,Instr.sliceBounds,run_underlying hU,Result.andThen,P5 G.w f,h2,hs,j,r2]
  ·simp[execOp,hu,Instr.sliceAt,Instr.slice,Instr.sliceBounds,run_underlying hU,Result.andThen,P5 G.w f,h2,hs,j]
 have h:=S.put (id:=id) (ob:=.arr m fr t (xs.drop l0.toNat) (ver+1)) (r:=.slice (if d=l0.toNat then q else q.map (·.add (l0.toNat*sz t))) (xs.length-l0.toNat) (d-l0.toNat)) (g:=g') (w':=G.w) (go:=G.γ id) ⟨(fun T cs h=>by grind),(fun T aM t' aN aJ h=>by grind),by rw[W]; rfl⟩
  (fun b v=>⟨⟨_,W⟩,v⟩) (WE.refl _) (fun b v=>by
    rcases F with h | h
    ·rw[h] at v; cases v
    ·exact .inl (h ▸ v))
  (fun aD=>⟨cs.drop (l0.toNat*sz t),by simp only[Gh.put,if_true,List.length_drop]; exact aF,(AllR.takeD (fun c y hy=>RT.len hy) l0.toNat hA).2.mapR (fun c x hr=>RT.same (w:=G.w) aD.hR hr),fun b e=>by
    simp only[Gh.put,if_true] at e ⊢;rcases F with h | h
    ·rw[h] at e; cases e
    ·exact aA b (h ▸ e)⟩)
 exact⟨_,G.put id (.arr m fr t (xs.drop l0.toNat) (ver+1)) (.slice (if d=l0.toNat then q else q.map (·.add (l0.toNat*sz t))) (xs.length-l0.toNat) (d-l0.toNat)) g' G.w,z,h.1,h.2,rfl,rfl,m,fr,t,xs.drop l0.toNat,ver+1,by rw[show(Gh.put G id (.arr m fr t (xs.drop l0.toNat) (ver+1)) _ _ _).o=(id,.arr m fr t (xs.drop l0.toNat) (ver+1)) :: G.o from rfl,lK]; simp,Nat.le_refl _,fun _=>by simp[Gh.put]⟩
theorem q0T(aA:s6 X.P Γ)(S:Sat X G)(ho:G.o=st.o)(hE:EnvR X.n G st.e a)(hp:PathP p a){op:Op}{ty:TypeId}{d:Nat}{q:Prop}{r:AV}{obs:List (Nat×Ob)}{l:List Nat}
  (h:An Γ st p d op=some (q,r,obs,l)) (hq:q):Ml X G a op ty r obs:=by
 unfold An at h;split at h
 ·rename_i T x;split at h
  ·rename_i id k s0 y0 z0 E Q h1 h2;split at h
   ·rename_i T0 Te fr t xs F;rw[ce] at h;split at h
    ·rename_i z;simp only[oi,pj] at h;obtain⟨rfl,rfl,rfl,_⟩:=h;rw[<- ho] at F z;have V:=x8 hE hp h1;obtain⟨_,b,o,n,c,u,V⟩:=V;obtain⟨s,bs,H,hR,hB⟩:=S.obs id _ F;have W:G.γ id=some b:=by
      rcases H with ⟨_,hn,_⟩ | ⟨b',o',cap,cur,W,f,_⟩
      ·omega
      ·rw[u] at f;simp only[Value.slice.injEq,oi,Addr.mk.injEq] at f;rw[W,f.1.1]
     have j:At G.w b o s:=by rw[W] at H; obtain⟨o0,c0,e0,j⟩:=H.at; rw[u] at e0; cases e0; exact j
     have y:=t0A (by rw[hR.len]; exact hq:k<s.length) (.bool false);have m:At G.w b (o+k) [s.getD k (.bool false)]:=by
      intro i v f;cases i with
      | zero =>
        simp only[List.getElem?_cons_zero,oi] at f;subst f;have:=j k _ y;omega
      | succ i=>grind
     obtain⟨v,aC,f⟩:=p0g (ty:=ty) (cs:=[.v (s.getD k (.bool false))]) (av:=.v (s.getD k (.bool false))) hE (aA _ _ h2) V m ⟨_,[],rfl,rfl,rfl⟩ rfl;have f:v=_:=f;subst f;obtain⟨G',S',L',hw,Y,hr⟩:=A0E S F (CF z) hq H hR hB;exact⟨_,G',fun aH aF aB g=>by grind,S',L',Y,hr⟩
    grind
   grind
  grind
 ·rename_i T x l0 h0;split at h
  ·rename_i id aG lo s0 y0 z0 E Q h1 h2 F h4;split at h
   ·rename_i te E' fr t xs aD h5 h6;rw[ce] at h;split at h
    ·rename_i z;rw[ba] at z
     grind[oi,pj,nb,j0T,x8]
    grind
   grind
  grind
 grind
theorem v0w{vs:List Value}{k j:Nat}{u z:Value}(a:k<vs.length):(u6 vs k [u]).getD j z=if j=k then u else vs.getD j z:=by
 grind[u6]
theorem B0T(aX:s6 X.P Γ)(S:Sat X G){id d k ver:Nat}{T0 Te T ty:TypeId}{fr fr':Bool}{t:Ty}{xs:List (List (c7 t))}{l:List (c7 t)}{x y:Operand}{ti:TI}(hT:a8 Γ T=some ti)(hs:ti.size=1)
  (ho:a8 G.o id=some (.grd T0 Te fr t xs (some k))) (Y:a8 G.o d=some (.arr Te fr' t l ver)) (hk:k<xs.length) (hx:AVR G (.gel id k) (a.eval x)) (hy:AVR G (.os d ver) (a.eval y)) :
  Ul X G a (.store T x y) ty [(id,.grd T0 Te (fr&&fr') t (xs.set k l) none),(d,.arr Te fr' t [] (ver+1))]:=by
 haveI:Info X.P T ti.size ti.bytes ti.zero:=⟨(aX T _ hT).1⟩
 have F:¬d=id:=fun e=>by grind
 obtain⟨_,b,o,n,c,aG,aW⟩:=hx;obtain⟨y0,T1,bJ,t1,bH,bD,g1,g2,g3⟩:=hy;rw[Y] at g1;cases g1;have aP:=g3 rfl;obtain⟨cs,bB,hA,bI⟩:=S.obs d _ Y;have aF:Own G.w Te (sz t) (G.γ d) (a.eval y) l.length cs:=by rw[aP]; exact bB
 -- the row lets go of its block
 have h1:=S.put (id:=d) (ob:=.arr Te fr' t [] (ver+1)) (r:=.slice none 0 0) (g:=none) (w':=G.w) (go:=none) ⟨(fun T cs h=>by grind),(fun T fr' t' xs' bL h=>by grind),by rw[Y]; rfl⟩
  (fun _ e=>by cases e) (WE.refl _) (fun _ e=>by cases e) (fun aJ=>⟨[],by simp only[Gh.put,if_true]; exact Own.nil,rfl,fun b e=>by grind[Gh.put]⟩)
 generalize hG1:G.put d (.arr Te fr' t [] (ver+1)) (.slice none 0 0) none G.w=G1 at h1;obtain⟨S1,L1⟩:=h1;have aI:G1.w=G.w:=by rw[<- hG1]; rfl
 have aR:G1.K=G.K:=by rw[<- hG1]; rfl
 have aS:G1.B=G.B:=by rw[<- hG1]; rfl
 have E:∀i,a8 G1.o i=if d=i then some (.arr Te fr' t [] (ver+1)) else a8 G.o i:=fun i=>by rw[<- hG1]; exact lK _ _ _ _
 have Q:∀i,i≠d->G1.ρ i=G.ρ i:=fun i hi=>by grind[Gh.put]
 have V:∀i,i≠d->G1.γ i=G.γ i:=fun i hi=>by rw[<- hG1]; simp only[Gh.put,if_neg hi]
 have bE:G1.γ d=none:=by rw[<- hG1]; simp only[Gh.put,if_true]
 have aN:∀i b,G1.δ i b↔i≠d/\G.δ i b:=fun i b=>by rw[<- hG1]; exact Iff.rfl
 have s:a8 G1.o id=some (.grd T0 Te fr t xs (some k)):=by rw[E,if_neg F]; exact ho
 obtain⟨vs,bs,hO,hR,hB⟩:=S1.obs id _ s;have hb:G1.γ id=some b:=by
  rcases hO with ⟨_,hn,_⟩ | ⟨f,o',cap,cur,hb,q,_⟩
  ·omega
  ·rw[Q id (Ne.symm F),aG] at q;simp only[Value.slice.injEq,oi,Addr.mk.injEq] at q;rw[hb,q.1.1]
 have aU:G.γ id=some b:=by rw[<- V id (Ne.symm F)]; exact hb
 -- the store
 have aK:=hO;rw[hb] at aK;rcases aK with ⟨h,_⟩ | ⟨f,o',cap,cur,m,hv2,k1,k2,k3,k4,k5⟩
 ·cases h
 cases m;have W:G1.ρ id=.slice (some ⟨b,o,none⟩) n c:=(Q id (Ne.symm F)).trans aG;have aV:o'=o:=by rw[W] at hv2; cases hv2; rfl
 subst aV;have bG:cur.toList.length=o'+cap:=by rw[Array.length_toList,k4,Nat.mul_one]
 have H:(a.eval y).cells.toList=[a.eval y]:=by
  have:=y0;cases q:a.eval y <;> rw[q] at this <;> first | rfl | (simp[Value.oneCell'] at this)
 have aT:Blk G.w b cur.toList T0:=by unfold Blk; rw[Array.toArray_toList]; rw[aI] at k1; exact k1
 have bA:=Tt (P:=X.P) (T:=T) (o:=o'+k) (v:=a.eval y) H (by rw[hs]; rfl) (OX (fun u hu=>by cases List.mem_singleton.1 hu; exact y0)) aT (by simp only[List.length_singleton]; omega);have hW:=ON G.w b (u6 cur.toList (o'+k) [a.eval y]).toArray;have aC:k<vs.length:=by rw[hR.len]; exact hk
 have aA:Own (G.w.setRow b (u6 cur.toList (o'+k) [a.eval y]).toArray) T0 1 (G1.γ id) (G1.ρ id) xs.length (u6 vs k [a.eval y]):=by
  rw[hb] at hO ⊢;have:=Own.set (w':=G.w.setRow b (u6 cur.toList (o'+k) [a.eval y]).toArray) (k:=k) (vs:=[a.eval y]) hO W hk rfl (fun bF aM=>by
   rw[k1] at aM;cases aM;rw[Nat.mul_one]
   grind[setRow_heap])
  rwa [Nat.mul_one] at this
 have aY:∀f,G.γ d=some f->(X.w0.heap.size<=f∨X.io f)/\¬G.K f/\(∀i o,a8 G1.o i=some o->G1.γ i≠some f)/\∀i,G1.δ i f->C5 (a8 G1.o i)=true->False:=fun f m=>by
  refine⟨S.own d _ f Y m,S.imm d _ f Y m,fun i o hi hg=>?_,fun i hi hg=>?_⟩
  ·by_cases e:i=d
   ·grind
   ·rw[E,if_neg (Ne.symm e)] at hi;rw[V i e] at hg;exact e (S.inj i d _ _ f hi Y hg m)
  ·obtain⟨e,hi⟩:=(aN i f).1 hi;rw[E,if_neg (Ne.symm e)] at hg;exact(S.sep i f hi hg).2.2.1 d _ Y m
 have h2:=S1.grd (id:=id) (T':=T0) (Te':=Te) (fr':=fr&&fr') (t':=t) (xs':=xs.set k l) (hole':=none) (D:=fun f=>G1.δ id f∨G.γ d=some f) (w':=G.w.setRow b (u6 cur.toList (o'+k) [a.eval y]).toArray) (go:=some b) s (fun f e=>by grind) (by grind[WE.of_wr])
  (fun f m=>by
    rcases m with m | m
    ·obtain⟨s1,s2,s3,s4⟩:=S1.sep id f m (by rw[s]; rfl)
     grind
    grind)
  (fun aJ=>by
    refine⟨u6 vs k [a.eval y],fun j=>if j=k then G.γ d else bs j,by rw[List.length_set]; exact aA,⟨?_,fun f=>⟨fun h=>?_,fun h=>?_⟩,fun j j' f z aL _ _ aH aD=>?_,fun j z _=>?_,fun v q=>?_⟩,hB⟩
    ·grind[List.length_set,u6,List.length_append,List.length_take,List.length_drop,List.length_singleton]
    ·have h':G1.δ id f∨G.γ d=some f:=by
      rcases h with ⟨_,h⟩ | ⟨h,_⟩
      ·exact h
      ·omega
     rcases h' with h' | h'
     ·obtain⟨j,z,bM,aB⟩:=(hR.blk f).1 h'
      grind
     ·exact⟨k,by grind,(fun h=>by cases h),by grind⟩
    ·obtain⟨j,z,_,aB⟩:=h;rw[List.length_set] at z;refine .inl ⟨rfl,?_⟩;by_cases e:j=k
     ·grind
     ·rw[if_neg e] at aB; exact .inl ((hR.blk f).2 ⟨j,z,(fun h=>e (Option.some.inj h).symm),aB⟩)
    ·rw[List.length_set] at z aL;have bK:∀i,i<xs.length->i≠k->bs i=some f->G.γ d=some f->False:=fun i hi bC aQ aZ=>(aY f aZ).2.2.2 id ((hR.blk f).2 ⟨i,hi,(fun h=>bC (Option.some.inj h).symm),aQ⟩) (by rw[s]; rfl);by_cases e:j=k
     ·grind
     ·by_cases e':j'=k
      ·grind
      ·rw[if_neg e] at aH; rw[if_neg e'] at aD;exact hR.inj j j' f z aL (fun h=>e (Option.some.inj h).symm) (fun h=>e' (Option.some.inj h).symm) aH aD
    ·rw[List.length_set] at z;simp only[v0w aC];by_cases e:j=k
     ·subst e;simp only[if_true];have eg:(xs.set j l).getD j []=l:=by simp[z]
      rw[eg];refine⟨cs,aF.we (w':=G.w.setRow b (u6 cur.toList (o'+j) [a.eval y]).toArray) (WE.of_wr hW) (fun i hi e=>?_),hA.mapR (fun c x hr=>?_),fun f m=>show G1.B<=f from by grind⟩
      ·grind
      ·refine RT.up (RT.same (K':=rg G fr') (w:=G.w) (fun i hi hl=>⟨hi,?_⟩) hr) (fun i hi=>⟨show G1.K i from by rw[aR]; exact hi.1,fun e=>show G1.B<=i from ?_⟩)
       ·exact hW.block i (fun e=>S.imm id _ b ho aU (by rw[<- e]; exact hi.1))
       ·rw[ba] at e; rw[aS]; exact hi.2 e.2
     ·simp only[if_neg e];obtain⟨aO,r1,r2,r3⟩:=hR.row j z (fun h=>e (Option.some.inj h).symm);have eg:(xs.set k l).getD j []=xs.getD j []:=by simp[List.getElem?_set_ne (Ne.symm e)]
      rw[eg];refine⟨aO,r1.we (WE.of_wr (by rw[aI]; exact hW)) (fun i hi e'=>?_),r2.mapR (fun c x hr=>RT.up (RT.same (w:=G1.w) aJ.hR hr) (fun i hi=>⟨hi.1,fun e=>hi.2 (by grind)⟩)),r3⟩;cases hi;exact(S1.sep id b ((hR.blk b).2 ⟨j,z,(fun h=>e (Option.some.inj h).symm),e'⟩) (by rw[s]; rfl)).2.2.1 id _ s hb
    ·unfold u6 at q;rcases List.mem_append.1 q with q | q
     ·rcases List.mem_append.1 q with q | q
      ·exact hR.one v (List.mem_of_mem_take q)
      grind
     ·exact hR.one v (List.mem_of_mem_drop q))
 obtain⟨S2,L2⟩:=h2;refine⟨_,TR aW bA,S2,L1.trans L2 (by grind),?_⟩;rw[<- hG1];rfl
theorem n0P(i:s6 X.P Γ)(S:Sat X G)(ho:G.o=st.o)(hE:EnvR X.n G st.e a)(Q:PathP p a){b:Op}{ty:TypeId}{q:Prop}{obs:List (Nat×Ob)}{l:List Nat}
  (h:Bb Γ st p b=some (q,obs,l)) (v:q):Ul X G a b ty obs:=by
 unfold Bb at h;split at h
 ·rename_i T x y;split at h
  ·rename_i id k d j m Y E W;split at h
   ·rename_i F s fr t xs k' Te' g r u c H w;split at h
    ·rename_i V z;rw[ce] at h;split at h
     ·rename_i f;simp only[ba] at f
      grind[oi,pj,nb,CB,B0T,x8]
     grind
    grind
   grind
  grind
 grind
end
def I0I:Op->Bool
 | .move _ | .assign _ | .nilCheck _ | .pick .. | .binOp .. | .unOp .. | .convert .. | .fieldAddr .. | .field .. | .load .. | .indexAddr .. | .index .. | .extract .. | .makeFunc .. | .build .. | .slice ..=>true
 | .call ⟨.builtin .len,_,_⟩ | .call ⟨.builtin .min,_,_⟩ | .call ⟨.builtin .max,_,_⟩=>true
 | _=>false
def I0K:Op->Bool
 | .alloc _ | .box .. | .makeSlice .. | .buildSlice .. | .call ⟨.builtin .append,_,_⟩=>true
 | _=>false
def I0H:Op->Bool
 | .store ..=>true
 | _=>false
def T3(Γ:m3)(T:List Ct)(st:St)(p:Pa)(o:Oper):Option (Prop×Option AV×List (Nat×Ob)×List Nat):=match o.dst with
 | some d=>bif I0I o.op then(match C6 Γ st p o.op with
   | some (q,r,l)=>some (q,some r,[],l)
   | none=>match An Γ st p d o.op with
     | some (q,r,obs,l)=>some (q,some r,obs,l)
     | none=>none) else bif I0K o.op then(match X6 Γ st p d o.op with
     | some (q,r,w,l)=>some (q,some r,[w],l)
     | none=>none) else match BN T st p d o.op with
       | some (q,r,obs,l)=>some (q,some r,obs,l)
       | none=>none
 | none=>bif I0H o.op then(match AY Γ st p o.op with
   | some (q,w,l)=>some (q,none,[w],l)
   | none=>match Bb Γ st p o.op with
     | some (q,obs,l)=>some (q,none,obs,l)
     | none=>none) else match BN T st p 0 o.op with
     | some (q,_,obs,l)=>some (q,none,obs,l)
     | none=>none
def Bc(all:List Oper)(e:List (Nat×Sl))(o:Oper):Option Pa:=match o.guard with
 | none=>some []
 | some (j,b)=>match B8 all j with
   | some oj=>match oj.dst with
     | some dj=>match a8 e dj with
       | some ⟨q,.d _ .bool _⟩=>some ((dj,b) :: q)
       | _=>none
     | none=>none
   | none=>none
def DC(e:List (Nat×Sl)):Pa->Prop
 | []=>True
 | (s,b) :: r=>(match a8 e s with
   | some ⟨q,.d _ .bool x⟩=>if OS q r=true then x=b else True
   | _=>True)/\DC e r
def CH(dst:Option Nat)(p:Pa)(av:Option AV)(e:List (Nat×Sl)):List (Nat×Sl):=match dst,av with
 | some d,some a=>(d,⟨p,a⟩) :: e
 | _,_=>e
def V0(P:Program)(ops:Array Oper)(Q:Exit->Act->World->Prop)(o:Oper)(K:Act->World->Prop)(a:Act)(w:World):Prop :=
 if Region.wanted o (yielded ops a.tmps) then o.wp P a w K Q else K (a.put o.dst undef) w
section
variable {X:Cx} {G:Gh} {a:Act} {st:St} {Γ:m3} {T:List Ct}
theorem p0t(d:EnvR X.n G st.e a):∀{p:Pa},PathP p a->DC st.e p
 | [],_=>trivial
 | (s,b) :: r,h=>by
   have k:=h (s,b) (by simp);have g:PathP r a:=fun x j=>h x (by grind);refine⟨?_,p0t d g⟩;split
   ·rename_i q f x i;split
    ·rename_i c;have:=CD ((d.val s _ i).1 (g.sub c))
     grind
    grind
   grind
theorem Pr{d:Nat}{v:Value}(b:d<a.tmps.size)(t:Nat):(a.put (some d) v).tmps.getD t undef=if d=t then v else a.tmps.getD t undef:=by
 unfold Act.put;by_cases h:d=t
 ·simp_all
 ·simp[h]
theorem o0H{d:Option Nat}{v:Value}:(a.put d v).tmps.size=a.tmps.size/\(a.put d v).defers=a.defers:=by
 cases d <;> simp[Act.put]
theorem l0F{d:Nat}{v:Value}(c:d<a.tmps.size){p:Pa}(h:∀x∈p,x.1≠d):PathP p (a.put (some d) v)↔PathP p a:=by
 constructor <;> intro k x b
 ·have:=k x b;rw[Pr c,if_neg (Ne.symm (h x b))] at this; omega
 ·rw[Pr c,if_neg (Ne.symm (h x b))]; exact k x b
theorem EnvR.put{g:Gh}{d:Nat}{v:Value}{p:Pa}{r:AV}(f:EnvR X.n g st.e a)(i:d<X.n)(j:∀x∈p,x.1≠d)(h:∀t s,a8 st.e t=some s->∀x∈s.p,x.1≠d)
  (k:(PathP p a->AVR g r v)/\(¬PathP p a->v=undef)):EnvR X.n g ((d,⟨p,r⟩) :: st.e) (a.put (some d) v):=by
 have b:d<a.tmps.size:=by rw[f.size]; exact i
 refine⟨by rw[o0H.2]; exact f.defers,by rw[o0H.1]; exact f.size,fun t s c=>?_⟩;rw[lK] at c;rw[Pr b];by_cases e:d=t
 ·rw[if_pos e] at c ⊢
  grind[l0F]
 ·rw[if_neg e] at c ⊢;rw[l0F b (h t s c)];exact f.val t s c
theorem k0J{ops:Array Oper}{all:List Oper}(f:ops=all.toArray){j b:Nat}{d:Oper}(c:B8 all j=some d)(g:d.dst=some b):yielded ops a.tmps j=match a.tmps.getD b undef with
  | .bool v=>some v
  | _=>none:=by
 subst f;rw[U8] at c;unfold yielded;have e:(all.toArray[j]?).bind (·.dst)=some b:=by simp[c,g]
 rw[e];simp only[Option.bind_some];rw[Array.getD_eq_getD_getElem?]
 grind[undef]
theorem q0p{ops:Array Oper}{all:List Oper}(t:ops=all.toArray)(m:EnvR X.n G st.e a){o:Oper}{p:Pa}(c:Bc all st.e o=some p) :
  (Region.wanted o (yielded ops a.tmps)=true/\PathP p a)∨(Region.wanted o (yielded ops a.tmps)=false/\¬PathP p a):=by
 unfold Bc at c;split at c
 ·rename_i v;simp only[oi] at c; subst c;exact .inl ⟨by grind[Region.wanted],fun x w=>by cases w⟩
 ·rename_i j b v;split at c
  ·rename_i E r;split at c
   ·rename_i l u;split at c
    ·rename_i q f x s;simp only[oi] at c; subst c;have i:=k0J (a:=a) t r u;have k:=m.val l _ s;by_cases g:PathP q a
     ·have e:=CD (k.1 g);rw[e] at i;simp only at i;by_cases z:x=b
      ·subst z;refine .inl ⟨by grind[Region.wanted],fun y d=>?_⟩;rcases List.mem_cons.1 d with rfl | h
       ·exact e
       ·exact g y h
      ·refine .inr ⟨by grind[Region.wanted],fun h=>?_⟩;have:=h (l,b) (by simp)
       grind
     ·have e:=k.2 g;rw[e] at i;simp only[undef] at i;exact .inr ⟨by grind[Region.wanted],fun h=>g (fun y d=>h y (by grind))⟩
    grind
   grind
  grind
theorem F0A(F:s6 X.P Γ)(hT:∀c∈T,Ok X.P c){ops:Array Oper}{all:List Oper}(ha:ops=all.toArray){Q:Exit->Act->World->Prop}(S:Sat X G)(ho:G.o=st.o)(i:EnvR X.n G st.e a){o:Oper}{p:Pa}{q:Prop}{av:Option AV}{obs:List (Nat×Ob)}{fp:List Nat}
  (hp:Bc all st.e o=some p) (h:T3 Γ T st p o=some (q,av,obs,fp)) (V:DC st.e p->q) (hg:p=[]∨obs=[]) (hd:∀d,o.dst=some d->d<X.n/\(∀x∈p,x.1≠d)/\∀t s,a8 st.e t=some s->∀x∈s.p,x.1≠d)
  {K:Act->World->Prop} (Y:∀a' G',Sat X G'->GLe G G'->G'.o=obs++st.o->EnvR X.n G' (CH o.dst p av st.e) a'->K a' G'.w):V0 X.P ops Q o K a G.w:=by
 unfold V0;rcases q0p ha i hp with ⟨hw,k⟩ | ⟨hw,k⟩
 ·rw[if_pos hw];have V:=V (p0t i k);unfold T3 at h;split at h
  ·rename_i d b;obtain⟨z,y,m⟩:=hd d b;rw[ce] at h;split at h
   ·split at h
    ·rename_i q' r l u;simp only[oi,pj] at h;obtain⟨rfl,rfl,rfl,_⟩:=h;obtain⟨v,g,W⟩:=q0N F S ho i k (ty:=o.type) u V;unfold Oper.wp;have:=g o.dst o.pos o.after o.guard;rw[show(execOp a.eval o).run X.P G.w=.ok (.value v) G.w from this];show K (a.put o.dst v) G.w;rw[b];refine Y _ G S (GLe.refl G) (by grind) ?_;rw[b];exact EnvR.put i z y m ⟨fun _=>W,fun h=>(h k).elim⟩
    ·split at h
     ·rename_i q' r E l u;simp only[oi,pj] at h;obtain⟨rfl,rfl,rfl,_⟩:=h;obtain⟨v,G',g,H,j,hO,W⟩:=q0T F S ho i k (ty:=o.type) u V;unfold Oper.wp;have:=g o.dst o.pos o.after o.guard;rw[show(execOp a.eval o).run X.P G.w=.ok (.value v) G'.w from this];show K (a.put o.dst v) G'.w;rw[b];refine Y _ G' H j (by grind) ?_;rw[b];exact EnvR.put (i.mono j) z y m ⟨fun _=>W,fun h=>(h k).elim⟩
     grind
   ·rw[ce] at h;split at h
    ·split at h
     ·rename_i q' r w l u;simp only[oi,pj] at h;obtain⟨rfl,rfl,rfl,_⟩:=h;obtain⟨v,G',g,H,j,hO,W⟩:=q0Q F S ho i k (ty:=o.type) u V;unfold Oper.wp;have:=g o.dst o.pos o.after o.guard;rw[show(execOp a.eval o).run X.P G.w=.ok (.value v) G'.w from this];show K (a.put o.dst v) G'.w;rw[b];refine Y _ G' H j (by grind) ?_;rw[b];exact EnvR.put (i.mono j) z y m ⟨fun _=>W,fun h=>(h k).elim⟩
     grind
    ·split at h
     ·rename_i q' r E l u;simp only[oi,pj] at h;obtain⟨rfl,rfl,rfl,_⟩:=h;obtain⟨f,vs,g,hc⟩:=j0H hT S ho i k (ty:=o.type) u V;unfold Oper.wp;have:=g o.dst o.pos o.after o.guard;rw[show(execOp a.eval o).run X.P G.w=.ok (.enter f vs) G.w from this];refine Calls.mono hc ?_;rintro en w' ⟨v,G',rfl,rfl,H,j,hO,W⟩;show K (a.put o.dst v) G'.w;rw[b];refine Y _ G' H j (by grind) ?_;rw[b];exact EnvR.put (i.mono j) z y m ⟨fun _=>W,fun h=>(h k).elim⟩
     grind
  ·rename_i b;rw[ce] at h;split at h
   ·split at h
    ·rename_i q' w l u;simp only[oi,pj] at h;obtain⟨rfl,rfl,rfl,_⟩:=h;obtain⟨G',g,H,j,hO⟩:=q0L F S ho i k (ty:=o.type) u V;unfold Oper.wp;have:=g o.dst o.pos o.after o.guard;rw[show(execOp a.eval o).run X.P G.w=.ok .skip G'.w from this];show K (a.put o.dst undef) G'.w;rw[b];refine Y _ G' H j (by grind) ?_;rw[b];exact i.mono j
    ·split at h
     ·rename_i q' E l u;simp only[oi,pj] at h;obtain⟨rfl,rfl,rfl,_⟩:=h;obtain⟨G',g,H,j,hO⟩:=n0P F S ho i k (ty:=o.type) u V;unfold Oper.wp;have:=g o.dst o.pos o.after o.guard;rw[show(execOp a.eval o).run X.P G.w=.ok .skip G'.w from this];show K (a.put o.dst undef) G'.w;rw[b];refine Y _ G' H j (by grind) ?_;rw[b];exact i.mono j
     grind
   ·split at h
    ·rename_i q' r E l u;simp only[oi,pj] at h;obtain⟨rfl,rfl,rfl,_⟩:=h;obtain⟨f,vs,g,hc⟩:=j0H hT S ho i k (ty:=o.type) u V;unfold Oper.wp;have:=g o.dst o.pos o.after o.guard;rw[show(execOp a.eval o).run X.P G.w=.ok (.enter f vs) G.w from this];refine Calls.mono hc ?_;rintro en w' ⟨v,G',rfl,rfl,H,j,hO,W⟩;show K (a.put o.dst v) G'.w;rw[b];refine Y _ G' H j (by grind) ?_;rw[b];exact i.mono j
    grind
 ·rw[if_neg (by grind)];have aA:obs=[]:=by
   rcases hg with rfl | h
   ·exact(k (fun x hx=>by cases hx)).elim
   ·exact h
  subst aA;refine Y _ G S (GLe.refl G) (by grind) ?_;cases b:o.dst with
  | none=>cases av <;> exact i
  | some d =>
    obtain⟨z,y,m⟩:=hd d b;have:∃r,av=some r:=by
     unfold T3 at h;rw[b] at h;simp only[ce] at h;split at h
     ·grind
     ·grind
    obtain⟨r,rfl⟩:=this;exact EnvR.put i z y m ⟨fun h=>(k h).elim,fun _=>rfl⟩
end
section
variable {e e':List (Nat×Sl)} {o o':List (Nat×Ob)}
theorem BO{x:Operand}{p:Pa}(h:∀t,x=.tmp t->a8 e t=a8 e' t):rd ⟨e,o⟩ p x=rd ⟨e',o'⟩ p x:=by
 cases x with
 | tmp t=>simp only[rd,h t rfl]
 | _=>rfl
theorem Gd{p:Pa}:∀{xs:List Operand},(∀t,.tmp t∈xs->a8 e t=a8 e' t)->H9 ⟨e,o⟩ p xs=H9 ⟨e',o'⟩ p xs
 | [],_=>rfl
 | x :: r,h=>by
   unfold H9;rw[BO (o:=o) (o':=o') (p:=p) (x:=x) (fun t a=>h t (by grind)),Gd (xs:=r) (fun t a=>h t (by grind))]
theorem TY{v:AV}{cs:List AV}{l:List Nat}(h:P7 o v=some (cs,l))(g:∀id∈l,a8 o id=a8 o' id):P7 o' v=some (cs,l)/\AX o' v=AX o v:=by
 unfold P7 at h;split at h
 ·rename_i id a;split at h
  ·rename_i T e c;simp only[oi,pj] at h;obtain⟨rfl,rfl⟩:=h
   grind[P7,AX]
  grind
 ·rename_i id d k s a;split at h
  ·rename_i T i t f b c;rw[ce] at h;split at h
   ·rename_i j;simp only[oi,pj] at h;obtain⟨rfl,rfl⟩:=h
    grind[P7,AX]
   grind
  grind
 ·simp only[oi,pj] at h;obtain⟨rfl,rfl⟩:=h;exact⟨rfl,rfl⟩
 grind
theorem t0x{Γ:m3}{T:TypeId}{v r:AV}{n:Int}{q:Prop}{l:List Nat}(h:HW Γ o T v n=some (q,r,l))(a:∀id∈l,a8 o id=a8 o' id):HW Γ o' T v n=some (q,r,l):=by
 unfold HW at h ⊢;split at h
 ·exact h
 ·grind
 ·exact h
 ·grind
 omega
theorem q0D{d a:(t:Ty)->List AV->Option (c7 t×List Nat×Bool)}(f:∀{t:Ty} {cs:List AV} {x:c7 t} {l:List Nat} {b:Bool},d t cs=some (x,l,b)->(∀id∈l,a8 o id=a8 o' id)->a t cs=some (x,l,b))
  {t:Ty} {c:AV} {x:c7 t} {l:List Nat} {b:Bool} (h:X2 o d t c=some (x,l,b)) (q:∀id∈l,a8 o id=a8 o' id):X2 o' a t c=some (x,l,b):=by
 unfold X2 at h;split at h
 ·grind[X2]
 ·exact h
 ·rename_i e id k;split at h
  ·rename_i T s r m g j;rw[ce] at h;split at h
   ·rename_i z;split at h
    ·rename_i y u;simp only[oi,pj] at h;obtain⟨rfl,rfl,rfl⟩:=h
     grind[X2]
    grind
   grind
  grind
 ·rename_i e id i;split at h
  ·rename_i T cs j;split at h
   ·rename_i v n w E;simp only[oi,pj] at h;obtain⟨rfl,rfl,rfl⟩:=h
    grind[hi,X2]
   grind
  grind
 grind
theorem Ge:∀(n:Nat) {t:Ty} {cs:List AV} {x:c7 t} {l:List Nat} {fl:Bool},B0 o n t cs=some (x,l,fl)->(∀id∈l,a8 o id=a8 o' id)->B0 o' n t cs=some (x,l,fl):=by
 intro n
 induction n with
 | zero=>grind[B0]
 | succ n d =>
   intro t cs x l fl h c;cases t with
   | pr a b =>
     unfold B0 at h ⊢
     grind
   | _ =>
     unfold B0 at h ⊢
     grind[q0D]
theorem j0B{v:AV}{t:Ty}{c:List (c7 t)}{a:List Nat}{b:Bool}(h:BK o v=some ⟨t,c,a,b⟩)(d:∀id∈a,a8 o id=a8 o' id):BK o' v=some ⟨t,c,a,b⟩:=by
 unfold BK at h
 grind[id,BK]
theorem DD{d:Nat}(h:a8 o d=a8 o' d):U9 o' d=U9 o d:=by grind[U9]
theorem TZ:∀{ps:List m0} {as':List AV} {x:s8 ps} {l:List Nat} {io:Option Nat},H2 o ps as'=some (x,l,io)->(∀id∈l,a8 o id=a8 o' id)->(∀i,io=some i->a8 o i=a8 o' i)->H2 o' ps as'=some (x,l,io)
 | [],[],x,l,io,h,_,_=>h
 | [],_ :: _,x,l,io,h,_,_=>by grind[H2]
 | _ :: _,[],x,l,io,h,_,_=>by grind[H2]
 | p :: r,a :: as',x,l,io,h,hl,hio=>by
   simp only[H2] at h ⊢;split at h
   ·rename_i w q n b;split at h
    ·rename_i y m j H;have z:l=q++m/\((n=none/\io=j)∨(∃i,n=some i/\j=none/\io=some i)):=by
      split at h
      ·grind
      ·grind
      ·cases h
     obtain⟨rfl,f⟩:=z;have d:∀id∈q,a8 o id=a8 o' id:=fun id k=>hl id (by grind);have G:AZ o' p a=some (w,q,n):=by
      unfold AZ at b;split at b
      ·split at b
       ·rename_i c;simp only[oi,pj] at b;obtain⟨rfl,rfl,rfl⟩:=b
        grind[AZ,Ge]
       grind
      ·split at b
       ·rename_i c;simp only[oi,pj] at b;obtain⟨rfl,rfl,rfl⟩:=b
        grind[AZ,Ge]
       grind
      ·rw[ce] at b;split at b
       ·rename_i v;split at b
        ·rename_i c;simp only[oi,pj] at b;obtain⟨rfl,rfl,rfl⟩:=b;simp only[AZ,Ge 24 c d,v,cond_true]
        grind
       grind
      ·exact b
      ·rename_i T t id _;split at b
       ·rename_i T' Y s;rw[ce] at b;split at b
        ·rename_i F;split at b
         ·rename_i Q c;simp only[oi,pj] at b;obtain⟨rfl,rfl,rfl⟩:=b;rcases f with ⟨e,_⟩ | ⟨i',e,_,rfl⟩
          ·cases e
          cases e;have g:=hio id rfl;rw[s] at g;simp only[AZ,<- g,F,cond_true,Ge 24 c d]
         grind
        grind
       grind
      ·rename_i E t id P _;split at b
       ·rename_i E' fr W xs u s;rw[ce] at b;split at b
        ·rename_i X;split at b
         ·rename_i Q hc;simp only[oi,pj] at b;obtain⟨rfl,rfl,rfl⟩:=b;rcases f with ⟨e,_⟩ | ⟨i',e,_,rfl⟩
          ·cases e
          cases e;have g:=hio id rfl
          grind[AZ]
         grind
        grind
       grind
      ·exact b
      ·cases b
     have V:=TZ H (fun id k=>hl id (by grind)) (fun i hi=>by
      grind)
     grind
    grind
   grind
theorem e0w:∀{l:List (Nat×Ob)},(∀x∈l,a8 o x.1=a8 o' x.1)->CG o' l=CG o l
 | [],_=>rfl
 | (i,b) :: r,h=>by
   simp only[CG];rw[DD (h (i,b) (by simp)),e0w (fun x a=>h x (by grind))]
theorem i0c{d f:Nat}{g:List AV}:∀{T:List Ct} {q:Prop} {av:AV} {obs:List (Nat×Ob)} {fp:List Nat},Gc o d f g T=some (q,av,obs,fp)->(∀id∈fp,a8 o id=a8 o' id)->Gc o' d f g T=some (q,av,obs,fp)
 | [],q,av,obs,fp,h,_=>by cases h
 | c :: r,q,av,obs,fp,h,ho=>by
   simp only[Gc,ce] at h ⊢;split at h
   ·rename_i n;rw[if_pos n];split at h
    ·rename_i x l m a;by_cases b:C7 c.ps=true
     ·rw[if_pos b] at h;unfold Pq at h;split at h
      ·rename_i id;split at h
       ·rename_i T X t W V E Q F G u k;rw[ce] at h;split at h
        ·rename_i v;simp only[oi,pj] at h;obtain⟨rfl,rfl,rfl,rfl⟩:=h;have j:=Md (ba _ _ ▸ v).2;subst j;have e:a8 o id=a8 o' id:=ho id (by simp);rw[TZ a (fun _ h=>by cases h) (fun i hi=>by grind)];simp only[b,if_true,Pq,u,<- e,k,v,cond_true]
        grind
       grind
      grind
     rw[if_neg b] at h;simp only[if_neg b];split at h
     ·rename_i H;have s:=H;simp only[oi,pj] at h;obtain⟨rfl,rfl,rfl,rfl⟩:=h;have P:∀id∈l,a8 o id=a8 o' id:=fun id y=>ho id (by grind);have e:∀i,m=some i->a8 o i=a8 o' i:=fun i hi=>ho i (by grind);rw[TZ a P e];simp only;rw[e0w (o:=o) (fun x w=>ho x.1 (List.mem_append.2 (.inl (List.mem_map_of_mem w)))),if_pos s];have:X7 o' c.ps (c.res x).z m=X7 o c.ps (c.res x).z m:=by
       cases m with
       | none=>rfl
       | some i=>simp only[X7,e i rfl]
      grind
     grind
    grind
   ·rename_i n;rw[if_neg n];exact i0c h ho
def z0u(xs:List Operand):List Nat:=xs.filterMap fun | .tmp t=>some t | _=>none
theorem t0h{xs:List Operand}{t:Nat}(h:.tmp t∈xs):t∈z0u xs:=List.mem_filterMap.2 ⟨_,h,rfl⟩
theorem Ua{p:Pa}{x:Option Operand}(h:∀t,x=some (.tmp t)->a8 e t=a8 e' t):M5 ⟨e,o⟩ p x=M5 ⟨e',o'⟩ p x:=by
 cases x with
 | none=>rfl
 | some y =>
   grind[M5,BO]
theorem g0p{p:Pa}{pl:List (Nat×Nat)}:∀{ps:List (Nat×Operand)} {cs:List AV},(∀t,.tmp t∈ps.map (·.2)->a8 e t=a8 e' t)->X5 ⟨e,o⟩ p pl cs ps=X5 ⟨e',o'⟩ p pl cs ps
 | [],_,_=>rfl
 | (i,x) :: r,cs,h=>by
   unfold X5;rw[BO (o:=o) (o':=o') (p:=p) (x:=x) (fun t a=>h t (by grind))];have b:=fun cs=>g0p (p:=p) (pl:=pl) (ps:=r) (cs:=cs) (fun t a=>h t (by grind))
   simp_all
theorem g0j{p:Pa}{t:Ty}:∀{ps:List (Nat×Operand)} {k:Nat} {ys:List (c7 t)×Bool},(∀s,.tmp s∈ps.map (·.2)->a8 e s=a8 e' s)->CE ⟨e,o⟩ p t k ps=some ys->CE ⟨e',o'⟩ p t k ps=some ys
 | [],_,_,_,h=>h
 | (i,x) :: r,k,ys,hs,h=>by
   unfold CE at h ⊢;rw[ce] at h ⊢;split at h
   ·rename_i hi;rw[if_pos hi];rw[<- BO (o:=o) (o':=o') (p:=p) (x:=x) (fun t l=>hs t (by grind))];split at h
    ·rename_i v m;split at h
     ·rename_i j n;simp only;split at h
      ·rename_i y f c;rw[Ge 24 c (fun _ h=>by cases h)];simp only;split at h
       ·rename_i b g a;rw[g0j (fun s d=>hs s (by grind)) a];exact h
       grind
      grind
     omega
    omega
   grind
theorem q0O{Γ:m3}{p:Pa}{b:Op}{q:Prop}{r:AV}{l:List Nat}(g:∀t,.tmp t∈b.operands.toList->a8 e t=a8 e' t)(h:C6 Γ ⟨e,o⟩ p b=some (q,r,l))(w:∀id∈l,a8 o id=a8 o' id):C6 Γ ⟨e',o'⟩ p b=some (q,r,l):=by
 have R:∀(p:Pa) (x:Operand),x∈b.operands.toList->rd ⟨e',o'⟩ p x=rd ⟨e,o⟩ p x:=fun p x y=>(BO (fun t i=>g t (by grind))).symm;unfold C6 at h;split at h
 ·grind[C6,Op.operands]
 ·grind[C6,Op.operands]
 ·rename_i x;simp only[C6,R _ x (by simp[Op.operands])];split at h
  ·grind[oi,pj,TY]
  omega
 ·grind[C6,Op.operands]
 ·grind[C6,Op.operands]
 ·grind[C6,Op.operands]
 ·grind[C6,Op.operands]
 ·rename_i x;simp only[C6,R _ x (by simp[Op.operands])]
  grind
 ·rename_i x f;simp only[C6,R _ x (by simp[Op.operands])];split at h
  ·rename_i v F z P d s V E;split at h
   ·rename_i u H c Q m n;split at h
    ·rename_i G k;simp only[oi,pj] at h;obtain⟨rfl,rfl,rfl⟩:=h;simp only[m,(TY n w).1,k]
    grind
   grind
  omega
 ·rename_i x;simp only[C6,R _ x (by simp[Op.operands])];split at h
  ·grind[oi,pj,TY]
  omega
 ·grind[C6,Op.operands,t0x]
 ·grind[C6,Op.operands]
 ·grind[C6,Op.operands]
 ·grind[C6,Op.operands]
 ·grind[H9,Gd,Op.operands,C6]
 ·rename_i T a;have:∀d c,X5 ⟨e',o'⟩ p d c a.toList=X5 ⟨e,o⟩ p d c a.toList:=fun d c=>(g0p (fun t i=>g t (by grind[Op.operands]))).symm
  grind[C6]
 ·grind[M5,Ua,Op.operands,C6]
 ·rename_i j W;have:H9 ⟨e',o'⟩ p j.toList=H9 ⟨e,o⟩ p j.toList:=(Gd (fun t i=>g t (by grind[Op.operands,Call.operands]))).symm;simp only[C6,this]
  grind
 ·grind[H9,Gd,Op.operands,Call.operands,C6]
 ·grind[H9,Gd,Op.operands,Call.operands,C6]
 grind
end
section
variable {e e':List (Nat×Sl)} {o o':List (Nat×Ob)}
theorem q0R{Γ:m3}{p:Pa}{d:Nat}{f:Op}{q:Prop}{r:AV}{w:Nat×Ob}{l:List Nat}(k:∀t,.tmp t∈f.operands.toList->a8 e t=a8 e' t)(h:X6 Γ ⟨e,o⟩ p d f=some (q,r,w,l))(c:∀id∈l,a8 o id=a8 o' id):X6 Γ ⟨e',o'⟩ p d f=some (q,r,w,l):=by
 have R:∀(x:Operand),x∈f.operands.toList->rd ⟨e',o'⟩ p x=rd ⟨e,o⟩ p x:=fun x V=>(BO (fun t P=>k t (by grind))).symm;unfold X6 at h;split at h
 ·simp only[X6];split at h
  ·split at h
   ·rw[ce] at h ⊢;split at h
    ·rename_i a;have b:=h;simp only[oi,pj] at h;obtain⟨_,_,_,rfl⟩:=h;rw[DD (c d (by simp)),if_pos a]; exact b
    grind
   omega
  omega
 ·rename_i T x;simp only[X6,R x (by simp[Op.operands])];split at h
  ·split at h
   ·rw[ce] at h ⊢;split at h
    ·rename_i a;have b:=h;simp only[oi,pj] at h;obtain⟨_,_,_,rfl⟩:=h;rw[DD (c d (by simp)),if_pos a]; exact b
    grind
   omega
  omega
 ·rename_i T x y;simp only[X6,R x (by simp[Op.operands]),R y (by simp[Op.operands])];split at h
  ·split at h
   ·split at h
    ·rw[ce] at h ⊢;split at h
     ·rename_i a;have b:=h;simp only[oi,pj] at h;obtain⟨_,_,_,rfl⟩:=h;rw[DD (c d (by simp)),if_pos a]; exact b
     grind
    ·split at h
     ·split at h
      ·rename_i G;rw[Ge 24 G (fun _ h=>by cases h)];simp only;rw[ce] at h ⊢;split at h
       ·rename_i a;have b:=h;simp only[oi,pj] at h;obtain⟨_,_,_,rfl⟩:=h;rw[DD (c d (by simp)),if_pos a]; exact b
       grind
      grind
     omega
   omega
  omega
 ·rename_i T n g;simp only[X6];split at h
  ·split at h
   ·split at h
    ·rename_i m Q;rw[g0j (e':=e') (o':=o') (fun s H=>k s (by grind[Op.operands])) Q];simp only;rw[ce] at h ⊢;split at h
     ·rename_i a;have b:=h;simp only[oi,pj] at h;obtain⟨_,_,_,rfl⟩:=h;rw[DD (c d (by simp)),if_pos a]; exact b
     grind
    grind
   omega
  omega
 ·rename_i m X;have:H9 ⟨e',o'⟩ p m.toList=H9 ⟨e,o⟩ p m.toList:=(Gd (fun t P=>k t (by grind[Op.operands,Call.operands]))).symm;simp only[X6,this];split at h
  ·split at h
   ·rename_i E z j;split at h
    ·rename_i u W;rw[ce] at h;split at h
     ·rename_i a;have b:=h;simp only[oi,pj] at h;obtain⟨_,_,_,rfl⟩:=h;have F:=c _ List.mem_cons_self;simp only at z;rw[z] at F;have v:=j0B (o':=o') j (fun id i=>c id (by grind))
      grind
     grind
    grind
   grind
  ·split at h
   ·rename_i E j;split at h
    ·rename_i u;rw[ce] at h;split at h
     ·rename_i a;have b:=h;simp only[oi,pj] at h;obtain⟨_,_,_,rfl⟩:=h;have v:=j0B (o':=o') j (fun id i=>c id (by grind));simp only[E,v,u,DD (c d (by simp))]
      grind
     grind
    grind
   grind
  omega
 grind
theorem q0M{Γ:m3}{p:Pa}{a:Op}{q:Prop}{w:Nat×Ob}{l:List Nat}(f:∀t,.tmp t∈a.operands.toList->a8 e t=a8 e' t)(h:AY Γ ⟨e,o⟩ p a=some (q,w,l))(d:∀id∈l,a8 o id=a8 o' id):AY Γ ⟨e',o'⟩ p a=some (q,w,l):=by
 have R:∀(x:Operand),x∈a.operands.toList->rd ⟨e',o'⟩ p x=rd ⟨e,o⟩ p x:=fun x n=>(BO (fun t m=>f t (by grind))).symm;unfold AY at h;split at h
 ·rename_i T x y;simp only[AY,R x (by simp[Op.operands]),R y (by simp[Op.operands])];split at h
  ·grind
  ·split at h
   ·rename_i c i;split at h
    ·rename_i k;rw[ce] at h;split at h
     ·rename_i g;have j:=h;simp only[oi,pj] at h;obtain⟨_,_,rfl⟩:=h;have b:=d _ (List.mem_singleton.2 rfl);simp only at c;rw[c] at b;simp only[<- b,i,Ge (o':=o') 24 k (fun _ h=>by cases h),g,cond_true]; exact j
     grind
    grind
   grind
  omega
 grind
theorem j0I{T:List Ct}{p:Pa}{d:Nat}{a:Op}{q:Prop}{r:AV}{obs:List (Nat×Ob)}{fp:List Nat}(c:∀t,.tmp t∈a.operands.toList->a8 e t=a8 e' t)(h:BN T ⟨e,o⟩ p d a=some (q,r,obs,fp))(b:∀id∈fp,a8 o id=a8 o' id):BN T ⟨e',o'⟩ p d a=some (q,r,obs,fp):=by
 unfold BN at h
 grind[H9,Gd,Op.operands,Call.operands,rd,BO,BN,i0c]
theorem G0j{Γ:m3}{st:St}{p:Pa}{d:Nat}{a:Op}{r:Prop×AV×List (Nat×Ob)×List Nat}(h:An Γ st p d a=some r):C6 Γ st p a=none:=by
 unfold An at h
 grind[C6,P7]
theorem B0Z{Γ:m3}{st:St}{p:Pa}{a:Op}{r:Prop×List (Nat×Ob)×List Nat}(h:Bb Γ st p a=some r):AY Γ st p a=none:=by
 unfold Bb at h
 grind[AY]
theorem q0U{Γ:m3}{p:Pa}{d:Nat}{a:Op}{q:Prop}{r:AV}{obs:List (Nat×Ob)}{l:List Nat}(b:∀t,.tmp t∈a.operands.toList->a8 e t=a8 e' t)(h:An Γ ⟨e,o⟩ p d a=some (q,r,obs,l))(c:∀id∈l,a8 o id=a8 o' id):An Γ ⟨e',o'⟩ p d a=some (q,r,obs,l):=by
 have R:∀(x:Operand),x∈a.operands.toList->rd ⟨e',o'⟩ p x=rd ⟨e,o⟩ p x:=fun x v=>(BO (fun t g=>b t (by grind))).symm;unfold An at h;split at h
 ·rename_i T x;simp only[An,R x (by simp[Op.operands])];split at h
  ·rename_i w u;split at h
   ·rename_i k;rw[ce] at h;split at h
    ·rename_i i;have n:=h;simp only[oi,pj] at h;obtain⟨_,_,_,rfl⟩:=h;have f:=c _ (List.mem_cons_of_mem _ (List.mem_singleton.2 rfl));simp only at k;rw[k] at f;simp only at i;simp only[<- f,DD (c d (by simp)),i,cond_true];exact n
    grind
   grind
  omega
 ·rename_i T x l j;have m:M5 ⟨e',o'⟩ p l=M5 ⟨e,o⟩ p l:=(Ua (fun t g=>b t (by grind[Op.operands]))).symm;have s:M5 ⟨e',o'⟩ p j=M5 ⟨e,o⟩ p j:=(Ua (fun t g=>b t (by grind[Op.operands]))).symm;simp only[An,R x (by simp[Op.operands]),m,s]
  grind
 grind
theorem n0Q{Γ:m3}{p:Pa}{a:Op}{q:Prop}{obs:List (Nat×Ob)}{l:List Nat}(b:∀t,.tmp t∈a.operands.toList->a8 e t=a8 e' t)(h:Bb Γ ⟨e,o⟩ p a=some (q,obs,l))(c:∀id∈l,a8 o id=a8 o' id):Bb Γ ⟨e',o'⟩ p a=some (q,obs,l):=by
 have R:∀(x:Operand),x∈a.operands.toList->rd ⟨e',o'⟩ p x=rd ⟨e,o⟩ p x:=fun x f=>(BO (fun t d=>b t (by grind))).symm;unfold Bb at h;split at h
 ·rename_i T x y;simp only[Bb,R x (by simp[Op.operands]),R y (by simp[Op.operands])];split at h
  ·grind
  omega
 grind
theorem q0P{Γ:m3}{T:List Ct}{p:Pa}{x:Oper}{q:Prop}{av:Option AV}{obs:List (Nat×Ob)}{fp:List Nat}(c:∀t,.tmp t∈x.op.operands.toList->a8 e t=a8 e' t)(h:T3 Γ T ⟨e,o⟩ p x=some (q,av,obs,fp))(b:∀id∈fp,a8 o id=a8 o' id) :
  T3 Γ T ⟨e',o'⟩ p x=some (q,av,obs,fp):=by
 unfold T3 at h ⊢;split at h
 ·rw[ce] at h ⊢;split at h
  ·rename_i a;rw[if_pos a]
   grind[oi,pj,q0O,q0U,G0j]
  ·rename_i a;rw[if_neg a];rw[ce] at h ⊢;split at h
   ·rename_i a;rw[if_pos a]
    grind[oi,pj,q0R]
   ·rename_i a;rw[if_neg a]
    grind[oi,pj,j0I]
 ·rw[ce] at h ⊢;split at h
  ·rename_i a;rw[if_pos a]
   grind[oi,pj,q0M,n0Q,B0Z]
  ·rename_i a;rw[if_neg a]
   grind[oi,pj,j0I]
end
structure u0 where
 o:Oper
 p:Pa
 av:Option AV
 obs:List (Nat×Ob)
 fp:List Nat
def Ps(e:List (Nat×Sl))(p:Pa)(q:Prop):Prop:=match p with
 | []=>q
 | x :: r=>DC e (x :: r)->q
def Gf(Γ:m3)(T:List Ct)(all:List Oper):List Oper->St->List u0->(St->List u0->Prop)->Prop
 | [],st,rs,K=>K st rs
 | o :: r,st,rs,K=>match Bc all st.e o with
   | some p=>match T3 Γ T st p o with
     | some (q,av,obs,fp)=>bif BM p||BM obs then(Ps st.e p q/\Gf Γ T all r ⟨CH o.dst p av st.e,obs++st.o⟩ (⟨o,p,av,obs,fp⟩ :: rs) K) else False
     | none=>False
   | none=>False
def K5(n:Nat):Nat->List Nat->List Oper->Bool
 | _,_,[]=>true
 | i,seen,o :: r=>(match o.dst with
   | some d=>Nat.blt d n&&Gb d seen
   | none=>true)&&(match o.guard with
   | some (j,_)=>Nat.blt j i
   | none=>true)&&K5 n (i+1) (match o.dst with
   | some d=>d :: seen
   | none=>seen) r
def B9(st:St)(R:u0):St:=⟨CH R.o.dst R.p R.av st.e,R.obs++st.o⟩
def Ib(Γ:m3)(T:List Ct)(all:List Oper):St->List u0->Prop
 | _,[]=>True
 | st,R :: r=>Bc all st.e R.o=some R.p/\(∃q,T3 Γ T st R.p R.o=some (q,R.av,R.obs,R.fp)/\(DC st.e R.p->q))/\(R.p=[]∨R.obs=[])/\Ib Γ T all (B9 st R) r
theorem Ic{Γ:m3}{T:List Ct}{all:List Oper}{K:St->List u0->Prop}:∀{ops:List Oper} {st:St} {rs:List u0},Gf Γ T all ops st rs K->∃recs:List u0,recs.map (·.o)=ops/\Ib Γ T all st recs/\K (recs.foldl B9 st) (recs.reverse++rs)
 | [],st,rs,h=>⟨[],rfl,trivial,h⟩
 | o :: r,st,rs,h=>by
   unfold Gf at h;split at h
   ·rename_i p f;split at h
    ·rename_i q i a l c;rw[ce] at h;split at h
     ·rename_i g;obtain⟨b,d⟩:=h;obtain⟨recs,m,e,k⟩:=Ic d;refine⟨⟨o,p,i,a,l⟩ :: recs,by grind,⟨f,⟨q,c,?_⟩,?_,e⟩,by simp only[List.foldl_cons,List.reverse_cons,List.append_assoc,List.singleton_append]; exact k⟩
      ·intro j;cases p with
       | nil=>exact b
       | cons x r=>exact b j
      ·rw[Bool.or_eq_true] at g
       grind[Md]
     grind
    grind
   grind
theorem l0L{a:Type}{l:List a}{j:Nat}{x:a}(h:B8 l j=some x):l[j]?=some x:=by grind[U8]
section
variable {X:Cx} {Γ:m3} {T:List Ct}
theorem Pt(m:s6 X.P Γ)(hT:∀c∈T,Ok X.P c){ops:Array Oper}{all:List Oper}(ha:ops=all.toArray){Q:Exit->Act->World->Prop}{rest:List Oper}:∀(recs:List u0) (i:Nat) (seen:List Nat) (st:St) (G:Gh) (a:Act),(∀j,j<recs.length->recs[j]?.map (·.o)=all[i+j]?)->K5 X.n i seen (recs.map (·.o))=true ->
  (∀j oj dj,j<i->all[j]?=some oj->oj.dst=some dj->dj∈seen)->(∀t s,a8 st.e t=some s->∀x∈s.p,x.1∈seen)->Ib Γ T all st recs->Sat X G->G.o=st.o->EnvR X.n G st.e a ->
  (∀G' a',Sat X G'->G'.o=(recs.foldl B9 st).o->EnvR X.n G' (recs.foldl B9 st).e a'->wpList X.P ops Q rest a' G'.w)->wpList X.P ops Q (recs.map (·.o)++rest) a G.w
 | [],i,seen,st,G,a,_,_,_,_,_,S,ho,hE,hK=>hK G a S ho hE
 | R :: r,i,seen,st,G,a,hall,hreg,hseen,hpath,⟨hp,⟨q,hab,hq⟩,hg,hrun⟩,S,ho,hE,hK=>by
   simp only[List.map_cons,K5,ba] at hreg;obtain⟨⟨g,u⟩,F⟩:=hreg;have k:∀d,R.o.dst=some d->d<X.n/\d ∉ seen:=fun d f=>by
    rw[f] at g;simp only[ba] at g;exact⟨by simp_all,Me g.2⟩
   have z:∀x∈R.p,x.1∈seen:=by
    unfold Bc at hp;split at hp
    ·grind
    ·rename_i j b E;rw[E] at u;have l:j<i:=by simpa using u
     split at hp
     ·rename_i oj hj;split at hp
      ·rename_i dj aC;split at hp
       ·rename_i q' f' x' hs;simp only[oi] at hp; rw[<- hp];intro y V;rcases List.mem_cons.1 V with rfl | V
        ·grind[l0L]
        ·exact hpath dj _ hs y V
       grind
      grind
     grind
   have f:∀d,R.o.dst=some d->d<X.n/\(∀x∈R.p,x.1≠d)/\∀t s,a8 st.e t=some s->∀x∈s.p,x.1≠d:=fun d f=>⟨(k d f).1,fun x v e=>(k d f).2 (e ▸ z x v),fun t s H x v e=>(k d f).2 (e ▸ hpath t s H x v)⟩
   have aA:=F0A (K:=wpList X.P ops Q (r.map (·.o)++rest)) m hT ha (Q:=Q) S ho hE hp hab hq hg f (fun a' G' S' _ Y W=>by
    refine Pt m hT ha r (i+1) _ (B9 st R) G' a' (fun j hj=>?_) F ?_ ?_ hrun S' Y W hK
    ·have:=hall (j+1) (by grind);simp only[List.getElem?_cons_succ] at this;rw[this]; congr 1; omega
    ·intro j oj dj hj h1 h2;rcases Nat.lt_or_ge j i with h | h
     ·grind
     ·have l:j=i:=by omega
      subst l;have h0:=hall 0 (by simp)
      grind
    ·intro t s H x v;have aB:x.1∈seen->x.1∈(match R.o.dst with | some d=>d :: seen | none=>seen):=fun h=>by
      grind
     simp only[B9,CH] at H
     grind[lK])
   grind[wpList,V0]
theorem A0P(l:s6 X.P Γ)(v:∀c∈T,Ok X.P c){ops:Array Oper}{all:List Oper}(u:ops=all.toArray){Q:Exit->Act->World->Prop}(recs:List u0)(i:Nat)(b:List Nat)(st:St)(G:Gh)(a:Act)(g:∀j,recs[j]?.map (·.o)=all[i+j]?)(k:K5 X.n i b (recs.map (·.o))=true)
  (f:∀j oj dj,j<i->all[j]?=some oj->oj.dst=some dj->dj∈b) (d:∀t s,a8 st.e t=some s->∀x∈s.p,x.1∈b) (h:Ib Γ T all st recs) (S:Sat X G) (m:G.o=st.o) (q:EnvR X.n G st.e a)
  (r:∀G' a',Sat X G'->G'.o=(recs.foldl B9 st).o->EnvR X.n G' (recs.foldl B9 st).e a'->Q .normal a' G'.w):wpList X.P ops Q (recs.map (·.o)) a G.w:=by
 have:=Pt (rest:=[]) l v u recs i b st G a (fun j _=>g j) k f d h S m q r
 rwa [List.append_nil] at this
end
def w7(D:Nat->Bool):Nat->List u0->St->St
 | _,[],st=>st
 | i,R :: r,st=>w7 D (i+1) r (if D i=true then B9 st R else st)
def DE(R:u0)(t:Nat):Prop:=R.o.dst=some t
def Gg(R:u0)(id:Nat):Prop:=∃x∈R.obs,x.1=id
theorem Ub(st:St)(R:u0)(t:Nat)(h:¬DE R t):a8 (B9 st R).e t=a8 st.e t:=by
 simp only[B9,CH];split
 ·rename_i d a b _;rw[lK,if_neg (fun e=>h (by rw[<- e]; exact b))]
 ·rfl
theorem Uc(st:St)(R:u0)(id:Nat)(h:¬Gg R id):a8 (B9 st R).o id=a8 st.o id:=by
 simp only[B9];exact TS (fun x a e=>h ⟨x,a,e⟩)
theorem l0q{st st':St}{R:u0}{t:Nat}(h:a8 st.e t=a8 st'.e t):a8 (B9 st R).e t=a8 (B9 st' R).e t:=by
 simp only[B9,CH]
 grind[lK]
theorem w0d{b:Type}{l m a:List (Nat×b)}{i:Nat}(h:a8 m i=a8 a i):a8 (l++m) i=a8 (l++a) i:=by
 induction l with
 | nil=>exact h
 | cons x r c =>
   grind[lK]
theorem l0p{st st':St}{R:u0}{id:Nat}(h:a8 st.o id=a8 st'.o id):a8 (B9 st R).o id=a8 (B9 st' R).o id:=w0d h
theorem Ud{D b:Nat->Bool}{t:Nat}:∀{recs:List u0} {i:Nat} {st st':St},(∀j R,recs[j]?=some R->DE R t->D (i+j)=b (i+j))->a8 st.e t=a8 st'.e t->a8 (w7 D i recs st).e t=a8 (w7 b i recs st').e t
 | [],_,_,_,_,h=>h
 | R :: r,i,st,st',hD,h=>by
   simp only[w7];refine Ud (fun j c d a=>by have:=hD (j+1) c (by grind) a; rwa [show i+(j+1)=i+1+j by omega] at this) ?_;by_cases a:DE R t
   ·have:=hD 0 R rfl a;simp only[Nat.add_zero] at this
    grind[l0q]
   grind[Ub]
theorem Ue{D b:Nat->Bool}{id:Nat}:∀{recs:List u0} {i:Nat} {st st':St},(∀j R,recs[j]?=some R->Gg R id->D (i+j)=b (i+j))->a8 st.o id=a8 st'.o id->a8 (w7 D i recs st).o id=a8 (w7 b i recs st').o id
 | [],_,_,_,_,h=>h
 | R :: r,i,st,st',hD,h=>by
   simp only[w7];refine Ue (fun j c d a=>by have:=hD (j+1) c (by grind) a; rwa [show i+(j+1)=i+1+j by omega] at this) ?_;by_cases a:Gg R id
   ·have:=hD 0 R rfl a;simp only[Nat.add_zero] at this
    grind[l0p]
   grind[Uc]
theorem l0s{D:Nat->Bool}{t:Nat}{R:u0}:∀{recs:List u0} {i j:Nat} {st st':St},recs[j]?=some R->DE R t->R.av≠none->D (i+j)=true->(∀k R',j<k->recs[k]?=some R'->DE R' t->D (i+k)=false)->a8 (w7 D i recs st).e t=a8 (B9 st' R).e t
 | R0 :: r,i,0,st,st',hj,hw,hav,hD,hl=>by
   simp only[List.getElem?_cons_zero,oi] at hj; subst hj;simp only[Nat.add_zero] at hD;simp only[w7,hD,if_true];have f:a8 (w7 D (i+1) r (B9 st R0)).e t=a8 (B9 st R0).e t:=by
    have:∀{recs:List u0} {i:Nat} {st:St},(∀k R',recs[k]?=some R'->DE R' t->D (i+k)=false)->a8 (w7 D i recs st).e t=a8 st.e t:=by
     intro recs
     induction recs with
     | nil=>intro i st _; rfl
     | cons c n g =>
       intro i st h;simp only[w7];rw[g (fun k R' d b=>by have:=h (k+1) R' (by grind) b; rwa [show i+(k+1)=i+1+k by omega] at this)];split
       ·rename_i l;refine Ub st c t (fun b=>?_);have:=h 0 c rfl b
        grind
       ·rfl
    exact this (fun k R' d b=>by have:=hl (k+1) R' (by omega) (by grind) b; rwa [show i+(k+1)=i+1+k by omega] at this)
   rw[f];unfold DE at hw;simp only[B9,CH,hw];cases h:R0.av with
   | none=>grind
   | some a=>simp only[lK,if_true]
 | R0 :: r,i,j+1,st,st',hj,hw,hav,hD,hl=>by
   simp only[w7];exact l0s (j:=j) (by grind) hw hav (by grind) (fun k R' m d b=>by have:=hl (k+1) R' (by omega) (by grind) b; rwa [show i+(k+1)=i+1+k by omega] at this)
theorem n0n{b:Type}{l m a:List (Nat×b)}{i:Nat}(h:∃x∈l,x.1=i):a8 (l++m) i=a8 (l++a) i:=by
 induction l with
 | nil=>grind
 | cons x r c =>
   obtain⟨d,v⟩:=x;rw[List.cons_append,List.cons_append,lK,lK]
   grind
theorem l0r{D:Nat->Bool}{id:Nat}{R:u0}:∀{recs:List u0} {i j:Nat} {st st':St},recs[j]?=some R->Gg R id->D (i+j)=true->(∀k R',j<k->recs[k]?=some R'->Gg R' id->D (i+k)=false)->a8 (w7 D i recs st).o id=a8 (B9 st' R).o id
 | R0 :: r,i,0,st,st',hj,hw,hD,hl=>by
   simp only[List.getElem?_cons_zero,oi] at hj; subst hj;simp only[Nat.add_zero] at hD;simp only[w7,hD,if_true];have d:a8 (w7 D (i+1) r (B9 st R0)).o id=a8 (B9 st R0).o id:=by
    have:∀{recs:List u0} {i:Nat} {st:St},(∀k R',recs[k]?=some R'->Gg R' id->D (i+k)=false)->a8 (w7 D i recs st).o id=a8 st.o id:=by
     intro recs
     induction recs with
     | nil=>intro i st _; rfl
     | cons b l e =>
       intro i st h;simp only[w7];rw[e (fun k R' c a=>by have:=h (k+1) R' (by grind) a; rwa [show i+(k+1)=i+1+k by omega] at this)];split
       ·rename_i f;refine Uc st b id (fun a=>?_);have:=h 0 b rfl a
        grind
       ·rfl
    exact this (fun k R' c a=>by have:=hl (k+1) R' (by omega) (by grind) a; rwa [show i+(k+1)=i+1+k by omega] at this)
   rw[d];exact n0n hw
 | R0 :: r,i,j+1,st,st',hj,hw,hD,hl=>by
   simp only[w7];exact l0r (j:=j) (by grind) hw (by grind) (fun k R' g c a=>by have:=hl (k+1) R' (by omega) (by grind) a; rwa [show i+(k+1)=i+1+k by omega] at this)
theorem s0s{D:Nat->Bool}:∀{recs:List u0} {i:Nat} {st:St},(∀j,j<recs.length->D (i+j)=true)->w7 D i recs st=recs.foldl B9 st
 | [],_,_,_=>rfl
 | R :: r,i,st,h=>by
   have a:=h 0 (by simp);simp only[Nat.add_zero] at a;simp only[w7,a,if_true,List.foldl_cons];exact s0s (fun j b=>by have:=h (j+1) (by grind); rwa [show i+(j+1)=i+1+j by omega] at this)
theorem z0y{Γ:m3}{T:List Ct}{all:List Oper}:∀{recs:List u0} {i:Nat} {st:St} {j:Nat} {R:u0},Ib Γ T all st recs->recs[j]?=some R ->
  ∃sj,sj=w7 (fun k=>decide (k<i+j)) i recs st/\Bc all sj.e R.o=some R.p/\(∃q,T3 Γ T sj R.p R.o=some (q,R.av,R.obs,R.fp)/\(DC sj.e R.p->q))/\(R.p=[]∨R.obs=[])
 | [],_,_,j,_,_,h=>by grind
 | R0 :: r,i,st,0,R,⟨h1,h2,h3,h4⟩,h=>by
   simp only[List.getElem?_cons_zero,oi] at h; subst h;have:∀{recs:List u0} {i j:Nat} {st:St},i<=j->w7 (fun k=>decide (k<i)) j recs st=st:=by
    intro recs
    induction recs with
    | nil=>intro i j st _; rfl
    | cons R r b =>
      intro i j st a;simp only[w7];rw[if_neg (by grind)];exact b (by omega)
   simp_all
 | R0 :: r,i,st,j+1,R,⟨h1,h2,h3,h4⟩,h=>by
   obtain⟨sj,e,d,f,c⟩:=z0y (i:=i+1) (j:=j) h4 (by simpa using h)
   grind[w7]
def L3(o:Oper):List Nat:=o.after.toList.filterMap fun e=>bif Region.binds .any e then some e.on else none
def P8:Nat->List Oper->Bool
 | _,[]=>true
 | i,o :: r=>(L3 o).all (fun k=>Nat.blt k i)&&P8 (i+1) r
def M6:List (List Nat)->List Oper->List (List Nat)
 | acc,[]=>acc
 | acc,o :: r=>M6 (acc++[L3 o++(L3 o).flatMap fun k=>(B8 acc k).getD []]) r
def O1(x:Nat):List Nat->Bool
 | []=>false
 | y :: r=>Nat.beq x y||O1 x r
theorem BP{x:Nat}:∀{l:List Nat},O1 x l=true↔x∈l
 | []=>by simp[O1]
 | y :: r=>by
   simp only[O1,Bool.or_eq_true,List.mem_cons,BP (l:=r)]
   simp_all
theorem Bd{o:Oper}{k:Nat}:k∈L3 o↔∃e∈o.after,Region.binds .any e=true/\e.on=k:=by
 unfold L3
 grind
def DG(D:Nat->Bool)(all:List Oper):Prop:=∀i o,all[i]?=some o->D i=true->∀k∈L3 o,D k=true
theorem Uf{all:List Oper}:∀{rest:List Oper} {acc:List (List Nat)},(∀j:Nat,rest[j]?=all[acc.length+j]?)->P8 acc.length rest=true ->
  (∀(i:Nat) (l:List Nat),acc[i]?=some l->(∀k∈l,k<i)/\∀D,DG D all->∀o,all[i]?=some o->(∀k∈L3 o,D k=true)->∀k∈l,D k=true) ->
  ∀(i:Nat) (l:List Nat),(M6 acc rest)[i]?=some l->(∀k∈l,k<i)/\∀D,DG D all->∀o,all[i]?=some o->(∀k∈L3 o,D k=true)->∀k∈l,D k=true
 | [],acc,_,_,h=>h
 | o :: r,acc,hall,hb,h=>by
   simp only[P8,ba,List.all_eq_true] at hb;simp only[M6];refine Uf (fun j=>?_) (by grind) (fun i l hi=>?_)
   ·have:=hall (j+1);simp only[List.getElem?_cons_succ] at this;rw[this]; congr 1; simp; omega
   ·rcases Nat.lt_or_ge i acc.length with s | hge
    ·rw[List.getElem?_append_left s] at hi;exact h i l hi
    ·have q:i=acc.length:=by
      rcases Nat.eq_or_lt_of_le hge with e | e
      ·exact e.symm
      ·rw[List.getElem?_eq_none (by simp; omega)] at hi; cases hi
     subst q;simp only[List.getElem?_concat_length,oi] at hi;subst hi;have w:∀k:Nat,k∈L3 o->k<acc.length:=fun k w=>by simp_all
     refine⟨fun k d=>?_,fun D x F a u k d=>?_⟩
     ·grind[U8,List.getElem?_eq_getElem]
     ·have y:=hall 0;simp only[List.getElem?_cons_zero,Nat.add_zero] at y;rw[<- y] at a;cases a;rcases List.mem_append.1 d with z | z
      ·grind
      ·obtain⟨m,v,t⟩:=List.mem_flatMap.1 z;rw[U8] at t;have f:=w m v;rw[List.getElem?_eq_getElem f] at t;have n:=u m v;obtain⟨g,c⟩:∃g,all[m]?=some g:=by
        grind
       exact(h m acc[m] (List.getElem?_eq_getElem f)).2 D x g c (fun E b=>x m g c n E b) k t
end Go.Proofs.Xv
end
section
set_option maxHeartbeats 0
namespace Go.Proofs.Xv
open Go Go.RowKit Go.Proofs.Sv
theorem Sat.congr{X:Cx}{G:Gh}(S:Sat X G){o':List (Nat×Ob)}(h:∀i,a8 o' i=a8 G.o i):Sat X { G with o:=o' }/\GLe G { G with o:=o' }:=by
 have c:GLe G { G with o:=o' }:=⟨rfl,fun k F _=>⟨F,rfl⟩,fun i T s hi=>⟨rfl,T,s,(h i).trans hi⟩,fun i T r j t f d hi=>⟨rfl,T,r,j,t,f,d,(h i).trans hi⟩,fun i T j t f e hi=>⟨T,j,t,f,e,(h i).trans hi,Nat.le_refl _,fun _=>rfl⟩⟩;have a:∀i o,a8 o' i=some o->a8 G.o i=some o:=fun i o hi=>(h i).symm.trans hi;refine⟨⟨S.base,S.os,S.tape,S.output,S.size,S.block,fun i o hi=>?_,fun i u o w b hi q=>S.inj i u o w b (a i o hi) (a u w q),fun i o b hi=>S.imm i o b (a i o hi),fun i o b hi=>S.own i o b (a i o hi),S.klt,S.kfrom,fun i b y P=>?_,fun i v h=>(S.pin i v h).mono c⟩,c⟩
 rotate_right
 ·obtain⟨Q,W,Y,V⟩:=S.sep i b y (by grind)
  grind
 have:=S.obs i o (a i o hi);cases o with
 | box T s=>obtain⟨b,z,n,l,m,H⟩:=this; exact⟨b,z,n,l,m,H.mono c⟩
 | arr T j t f e=>exact this
 | grd T r j t f d =>
   obtain⟨x,E,n,l,m⟩:=this;exact⟨x,E,n,l.up c (fun _=>Iff.rfl) (WE.refl (g:=none) _) (fun _ _ h=>by cases h),m⟩
theorem EnvR.congr{n:Nat}{G:Gh}{e e':List (Nat×Sl)}{a:Act}(h:EnvR n G e a)(b:∀t,a8 e' t=a8 e t):EnvR n G e' a :=
 ⟨h.defers,h.size,fun t s c=>h.val t s (by grind)⟩
theorem l0G{all:List Oper}{e e':List (Nat×Sl)}{o:Oper}{p:Pa}(h:Bc all e o=some p)(a:∀x∈p,a8 e x.1=a8 e' x.1):Bc all e' o=some p:=by
 unfold Bc at h ⊢;split at h
 ·exact h
 grind[oi,a8,List.mem_cons_self]
theorem h0W{e e':List (Nat×Sl)}:∀{p:Pa},(∀x∈p,a8 e x.1=a8 e' x.1)->DC e p->DC e' p
 | [],_,_=>trivial
 | (s,b) :: r,h,⟨h1,h2⟩=>by
   refine⟨?_,h0W (fun x a=>h x (by grind)) h2⟩
   simp_all
def z0t(R:u0):List Nat:=z0u R.o.op.operands.toList++R.p.map Prod.fst
def Ug(l m:List Nat):Bool:=l.all fun x=>!O1 x m
def Ie(bs:List (List Nat))(i:Nat)(A:u0)(k:Nat)(B:u0):Bool :=
 (match A.o.dst with
   | some d=>(!O1 d (z0t B)||(O1 i ((B8 bs k).getD [])||O1 k ((B8 bs i).getD [])))&&(!O1 d (B.p.map Prod.fst)||O1 i ((B8 bs k).getD []))
   | none=>true)&&(Ug (A.obs.map Prod.fst) (B.fp++B.obs.map Prod.fst)||(O1 i ((B8 bs k).getD [])||O1 k ((B8 bs i).getD [])))
def Ig(f:Nat->u0->Bool):Nat->List u0->Bool
 | _,[]=>true
 | i,R :: r=>f i R&&Ig f (i+1) r
theorem Pu{f:Nat->u0->Bool}:∀{recs:List u0} {i:Nat},Ig f i recs=true->∀j R,recs[j]?=some R->f (i+j) R=true
 | [],_,_,j,R,h=>by grind
 | R0 :: r,i,h,0,R,hj=>by
   grind[Ig]
 | R0 :: r,i,h,j+1,R,hj=>by
   simp only[Ig,ba] at h;have:=Pu h.2 j R (by grind)
   grind
def z0x(A:u0):Bool:=match A.o.dst with
 | some d=>!O1 d (A.p.map Prod.fst)
 | none=>true
def Ih(bs:List (List Nat))(recs:List u0):Bool:=Ig (fun i A=>z0x A&&Ig (fun k B=>Nat.beq i k||Ie bs i A k B) 0 recs) 0 recs
theorem Pv{a:List (List Nat)}{recs:List u0}(h:Ih a recs=true){i k:Nat}{A B:u0}(hi:recs[i]?=some A)(c:recs[k]?=some B)(d:i≠k):Ie a i A k B=true:=by
 have b:=Pu h i A hi;rw[ba] at b;have e:=Pu b.2 k B c
 simp_all
theorem Uh{n:Nat}:∀{l:List Oper} {i:Nat} {seen:List Nat},K5 n i seen l=true->(∀(j:Nat) (o:Oper) (d:Nat),l[j]?=some o->o.dst=some d->d<n/\d ∉ seen)/\(∀(j k:Nat) (o o':Oper) (d:Nat),l[j]?=some o->l[k]?=some o'->o.dst=some d->o'.dst=some d->j=k)
 | [],_,_,_=>⟨fun j o d h=>by grind,fun j k o o' d h=>by grind⟩
 | o0 :: r,i,seen,h=>by
   simp only[K5,ba] at h;obtain⟨⟨a,_⟩,e⟩:=h;obtain⟨f,m⟩:=Uh e;have c:∀d,d∈seen->d∈(match o0.dst with | some d=>d :: seen | none=>seen):=fun d b=>by
    grind
   have g:∀d,o0.dst=some d->d<n/\d ∉ seen:=fun d b=>by
    rw[b] at a;simp only[ba] at a;exact⟨by simp_all,Me a.2⟩
   grind
theorem m0j{b:Type}{p a:b->Bool}:∀{l:List b},(∀x,a x=true->p x=true)->(∃x∈l,p x=true/\a x=false)->(l.filter a).length < (l.filter p).length
 | [],_,⟨x,hx,_⟩=>by cases hx
 | y :: r,h,⟨x,hx,h1,h2⟩=>by
   have d:∀l:List b,(l.filter a).length<=(l.filter p).length:=fun l=>by
    induction l with
    | nil=>grind
    | cons z s c =>
      grind
   rcases List.mem_cons.1 hx with rfl | hx
   ·grind
   ·have c:=m0j h ⟨x,hx,h1,h2⟩;simp only[List.filter_cons];by_cases hz:a y=true
    ·rw[if_pos hz,if_pos (h y hz)]; simp only[List.length_cons]; omega
    ·rw[if_neg hz];split
     ·simp only[List.length_cons]; omega
     ·exact c
theorem o0y{D:Nat->Bool}{t:Nat}{s:Sl}:∀{recs:List u0} {i:Nat} {st:St},a8 (w7 D i recs st).e t=some s->a8 st.e t=some s∨∃k R,recs[k]?=some R/\D (i+k)=true/\s.p=R.p
 | [],_,_,h=>.inl h
 | R :: r,i,st,h=>by
   simp only[w7] at h;rcases o0y h with a | ⟨k,R',h1,h2,h3⟩
   ·by_cases b:D i=true
    ·rw[if_pos b] at a;simp only[B9,CH] at a;split at a
     ·rw[lK] at a;split at a
      ·cases a;exact .inr ⟨0,R,rfl,b,rfl⟩
      grind
     grind
    grind
   ·exact .inr ⟨k+1,R',by grind,by grind,h3⟩
theorem B0X{Γ:m3}{T:List Ct}{st:St}{p:Pa}{o:Oper}{d:Nat}{q:Prop}{av:Option AV}{obs:List (Nat×Ob)}{fp:List Nat}(h:T3 Γ T st p o=some (q,av,obs,fp))(a:o.dst=some d):av≠none:=by
 grind[T3]
section
variable {X:Cx} {Γ:m3} {T:List Ct}
theorem p0q(bB:s6 X.P Γ)(hT:∀c∈T,Ok X.P c){l:List Oper}{recs:List u0}{st:St}{Q:Exit->Act->World->Prop}(hl:recs.map (·.o)=l)(aJ:Ib Γ T l st recs)(aT:∀t s,a8 st.e t=some s->s.p=[])
  (aR:K5 X.n 0 [] l=true) (aA:P8 0 l=true) (E:Ih (M6 [] l) recs=true) (hK:∀G' a',Sat X G'->G'.o=(recs.foldl B9 st).o->EnvR X.n G' (recs.foldl B9 st).e a'->Q .normal a' G'.w) :
  ∀(fuel:Nat) (listed:Array Bool) (G:Gh) (a:Act),((List.range l.length).filter fun i=>!listed.getD i true).length<=fuel->listed.size=l.length->DG (fun k=>listed.getD k false) l->Sat X G->(∀id,a8 G.o id=a8 (w7 (fun k=>listed.getD k false) 0 recs st).o id) ->
   EnvR X.n G (w7 (fun k=>listed.getD k false) 0 recs st).e a->wpAny X.P .any l.toArray Q fuel listed a G.w:=by
 have bR:recs.length=l.length:=by rw[<- hl]; simp
 have aY:∀(j:Nat) (R:u0),recs[j]?=some R->l[j]?=some R.o:=fun j R h=>by rw[<- hl,List.getElem?_map,h]; rfl
 have aW:∀(j:Nat) (o:Oper),l[j]?=some o->∃R,recs[j]?=some R/\R.o=o:=fun j o h=>by
  rw[<- hl,List.getElem?_map] at h;cases hr:recs[j]? with
  | none=>rw[hr] at h; cases h
  | some R=>rw[hr] at h; cases h; exact⟨R,rfl,rfl⟩
 have bH:=Uf (all:=l) (rest:=l) (acc:=[]) (fun j=>by simp) aA (fun i m h=>by grind);have aF:=Uh aR;have aP:∀(i:Nat) (o:Oper) (k:Nat),l[i]?=some o->k∈L3 o->k<i:=by
  have:∀{m:List Oper} {i:Nat},P8 i m=true->∀j o k,m[j]?=some o->k∈L3 o->k<i+j:=by
   intro m
   induction m with
   | nil=>grind
   | cons o0 r ih =>
     intro i h j o k hj u;simp only[P8,ba,List.all_eq_true] at h;cases j with
     | zero=>simp only[List.getElem?_cons_zero,oi] at hj; simp_all
     | succ j=>grind
  intro i o k v h2;have:=this aA i o k v h2; omega
 -- all is done: the end
 have aC:∀(listed:Array Bool) (G:Gh) (a:Act),(∀i,i<l.length->listed.getD i false=true)->Sat X G->(∀id,a8 G.o id=a8 (w7 (fun k=>listed.getD k false) 0 recs st).o id)->EnvR X.n G (w7 (fun k=>listed.getD k false) 0 recs st).e a->Q .normal a G.w:=by
  intro listed G a aM S hO hE;rw[s0s (fun j hj=>by grind)] at hO hE;obtain⟨S',L'⟩:=S.congr (o':=(recs.foldl B9 st).o) (fun i=>(hO i).symm);exact hK ⟨G.ρ,G.γ,G.K,G.w,(recs.foldl B9 st).o,G.B,G.δ⟩ a S' rfl (hE.mono L')
 intro fuel
 induction fuel with
 | zero =>
   intro listed G a hf aX aB S hO hE;have aN:(List.range l.length).filter (fun i=>!listed.getD i true)=[]:=List.eq_nil_of_length_eq_zero (by omega);have aM:∀i,i<l.length->listed.getD i true=true:=fun i hi=>by
    cases h:listed.getD i true with
    | true=>rfl
    | false =>
      have:i∈(List.range l.length).filter (fun i=>!listed.getD i true):=List.mem_filter.2 ⟨List.mem_range.2 hi,by grind⟩;rw[aN] at this; cases this
   refine⟨?_,aC listed G a (fun i hi=>?_) S hO hE⟩
   ·grind[Region.ready,hi,mem_ready,Nat.lt_or_ge,List.getElem?_eq_none]
   grind
 | succ fuel ih =>
   intro listed G a hf aX aB S hO hE;refine⟨fun hr=>aC listed G a ?_ S hO hE,fun i hi=>?_⟩
   · -- nothing is ready: all is done
     intro i
     induction i using Nat.strongRecOn with
     | ind i bG =>
       intro hi;cases h:listed.getD i false with
       | true=>rfl
       | false =>
         have:i∈Region.ready .any l.toArray listed:=mem_ready.2 ⟨by
          grind,l[i],by grind,fun e he hb=>bG e.on (aP i l[i] e.on (List.getElem?_eq_getElem hi) (Bd.2 ⟨e,he,hb,rfl⟩)) (by have:=aP i l[i] e.on (List.getElem?_eq_getElem hi) (Bd.2 ⟨e,he,hb,rfl⟩); omega)⟩
         rw[hr] at this; cases this
   ·obtain⟨aQ,o,ho,bT⟩:=mem_ready.1 hi;rw[List.getElem?_toArray] at ho;obtain⟨R,hR,rfl⟩:=aW i o ho;have aK:i<l.length:=by
     rcases Nat.lt_or_ge i l.length with h | h
     ·exact h
     ·grind
    have bS:listed.getD i false=false:=by
     have hs:i<listed.size:=by omega
     rw[Array.getD_eq_getD_getElem?,Array.getElem?_eq_getElem hs] at aQ ⊢;exact aQ
    -- what stands ahead of i is done
    have bQ:∀k∈((B8 (M6 [] l) i).getD []),k<i/\listed.getD k false=true:=by
     intro k u;rw[U8] at u;cases hb:(M6 [] l)[i]? with
     | none=>grind
     | some m =>
       grind[Bd]
    have bL:∀k,listed.getD k false=true->k<l.length->∀m∈((B8 (M6 [] l) k).getD []),m<k/\listed.getD m false=true:=by
     intro k u g m hm;rw[U8] at hm;cases hb:(M6 [] l)[k]? with
     | none=>grind
     | some b =>
       rw[hb] at hm;obtain⟨g1,g2⟩:=bH k b hb;exact⟨g1 m hm,g2 _ aB l[k] (List.getElem?_eq_getElem g) (fun k' bJ=>aB k l[k] (List.getElem?_eq_getElem g) u k' bJ) m hm⟩
    have bK:∀k,k<l.length->∀m∈((B8 (M6 [] l) k).getD []),m<k:=by
     intro k g m hm;rw[U8] at hm;cases hb:(M6 [] l)[k]? with
     | none=>grind
     | some b=>grind
    -- ordered with i: done exactly if earlier in the text
    have aD:∀k,k<l.length->k≠i->(O1 k ((B8 (M6 [] l) i).getD [])||O1 i ((B8 (M6 [] l) k).getD []))=true->listed.getD k false=decide (k<i):=by
     intro k g bM h;rw[Bool.or_eq_true] at h;rcases h with h | h
     ·grind[BP]
     ·grind[BP]
    obtain⟨sj,aG,bE,⟨q,aO,hq⟩,hg⟩:=z0y (i:=0) aJ hR;rw[Nat.zero_add] at aG
    -- the slots and objects that i looks at are as in the text's order
    have aI:∀t,t∈z0t R->a8 sj.e t=a8 (w7 (fun k=>listed.getD k false) 0 recs st).e t:=by
     intro t ht;rw[aG];refine Ud (fun k R' u V=>?_) rfl;rw[Nat.zero_add];by_cases f:k=i
     ·grind
     ·have F:=Pv E u hR f;have g:k<l.length:=by
       rcases Nat.lt_or_ge k l.length with h | h
       ·exact h
       ·grind
      simp only[Ie,ba] at F;have V:R'.o.dst=some t:=V;rw[V] at F;simp only[ba] at F;have v:=F.1.1;rw[Bool.or_eq_true] at v;rcases v with v | v
      ·grind[BP]
      ·exact(aD k g f (by omega)).symm
    have aV:∀id,id∈R.fp++R.obs.map Prod.fst->a8 sj.o id=a8 G.o id:=by
     intro id aL;rw[hO,aG];refine Ue (fun k R' u V=>?_) rfl;rw[Nat.zero_add];by_cases f:k=i
     ·grind
     ·have F:=Pv E u hR f;have g:k<l.length:=by
       rcases Nat.lt_or_ge k l.length with h | h
       ·exact h
       ·grind
      simp only[Ie,ba] at F;have v:=F.2;rw[Bool.or_eq_true] at v;obtain⟨y,hy,bD⟩:=V;rcases v with v | v
      ·grind[Ug,List.all_eq_true,List.mem_map_of_mem,BP]
      ·exact(aD k g f (Bool.or_comm _ _ ▸ v)).symm
    have aH:∀x∈R.p,a8 sj.e x.1=a8 (w7 (fun k=>listed.getD k false) 0 recs st).e x.1:=fun x hx=>aI x.1 (List.mem_append.2 (.inr (List.mem_map_of_mem hx)));have aZ:=l0G bE aH;have aS:T3 Γ T ⟨(w7 (fun k=>listed.getD k false) 0 recs st).e,G.o⟩ R.p R.o=some (q,R.av,R.obs,R.fp) :=
     q0P (e:=sj.e) (o:=sj.o) (fun t ht=>aI t (List.mem_append.2 (.inl (t0h ht)))) aO (fun id aL=>aV id (List.mem_append.2 (.inl aL)))
    have hd:∀d,R.o.dst=some d->d<X.n/\(∀x∈R.p,x.1≠d)/\∀t s,a8 (w7 (fun k=>listed.getD k false) 0 recs st).e t=some s->∀x∈s.p,x.1≠d:=by
     intro d hd;refine⟨(aF.1 i R.o d ho hd).1,fun x hx e=>?_,fun t s ht x hx e=>?_⟩
     ·have v:=Pu E i R hR;rw[Nat.zero_add,ba] at v
      grind[z0x,BP]
     ·rcases o0y ht with h | ⟨k,Rk,u,W,hsp⟩
      ·grind
      ·rw[Nat.zero_add] at W;have f:i≠k:=fun e'=>by grind
       have g:k<l.length:=by
        rcases Nat.lt_or_ge k l.length with h | h
        ·exact h
        ·grind
       have F:=Pv E hR u f;simp only[Ie,ba,hd] at F;have h2:=F.1.2;rw[Bool.or_eq_true] at h2
       grind[BP]
    have H:∀k,(listed.setIfInBounds i true).getD k false=if k=i then true else listed.getD k false:=fun k=>by
     by_cases f:k=i
     ·subst f;have hs:k<listed.size:=by omega
      simp[hs]
     ·rw[if_neg f]; exact getD_set_ne false (Ne.symm f)
    have bN:=F0A (st:=⟨(w7 (fun k=>listed.getD k false) 0 recs st).e,G.o⟩) (K:=wpAny X.P .any l.toArray Q fuel (listed.setIfInBounds i true)) bB hT (ops:=l.toArray) (all:=l) rfl (Q:=Q) S rfl hE aZ aS (fun F=>hq (h0W (fun x hx=>(aH x hx).symm) F)) hg hd (fun a' G' S' _ bC bF=>by
     refine ih (listed.setIfInBounds i true) G' a' ?_ (by grind) ?_ S' ?_ ?_
     ·have:((List.range l.length).filter fun j=>!(listed.setIfInBounds i true).getD j true).length < ((List.range l.length).filter fun j=>!listed.getD j true).length:=by
       refine m0j (fun j hj=>?_) ⟨i,List.mem_range.2 aK,by grind,?_⟩
       ·by_cases bO:i=j
        ·grind
        grind
       ·grind
      omega
     ·intro k o u W m hm;simp only[H] at W ⊢;by_cases aU:m=i
      ·grind
      ·rw[if_neg aU];by_cases f:k=i
       ·subst f;rw[ho] at u;cases u;obtain⟨e,he,bU,rfl⟩:=Bd.1 hm
        grind
       ·rw[if_neg f] at W;exact aB k o u W m hm
     ·intro id;rw[bC];by_cases V:Gg R id
      ·rw[l0r (D:=fun k=>(listed.setIfInBounds i true).getD k false) (st':=⟨[],G.o⟩) hR V (by grind) (fun k Rk bI u Y=>?_)]
       ·rfl
       ·rw[Nat.zero_add];simp only[H,if_neg (show k≠i by omega)];have g:k<l.length:=by
         rcases Nat.lt_or_ge k l.length with h | h
         ·exact h
         ·grind
        have F:=Pv E u hR (show k≠i by omega);simp only[Ie,ba] at F;have v:=F.2;rw[Bool.or_eq_true] at v;obtain⟨y,hy,bD⟩:=Y;obtain⟨z,hz,bP⟩:=V;rcases v with v | v
        ·simp only[Ug,List.all_eq_true] at v
         grind[List.mem_map_of_mem,BP]
        grind
      ·have e1:=Uc ⟨[],G.o⟩ R id V;simp only[B9] at e1;rw[e1,hO];refine Ue (fun k Rk u Y=>?_) rfl;rw[Nat.zero_add];simp only[H];rw[if_neg (fun e=>by grind)]
     ·refine bF.congr (fun t=>?_);by_cases V:DE R t
      ·have bA:=B0X aO V;rw[l0s (D:=fun k=>(listed.setIfInBounds i true).getD k false) (st':=⟨(w7 (fun k=>listed.getD k false) 0 recs st).e,G.o⟩) hR V bA (by grind) (fun k Rk bI u Y=>by
        have:=aF.2 i k R.o Rk.o t ho (aY k Rk u) V Y;omega)]
       rfl
      ·have e1:=Ub ⟨(w7 (fun k=>listed.getD k false) 0 recs st).e,G.o⟩ R t V;simp only[B9] at e1;rw[e1];refine Ud (fun k Rk u Y=>?_) rfl;rw[Nat.zero_add];simp only[H];rw[if_neg (fun e=>by grind)])
    grind[wpOp,V0]
end
end Go.Proofs.Xv
end
section
namespace Go.Proofs.Xv
open Go Go.RowKit Go.Proofs.Sv
def VX(X:Cx)(st:St)(c:Code)(Q:Exit->Act->World->Prop):Prop:=∀G a,Sat X G->G.o=st.o->EnvR X.n G st.e a->c.wp X.P Q a G.w
def FX(X:Cx)(st:St)(x:Exit)(Q:Exit->Act->World->Prop):Prop:=∀G a,Sat X G->G.o=st.o->EnvR X.n G st.e a->Q x a G.w
def Mf(e:List (Nat×Sl)):List Nat->List (Nat×Sl)
 | []=>[]
 | t :: r=>match a8 e t with
   | some ⟨[],a⟩=>(t,⟨[],a⟩) :: Mf e r
   | _=>Mf e r
def Mg:List Nat->List (Nat×Ob)->List (Nat×Ob)
 | _,[]=>[]
 | seen,(i,b) :: r=>bif O1 i seen then Mg seen r else(i,b) :: Mg (i :: seen) r
def cut(keep:List Nat)(st:St):St:=⟨Mf st.e keep,Mg [] st.o⟩
theorem Ui{e:List (Nat×Sl)}:∀{keep:List Nat} {t:Nat} {s:Sl},a8 (Mf e keep) t=some s->a8 e t=some s/\s.p=[]
 | [],t,s,h=>by cases h
 | k :: r,t,s,h=>by
   unfold Mf at h;split at h
   ·rename_i a b;rw[lK] at h;split at h
    ·grind
    ·exact Ui h
   ·exact Ui h
theorem Uj:∀{o:List (Nat×Ob)} {seen:List Nat} {i:Nat},i ∉ seen->a8 (Mg seen o) i=a8 o i
 | [],_,_,_=>rfl
 | (j,b) :: r,seen,i,h=>by
   unfold Mg;rw[ce,lK];split
   ·rename_i c;have:¬j=i:=fun e=>h (by grind[BP]);rw[if_neg this];exact Uj h
   ·rw[lK];split
    ·rfl
    ·rename_i a;exact Uj (by grind)
theorem Pw{X:Cx}{st:St}{G:Gh}{a:Act}(b:List Nat)(S:Sat X G)(d:G.o=st.o)(c:EnvR X.n G st.e a):∃G',Sat X G'/\G'.o=(cut b st).o/\G'.w=G.w/\EnvR X.n G' (cut b st).e a:=by
 obtain⟨f,h⟩:=S.congr (o':=(cut b st).o) (fun i=>by rw[d]; exact Uj (by simp));refine⟨_,f,rfl,rfl,c.defers,c.size,fun t s g=>?_⟩;obtain⟨j,_⟩:=Ui g;have:=(c.mono h).val t s j;omega
def K6(e:List (Nat×Sl)):Bool:=e.all fun x=>BM x.2.p
theorem CI{e:List (Nat×Sl)}(h:K6 e=true):∀t s,a8 e t=some s->s.p=[]:=by
 intro t s a;have:∃x∈e,x.2=s:=by
  induction e with
  | nil=>cases a
  | cons y r b =>
    obtain⟨d,v⟩:=y;rw[lK] at a;split at a
    ·simp_all
    grind[K6]
 obtain⟨x,c,rfl⟩:=this
 grind[K6,List.all_eq_true,Md]
section
variable {X:Cx} {st:St} {Q:Exit->Act->World->Prop}
theorem vQ{x y:Code}(h:VX X st x (OG X.P y Q)):VX X st (.seq x y) Q:=fun G a S b c=>wp_seq (h G a S b c)
theorem vB{id:Nat}{c:Code}(h:VX X st c (OH id Q)):VX X st (.block id c) Q:=fun G a S b d=>wp_block (h G a S b d)
theorem vK(h:FX X st .normal Q):VX X st .skip Q:=fun G a S b c=>wp_skip (h G a S b c)
theorem a7(h:FX X st .ret Q):VX X st .ret Q:=fun G a S b c=>wp_ret (h G a S b c)
theorem vE{id:Nat}(h:FX X st (.exit id) Q):VX X st (.exit id) Q:=fun G a S b c=>wp_exit (h G a S b c)
theorem Uk{c:Operand}{x y:Code}{f b:Bool}(l:rd st [] c=some (.d f .bool b))(j:b=true->VX X st x Q)(k:b=false->VX X st y Q):VX X st (.cond c x y) Q:=fun G a S i g=>by
 have e:=CD (x8 g (p:=[]) (fun _ h=>by cases h) l);exact wp_cond_split e (fun h=>j h G a S i g) (fun h=>k h G a S i g)
theorem r0u{c:Operand}{x y:Code}{f:Bool}(a:rd st [] c=some (.d f .bool true))(b:VX X st x Q):VX X st (.cond c x y) Q:=Uk a (fun _=>b) (fun h=>by cases h)
theorem r0v{c:Operand}{x y:Code}{f:Bool}(a:rd st [] c=some (.d f .bool false))(b:VX X st y Q):VX X st (.cond c x y) Q:=Uk a (fun h=>by cases h) (fun _=>b)
theorem fQ{y:Code}(h:VX X st y Q):FX X st .normal (OG X.P y Q):=fun G a S b c=>h G a S b c
theorem fE{y:Code}{id:Nat}(h:FX X st (.exit id) Q):FX X st (.exit id) (OG X.P y Q):=fun G a S b c=>h G a S b c
theorem fR{y:Code}(h:FX X st .ret Q):FX X st .ret (OG X.P y Q):=fun G a S b c=>h G a S b c
theorem fK{id:Nat}(h:FX X st .normal Q):FX X st .normal (OH id Q):=fun G a S b c=>h G a S b c
theorem h9{id:Nat}(h:FX X st .ret Q):FX X st .ret (OH id Q):=fun G a S b c=>h G a S b c
theorem fX{id b:Nat}(c:Nat.beq b id=true)(h:FX X st .normal Q):FX X st (.exit b) (OH id Q):=fun G a S d e=>by
 have:b=id:=by simpa using c
 show(if b=id then Q .normal a G.w else Q (.exit b) a G.w);rw[if_pos this]; exact h G a S d e
theorem x0c{Γ:m3}{T:List Ct}(i:s6 X.P Γ)(q:∀c∈T,Ok X.P c){id:Nat}{l:List Oper}(b:List Nat)(o:K5 X.n 0 [] l=true)(u:K6 st.e=true)
  (h:Gf Γ T l l st [] fun st' _=>FX X (cut b st') .normal Q):VX X st (.region id l.toArray false) Q:=by
 intro G a S E F;obtain⟨d,V,z,w⟩:=Ic h;refine wp_region_lit ?_;have:=A0P i q (ops:=l.toArray) (all:=l) rfl (Q:=Q) d 0 [] st G a (fun j=>by grind) (by grind) (fun j oj dj Y=>by omega) (fun t s ht x W=>by grind[CI]) z S E F
  (fun G' v y m g=>by
    obtain⟨G2,H,f,r,k⟩:=Pw b y m g;have:=w G2 v H f k
    grind)
 grind
theorem A0c{Γ:m3}{T:List Ct}(t:s6 X.P Γ)(H:∀c∈T,Ok X.P c)[z:H7 X.P]{id:Nat}{l:List Oper}(d:List Nat)(b:(K5 X.n 0 [] l&&P8 0 l)=true)(m:K6 st.e=true)
  (h:Gf Γ T l l st [] fun st' rs=>Ih (M6 [] l) rs.reverse=true/\FX X (cut d st') .normal Q):VX X st (.region id l.toArray true) Q:=by
 intro G a S ho hE;rw[ba] at b;obtain⟨recs,E,e2,x,y⟩:=Ic h;rw[List.append_nil,List.reverse_reverse] at x;refine wp_region_any z.h ?_;have f:Ext G.w { G.w with drawn:=G.w.drawn+1 }:=(Below.refl _ _).drew;obtain⟨V,F⟩:=S.ext f;have:=p0q t H (Q:=Q) (l:=l) (recs:=recs) (st:=st) E e2 (CI m) b.1 b.2 x (fun G' Y S' v s=>by
   obtain⟨G2,S2,q,W,u⟩:=Pw d S' v s;have:=y G2 Y S2 q u
   grind) l.length (Array.replicate l.length false) { G with w:={ G.w with drawn:=G.w.drawn+1 } } a
  (by grind) (by simp) (fun i o _ hD=>by
    by_cases hi:i<l.length
    ·simp_all
    grind) V (fun id=>by
    have:∀{recs:List u0} {i:Nat} {st:St},(∀j,(Array.replicate l.length false).getD j false=false)->w7 (fun k=>(Array.replicate l.length false).getD k false) i recs st=st:=by
     intro recs
     induction recs with
     | nil=>intro i st _; rfl
     | cons R r ih=>grind[w7]
    rw[this (fun j=>by by_cases g:j<l.length <;> simp[g])]
    grind) (by
    have:∀{recs:List u0} {i:Nat} {st:St},(∀j,(Array.replicate l.length false).getD j false=false)->w7 (fun k=>(Array.replicate l.length false).getD k false) i recs st=st:=by
     intro recs
     induction recs with
     | nil=>intro i st _; rfl
     | cons R r ih=>grind[w7]
    rw[this (fun j=>by by_cases g:j<l.length <;> simp[g])];exact hE.mono F)
 omega
end
def DH:Option Ob->Nat->Prop
 | some (.arr _ _ _ _ v),ver=>v=ver
 | _,_=>False
theorem Um{b:Option Ob}{ver:Nat}(h:DH b ver):∃T fr t xs,b=some (.arr T fr t xs ver):=by
 unfold DH at h
 grind
def Mh:Option Ob->Prop
 | some (.box _ _)=>True
 | _=>False
theorem p0i{b:Option Ob}(h:Mh b):∃T cs,b=some (.box T cs):=by
 unfold Mh at h
 grind
def Px:Option Ob->Prop
 | none=>True
 | _=>False
theorem t0u{b:Option Ob}(h:Px b):b=none:=by
 grind[Px]
def Gi:Value->Prop
 | .slice none 0 0=>True
 | _=>False
theorem Un{u:Value}(h:Gi u):u=.slice none 0 0:=by
 grind[Gi]
def Uo:(t:Ty)->c7 t->Prop
 | .sl _,x=>x=[]
 | _,_=>False
theorem A0Z{K:Nat->Prop}{w:World}:∀{t:Ty} {x:c7 t},Uo t x->RT K w t [.slice none 0 0] x
 | .sl _,x,h=>by
   have h:x=[]:=h;subst h;exact⟨none,0,rfl,Nat.le_refl _,by omega,.inl rfl⟩
def Up:Option Ob->Prop
 | some (.grd ..)=>True
 | _=>False
theorem t0s{b:Option Ob}(h:Up b):∃T Te fr t xs hole,b=some (.grd T Te fr t xs hole):=by
 unfold Up at h
 grind
def Uq:Option Nat->Prop
 | none=>True
 | some _=>False
theorem l0N{h:Option Nat}(k:Uq h):h=none:=by
 cases h with
 | none=>rfl
 | some _=>exact k.elim
/- The first value may be taken for the second one. -/
mutual
def I5(o o':List (Nat×Ob)):AV->AV->Prop
 | .d fr t x,b=>match b with
   | .d fr' t' y=>(fr'=true->fr=true)/\P6 t t' x=some y
   | _=>False
 | .v x,b=>match b with
   | .v y=>x=y
   | .os id ver=>Gi x/\Px (a8 o id)/\DH (a8 o' id) ver
   | .d _ t y=>Gi x/\Uo t y
   | _=>False
 | .os id ver,b=>match b with
   | .os id' ver'=>id=id'/\DH (a8 o id) ver/\DH (a8 o' id) ver'
   | _=>False
 | .ptr id off,b=>match b with
   | .ptr id' off'=>id=id'/\off=off'/\Mh (a8 o' id)
   | _=>False
 | .agg xs,b=>match b with
   | .agg ys=>Be o o' xs ys
   | _=>False
 | .tup xs,b=>match b with
   | .tup ys=>Be o o' xs ys
   | _=>False
 | .fn f xs,b=>match b with
   | .fn g ys=>f=g/\Be o o' xs ys
   | _=>False
 | .og id,b=>match b with
   | .og id'=>id=id'/\Up (a8 o' id)
   | _=>False
 | _,_=>False
def Be(o o':List (Nat×Ob)):List AV->List AV->Prop
 | [],ys=>match ys with
   | []=>True
   | _=>False
 | a :: r,ys=>match ys with
   | b :: s=>I5 o o' a b/\Be o o' r s
   | _=>False
end
def Ur(o o':List (Nat×Ob)):Option Ob->Ob->Prop
 | some (.box T cs),.box T' cs'=>T=T'/\Be o o' cs cs'
 | some (.arr T fr t xs _),.arr T' fr' t' ys _=>T=T'/\(fr'=true->fr=true)/\P6 (.sl t) (.sl t') xs=some ys
 | none,.arr _ _ _ ys _=>ys=[]
 | some (.grd T Te fr t xs h),.grd T' Te' fr' t' ys h'=>T=T'/\Te=Te'/\Uq h/\Uq h'/\(fr'=true->fr=true)/\P6 (.sl (.sl t)) (.sl (.sl t')) xs=some ys
 | _,_=>False
def Ut(o o':List (Nat×Ob))(b:AV):Option Sl->Prop
 | some ⟨[],a⟩=>I5 o o' a b
 | _=>False
def Uu:Pa->Prop
 | []=>True
 | _=>False
theorem F0S{q:Pa}(h:Uu q):q=[]:=by
 grind[Uu]
def Py(o o':List (Nat×Ob))(e:List (Nat×Sl)):List (Nat×Sl)->Prop
 | []=>True
 | (t,s) :: r=>Uu s.p/\Ut o o' s.a (a8 e t)/\Py o o' e r
def Mi(o o':List (Nat×Ob)):List (Nat×Ob)->Prop
 | []=>True
 | (i,b) :: r=>Ur o o' (a8 o i) b/\Mi o o' r
def J0(o':List (Nat×Ob)):List (Nat×Ob)->Prop
 | []=>True
 | (i,.box _ _) :: r=>(bif Nat.ble 500000 i then Mh (a8 o' i) else True)/\J0 o' r
 | (_,.arr ..) :: r=>J0 o' r
 | (_,.grd ..) :: r=>J0 o' r
def Mj(st st':St):Prop:=Py st.o st'.o st.e st'.e/\Mi st.o st'.o st'.o/\J0 st'.o st.o
def S8(G:Gh)(o':List (Nat×Ob)):Gh :=
 ⟨fun i=>match a8 G.o i with | some _=>G.ρ i | none=>.slice none 0 0,fun i=>match a8 G.o i with | some _=>G.γ i | none=>none,G.K,G.w,o',G.B,G.δ⟩
theorem Gj{G:Gh}{o':List (Nat×Ob)}{i:Nat}{b:Ob}(h:a8 G.o i=some b):(S8 G o').ρ i=G.ρ i:=by grind[S8]
theorem Pz{G:Gh}{o':List (Nat×Ob)}{i:Nat}{b:Ob}(h:a8 G.o i=some b):(S8 G o').γ i=G.γ i:=by grind[S8]
theorem p0j{G:Gh}{o':List (Nat×Ob)}{i:Nat}(h:a8 G.o i=none):(S8 G o').ρ i=.slice none 0 0:=by grind[S8]
theorem p0k{G:Gh}{o':List (Nat×Ob)}{i:Nat}(h:a8 G.o i=none):(S8 G o').γ i=none:=by grind[S8]
mutual
theorem m0q{G:Gh}{o':List (Nat×Ob)}:∀{a b:AV} {u:Value},I5 G.o o' a b->AVR G a u->AVR (S8 G o') b u
 | .d m t x,b,u,h,c=>by
   unfold I5 at h;split at h
   ·obtain⟨i,g⟩:=h;obtain⟨e,rfl⟩:=CB g;subst e;exact RT.up c (fun k n=>⟨n.1,fun e=>n.2 (i e)⟩)
   grind
 | .v x,b,u,h,c=>by
   have c:u=x:=c;unfold I5 at h;split at h
   ·exact c.trans h
   ·obtain⟨j,i,g⟩:=h;have j:=Un j;have i:=t0u i;obtain⟨T,m,t,l,g⟩:=Um g;subst c;subst j;exact⟨rfl,T,m,t,l,_,g,Nat.le_refl _,fun _=>(p0j i).symm⟩
   ·obtain⟨j,i⟩:=h;have j:=Un j;subst c;subst j;exact A0Z i
   grind
 | .os id ver,b,u,h,⟨j,T,m,t,l,ver',k1,k2,k3⟩=>by
   unfold I5 at h;split at h
   ·obtain⟨rfl,i,g⟩:=h;obtain⟨E,w,z,r,i⟩:=Um i;obtain⟨y,s,F,q,g⟩:=Um g;rw[k1] at i;cases i;exact⟨j,_,_,_,_,_,g,Nat.le_refl _,fun _=>(k3 rfl).trans (Gj k1).symm⟩
   grind
 | .ptr id off,b,u,h,⟨⟨T,cs,k1⟩,b',k2,k3⟩=>by
   unfold I5 at h;split at h
   ·obtain⟨rfl,rfl,g⟩:=h;exact⟨p0i g,b',(Gj k1).trans k2,k3⟩
   grind
 | .agg l,b,u,h,⟨us,e,c⟩=>by
   unfold I5 at h;split at h
   ·exact⟨us,e,Mm h c⟩
   grind
 | .tup l,b,u,h,⟨us,e,c⟩=>by
   unfold I5 at h;split at h
   ·exact⟨us,e,Mm h c⟩
   grind
 | .fn f l,b,u,h,⟨us,e,c⟩=>by
   unfold I5 at h;split at h
   ·obtain⟨rfl,h⟩:=h;exact⟨us,e,Mm h c⟩
   grind
 | .pel _ _ _ _ _,b,u,h,c=>by grind[I5]
 | .gel _ _,b,u,h,c=>by grind[I5]
 | .og id,b,u,h,⟨j,⟨T,Te,m,t,l,hole,k1⟩,k2⟩=>by
   unfold I5 at h;split at h
   ·obtain⟨rfl,g⟩:=h;exact⟨j,t0s g,k2.trans (Gj k1).symm⟩
   grind
 | .ow _ _ _ _,b,u,h,c=>c.elim
 | .ob _ _,b,u,h,c=>c.elim
theorem Mm{G:Gh}{o':List (Nat×Ob)}:∀{as' bs:List AV} {us:List Value},Be G.o o' as' bs->AVRs G as' us->AVRs (S8 G o') bs us
 | [],bs,us,h,hu=>by
   unfold Be at h;split at h
   ·exact hu
   grind
 | a :: r,bs,us,h,⟨u,us',e,k1,k2⟩=>by
   unfold Be at h;split at h
   ·exact⟨u,us',e,m0q h.1 k1,Mm h.2 k2⟩
   grind
end
theorem Uv{o o':List (Nat×Ob)}:∀{l:List (Nat×Ob)} {i:Nat} {b:Ob},Mi o o' l->a8 l i=some b->Ur o o' (a8 o i) b
 | [],_,_,_,h=>by cases h
 | (j,c) :: r,i,b,h,hl=>by
   rw[lK] at hl;split at hl
   ·rename_i e; subst e; cases hl; exact h.1
   ·exact Uv h.2 hl
theorem t0P{o o':List (Nat×Ob)}{e:List (Nat×Sl)}:∀{l:List (Nat×Sl)} {t:Nat} {s:Sl},Py o o' e l->a8 l t=some s->s.p=[]/\Ut o o' s.a (a8 e t)
 | [],_,_,_,h=>by cases h
 | (j,c) :: r,t,s,h,hl=>by
   rw[lK] at hl;split at hl
   ·rename_i e; subst e; cases hl; exact⟨F0S h.1,h.2.1⟩
   ·exact t0P h.2.2 hl
theorem PA{o':List (Nat×Ob)}:∀{l:List (Nat×Ob)} {i:Nat} {T:TypeId} {cs:List AV},J0 o' l->a8 l (500000+i)=some (.box T cs)->Mh (a8 o' (500000+i))
 | [],_,_,_,_,h=>by cases h
 | (j,.arr ..) :: r,i,_,_,h,hl=>by
   rw[lK] at hl;split at hl
   ·cases hl
   ·exact PA (l:=r) h hl
 | (j,.grd ..) :: r,i,_,_,h,hl=>by
   rw[lK] at hl;split at hl
   ·cases hl
   ·exact PA (l:=r) h hl
 | (j,.box ..) :: r,i,_,_,h,hl=>by
   rw[lK] at hl;split at hl
   ·rename_i e; subst e;have:=h.1
    simp_all
   ·exact PA h.2 hl
theorem w0z{X:Cx}{G:Gh}{o':List (Nat×Ob)}(S:Sat X G)(h:Mi G.o o' o')(V:J0 o' G.o):Sat X (S8 G o'):=by
 have g:∀{i:Nat} {b:Nat},(S8 G o').γ i=some b->(∃c,a8 G.o i=some c)/\G.γ i=some b:=fun {i b} q=>by
  cases hl:a8 G.o i with
  | none=>grind[p0k]
  | some c=>grind[Pz]
 have H:∀i,C5 (a8 o' i)=true->C5 (a8 G.o i)=true:=fun i hg=>by
  obtain⟨T,E,n,t,m,d,e⟩:=LX hg;have a:=Uv h e;cases hl:a8 G.o i with
  | none=>rw[hl] at a; exact a.elim
  | some c =>
    rw[hl] at a;cases c with
    | box T u=>exact a.elim
    | arr T n t m y=>exact a.elim
    | grd T E n t m d=>rfl
 refine⟨S.base,S.os,S.tape,S.output,S.size,S.block,?_,?_,?_,?_,S.klt,S.kfrom,fun i b q hg=>?_,fun i v hv=>?_⟩
 rotate_right
 rotate_right
 ·obtain⟨s1,s2,s3,s4⟩:=S.sep i b q (H i hg);exact⟨s1,s2,fun j o ho hj=>by grind,fun j hj aA=>s4 j hj (H j aA)⟩
 ·obtain⟨⟨T,u,l⟩,b,f,w⟩:=S.pin i v hv;exact⟨p0i (PA V l),b,(Gj l).trans f,w⟩
 ·intro id o ho;have a:=Uv h ho;cases hl:a8 G.o id with
  | none =>
    rw[hl] at a;cases o with
    | box T u=>exact a.elim
    | grd T E n t m d=>exact a.elim
    | arr T n t m y =>
      have hx:m=[]:=a;subst hx;refine⟨[],?_,rfl,fun b q=>by grind⟩;rw[p0k hl,p0j hl];exact .inl ⟨rfl,rfl,rfl,none,rfl⟩
  | some c =>
    rw[hl] at a;have:=S.obs id c hl;cases c with
    | box T u =>
      cases o with
      | arr z n t m y=>exact a.elim
      | grd T E n t m d=>exact a.elim
      | box z F =>
        obtain⟨rfl,a⟩:=a;obtain⟨b,us,l,f,w,Q⟩:=this;exact⟨b,us,(Pz hl).trans l,(Gj hl).trans f,w,Mm a Q⟩
    | arr T n t m y =>
      cases o with
      | box z F=>exact a.elim
      | arr z P t' ys W =>
        obtain⟨rfl,l,f⟩:=a;obtain⟨e,rfl⟩:=CB f;cases e;obtain⟨u,k1,r,k3⟩:=this;refine⟨u,?_,r.mapR (fun c x hr=>RT.up hr (fun k s=>⟨s.1,fun e=>s.2 (l e)⟩)),fun b q=>k3 b (g q).2⟩;rw[Pz hl,Gj hl];exact k1
      | grd T E n t m d=>exact a.elim
    | grd T E n t m d =>
      cases o with
      | box z F=>exact a.elim
      | arr z P t' ys W=>exact a.elim
      | grd z Te' P t' ys aC =>
        obtain⟨rfl,rfl,Y,e2,l,f⟩:=a;have Y:=l0N Y;have e2:=l0N e2;subst Y; subst e2;obtain⟨e,rfl⟩:=CB f;cases e;obtain⟨vs,bs,k1,r,k3⟩:=this;refine⟨vs,bs,by rw[Pz hl,Gj hl]; exact k1,⟨r.len,r.blk,r.inj,fun k s hh=>?_,r.one⟩,fun b q=>k3 b (g q).2⟩;obtain⟨u,r1,r2,r3⟩:=r.row k s hh;exact⟨u,r1,r2.mapR (fun c x hr=>RT.up hr (fun k s=>⟨s.1,fun e=>s.2 (l e)⟩)),r3⟩
 ·intro i i' o1 o2 b l f w Q;obtain⟨⟨c,a⟩,w⟩:=g w;obtain⟨⟨c',aB⟩,Q⟩:=g Q;exact S.inj i i' c c' b a aB w Q
 ·intro i o1 b l f;obtain⟨⟨c,a⟩,f⟩:=g f;exact S.imm i c b a f
 ·intro i o1 b l f;obtain⟨⟨c,a⟩,f⟩:=g f;exact S.own i c b a f
theorem Uw{X:Cx}{G:Gh}{st st':St}{a:Act}(h:Mj st st')(S:Sat X G)(i:G.o=st.o)(b:EnvR X.n G st.e a):∃G',Sat X G'/\G'.o=st'.o/\G'.w=G.w/\EnvR X.n G' st'.e a:=by
 obtain⟨g,d,f⟩:=h;rw[<- i] at g d f;refine⟨S8 G st'.o,w0z S d f,rfl,rfl,b.defers,b.size,fun t s k=>?_⟩;obtain⟨m,c⟩:=t0P g k;rw[m];refine⟨fun _=>?_,fun j=>(j (fun _ h=>by cases h)).elim⟩;unfold Ut at c;split at c
 ·rename_i q l;exact m0q c ((b.val t _ l).1 (fun _ h=>by cases h))
 grind
section
variable {X:Cx} {st:St} {Q:Exit->Act->World->Prop}
def PB(X:Cx){σ:Type}(E:σ->St)(J:σ->Prop)(μ:σ->Nat)(s:σ)(Q:Exit->Act->World->Prop):Exit->Act->World->Prop
 | .normal,a,w=>∃s',μ s'<μ s/\J s'/\∃G,Sat X G/\G.o=(E s').o/\G.w=w/\EnvR X.n G (E s').e a
 | e,a,w=>Q e a w
theorem A0b{c:Code}(st':St)(h:Mj st st')(k:VX X st' c Q):VX X st c Q:=fun G a S e f=>by
 obtain⟨j,g,d,i,b⟩:=Uw h S e f;have:=k j a g d b
 grind
theorem A0a{b:Code}{g:Type}(E:g->St)(J:g->Prop)(f:g->Nat)(d:g)(v:J d)(q:Mj st (E d))
  (c:∀s,J s->VX X (E s) b (PB X E J f s Q)):VX X st (.loop b) Q:=by
 intro G a S k l;obtain⟨H,F,i,j,h⟩:=Uw q S k l;refine wp_loop_ghost (fun m a w=>∃s,f s=m/\J s/\∃G,Sat X G/\G.o=(E s).o/\G.w=w/\EnvR X.n G (E s).e a) (f d) ⟨d,rfl,v,H,F,i,j,h⟩ ?_;rintro m a w ⟨s,rfl,P,G,S,k,rfl,l⟩;refine wp_mono (c s P G a S k l) ?_;intro x T V r;cases x with
 | normal =>
   obtain⟨t,z,u,y⟩:=r;exact⟨f t,z,t,rfl,u,y⟩
 | _=>exact r
theorem B0x{b:Type}{E:b->St}{J:b->Prop}{g:b->Nat}{s:b}(c:b)(n:J c)(f:g c<g s)(l:Mj st (E c)):FX X st .normal (PB X E J g s Q):=fun G a S i j=>by
 obtain⟨m,k,h,e,d⟩:=Uw l S i j;exact⟨c,f,n,m,k,h,e,d⟩
theorem m0h{b:Type}{E:b->St}{J:b->Prop}{e:b->Nat}{s:b}{id:Nat}(h:FX X st (.exit id) Q):FX X st (.exit id) (PB X E J e s Q):=fun G a S c d=>h G a S c d
theorem n0w{b:Type}{E:b->St}{J:b->Prop}{e:b->Nat}{s:b}(h:FX X st .ret Q):FX X st .ret (PB X E J e s Q):=fun G a S c d=>h G a S c d
end
def I1:Nat->(ps:List m0)->s8 ps->List (Nat×Sl)
 | _,[],_=>[]
 | i,.dat t :: r,x=>(i,⟨[],.d false t x.1⟩) :: I1 (i+1) r x.2
 | i,.agg t :: r,x=>(i,⟨[],.agg (s5 false t x.1)⟩) :: I1 (i+1) r x.2
 | i,.fn f c :: r,x=>(i,⟨[],.fn f (s5 false c x.1)⟩) :: I1 (i+1) r x.2
 | i,.nof f :: r,x=>(i,⟨[],.fn f []⟩) :: I1 (i+1) r x.2
 | i,.nil :: r,x=>(i,⟨[],.v (.pointer none)⟩) :: I1 (i+1) r x.2
 | i,.io _ _ :: r,x=>(i,⟨[],.ptr (500000+i) 0⟩) :: I1 (i+1) r x.2
 | i,.os _ _ :: r,x=>(i,⟨[],.os (500000+i) 0⟩) :: I1 (i+1) r x.2
def F0:Nat->(ps:List m0)->s8 ps->List (Nat×Ob)
 | _,[],_=>[]
 | i,.io T t :: _,x=>[(500000+i,.box T (s5 false t x.1))]
 | i,.os E t :: _,x=>[(500000+i,.arr E true t x.1 0)]
 | i,.dat _ :: r,x=>F0 (i+1) r x.2
 | i,.agg _ :: r,x=>F0 (i+1) r x.2
 | i,.fn _ _ :: r,x=>F0 (i+1) r x.2
 | i,.nof _ :: r,x=>F0 (i+1) r x.2
 | i,.nil :: r,x=>F0 (i+1) r x.2
def m8:Nat->List m0->Option Nat->Option (Nat×Value)
 | _,[],_=>none
 | i,.io _ _ :: _,some b=>some (i,.pointer (some ⟨b,0,none⟩))
 | _,.os _ _ :: _,_=>none
 | i,_ :: r,go=>m8 (i+1) r go
def Bf:List m0->Bool
 | []=>true
 | .io _ _ :: _=>false
 | .os _ _ :: _=>false
 | .dat _ :: r=>Bf r
 | .agg _ :: r=>Bf r
 | .fn _ _ :: r=>Bf r
 | .nof _ :: r=>Bf r
 | .nil :: r=>Bf r
def X8:List m0->Bool
 | []=>true
 | .io _ _ :: r=>Bf r
 | .os _ _ :: r=>Bf r
 | .dat _ :: r=>X8 r
 | .agg _ :: r=>X8 r
 | .fn _ _ :: r=>X8 r
 | .nof _ :: r=>X8 r
 | .nil :: r=>X8 r
theorem Gk:∀{ps:List m0} {i:Nat} {x:s8 ps},Bf ps=true->F0 i ps x=[]
 | [],_,_,_=>rfl
 | .io _ _ :: _,_,_,h=>by cases h
 | .os _ _ :: _,_,_,h=>by cases h
 | .dat _ :: r,i,x,h=>Gk (ps:=r) (i:=i+1) h
 | .agg _ :: r,i,x,h=>Gk (ps:=r) (i:=i+1) h
 | .fn _ _ :: r,i,x,h=>Gk (ps:=r) (i:=i+1) h
 | .nof _ :: r,i,x,h=>Gk (ps:=r) (i:=i+1) h
 | .nil :: r,i,x,h=>Gk (ps:=r) (i:=i+1) h
theorem Ii{K:Nat->Prop}{w:World}{go:Option Nat}:∀{ps:List m0} {z:A3 ps},Bf ps=true->IOR K w go ps z
 | [],_,_=>trivial
 | .io _ _ :: _,_,h=>by cases h
 | .os _ _ :: _,_,h=>by cases h
 | .dat _ :: r,z,h=>Ii (ps:=r) h
 | .agg _ :: r,z,h=>Ii (ps:=r) h
 | .fn _ _ :: r,z,h=>Ii (ps:=r) h
 | .nof _ :: r,z,h=>Ii (ps:=r) h
 | .nil :: r,z,h=>Ii (ps:=r) h
theorem Ij:∀{ps:List m0},Bf ps=true->¬C7 ps=true
 | [],_=>fun e=>by cases e
 | .io _ _ :: _,h=>by cases h
 | .os _ _ :: _,h=>by cases h
 | .dat _ :: r,h=>Ij (ps:=r) h
 | .agg _ :: r,h=>Ij (ps:=r) h
 | .fn _ _ :: r,h=>Ij (ps:=r) h
 | .nof _ :: r,h=>Ij (ps:=r) h
 | .nil :: r,h=>Ij (ps:=r) h
theorem Ik{K:Nat->Prop}{w:World}{go:Option Nat}:∀{ps:List m0} {z:A3 ps},X8 ps=true->C7 ps=true->IOR K w go ps z
 | [],_,_,_=>trivial
 | .io _ _ :: r,_,h,g=>(Ij (ps:=r) h g).elim
 | .os _ _ :: r,_z,h,_=>Ii (ps:=r) h
 | .dat _ :: r,_z,h,g=>Ik (ps:=r) h g
 | .agg _ :: r,_z,h,g=>Ik (ps:=r) h g
 | .fn _ _ :: r,_z,h,g=>Ik (ps:=r) h g
 | .nof _ :: r,_z,h,g=>Ik (ps:=r) h g
 | .nil :: r,_z,h,g=>Ik (ps:=r) h g
theorem Gl:∀{ps:List m0},Bf ps=true->X8 ps=true
 | [],_=>rfl
 | .io _ _ :: _,h=>by cases h
 | .os _ _ :: _,h=>by cases h
 | .dat _ :: r,h=>Gl (ps:=r) h
 | .agg _ :: r,h=>Gl (ps:=r) h
 | .fn _ _ :: r,h=>Gl (ps:=r) h
 | .nof _ :: r,h=>Gl (ps:=r) h
 | .nil :: r,h=>Gl (ps:=r) h
def Mn(o:Option (Nat×Value)):Nat->Value->Prop:=fun i v=>o=some (i,v)
def Ao:List m0->List Value->Value
 | .io _ _ :: _,v :: _=>v
 | .os _ _ :: _,v :: _=>v
 | _ :: r,_ :: us=>Ao r us
 | _,_=>undef
def CJ(K:Nat->Prop)(w:World)(go:Option Nat)(r0:Value)(B:Nat)(o:List (Nat×Ob)):Gh:=⟨fun _=>r0,fun _=>go,K,w,o,B,fun _ _=>False⟩
@[reducible] def cx (P:Program) (n:Nat) (y:World×(Nat->Prop)×(Nat->Prop)×(Nat->Value->Prop)×Nat):Cx:=⟨P,n,y.1,y.2.1,y.2.2.1,y.2.2.2.1,y.2.2.2.2⟩
def K7(ps:List m0)(w:World):Nat:=bif C7 ps then 0 else w.heap.size
theorem m0x{ps:List m0}{w:World}(h:¬C7 ps=true):K7 ps w=w.heap.size:=by
 grind[K7]
theorem j0G{ps:List m0}{w:World}(h:C7 ps=true):K7 ps w=0:=by
 grind[K7]
theorem u0e(ps:List m0)(w:World):K7 ps w<=w.heap.size:=by
 by_cases h:C7 ps=true
 ·rw[j0G h]; exact Nat.zero_le _
 ·rw[m0x h]; exact Nat.le_refl _
theorem PC{K:Nat->Prop}{w:World}{go:Option Nat}{r0:Value}{B:Nat}{o:List (Nat×Ob)}{t:Ty}{us:List Value}{x:c7 t}(h:RT K w t us x):RT (rg (CJ K w go r0 B o) false) (CJ K w go r0 B o).w t us x :=
 RT.up h (fun _ a=>⟨a,fun e=>by cases e⟩)
theorem Gm{K:Nat->Prop}{w:World}:∀{ps:List m0} {i:Nat} {x:s8 ps} {vs:List Value} {go:Option Nat},ArgsR K w go ps x vs ->
  (F0 i ps x=[]/\go=none/\m8 i ps go=none/\¬C7 ps=true)∨(∃j b T t z cs,F0 i ps x=[(500000+j,.box T (s5 false t z))]/\go=some b/\m8 i ps go=some (j,.pointer (some ⟨b,0,none⟩))/\Ao ps vs=.pointer (some ⟨b,0,none⟩)/\Blk w b cs T/\RT K w t cs z/\¬K b) ∨
    ∃j E t,∃xs:List (c7 t),∃cs,F0 i ps x=[(500000+j,.arr E true t xs 0)]/\m8 i ps go=none/\(Ao ps vs).oneCell'=true/\Own w E (sz t) go (Ao ps vs) xs.length cs/\AllR (RT K w t) cs xs/\(∀b,go=some b->¬K b)/\C7 ps=true
 | [],i,x,vs,go,h=>.inl ⟨rfl,h.2,rfl,fun e=>by cases e⟩
 | .dat t :: r,i,x,vs,go,⟨v,us,e,_,h⟩=>by
   subst e;have:=Gm (i:=i+1) h;cases go <;> exact this
 | .agg t :: r,i,x,vs,go,⟨v,us,e,_,h⟩=>by
   subst e;have:=Gm (i:=i+1) h;cases go <;> exact this
 | .fn f t :: r,i,x,vs,go,⟨v,us,e,_,h⟩=>by
   subst e;have:=Gm (i:=i+1) h;cases go <;> exact this
 | .nof f :: r,i,x,vs,go,⟨us,e,h⟩=>by
   subst e;have:=Gm (i:=i+1) h;cases go <;> exact this
 | .nil :: r,i,x,vs,go,⟨us,e,h⟩=>by
   subst e;have:=Gm (i:=i+1) h;cases go <;> exact this
 | .io T t :: r,i,x,vs,go,⟨b,cs,us,e,hgo,h1,h2,h3,h⟩=>by
   subst hgo;subst e;exact .inr (.inl ⟨i,b,T,t,x.1,cs,rfl,rfl,rfl,rfl,h2,h3,h1⟩)
 | .os E t :: r,i,x,vs,go,⟨v,cs,us,e,h1,h2,h3,h4,h⟩=>by
   subst e;exact .inr (.inr ⟨i,E,t,x.1,cs,rfl,(by cases go <;> rfl),h2,h3,h4,h1,rfl⟩)
theorem DI{K:Nat->Prop}{w:World}{o:List (Nat×Ob)}{g0:Option Nat}{r0:Value}{B:Nat}:∀{ps:List m0} {i:Nat} {x:s8 ps} {vs:List Value} {go:Option Nat},X8 ps=true->ArgsR K w go ps x vs->(F0 i ps x≠[]->Ao ps vs=r0)->(∀z∈F0 i ps x,a8 o z.1=some z.2) ->
  ∀t s,a8 (I1 i ps x) t=some s->i<=t/\s.p=[]/\∃u,vs[t-i]?=some u/\AVR (CJ K w g0 r0 B o) s.a u
 | [],i,x,vs,go,_,h,_,_,t,s,ht=>by cases ht
 | .dat ty :: r,i,x,vs,go,hn,⟨v,us,e,h1,h⟩,hg,hz,t,s,ht=>by
   subst e;unfold I1 at ht;rw[lK] at ht;split at ht
   ·rename_i e; subst e; cases ht; exact⟨Nat.le_refl _,rfl,v,by simp,PC h1⟩
   ·obtain⟨m,d,u,l,c⟩:=DI (ps:=r) (i:=i+1) hn h hg hz t s ht;exact⟨by omega,d,u,by grind,c⟩
 | .agg ty :: r,i,x,vs,go,hn,⟨v,us,e,h1,h⟩,hg,hz,t,s,ht=>by
   subst e;unfold I1 at ht;rw[lK] at ht;split at ht
   ·rename_i e; subst e; cases ht; exact⟨Nat.le_refl _,rfl,_,by simp,v,rfl,X3 (PC h1)⟩
   ·obtain⟨m,d,u,l,c⟩:=DI (ps:=r) (i:=i+1) hn h hg hz t s ht;exact⟨by omega,d,u,by grind,c⟩
 | .fn f ty :: r,i,x,vs,go,hn,⟨v,us,e,h1,h⟩,hg,hz,t,s,ht=>by
   subst e;unfold I1 at ht;rw[lK] at ht;split at ht
   ·rename_i e; subst e; cases ht; exact⟨Nat.le_refl _,rfl,_,by simp,v,rfl,X3 (PC h1)⟩
   ·obtain⟨m,d,u,l,c⟩:=DI (ps:=r) (i:=i+1) hn h hg hz t s ht;exact⟨by omega,d,u,by grind,c⟩
 | .nof f :: r,i,x,vs,go,hn,⟨us,e,h⟩,hg,hz,t,s,ht=>by
   subst e;unfold I1 at ht;rw[lK] at ht;split at ht
   ·rename_i e; subst e; cases ht; exact⟨Nat.le_refl _,rfl,_,by simp,[],rfl,rfl⟩
   ·obtain⟨m,d,u,l,c⟩:=DI (ps:=r) (i:=i+1) hn h hg hz t s ht;exact⟨by omega,d,u,by grind,c⟩
 | .nil :: r,i,x,vs,go,hn,⟨us,e,h⟩,hg,hz,t,s,ht=>by
   subst e;unfold I1 at ht;rw[lK] at ht;split at ht
   ·rename_i e; subst e; cases ht; exact⟨Nat.le_refl _,rfl,_,by simp,rfl⟩
   ·obtain⟨m,d,u,l,c⟩:=DI (ps:=r) (i:=i+1) hn h hg hz t s ht;exact⟨by omega,d,u,by grind,c⟩
 | .io T ty :: r,i,x,vs,go,hn,⟨b,cs,us,e,hgo,h1,h2,h3,h⟩,hg,hz,t,s,ht=>by
   subst e;have k:Value.pointer (some ⟨b,0,none⟩)=r0:=hg (fun e=>by cases e);unfold I1 at ht;rw[lK] at ht;split at ht
   ·rename_i e; subst e; cases ht;exact⟨Nat.le_refl _,rfl,_,by simp,⟨_,_,hz _ (List.mem_singleton.2 rfl)⟩,b,k.symm,rfl⟩
   ·have g:F0 (i+1) r x.2=[]:=Gk hn;obtain⟨m,d,u,l,c⟩:=DI (ps:=r) (i:=i+1) (Gl hn) h (fun e=>(e g).elim) (fun z j=>by rw[g] at j; cases j) t s ht;exact⟨by omega,d,u,by grind,c⟩
 | .os E ty :: r,i,x,vs,go,hn,⟨v,cs,us,e,h1,h2,h3,h4,h⟩,hg,hz,t,s,ht=>by
   subst e;have k:v=r0:=hg (fun e=>by cases e);unfold I1 at ht;rw[lK] at ht;split at ht
   ·rename_i e; subst e; cases ht;exact⟨Nat.le_refl _,rfl,_,by simp,h2,_,_,_,_,_,hz _ (List.mem_singleton.2 rfl),Nat.le_refl _,fun _=>k⟩
   ·have g:F0 (i+1) r x.2=[]:=Gk hn;obtain⟨m,d,u,l,c⟩:=DI (ps:=r) (i:=i+1) (Gl hn) h (fun e=>(e g).elim) (fun z j=>by rw[g] at j; cases j) t s ht;exact⟨by omega,d,u,by grind,c⟩
theorem ArgsR.len{K:Nat->Prop}{w:World}:∀{ps:List m0} {x:s8 ps} {vs:List Value} {go:Option Nat},ArgsR K w go ps x vs->vs.length=ps.length
 | [],x,vs,go,h=>by rw[h.1]; rfl
 | .dat t :: r,x,vs,go,⟨v,us,e,_,h⟩=>by rw[e,List.length_cons,h.len]; rfl
 | .agg t :: r,x,vs,go,⟨v,us,e,_,h⟩=>by rw[e,List.length_cons,h.len]; rfl
 | .fn f t :: r,x,vs,go,⟨v,us,e,_,h⟩=>by rw[e,List.length_cons,h.len]; rfl
 | .nof f :: r,x,vs,go,⟨us,e,h⟩=>by rw[e,List.length_cons,h.len]; rfl
 | .nil :: r,x,vs,go,⟨us,e,h⟩=>by rw[e,List.length_cons,h.len]; rfl
 | .io T t :: r,x,vs,go,⟨b,cs,us,e,_,_,_,_,h⟩=>by rw[e,List.length_cons,h.len]; rfl
 | .os E t :: r,x,vs,go,⟨v,cs,us,e,_,_,_,_,h⟩=>by rw[e,List.length_cons,h.len]; rfl
theorem s0r{P:Program}{n:Nat}{K:Nat->Prop}{w:World}{ps:List m0}{x:s8 ps}{vs:List Value}{go:Option Nat}(l:∀k,K k->k<w.heap.size)(h:ArgsR K w go ps x vs) :
  Sat (cx P n ⟨w,fun k=>go=some k,K,Mn (m8 0 ps go),K7 ps w⟩) (CJ K w go (Ao ps vs) (K7 ps w) (F0 0 ps x)):=by
 have l:∀k,K k->UFg w w.heap.size k:=fun k d=>⟨l k d,fun h=>absurd (l k d) (Nat.not_lt.2 h)⟩;have q:∀i,(CJ K w go (Ao ps vs) (K7 ps w) (F0 0 ps x)).γ i=go:=fun _=>rfl;have g:=u0e ps w;rcases Gm (i:=0) h with ⟨m,F,s,_⟩ | ⟨j,b,T,t,z,cs,m,F,s,hr,h1,h2,h3⟩ | ⟨j,E,t,xs,cs,m,s,h1,h2,h3,h4,hv⟩
 ·have a:∀i o,a8 (CJ K w go (Ao ps vs) (K7 ps w) (F0 0 ps x)).o i=some o->False:=fun i o e=>by
   have:a8 (F0 0 ps x) i=some o:=e;rw[m] at this; cases this
  refine⟨⟨rfl,g⟩,rfl,rfl,rfl,Nat.le_refl _,fun _ _ _=>rfl,fun i o e=>(a i o e).elim,fun i _ o _ _ e=>(a i o e).elim,fun i o _ e=>(a i o e).elim,fun i o _ e=>(a i o e).elim,l,fun k d=>.inl d,fun _ _ h=>h.elim,fun i v e=>?_⟩;have:m8 0 ps go=some (i,v):=e
  grind
 ·subst F;have a:∀i o,a8 (CJ K w (some b) (Ao ps vs) (K7 ps w) (F0 0 ps x)).o i=some o->i=500000+j/\o=.box T (s5 false t z):=fun i o e=>by
   have:a8 (F0 0 ps x) i=some o:=e;rw[m,lK] at this;split at this
   ·grind
   ·cases this
  refine⟨⟨rfl,g⟩,rfl,rfl,rfl,Nat.le_refl _,fun _ _ _=>rfl,fun i o e=>?_,fun i y o u _ e f _ _=>(a i o e).1.trans (a y u f).1.symm,fun i o r e f d=>?_,fun i o r e f=>.inr (by grind),l,fun k d=>.inl d,fun _ _ h=>h.elim,fun i v e=>?_⟩
  ·obtain⟨rfl,rfl⟩:=a i o e;exact⟨b,cs,rfl,hr,h1,X3 (PC h2)⟩
  ·rw[q] at f; cases f; exact h3 d
  ·have:m8 0 ps (some b)=some (i,v):=e;rw[s] at this;cases this;refine⟨⟨T,s5 false t z,?_⟩,b,hr,rfl⟩;show a8 (F0 0 ps x) _=_;rw[m,lK,if_pos rfl]
 ·have a:∀i o,a8 (CJ K w go (Ao ps vs) (K7 ps w) (F0 0 ps x)).o i=some o->i=500000+j/\o=.arr E true t xs 0:=fun i o e=>by
   have:a8 (F0 0 ps x) i=some o:=e;rw[m,lK] at this;split at this
   ·grind
   ·cases this
  have G:=j0G (w:=w) hv;refine⟨⟨rfl,g⟩,rfl,rfl,rfl,Nat.le_refl _,fun _ _ _=>rfl,fun i o e=>?_,fun i y o u _ e f _ _=>(a i o e).1.trans (a y u f).1.symm,fun i o r e f d=>?_,fun i o r e f=>.inr (by grind),l,fun k d=>.inl d,fun _ _ h=>h.elim,fun i v e=>?_⟩
  ·obtain⟨rfl,rfl⟩:=a i o e;exact⟨cs,h2,h3.mapR (fun c x H=>RT.up H (fun k d=>⟨d,fun _=>by show K7 ps w<=k; omega⟩)),fun b _=>by show K7 ps w<=b; omega⟩
  ·rw[q] at f; exact h4 r f d
  ·have:m8 0 ps go=some (i,v):=e;rw[s] at this;cases this
/- A value as the wanted result: on what condition, the rows handed over, the objects that become data. -/
mutual
def I6(o:List (Nat×Ob)):AV->AV->Option (Prop×List (Option Nat)×List Nat)
 | a,.ow T fr t xs=>match a with
   | .os id ver=>match a8 o id with
     | some (.arr T' fr' t' ys ver')=>bif Nat.beq ver ver'&&Nat.beq T' T then some ((fr=true->fr'=true)/\P6 (.sl t') (.sl t) ys=some xs,[some id],[]) else none
     | _=>none
   | .v x=>some (Gi x/\xs=[],[none],[])
   | _=>none
 | a,.d fr t x=>match B0 o 24 t [a] with
   | some (y,l,fl)=>some ((fr=true->fl=true)/\y=x,[],l)
   | none=>none
 | a,.ob T rs=>match a with
   | .ptr id 0=>match a8 o id with
     | some (.box T' cs)=>bif Nat.beq T' T then(match BQ o cs rs with
       | some (q,m,f)=>some (q,some id :: m,f)
       | none=>none) else none
     | _=>none
   | _=>none
 | a,.v x=>match a with
   | .v y=>some (y=x,[],[])
   | _=>none
 | a,.agg rs=>match a with
   | .agg as'=>BQ o as' rs
   | _=>none
 | a,.tup rs=>match a with
   | .tup as'=>BQ o as' rs
   | _=>none
 | _,_=>none
def BQ(o:List (Nat×Ob)):List AV->List AV->Option (Prop×List (Option Nat)×List Nat)
 | as',[]=>match as' with
   | []=>some (True,[],[])
   | _=>none
 | as',r :: rs=>match as' with
   | a :: t=>match I6 o a r with
     | some (q,m,f)=>match BQ o t rs with
       | some (q',m',f')=>some (q/\q',m++m',f++f')
       | none=>none
     | none=>none
   | []=>none
end
def P9(G:Gh)(mv:List (Option Nat)):List (Option Nat):=mv.map fun o=>o.bind G.γ
def Ux(G:Gh)(mv:List (Option Nat)):Prop:=∀id,some id∈mv->∃o,a8 G.o id=some o
mutual
theorem PD{X:Cx}{G:Gh}(S:Sat X G){K':Nat->Prop}(E:∀k,G.K k->K' k){Kf:Bool->Nat->Prop}(j:∀fr k,rk G K' fr k->Kf fr k):∀{a r:AV} {u:Value} {q:Prop} {mv:List (Option Nat)} {fz:List Nat},I6 G.o a r=some (q,mv,fz)->q->(∀id∈fz,(∃o,a8 G.o id=some o)->∀b,G.γ id=some b->K' b)->AVR G a u ->
  ResR Kf G.w r u (P9 G mv)/\Ux G mv
 | a,.ow T fr t xs,u,q,mv,fz,h,hq,hz,f=>by
   unfold I6 at h;split at h
   ·rename_i id aF;split at h
    ·rename_i T' aD t' ys aA F;rw[ce] at h;split at h
     ·rename_i V;simp only[ba] at V;have Q:=nb V.1;have W:=nb V.2;subst Q; subst W;simp only[oi,pj] at h;obtain⟨rfl,rfl,rfl⟩:=h;obtain⟨g,z⟩:=hq;obtain⟨e,rfl⟩:=CB z;cases e;obtain⟨h0,T1,aG,t1,aC,aB,k1,k2,k3⟩:=f;rw[F] at k1;cases k1;have f:=k3 rfl;subst f;obtain⟨cs,g1,H,g3⟩:=S.obs id _ F;exact⟨⟨G.γ id,cs,rfl,h0,g1,H.mapR (fun c x hr=>RT.up hr (fun k s=>j fr k ⟨E k s.1,fun e=>s.2 (g e)⟩))⟩,fun i hi=>by
       grind⟩
     grind
    grind
   ·rename_i x;simp only[oi,pj] at h;obtain⟨rfl,rfl,rfl⟩:=h;obtain⟨g,rfl⟩:=hq;have g:=Un g;have f:u=x:=f;subst f;subst g;exact⟨⟨none,[],rfl,rfl,.inl ⟨rfl,rfl,rfl,none,rfl⟩,rfl⟩,fun i hi=>by grind⟩
   grind
 | a,.d fr t x,u,q,mv,fz,h,hq,hz,f=>by
   unfold I6 at h;split at h
   ·rename_i y l fl Y;simp only[oi,pj] at h;obtain⟨rfl,rfl,rfl⟩:=h;obtain⟨g,rfl⟩:=hq;exact⟨⟨RT.up (BH S E 24 Y (fun id m=>hz id m (DA 24 Y id m)) ⟨u,[],rfl,f,rfl⟩) (fun k s=>j fr k ⟨s.1,fun e=>s.2 (g e)⟩),rfl⟩,fun i hi=>by cases hi⟩
   grind
 | a,.ob T rs,u,q,mv,fz,h,hq,hz,f=>by
   unfold I6 at h;split at h
   ·rename_i id;split at h
    ·rename_i T' cs F;rw[ce] at h;split at h
     ·rename_i P;have P:=nb P;subst P;split at h
      ·rename_i q1 m1 f1 g;simp only[oi,pj] at h;obtain⟨rfl,rfl,rfl⟩:=h;obtain⟨_,b,hb,rfl⟩:=f;obtain⟨b',n,g1,H,g3,g4⟩:=S.obs id _ F;rw[hb] at H;cases H;obtain⟨a1,a2⟩:=PE S E j g hq hz g4;refine⟨⟨b,n,P9 G m1,by grind[P9],rfl,g3,a1⟩,fun i hi=>?_⟩;rcases List.mem_cons.1 hi with e | hi
       ·grind
       ·exact a2 i hi
      grind
     grind
    grind
   grind
 | a,.v x,u,q,mv,fz,h,hq,hz,f=>by
   unfold I6 at h;split at h
   ·simp only[oi,pj] at h;obtain⟨rfl,rfl,rfl⟩:=h;exact⟨⟨(show u=_ from f).trans hq,rfl⟩,fun i hi=>by cases hi⟩
   grind
 | a,.agg rs,u,q,mv,fz,h,hq,hz,f=>by
   unfold I6 at h;split at h
   ·obtain⟨n,e,f⟩:=f;obtain⟨g,z⟩:=PE S E j h hq hz f;exact⟨⟨n,e,g⟩,z⟩
   grind
 | a,.tup rs,u,q,mv,fz,h,hq,hz,f=>by
   unfold I6 at h;split at h
   ·obtain⟨n,e,f⟩:=f;obtain⟨g,z⟩:=PE S E j h hq hz f;exact⟨⟨n,e,g⟩,z⟩
   grind
 | a,.ptr _ _,u,q,mv,fz,h,hq,hz,f=>by grind[I6]
 | a,.pel _ _ _ _ _,u,q,mv,fz,h,hq,hz,f=>by grind[I6]
 | a,.os _ _,u,q,mv,fz,h,hq,hz,f=>by grind[I6]
 | a,.fn _ _,u,q,mv,fz,h,hq,hz,f=>by grind[I6]
 | a,.gel _ _,u,q,mv,fz,h,hq,hz,f=>by grind[I6]
 | a,.og _,u,q,mv,fz,h,hq,hz,f=>by grind[I6]
theorem PE{X:Cx}{G:Gh}(S:Sat X G){K':Nat->Prop}(j:∀k,G.K k->K' k){Kf:Bool->Nat->Prop}(l:∀fr k,rk G K' fr k->Kf fr k):∀{as' rs:List AV} {us:List Value} {q:Prop} {mv:List (Option Nat)} {fz:List Nat},BQ G.o as' rs=some (q,mv,fz)->q->(∀id∈fz,(∃o,a8 G.o id=some o)->∀b,G.γ id=some b->K' b)->AVRs G as' us ->
  ResRs Kf G.w rs us (P9 G mv)/\Ux G mv
 | as',[],us,q,mv,fz,h,hq,hz,hu=>by
   unfold BQ at h;split at h
   ·simp only[oi,pj] at h;obtain⟨rfl,rfl,rfl⟩:=h;exact⟨⟨hu,rfl⟩,fun i hi=>by cases hi⟩
   grind
 | as',r :: rs,us,q,mv,fz,h,hq,hz,hu=>by
   unfold BQ at h;split at h
   ·rename_i a t;split at h
    ·rename_i H y Q E;split at h
     ·rename_i F z P n;simp only[oi,pj] at h;obtain⟨rfl,rfl,rfl⟩:=h;obtain⟨u,c,e,d,f⟩:=hu;obtain⟨s,x⟩:=PD S j l E hq.1 (fun id g=>hz id (by grind)) d;obtain⟨v,m⟩:=PE S j l n hq.2 (fun id g=>hz id (by grind)) f;refine⟨⟨u,c,P9 G y,P9 G z,e,by simp[P9],s,v⟩,fun i hi=>?_⟩;rcases List.mem_append.1 hi with h | h
      ·exact x i h
      ·exact m i h
     grind
    grind
   grind
end
def T4(o:List (Nat×Ob)):Nat->(ps:List m0)->A3 ps->Option (Prop×List Nat×Option Nat)
 | _,[],_=>some (True,[],none)
 | i,.io T t :: _,z=>match a8 o (500000+i) with
   | some (.box T' cs)=>bif Nat.beq T' T then(match B0 o 24 t cs with
     | some (y,l,_)=>some (y=z,l,some (500000+i))
     | none=>none) else none
   | _=>none
 | i,.dat _ :: r,z=>T4 o (i+1) r z
 | i,.agg _ :: r,z=>T4 o (i+1) r z
 | i,.fn _ _ :: r,z=>T4 o (i+1) r z
 | i,.nof _ :: r,z=>T4 o (i+1) r z
 | i,.nil :: r,z=>T4 o (i+1) r z
 | i,.os _ _ :: r,z=>T4 o (i+1) r z
def Mo(Γ:m3)(st:St):ResultVar->Option (Prop×AV)
 | .tmp t=>match a8 st.e t with
   | some ⟨[],a⟩=>some (True,a)
   | _=>none
 | .cell t ty=>match a8 st.e t with
   | some ⟨[],p⟩=>match P7 st.o p with
     | some (cs,_)=>match a8 Γ ty with
       | some ti=>match HU ti cs with
         | some a=>some (AX st.o p,a)
         | none=>none
       | none=>none
     | none=>none
   | _=>none
def Gn(Γ:m3)(st:St):List ResultVar->Option (Prop×List AV)
 | []=>some (True,[])
 | r :: rs=>match Mo Γ st r with
   | some (q,a)=>match Gn Γ st rs with
     | some (q',l)=>some (q/\q',a :: l)
     | none=>none
   | none=>none
def Gp(tmps:Array Value):ResultVar->Sem Value
 | .tmp t=>pure (tmps.getD t undef)
 | .cell a t=>do loadVar t (<- asAddr (tmps.getD a undef))
theorem q0k{X:Cx}{Γ:m3}(s:s6 X.P Γ){G:Gh}{st:St}{a:Act}(S:Sat X G)(Y:G.o=st.o)(Q:EnvR X.n G st.e a){r:ResultVar}{q:Prop}{b:AV}(h:Mo Γ st r=some (q,b))(H:q) :
  ∃v,(Gp a.tmps r).run X.P G.w=.ok v G.w/\AVR G b v:=by
 unfold Mo at h;split at h
 ·rename_i t;split at h
  ·rename_i a0 z;simp only[oi,pj] at h;obtain⟨rfl,rfl⟩:=h;exact⟨_,rfl,(Q.val t _ z).1 (fun _ h=>by cases h)⟩
  grind
 ·rename_i t k;split at h
  ·rename_i p z;split at h
   ·rename_i cs l E;split at h
    ·rename_i f y;split at h
     ·rename_i av d;simp only[oi,pj] at h;obtain⟨rfl,rfl⟩:=h;rw[<- Y] at E H;obtain⟨bk,o,V,hp,g,x⟩:=TF S E H ((Q.val t _ z).1 (fun _ h=>by cases h));obtain⟨hi,aB,_,_,m⟩:=s _ _ y;have m:=z0M m;have j:∀v,(loadVar k ⟨bk,o,none⟩).run X.P G.w=.ok v G.w->(Gp a.tmps (.cell t k)).run X.P G.w=.ok v G.w:=fun v hv=>by
       grind[undef,Array.getD_eq_getD_getElem?,Gp,asAddr]
      unfold HU at d;rw[ce] at d;split at d
      ·rename_i F;rw[ce] at d;split at d
       ·rename_i i;simp only[oi] at d; subst d;have i:=Nat.le_of_ble_eq_true i
        haveI:OL X.P k:=⟨m.1 F⟩
        haveI:Info X.P k f.size f.bytes f.zero:=⟨hi⟩
        have T:=x.len;exact⟨_,j _ (h0H (by grind) (TC g f.size)),V.take f.size,rfl,(x.take _).1⟩
       grind
      ·rename_i F;split at d
       ·rename_i c r;simp only[oi] at d; subst d
        haveI:OJ X.P k:=⟨m.2 (by grind)⟩
        obtain⟨u,aA,rfl,W,_⟩:=x;exact⟨u,j _ (h0G (by simpa using g 0 u rfl)),W⟩
       grind
     grind
    grind
   grind
  grind
theorem Uy{X:Cx}{Γ:m3}(c:s6 X.P Γ){G:Gh}{st:St}{a:Act}(S:Sat X G)(f:G.o=st.o)(g:EnvR X.n G st.e a):∀{rs:List ResultVar} {q:Prop} {bs:List AV},Gn Γ st rs=some (q,bs)->q ->
  ∃vs,(rs.mapM (Gp a.tmps)).run X.P G.w=.ok vs G.w/\AVRs G bs vs/\vs.length=rs.length
 | [],q,bs,h,hq=>by
   simp only[Gn,oi,pj] at h;obtain⟨rfl,rfl⟩:=h;exact⟨[],rfl,rfl,rfl⟩
 | r :: rs,q,bs,h,hq=>by
   unfold Gn at h;split at h
   ·rename_i x b k;split at h
    ·rename_i m l i;simp only[oi,pj] at h;obtain⟨rfl,rfl⟩:=h;obtain⟨v,s,j⟩:=q0k c S f g k hq.1;obtain⟨vs,t,d,u⟩:=Uy c S f g i hq.2;exact⟨v :: vs,by simp_all,⟨v,vs,rfl,j,d⟩,by grind⟩
    grind
   grind
def Uz:List AV->AV
 | [a]=>a
 | as'=>.tup as'
def J0D:List Value->Value
 | [v]=>v
 | vs=>.tuple vs.toArray
theorem UA{G:Gh}{c:List AV}{vs:List Value}(h:AVRs G c vs):AVR G (Uz c) (J0D vs):=by
 match c,vs,h with
 | [],vs,h=>have h:vs=[]:=h; subst h; exact⟨[],rfl,rfl⟩
 | [a],vs,⟨u,us,e,h1,d⟩=>have d:us=[]:=d; subst d; subst e; exact h1
 | a :: b :: r,vs,⟨u,us,e,h1,u2,us2,e2,d,h3⟩=>subst e2; subst e; exact⟨u :: u2 :: us2,rfl,u,_,rfl,h1,u2,us2,rfl,d,h3⟩
theorem UB{b:Func}{rs:List ResultVar}(c:b.results=rs.toArray){P:Program}{a:Array Value}{w:World}{vs:List Value}(h:(rs.mapM (Gp a)).run P w=.ok vs w):(results b a).run P w=.ok (J0D vs) w:=by
 have d:results b a=(do
   let vs <- Array.mapM (Gp a) rs.toArray
   pure (if h:vs.size=1 then vs[0] else .tuple vs)):=by
  unfold results;rw[c];congr 1
 have:(Array.mapM (Gp a) rs.toArray).run P w=.ok vs.toArray w:=by
  rw[List.mapM_toArray];simp[h,Result.andThen]
 rw[d];simp only[Sem.run_bind,this,Result.andThen]
 match vs with
 | []=>rfl
 | [v]=>rfl
 | v :: u :: r=>rfl
def onceN:List (Option Nat)->Bool
 | []=>true
 | none :: r=>onceN r
 | some i :: r=>notInS i r&&onceN r
where notInS (i:Nat):List (Option Nat)->Bool
 | []=>true
 | none :: r=>notInS i r
 | some j :: r=>!(Nat.beq i j)&&notInS i r
def Mp(mv:List (Option Nat)):List Nat->Bool
 | []=>true
 | i :: r=>onceN.notInS i mv&&Mp mv r
theorem Mq{i:Nat}:∀{l:List (Option Nat)},onceN.notInS i l=true->some i ∉ l
 | [],_=>by simp
 | none :: r,h=>by
   have:=Mq (l:=r) h;simpa using this
 | some j :: r,h=>by
   simp only[onceN.notInS,ba,Bool.not_eq_true'] at h;have:=Mq h.2;simp only[List.mem_cons,oi,not_or];exact⟨fun e=>by simp_all,this⟩
theorem p0I{mv:List (Option Nat)}:∀{l:List Nat},Mp mv l=true->∀i∈l,some i ∉ mv
 | j :: r,h,i,hi=>by
   simp only[Mp,ba] at h;rcases List.mem_cons.1 hi with rfl | hi
   ·grind[Mq]
   ·exact p0I h.2 i hi
theorem PF{X:Cx}{G:Gh}(S:Sat X G):∀{mv:List (Option Nat)},onceN mv=true->Ux G mv->BL (P9 G mv)
 | [],_,_=>trivial
 | none :: r,h,ha=>⟨(fun b e=>by cases e),PF S (mv:=r) h (fun i hi=>ha i (List.mem_cons_of_mem _ hi))⟩
 | some i :: r,h,ha=>by
   simp only[onceN,ba] at h;refine⟨fun b e f=>?_,PF S h.2 (fun i hi=>ha i (List.mem_cons_of_mem _ hi))⟩;have e:G.γ i=some b:=e;obtain⟨o,c,a⟩:=List.mem_map.1 f;cases o with
   | none=>grind
   | some j =>
     have a:G.γ j=some b:=a;obtain⟨_,g⟩:=ha i (by simp);obtain⟨_,d⟩:=ha j (List.mem_cons_of_mem _ c);have:=S.inj i j _ _ b g d e a
     grind[Mq]
def PG(f:Nat->Bool):Option Nat->Bool
 | none=>true
 | some i=>f i
/- Data that lead nowhere. -/
mutual
def CK:AV->Bool
 | .d _ t _=>x7 t
 | .ow _ _ t _=>x7 t
 | .ob _ xs=>Il xs
 | .agg xs=>Il xs
 | .tup xs=>Il xs
 | _=>true
def Il:List AV->Bool
 | []=>true
 | a :: r=>CK a&&Il r
end
mutual
theorem ResR.kf{K K':Bool->Nat->Prop}{w:World}:∀{a:AV} {u:Value} {gs:List (Option Nat)},CK a=true->ResR K w a u gs->ResR K' w a u gs
 | .v _,_,_,_,h=>h
 | .d fr t x,u,gs,hf,⟨h,e⟩=>⟨RT.free (by grind[CK]) h,e⟩
 | .ow T fr t xs,u,gs,hf,⟨g,cs,h1,h2,h3,h4⟩=>⟨g,cs,h1,h2,h3,h4.mapR (fun c x h=>RT.free (by grind[CK]) h)⟩
 | .agg xs,u,gs,hf,⟨us,e,h⟩=>⟨us,e,ResRs.kf (by grind[CK]) h⟩
 | .ob T xs,u,gs,hf,⟨b,us,gs',e1,e2,h1,h⟩=>⟨b,us,gs',e1,e2,h1,ResRs.kf (by grind[CK]) h⟩
 | .tup xs,u,gs,hf,⟨us,e,h⟩=>⟨us,e,ResRs.kf (by grind[CK]) h⟩
theorem ResRs.kf{K K':Bool->Nat->Prop}{w:World}:∀{as':List AV} {us:List Value} {gs:List (Option Nat)},Il as'=true->ResRs K w as' us gs->ResRs K' w as' us gs
 | [],_,_,_,h=>h
 | a :: r,us,gs,hf,⟨u,us',g1,g2,e1,e2,h1,h2⟩=>by
   simp only[Il,ba] at hf;exact⟨u,us',g1,g2,e1,e2,ResR.kf hf.1 h1,ResRs.kf hf.2 h2⟩
end
def Gq(Γ:m3)(st:St)(rs:List ResultVar)(r:AV)(ps:List m0)(z:A3 ps):Prop :=
 match Gn Γ st rs with
 | some (q0,as')=>match I6 st.o (Uz as') r with
   | some (q,mv,fz)=>match T4 st.o 0 ps z with
     | some (q',fz',pin)=>bif onceN mv&&Mp mv (fz++fz')&&PG (fun i=>Gb i (fz++fz')) pin&&(!C7 ps||CK r)&&PG (fun i=>onceN.notInS i mv) pin then q0/\q/\q' else False
     | none=>False
   | none=>False
 | none=>False
def G0l(c:Ct)(x:s8 c.ps)(w:World)(go:Option Nat)(K:Nat->Prop)(en:Ending)(w':World):Prop :=
 ∃v gs,en=.returned v/\WE go w w'/\BL gs/\(∀b,some b∈gs->w.heap.size<=b∨(C7 c.ps=true/\go=some b))/\ResR (fun fr=>Mc fr K w w' gs) w' (c.res x).r v gs /\
  IOR (fun k=>(K k∨w.heap.size<=k)/\UFg w' w.heap.size k/\some k ∉ gs/\go≠some k) w' go c.ps (c.res x).z
theorem Gr{X:Cx}{G:Gh}(S:Sat X G){K' Kf:Nat->Prop}(a:∀k,G.K k->K' k)(c:∀k,K' k->Kf k){go:Option Nat}:∀{ps:List m0} {i:Nat} {z:A3 ps} {q:Prop} {fz:List Nat} {pin:Option Nat},¬C7 ps=true->T4 G.o i ps z=some (q,fz,pin)->q->X.pin=Mn (m8 i ps go)->((∃b,go=some b)∨pin=none) ->
  (∀id∈fz,(∃o,a8 G.o id=some o)->∀b,G.γ id=some b->K' b)->IOR Kf G.w go ps z/\∀id,pin=some id->∃T cs,a8 G.o id=some (.box T cs)/\G.γ id=go
 | .os _ _ :: _,_,_,_,_,_,hv,_,_,_,_,_=>(hv rfl).elim
 | [],i,z,q,fz,pin,_,h,hq,_,_,_=>by
   simp only[T4,oi,pj] at h;obtain⟨_,_,rfl⟩:=h;exact⟨trivial,fun _ e=>by cases e⟩
 | .io T t :: r,i,z,q,fz,pin,_,h,hq,hp,hg,hz=>by
   unfold T4 at h;split at h
   ·rename_i W cs s;rw[ce] at h;split at h
    ·rename_i g;have g:=nb g;subst g;split at h
     ·rename_i y l V m;simp only[oi,pj] at h;obtain⟨rfl,rfl,rfl⟩:=h;obtain rfl:=hq;rcases hg with ⟨b,rfl⟩ | hg
      ·obtain⟨_,P,v,F⟩:=S.pin i (.pointer (some ⟨b,0,none⟩)) (by rw[hp]; rfl);cases F;obtain⟨H,n,Q,j,E,u⟩:=S.obs _ _ s;rw[v] at j;cases j;exact⟨⟨b,n,rfl,E,RT.up (BH S a 24 m (fun id d=>hz id d (DA 24 m id d)) u) (fun k x=>c k x.1)⟩,fun id e=>by grind⟩
      grind
     grind
    grind
   grind
 | .dat t :: r,i,z,q,fz,pin,hv,h,hq,hp,hg,hz=>Gr (ps:=r) (i:=i+1) S a c hv h hq (by cases go <;> exact hp) hg hz
 | .agg t :: r,i,z,q,fz,pin,hv,h,hq,hp,hg,hz=>Gr (ps:=r) (i:=i+1) S a c hv h hq (by cases go <;> exact hp) hg hz
 | .fn f t :: r,i,z,q,fz,pin,hv,h,hq,hp,hg,hz=>Gr (ps:=r) (i:=i+1) S a c hv h hq (by cases go <;> exact hp) hg hz
 | .nof f :: r,i,z,q,fz,pin,hv,h,hq,hp,hg,hz=>Gr (ps:=r) (i:=i+1) S a c hv h hq (by cases go <;> exact hp) hg hz
 | .nil :: r,i,z,q,fz,pin,hv,h,hq,hp,hg,hz=>Gr (ps:=r) (i:=i+1) S a c hv h hq (by cases go <;> exact hp) hg hz
theorem Im{K:Nat->Prop}{w:World}{o:List (Nat×Ob)}:∀{ps:List m0} {i:Nat} {x:s8 ps} {vs:List Value} {go:Option Nat} {z:A3 ps} {q:Prop} {fz:List Nat} {pin:Option Nat},¬C7 ps=true->ArgsR K w go ps x vs->T4 o i ps z=some (q,fz,pin)->(go=none/\pin=none)∨∃b j,go=some b/\pin=some j
 | .os _ _ :: _,_,_,_,_,_,_,_,_,hv,_,_=>(hv rfl).elim
 | [],i,x,vs,go,z,q,fz,pin,_,ha,h=>by
   simp only[T4,oi,pj] at h;exact .inl ⟨ha.2,h.2.2.symm⟩
 | .io T t :: r,i,x,vs,go,z,q,fz,pin,_,⟨b,_,_,_,hg,_⟩,h=>by
   grind[T4]
 | .dat t :: r,i,x,vs,go,z,q,fz,pin,hv,⟨_,_,_,_,ha⟩,h=>Im (ps:=r) (i:=i+1) hv ha h
 | .agg t :: r,i,x,vs,go,z,q,fz,pin,hv,⟨_,_,_,_,ha⟩,h=>Im (ps:=r) (i:=i+1) hv ha h
 | .fn f t :: r,i,x,vs,go,z,q,fz,pin,hv,⟨_,_,_,_,ha⟩,h=>Im (ps:=r) (i:=i+1) hv ha h
 | .nof f :: r,i,x,vs,go,z,q,fz,pin,hv,⟨_,_,ha⟩,h=>Im (ps:=r) (i:=i+1) hv ha h
 | .nil :: r,i,x,vs,go,z,q,fz,pin,hv,⟨_,_,ha⟩,h=>Im (ps:=r) (i:=i+1) hv ha h
theorem z0S{P:Program}{n:Nat}{Γ:m3}(aM:s6 P Γ){c:Ct}{x:s8 c.ps}{w:World}{K:Nat->Prop}{go:Option Nat}{vs:List Value}(aL:X8 c.ps=true)(ha:ArgsR K w go c.ps x vs)
  {fn:Func} {rs:List ResultVar} (hr:fn.results=rs.toArray) {st:St} (h:Gq Γ st rs (c.res x).r c.ps (c.res x).z) :
  ∀G a,Sat (cx P n ⟨w,fun k=>go=some k,K,Mn (m8 0 c.ps go),K7 c.ps w⟩) G->G.o=st.o->EnvR n G st.e a->a.defers=[]/\∃v,(results fn a.tmps).run P G.w=.ok v G.w/\G0l c x w go K (.returned v) G.w:=by
 intro G a S ho hE;unfold Gq at h;split at h
 ·rename_i q0 aP h0;split at h
  ·rename_i q E fz i;split at h
   ·rename_i q' aD aR V;rw[ce] at h;split at h
    ·rename_i u;simp only[ba] at u;obtain⟨⟨⟨⟨aC,aI⟩,aF⟩,aH⟩,aG⟩:=u;obtain⟨aK,hq,aB⟩:=h;obtain⟨us,e1,hu,_⟩:=Uy (X:=cx P n ⟨w,fun k=>go=some k,K,Mn (m8 0 c.ps go),K7 c.ps w⟩) aM S ho hE h0 aK;rw[<- ho] at i V;have aQ:=p0I aI;obtain⟨_,l⟩:=PD (K':=fun _=>True) (Kf:=fun _ _=>True) S (fun _ _=>trivial) (fun _ _ _=>trivial) i hq (fun _ _ _ _ _=>trivial) (UA hu);have y:∀k,some k∈P9 G E->∃id,some id∈E/\G.γ id=some k:=fun k d=>by
      obtain⟨o,i,V⟩:=List.mem_map.1 d;cases o with
      | none=>cases V
      | some id=>grind
     by_cases m:C7 c.ps=true
     ·obtain⟨hR,_⟩:=PD (K':=fun _=>True) (Kf:=fun _ _=>True) S (fun _ _=>trivial) (fun _ _ _=>trivial) i hq (fun _ _ _ _ _=>trivial) (UA hu);rw[m,Bool.not_true,Bool.false_or] at aH;refine⟨hE.defers,_,UB hr e1,_,P9 G E,rfl,⟨S.os,S.tape,S.output,S.size,fun k d hg=>S.block k d hg⟩,PF S aC l,fun b u=>?_,ResR.kf aH hR,Ik aL m⟩;obtain⟨j,H,W⟩:=y b u;obtain⟨_,F⟩:=l j H;rcases S.own j _ b F W with h | h
      ·grind
      grind
     have aN:=m0x (w:=w) m;have aA:=Im m ha V;obtain⟨_,s⟩:=Gr (K':=fun _=>True) (Kf:=fun _=>True) (go:=go) S (fun _ _=>trivial) (fun _ _=>trivial) m V aB rfl (by
      grind) (fun _ _ _ _ _=>trivial)
     have aU:∀id∈fz++aD,∀o,a8 G.o id=some o->∀k,G.γ id=some k->w.heap.size<=k/\UFg G.w w.heap.size k/\some k ∉ P9 G E/\go≠some k:=fun id Y o f k d=>by
      have aJ:go≠some k:=fun e=>by
       rcases aA with ⟨h,_⟩ | ⟨b,j,h,hj⟩
       ·grind
       ·obtain⟨T,cs,k1,k2⟩:=s j hj;have:=S.inj id j _ _ k f k1 d (k2.trans e);subst this;rw[hj] at aF;exact Me aF Y
      refine⟨?_,?_,?_,aJ⟩
      ·rcases S.own id o k f d with h | h
       ·exact h
       grind
      ·have:=S.obs id o f;cases o with
       | box T cs=>obtain⟨b',us,i,V,h3,h4⟩:=this; rw[d] at i; cases i; exact(Tw h3).g
       | arr T fr t xs aS=>obtain⟨cs,i,V,_⟩:=this; rw[d] at i; exact(Dx i).g
       | grd T Te fr t xs aO=>obtain⟨vs,bs,i,_⟩:=this; rw[d] at i; exact(Dx i).g
      ·intro hm;obtain⟨j,H,W⟩:=y k hm;obtain⟨_,F⟩:=l j H;have:=S.inj id j _ _ k f F d W
       grind
     have aT:∀k,G.K k->(K k∨w.heap.size<=k)/\UFg G.w w.heap.size k/\some k ∉ P9 G E/\go≠some k:=fun k d=>by
      refine⟨by
       have h:K k∨K7 c.ps w<=k:=S.kfrom k d
       rwa [aN] at h,S.klt k d,fun hm=>?_,fun e=>?_⟩
      ·obtain⟨j,H,W⟩:=y k hm;obtain⟨_,F⟩:=l j H;exact S.imm j _ k F W d
      ·rcases aA with ⟨h,_⟩ | ⟨b,j,h,hj⟩
       ·grind
       ·obtain⟨T,cs,k1,k2⟩:=s j hj;exact S.imm j _ k k1 (k2.trans e) d
     let K':Nat->Prop:=fun k=>G.K k∨∃id∈fz++aD,G.γ id=some k/\∃o,a8 G.o id=some o
     have Q:∀k,K' k->(K k∨w.heap.size<=k)/\UFg G.w w.heap.size k/\some k ∉ P9 G E/\go≠some k:=fun k d=>by
      grind
     obtain⟨hR,_⟩:=PD (K':=K') (Kf:=fun fr=>Mc fr K w G.w (P9 G E)) S (fun _ h=>.inl h) (fun fr k d=>by
      obtain⟨a1,a2,a3,_⟩:=Q k d.1;refine⟨?_,a2,a3⟩;cases fr with
      | false =>
        grind
      | true=>exact .inr (by
        have h:G.B<=k:=d.2 rfl;have e:G.B=K7 c.ps w:=S.base.1;omega)) i hq (fun id Y ⟨o,f⟩ b u=>.inr ⟨id,by grind,u,o,f⟩) (UA hu)
     obtain⟨hI,_⟩:=Gr (K':=K') (Kf:=fun k=>(K k∨w.heap.size<=k)/\UFg G.w w.heap.size k/\some k ∉ P9 G E/\go≠some k) (go:=go) S (fun _ h=>.inl h) Q m V aB rfl (by
      grind) (fun id Y ⟨o,f⟩ b u=>.inr ⟨id,by grind,u,o,f⟩)
     refine⟨hE.defers,_,UB hr e1,_,P9 G E,rfl,⟨S.os,S.tape,S.output,S.size,fun k d hg=>S.block k d hg⟩,PF S aC l,fun b u=>?_,hR,hI⟩;obtain⟨j,H,W⟩:=y b u;obtain⟨_,F⟩:=l j H;rcases S.own j _ b F W with h | h
     ·grind
     ·have h:go=some b:=h;rcases aA with ⟨h',_⟩ | ⟨b',i',h',hj⟩
      ·grind
      ·obtain⟨T,cs,k1,k2⟩:=s i' hj;have:=S.inj i' j _ _ b k1 F (k2.trans h) W;subst this;rw[hj] at aG;exact(Mq aG H).elim
    grind
   grind
  grind
 grind
def wfs:(ps:List m0)->s8 ps->Prop
 | [],_=>True
 | .dat t :: r,x=>wf t x.1/\wfs r x.2
 | .agg t :: r,x=>wf t x.1/\wfs r x.2
 | .fn _ c :: r,x=>wf c x.1/\wfs r x.2
 | .nof _ :: r,x=>wfs r x.2
 | .nil :: r,x=>wfs r x.2
 | .io _ t :: r,x=>wf t x.1/\wfs r x.2
 | .os _ t :: r,x=>wf (.sl t) x.1/\wfs r x.2
theorem z0B{K:Nat->Prop}{w:World}{E s:Nat}{t:Ty}{g:Option Nat}{v:Value}{cs:List Value}{xs:List (c7 t)}(h:Own w E s g v xs.length cs)(a:AllR (RT K w t) cs xs):wf (.sl t) xs:=by
 refine⟨?_,fun x e=>?_⟩
 ·rcases h with ⟨_,h,_⟩ | ⟨b,o,cap,cur,_,_,_,h1,h2,_⟩
  ·omega
  grind[maxLen,Nat.le_trans]
 ·obtain⟨c,d⟩:=a.mem x e;exact RT.wf d
theorem ArgsR.wfs{K:Nat->Prop}{w:World}:∀{ps:List m0} {x:s8 ps} {vs:List Value} {go:Option Nat},ArgsR K w go ps x vs->Xv.wfs ps x
 | [],_x,_vs,_go,_=>trivial
 | .dat _t :: _r,_x,_vs,_go,⟨_v,_us,_e,h1,h⟩=>⟨RT.wf h1,ArgsR.wfs h⟩
 | .agg _t :: _r,_x,_vs,_go,⟨_v,_us,_e,h1,h⟩=>⟨RT.wf h1,ArgsR.wfs h⟩
 | .fn _f _t :: _r,_x,_vs,_go,⟨_v,_us,_e,h1,h⟩=>⟨RT.wf h1,ArgsR.wfs h⟩
 | .nof _f :: r,_x,_vs,_go,⟨_us,_e,h⟩=>ArgsR.wfs (ps:=r) h
 | .nil :: r,_x,_vs,_go,⟨_us,_e,h⟩=>ArgsR.wfs (ps:=r) h
 | .io _ _t :: _r,_x,_vs,_go,⟨_,_cs,_us,_e,_,_,_,h1,h⟩=>⟨RT.wf h1,ArgsR.wfs h⟩
 | .os _ _t :: _r,_x,_vs,_go,⟨_v,_cs,_us,_e,_,_,h1,h2,h⟩=>⟨z0B h1 h2,ArgsR.wfs h⟩
theorem I0f{P:Program}{Γ:m3}(V:s6 P Γ){c:Ct}{v:Func}{e:Code}{n:Nat}(rs:List ResultVar)(hf:P.funcs[c.f]?=some v)(hn:v.ntmps=n)(hb:v.body=some e)(hr:v.results=rs.toArray)(he:AT P c.f=true)(d:(Nat.ble c.ps.length n&&X8 c.ps)=true)
  (h:∀y x,(c.res x).q->Xv.wfs c.ps x->∀Q,(∀st,Gq Γ st rs (c.res x).r c.ps (c.res x).z->FX (cx P n y) st .normal Q/\FX (cx P n y) st .ret Q)->VX (cx P n y) ⟨I1 0 c.ps x,F0 0 c.ps x⟩ e Q):Ok P c:=by
 refine⟨he,fun x hq w m F K hK l=>?_⟩;rw[ba] at d;obtain⟨d,g⟩:=d;have d:=Nat.le_of_ble_eq_true d;have aA:=l.len;refine calls_of_wp hf hb ?_;have:=h ⟨w,fun k=>F=some k,K,Mn (m8 0 c.ps F),K7 c.ps w⟩ x hq l.wfs (bodyPost P v (G0l c x w F K)) (fun st H=>?_) (CJ K w F (Ao c.ps m) (K7 c.ps w) (F0 0 c.ps x)) { tmps:=m.toArray++Array.replicate (v.ntmps-m.toArray.size) undef,defers:=[] } (s0r hK l) rfl ⟨rfl,by grind,fun t s ht=>?_⟩
 ·exact this
 ·exact⟨fun G a S X Y=>z0S V g l hr H G a S X Y,fun G a S X Y=>z0S V g l hr H G a S X Y⟩
 ·obtain⟨_,a2,u,a3,a4⟩:=DI (i:=0) (o:=F0 0 c.ps x) (r0:=Ao c.ps m) (B:=K7 c.ps w) (g0:=F) g l (fun _=>rfl) (fun z hz=>by
   rcases Gm (i:=0) l with ⟨W,_⟩ | ⟨j,b,T,t,z',cs,W,_⟩ | ⟨j,E,t,xs,cs,W,_⟩
   ·grind
   ·rw[W] at hz ⊢;cases List.mem_singleton.1 hz;rw[lK,if_pos rfl]
   ·rw[W] at hz ⊢;cases List.mem_singleton.1 hz;rw[lK,if_pos rfl]) t s ht
  rw[a2];refine⟨fun _=>?_,fun hn=>(hn (fun _ h=>by cases h)).elim⟩;have aB:t<m.length:=by
   rcases Nat.lt_or_ge t m.length with h' | h'
   ·exact h'
   ·grind
  rw[Array.getD_eq_getD_getElem?,Array.getElem?_append_left (by omega)]
  grind
def Io:Option AV->Bool
 | some (.pel ..)=>false
 | some (.gel ..)=>false
 | _=>true
theorem UC{o:List (Nat×Ob)}{v:AV}(h:Io (some v)=true):AX o v:=by
 cases v <;> first | trivial | cases h
def X9(st:St)(p:Pa):Op->Bool
 | .move _ | .assign _ | .pick .. | .unOp .not .. | .fieldAddr .. | .field .. | .extract .. | .makeFunc .. | .build .. | .alloc _ | .box .. | .buildSlice ..=>true
 | .call ⟨.builtin .len,_,_⟩ | .call ⟨.builtin .min,_,_⟩ | .call ⟨.builtin .max,_,_⟩=>true
 | .load _ x | .nilCheck x | .store _ x _=>Io (rd st p x)
 | .binOp .eql .. | .binOp .neq .. | .binOp .lss .. | .binOp .leq .. | .binOp .gtr .. | .binOp .geq ..=>true
 | _=>false
theorem F0X{k a:IntKind}{b:Bool}{q:Prop}{r:AV}(h:BI k a b=some (q,r)):q:=by
 grind[BI]
theorem G0b{b:Option TI}{a:BinOp}{u v r:AV}{q:Prop}(c:(match a with | .eql | .neq | .lss | .leq | .gtr | .geq=>true | _=>false)=true)(h:Ma b a u v=some (q,r)):q:=by
 unfold Ma at h
 grind[F0X,oi,pj,absurd]
theorem G0f{Γ:m3}{st:St}{p:Pa}{c:Op}{q:Prop}{r:AV}{l:List Nat}(a:X9 st p c=true)(h:C6 Γ st p c=some (q,r,l)):q:=by
 unfold C6 at h;split at h
 case h_5 op' T x y n =>
  split at h
  ·split at h
   ·rename_i e;simp only[oi,pj] at h;obtain⟨rfl,_⟩:=h;refine G0b ?_ e;cases op' <;> first | rfl | exact a
   grind
  grind
 case h_3 x =>
  split at h
  ·rename_i v b;split at h
   ·simp only[oi,pj] at h;obtain⟨rfl,_⟩:=h;exact UC (by rw[<- b]; exact a)
   grind
  grind
 all_goals try (simp[X9] at a; done)
 case h_10 T x =>
  split at h
  ·rename_i v f b d;split at h
   ·split at h
    ·simp only[oi,pj] at h;obtain⟨rfl,_⟩:=h;exact UC (by rw[<- b]; exact a)
    grind
   grind
  grind
 all_goals (repeat' (split at h))
 all_goals first
  | cases h; done
  | (simp only[oi,pj] at h; rw[<- h.1]; trivial)
  | (rw[ce] at h
     split at h
     ·grind
     ·cases h)
theorem G0h{Γ:m3}{st:St}{p:Pa}{d:Nat}{a:Op}{q:Prop}{r:AV}{w:Nat×Ob}{l:List Nat}(b:X9 st p a=true)(h:X6 Γ st p d a=some (q,r,w,l)):q:=by
 unfold X6 at h
 grind[X9]
theorem G0e{Γ:m3}{st:St}{p:Pa}{a:Op}{q:Prop}{w:Nat×Ob}{l:List Nat}(b:X9 st p a=true)(h:AY Γ st p a=some (q,w,l)):q:=by
 unfold AY at h
 grind[X9,Io]
theorem G0i{Γ:m3}{st:St}{p:Pa}{d:Nat}{a:Op}{r:Prop×AV×List (Nat×Ob)×List Nat}(b:X9 st p a=true)(h:An Γ st p d a=some r):False:=by
 unfold An at h
 grind[X9,Io]
theorem B0Y{Γ:m3}{st:St}{p:Pa}{a:Op}{r:Prop×List (Nat×Ob)×List Nat}(b:X9 st p a=true)(h:Bb Γ st p a=some r):False:=by
 unfold Bb at h
 grind[X9,Io]
theorem G0g{Γ:m3}{T:List Ct}{st:St}{p:Pa}{o:Oper}{q:Prop}{av:Option AV}{obs:List (Nat×Ob)}{l:List Nat}(b:X9 st p o.op=true)(h:T3 Γ T st p o=some (q,av,obs,l)):q:=by
 have a:∀d q r obs l,BN T st p d o.op≠some (q,r,obs,l):=fun d q r obs l a=>by
  unfold BN at a
  grind[X9]
 unfold T3 at h;split at h
 ·rw[ce] at h;split at h
  ·grind[oi,pj,G0f,G0i]
  ·rw[ce] at h
   grind[oi,pj,G0h]
 ·rw[ce] at h
  grind[oi,pj,G0e,B0Y]
def Y0(Γ:m3)(T:List Ct)(all:List Oper):List Oper->St->List u0->Option (Prop×St×List u0)
 | [],st,rs=>some (True,st,rs)
 | o :: r,st,rs=>match Bc all st.e o with
   | some p=>match T3 Γ T st p o with
     | some (q,av,obs,fp)=>bif BM p||BM obs then(match Y0 Γ T all r ⟨CH o.dst p av st.e,obs++st.o⟩ (⟨o,p,av,obs,fp⟩ :: rs) with
       | some (V,st',rs')=>some (bif X9 st p o.op then V else(Ps st.e p q/\V),st',rs')
       | none=>none) else none
     | none=>none
   | none=>none
theorem C0M{e:List (Nat×Sl)}{p:Pa}{q:Prop}(h:q):Ps e p q:=by
 unfold Ps
 grind
theorem DJ{Γ:m3}{T:List Ct}{all:List Oper}{K:St->List u0->Prop}:∀{ops:List Oper} {st:St} {rs:List u0} {V:Prop} {st':St} {rs':List u0},Y0 Γ T all ops st rs=some (V,st',rs')->V->K st' rs'->Gf Γ T all ops st rs K
 | [],st,rs,V,st',rs',h,hV,hK=>by
   simp only[Y0,oi,pj] at h;obtain⟨_,rfl,rfl⟩:=h;exact hK
 | o :: r,st,rs,V,st',rs',h,hV,hK=>by
   unfold Y0 at h;unfold Gf;split at h
   ·rename_i p g
    try (rw[g]; simp only)
    split at h
    ·rename_i q l e m b
     try (rw[b]; simp only)
     rw[ce] at h ⊢;split at h
     ·rename_i j;rw[if_pos j];split at h
      ·rename_i k i d c;simp only[oi,pj] at h;obtain⟨a,rfl,rfl⟩:=h;rw[ce] at a;split at a
       ·rename_i f;subst a;exact⟨C0M (G0g f b),DJ c hV hK⟩
       ·subst a;exact⟨hV.1,DJ c hV.2 hK⟩
      grind
     grind
    grind
   grind
def Mr(n:Nat)(Γ:m3)(T:List Ct)(l:List Oper)(keep:List Nat)(st:St):Option (Prop×St) :=
 bif K5 n 0 [] l&&K6 st.e then(match Y0 Γ T l l st [] with
  | some (V,st',_)=>some (V,cut keep st')
  | none=>none) else none
def PH(n:Nat)(Γ:m3)(T:List Ct)(l:List Oper)(keep:List Nat)(st:St):Option (Prop×St) :=
 bif K5 n 0 [] l&&P8 0 l&&K6 st.e then(match Y0 Γ T l l st [] with
  | some (V,st',rs)=>bif Ih (M6 [] l) rs.reverse then some (V,cut keep st') else none
  | none=>none) else none
section
variable {P:Program} {n:Nat} {y:World×(Nat->Prop)×(Nat->Prop)×(Nat->Value->Prop)×Nat} {st:St} {Q:Exit->Act->World->Prop} {Γ:m3} {T:List Ct}
theorem rs(b:s6 P Γ)(j:∀c∈T,Ok P c)(a:List Nat)(st':St)(V:Prop){id:Nat}{l:List Oper}{c:Code}(h:Mr n Γ T l a st=some (V,st'))(g:V)(k:VX (cx P n y) st' c Q):VX (cx P n y) st (.seq (.region id l.toArray false) c) Q:=by
 unfold Mr at h;rw[ce] at h;split at h
 ·rename_i d;rw[ba] at d;split at h
  ·rename_i m i e f;simp only[oi,pj] at h;obtain⟨rfl,rfl⟩:=h;exact vQ (x0c (X:=cx P n y) b j a d.1 d.2 (DJ f g (fQ k)))
  grind
 grind
theorem re(b:s6 P Γ)(j:∀c∈T,Ok P c)(a:List Nat)(st':St)(V:Prop){id:Nat}{l:List Oper}(h:Mr n Γ T l a st=some (V,st'))(g:V)(k:FX (cx P n y) st' .normal Q):VX (cx P n y) st (.region id l.toArray false) Q:=by
 unfold Mr at h;rw[ce] at h;split at h
 ·rename_i d;rw[ba] at d;split at h
  ·rename_i m i e f;simp only[oi,pj] at h;obtain⟨rfl,rfl⟩:=h;exact x0c (X:=cx P n y) b j a d.1 d.2 (DJ f g k)
  grind
 grind
theorem de(b:s6 P Γ)(k:∀c∈T,Ok P c)[o:H7 P](a:List Nat)(st':St)(V:Prop){id:Nat}{l:List Oper}(h:PH n Γ T l a st=some (V,st'))(g:V)(m:FX (cx P n y) st' .normal Q):VX (cx P n y) st (.region id l.toArray true) Q:=by
 unfold PH at h;rw[ce] at h;split at h
 ·rename_i d;rw[ba] at d;split at h
  ·rename_i q j e f;rw[ce] at h;split at h
   ·rename_i i;simp only[oi,pj] at h;obtain⟨rfl,rfl⟩:=h;exact A0c (X:=cx P n y) b k a d.1 d.2 (DJ f g ⟨i,m⟩)
   grind
  grind
 grind
theorem ds(b:s6 P Γ)(f:∀c∈T,Ok P c)[g:H7 P](a:List Nat)(st':St)(V:Prop){id:Nat}{l:List Oper}{c:Code}(h:PH n Γ T l a st=some (V,st'))(d:V)(e:VX (cx P n y) st' c Q):VX (cx P n y) st (.seq (.region id l.toArray true) c) Q :=
 vQ (de b f a st' V h d (fQ e))
end
theorem A0F{P:Program}:s6 P []:=fun _ _ h=>by cases h
theorem tK{P:Program}{T:TypeId}{c:TI}{Γ:m3}(h:FV P T c)(d:s6 P Γ):s6 P ((T,c) :: Γ):=fun e a b=>by
 rw[lK] at b;split at b
 ·grind
 ·exact d e a b
abbrev i64:Ty:=.int .i64
abbrev p(t:Nat)(a:AV):Nat×Sl:=(t,⟨[],a⟩)
abbrev I(x:Int):AV:=.d true (.int .i64) x
abbrev J(x:Int):AV:=.d false (.int .i64) x
abbrev B(x:Bool):AV:=.d true .bool x
abbrev C(x:Bool):AV:=.d false .bool x
abbrev S(x:ByteArray):AV:=.d true .str x
abbrev U(x:ByteArray):AV:=.d false .str x
abbrev D(t:Ty)(x:c7 t):AV:=.d false t x
abbrev N(t:Ty)(x:c7 t):AV:=.d true t x
abbrev L(t:Ty)(x:List (c7 t)):AV:=.d false (.sl t) x
abbrev M(t:Ty)(x:List (c7 t)):AV:=.d true (.sl t) x
abbrev nil:AV:=.v (.slice none 0 0)
theorem ev{Γ:m3}{st:St}{rs:List ResultVar}{r:AV}{ps:List m0}{z:A3 ps}(V:Prop)(h:Gq Γ st rs r ps z=V)(a:V):Gq Γ st rs r ps z:=h ▸ a
theorem tn{P:Program}:∀c∈([]:List Ct),Ok P c:=fun _ h=>by cases h
theorem tc{P:Program}{c:Ct}{T:List Ct}(h:Ok P c)(b:∀c∈T,Ok P c):∀c'∈c :: T,Ok P c':=fun c' a=>by
 grind
end Go.Proofs.Xv
end
section
namespace Go.Proofs.Xd
open Go Go.Proofs.Xv
theorem t0F{b:Type}(a:List b)(z d:b)(s:Nat)(h:s<a.length):(a.take s++List.replicate (a.length-s) z).set s (a.getD s d)=a.take (s+1)++List.replicate (a.length-(s+1)) z:=by
 apply List.ext_getElem?
 grind
theorem w0H{b:Type}(a:List b)(z:b)(s:Nat)(h:a.length<=s):a.take s++List.replicate (a.length-s) z=a:=by
 grind[List.take_of_length_le,Nat.sub_eq_zero_of_le]
theorem B0p{c:Type}{a b:List c}(d:c)(e:a.length=b.length)(h:∀i,i<a.length->a.getD i d=b.getD i d):a=b:=by
 apply List.ext_getElem?
 grind
def m9(n:Nat)(l:Int):Int:=if l-(n:Int)<0 then -1 else l-(n:Int)
theorem F0i{n:Nat}{l:Int}(h:0<=l) : -1<=m9 n l/\m9 n l<=l:=by grind[m9]
theorem s0m{m n:Nat}{l:Int}(h:m9 m l<0):m9 (m+n) l = -1:=by
 grind[m9]
theorem s0l{m n:Nat}{l:Int}(h:0<=m9 m l):m9 (m+n) l=m9 n (m9 m l):=by
 grind[m9]
def c9:(t:Ty)->c7 t->Nat
 | .int _,_=>0
 | .bool,_=>0
 | .str,s=>s.size
 | .sl e,xs=>xs.length+(xs.map (c9 e)).sum
 | .pt e,x=>c9 e x
 | .pr a b,x=>c9 a x.1+c9 b x.2
theorem F0W{t:Ty}{a:List (c7 t)}{i:Nat}{d:c7 t}(h:i<a.length):c9 t (a.getD i d)<=(a.map (c9 t)).sum:=by
 rw[gq,List.getElem?_eq_getElem h];have c:∀(l:List (c7 t)) (x:c7 t),x∈l->c9 t x<=(l.map (c9 t)).sum:=by
  intro l
  induction l with
  | nil=>grind
  | cons y r b =>
    grind
 simp_all
theorem z0p{n:Nat}{l:Int}(h:l-(n:Int)<0):m9 n l = -1:=if_pos h
theorem UD{n:Nat}{l:Int}(h:0<=l-(n:Int)):m9 n l=l-(n:Int):=if_neg (by omega)
theorem A0H{m n:Nat}{l:Int}(h:l-(m:Int)<0):m9 (m+n) l = -1:=s0m (by grind[z0p])
theorem A0G{m n:Nat}{l:Int}(h:0<=l-(m:Int)):m9 (m+n) l=m9 n (l-(m:Int)):=by
 grind[s0l,UD]
theorem v0m{l:Int}(h:0<=l):m9 0 l=l:=by grind[UD]
theorem Q8{a b:Ty}{x:c7 (.pr a b)}:c9 (.pr a b) x=c9 a x.1+c9 b x.2:=by grind[c9]
theorem W2{k:IntKind}{x:Int}:c9 (.int k) x=0:=by grind[c9]
theorem Z3{x:Bool}:c9 .bool x=0:=by grind[c9]
theorem W3{x:ByteArray}:c9 .str x=x.size:=by grind[c9]
theorem AH{e:Ty}{x:List (c7 e)}:c9 (.sl e) x=x.length+(x.map (c9 e)).sum:=by grind[c9]
theorem p0u{k:IntKind}{x:List Int}:c9 (.sl (.int k)) x=x.length:=by
 have:∀l:List Int,(l.map (c9 (.int k))).sum=0:=by
  intro l
  induction l with
  | nil=>rfl
  | cons a r b=>grind[c9]
 grind[AH]
end Go.Proofs.Xd
end
section
namespace Go.Proofs.Xl
def gd{ρ:Type}(V:Prop)[Decidable V](e:Option ρ):Option ρ:=if V then e else none
def lt{α β:Type}(x:α)(f:α->β):β:=f x
def vl{α:Type}[Inhabited α](o:Option α):α:=o.getD default
def b7(x:Int):Prop := -9223372036854775808<=x/\x<=9223372036854775807
instance (x:Int):Decidable (b7 x):=inferInstanceAs (Decidable (_/\_))
def ix(i:Int)(n:Nat):Prop:=0<=i/\i < (n:Int)
instance (i:Int)(n:Nat):Decidable (ix i n):=inferInstanceAs (Decidable (_/\_))
def J3:Nat:=36893488147419103232
def D7{σ ρ:Type}(F:(σ->Option ρ)->σ->Option ρ):Nat->σ->Option ρ
 | 0,_=>none
 | n+1,s=>F (D7 F n) s
def lp{σ ρ:Type}(F:(σ->Option ρ)->σ->Option ρ)(s:σ):Option ρ:=D7 F J3 s
theorem DK{a:Type}{V:Prop}[Decidable V]{e:Option a}{r:a}(h:gd V e=some r):V/\e=some r:=by
 grind[gd]
theorem gP{a:Type}{V:Prop}[Decidable V]{e:Option a}(h:V):gd V e=e:=if_pos h
theorem vS{a:Type}[Inhabited a](x:a):vl (some x)=x:=rfl
theorem s0w{a:Type}[Inhabited a]{o:Option a}(h:o.isSome=true):o=some (vl o):=by cases o with
 | none=>cases h
 | some x=>rfl
end Go.Proofs.Xl
namespace Go.Proofs.Xv
open Go Go.RowKit Go.Proofs.Sv Go.Proofs.Xl
def L4{α β:Type}(f:α->β):Option α->Option β
 | some x=>some (f x)
 | none=>none
theorem M7{a b:Type}{f:a->b}{o:Option a}{y:b}(h:L4 f o=some y):∃x,o=some x/\f x=y:=by
 cases o with
 | none=>cases h
 | some x=>exact⟨x,rfl,by cases h; rfl⟩
def UE(o o':List (Nat×Ob))(x:Value)(id ver:Nat):Option AV:=match x with
 | .slice none 0 0=>match a8 o id with
   | none=>match a8 o' id with
     | some (.arr _ _ _ _ v)=>bif Nat.beq v ver then some (.os id ver) else none
     | _=>none
   | _=>none
 | _=>none
def UG(x:Value)(fr:Bool)(e:Ty):Option AV:=match x with
 | .slice none 0 0=>some (.d fr (.sl e) [])
 | _=>none
def UH(o o':List (Nat×Ob))(id ver id' ver':Nat):Option AV:=bif Nat.beq id id' then(match a8 o id with
    | some (.arr _ _ _ _ v)=>match a8 o' id with
      | some (.arr _ _ _ _ v')=>bif Nat.beq v ver&&Nat.beq v' ver' then some (.os id' ver') else none
      | _=>none
    | _=>none) else none
def wkP(o':List (Nat×Ob))(id off:Nat):Option AV:=match a8 o' id with
 | some (.box _ _)=>some (.ptr id off)
 | _=>none
def wkG(o':List (Nat×Ob))(id:Nat):Option AV:=match a8 o' id with
 | some (.grd ..)=>some (.og id)
 | _=>none
mutual
def T5(o o':List (Nat×Ob)):AV->AV->Option AV
 | .d fr t x,b=>match b with
   | .d fr' t' _=>bif !fr'||fr then L4 (.d fr' t') (P6 t t' x) else none
   | _=>none
 | .v x,b=>match b with
   | .v _=>some (.v x)
   | .os id ver=>UE o o' x id ver
   | .d fr (.sl e) _=>UG x fr e
   | _=>none
 | .os id ver,b=>match b with
   | .os id' ver'=>UH o o' id ver id' ver'
   | _=>none
 | .ptr id off,b=>match b with
   | .ptr _ _=>wkP o' id off
   | _=>none
 | .agg xs,b=>match b with
   | .agg ys=>L4 .agg (DL o o' xs ys)
   | _=>none
 | .tup xs,b=>match b with
   | .tup ys=>L4 .tup (DL o o' xs ys)
   | _=>none
 | .fn f xs,b=>match b with
   | .fn _ ys=>L4 (.fn f) (DL o o' xs ys)
   | _=>none
 | .og id,b=>match b with
   | .og _=>wkG o' id
   | _=>none
 | _,_=>none
def DL(o o':List (Nat×Ob)):List AV->List AV->Option (List AV)
 | [],ys=>match ys with
   | []=>some []
   | _=>none
 | a :: r,ys=>match ys with
   | b :: s=>match T5 o o' a b with
     | some x=>L4 (x :: ·) (DL o o' r s)
     | none=>none
   | _=>none
end
def UI(o o':List (Nat×Ob)):Option Ob->Ob->Option Ob
 | some (.box T cs),.box _ cs'=>L4 (.box T) (DL o o' cs cs')
 | some (.arr T fr t xs _),.arr _ fr' t' _ v'=>bif !fr'||fr then L4 (fun z=>.arr T fr' t' z v') (P6 (.sl t) (.sl t') xs) else none
 | none,.arr T fr t _ v=>some (.arr T fr t [] v)
 | some (.grd T Te fr t xs none),.grd _ _ fr' t' _ none=>bif !fr'||fr then L4 (fun z=>.grd T Te fr' t' z none) (P6 (.sl (.sl t)) (.sl (.sl t')) xs) else none
 | _,_=>none
def PJ(o o':List (Nat×Ob))(e:List (Nat×Sl)):List (Nat×Sl)->Option (List (Nat×Sl))
 | []=>some []
 | (t,s) :: r=>match s.p,a8 e t with
   | [],some ⟨[],a⟩=>match T5 o o' a s.a with
     | some x=>L4 ((t,⟨[],x⟩) :: ·) (PJ o o' e r)
     | none=>none
   | _,_=>none
def PK(o o':List (Nat×Ob)):List (Nat×Ob)->Option (List (Nat×Ob))
 | []=>some []
 | (i,b) :: r=>match UI o o' (a8 o i) b with
   | some x=>L4 ((i,x) :: ·) (PK o o' r)
   | none=>none
def Ip(o':List (Nat×Ob)):List (Nat×Ob)->Bool
 | []=>true
 | (i,.box _ _) :: r=>(bif Nat.ble 500000 i then(match a8 o' i with | some (.box _ _)=>true | _=>false) else true)&&Ip o' r
 | (_,.arr ..) :: r=>Ip o' r
 | (_,.grd ..) :: r=>Ip o' r
def DM(a b:St):Option St:=match PJ a.o b.o a.e b.e with
 | some e=>match PK a.o b.o b.o with
   | some o=>bif Ip b.o a.o then some ⟨e,o⟩ else none
   | none=>none
 | none=>none
theorem C0K{o o':List (Nat×Ob)}{x:Value}{id ver:Nat}(h:UE o o' x id ver=some (.os id ver)):Gi x/\Px (a8 o id)/\DH (a8 o' id) ver:=by
 unfold UE at h;split at h
 ·split at h
  ·rename_i c;split at h
   ·rename_i b;rw[ce] at h;split at h
    ·rename_i a;have:=nb a;subst this;rw[c,b];exact⟨trivial,trivial,rfl⟩
    grind
   grind
  grind
 grind
theorem C0I{o o':List (Nat×Ob)}{id ver b a:Nat}(h:UH o o' id ver b a=some (.os b a)):id=b/\DH (a8 o id) ver/\DH (a8 o' id) a:=by
 unfold UH at h;rw[ce] at h;split at h
 ·rename_i d;split at h
  ·rename_i i;split at h
   ·rename_i f;rw[ce] at h;split at h
    ·rename_i c;rw[ba] at c;have e:=nb c.1;have g:=nb c.2;subst e; subst g;rw[i,f];exact⟨nb d,rfl,rfl⟩
    grind
   grind
  grind
 grind
theorem C0L{x:Value}{fr:Bool}{e:Ty}{y:c7 (.sl e)}(h:UG x fr e=some (.d fr (.sl e) y)):Gi x/\Uo (.sl e) y:=by
 unfold UG at h;split at h
 ·simp only[oi,AV.d.injEq,heq_eq_eq,true_and] at h;exact⟨trivial,h.symm⟩
 grind
theorem UJ{a b:Bool}(h:(!a||b)=true):a=true->b=true:=by
 grind
mutual
theorem x0a{o o':List (Nat×Ob)}:∀{a b:AV},T5 o o' a b=some b->I5 o o' a b
 | .d fr t x,b,h=>by
   unfold T5 at h;unfold I5;split at h
   ·rename_i g i y;rw[ce] at h;split at h
    ·rename_i j;obtain⟨z,c,e⟩:=M7 h
     grind
    grind
   grind
 | .v x,b,h=>by
   unfold T5 at h
   grind[I5,C0K,C0L]
 | .os id ver,b,h=>by
   unfold T5 at h
   grind[I5,C0I]
 | .ptr id off,b,h=>by
   unfold T5 at h;unfold I5;split at h
   ·unfold wkP at h;split at h
    ·rename_i c;simp only[oi,AV.ptr.injEq] at h;obtain⟨rfl,rfl⟩:=h;exact⟨rfl,rfl,by rw[c]; trivial⟩
    grind
   grind
 | .agg xs,b,h=>by
   unfold T5 at h;unfold I5;split at h
   ·obtain⟨z,c,e⟩:=M7 h;simp only[AV.agg.injEq] at e;subst e;exact Ms c
   grind
 | .tup xs,b,h=>by
   unfold T5 at h;unfold I5;split at h
   ·obtain⟨z,c,e⟩:=M7 h;simp only[AV.tup.injEq] at e;subst e;exact Ms c
   grind
 | .fn f xs,b,h=>by
   unfold T5 at h;unfold I5;split at h
   ·obtain⟨z,c,e⟩:=M7 h;simp only[AV.fn.injEq] at e;obtain⟨rfl,rfl⟩:=e;exact⟨rfl,Ms c⟩
   grind
 | .pel ..,b,h=>by grind[T5]
 | .gel ..,b,h=>by grind[T5]
 | .og id,b,h=>by
   unfold T5 at h;unfold I5;split at h
   ·unfold wkG at h;split at h
    ·rename_i c;simp only[oi,AV.og.injEq] at h;subst h;exact⟨rfl,by rw[c]; trivial⟩
    grind
   grind
 | .ow ..,b,h=>by grind[T5]
 | .ob ..,b,h=>by grind[T5]
theorem Ms{o o':List (Nat×Ob)}:∀{as' bs:List AV},DL o o' as' bs=some bs->Be o o' as' bs
 | [],bs,h=>by
   grind[DL,Be]
 | a :: r,bs,h=>by
   unfold DL at h;unfold Be;split at h
   ·split at h
    ·rename_i x d;obtain⟨z,c,b⟩:=M7 h;simp only[List.cons.injEq] at b;obtain⟨rfl,rfl⟩:=b;exact⟨x0a d,Ms c⟩
    grind
   grind
end
theorem C0J{o o':List (Nat×Ob)}{a:Option Ob}{b:Ob}(h:UI o o' a b=some b):Ur o o' a b:=by
 unfold UI at h;split at h
 ·obtain⟨z,d,c⟩:=M7 h;simp only[Ob.box.injEq] at c;obtain⟨rfl,rfl⟩:=c;exact⟨rfl,Ms d⟩
 ·rw[ce] at h;split at h
  ·rename_i e;obtain⟨z,d,c⟩:=M7 h;simp only[Ob.arr.injEq,heq_eq_eq,true_and,and_true] at c;obtain⟨rfl,rfl⟩:=c;exact⟨rfl,UJ e,d⟩
  grind
 ·simp only[oi,Ob.arr.injEq,heq_eq_eq,true_and,and_true] at h;exact h.symm
 ·rw[ce] at h;split at h
  ·rename_i e;obtain⟨z,d,c⟩:=M7 h;simp only[Ob.grd.injEq,heq_eq_eq,true_and,and_true] at c;obtain⟨rfl,rfl,rfl⟩:=c;exact⟨rfl,rfl,trivial,trivial,UJ e,d⟩
  grind
 grind
theorem r0r{o o':List (Nat×Ob)}{e:List (Nat×Sl)}:∀{l:List (Nat×Sl)},PJ o o' e l=some l->Py o o' e l
 | [],_=>trivial
 | (t,s) :: r,h=>by
   unfold PJ at h;split at h
   ·rename_i g f;split at h
    ·rename_i x c;obtain⟨z,b,a⟩:=M7 h;simp only[List.cons.injEq,pj,true_and] at a;obtain⟨d,rfl⟩:=a;subst d;exact⟨trivial,by rw[f]; exact x0a c,r0r b⟩
    grind
   grind
theorem r0q{o o':List (Nat×Ob)}:∀{l:List (Nat×Ob)},PK o o' l=some l->Mi o o' l
 | [],_=>trivial
 | (t,s) :: r,h=>by
   unfold PK at h;split at h
   ·rename_i x c;obtain⟨z,b,a⟩:=M7 h;simp only[List.cons.injEq,pj,true_and] at a;obtain⟨rfl,rfl⟩:=a;exact⟨C0J c,r0q b⟩
   grind
theorem PL{o':List (Nat×Ob)}:∀{l:List (Nat×Ob)},Ip o' l=true->J0 o' l
 | [],_=>trivial
 | (_,.arr ..) :: r,h=>PL (l:=r) h
 | (_,.grd ..) :: r,h=>PL (l:=r) h
 | (i,.box _ _) :: r,h=>by
   simp only[Ip,ba] at h;refine⟨?_,PL h.2⟩;have a:=h.1;rw[ce] at a ⊢;split
   ·rename_i hi;rw[if_pos hi] at a;split at a
    ·rename_i b; rw[b]; trivial
    grind
   grind
theorem UK{a b:St}(h:DM a b=some b):Mj a b:=by
 unfold DM at h;split at h
 ·rename_i e f;split at h
  ·rename_i o c;rw[ce] at h;split at h
   ·rename_i d;cases h;exact⟨r0r f,r0q c,PL d⟩
   grind
  grind
 grind
mutual
def T6(o:List (Nat×Ob)):AV->AV->Option (AV×List (Option Nat)×List Nat)
 | a,.ow T fr t _=>match a with
   | .os id ver=>match a8 o id with
     | some (.arr T' fr' t' ys ver')=>bif Nat.beq ver ver'&&Nat.beq T' T&&(!fr||fr') then L4 (fun z=>(.ow T fr t z,[some id],[])) (P6 (.sl t') (.sl t) ys) else none
     | _=>none
   | .v x=>match x with
     | .slice none 0 0=>some (.ow T fr t [],[none],[])
     | _=>none
   | _=>none
 | a,.d fr t _=>match B0 o 24 t [a] with
   | some (y,l,fl)=>bif !fr||fl then some (.d fr t y,[],l) else none
   | none=>none
 | a,.ob T rs=>match a with
   | .ptr id 0=>match a8 o id with
     | some (.box T' cs)=>bif Nat.beq T' T then(match Gs o cs rs with
       | some (x,l,m)=>some (.ob T x,some id :: l,m)
       | none=>none) else none
     | _=>none
   | _=>none
 | a,.v _=>match a with
   | .v y=>some (.v y,[],[])
   | _=>none
 | a,.agg rs=>match a with
   | .agg as'=>match Gs o as' rs with
     | some (x,l,m)=>some (.agg x,l,m)
     | none=>none
   | _=>none
 | a,.tup rs=>match a with
   | .tup as'=>match Gs o as' rs with
     | some (x,l,m)=>some (.tup x,l,m)
     | none=>none
   | _=>none
 | _,_=>none
def Gs(o:List (Nat×Ob)):List AV->List AV->Option (List AV×List (Option Nat)×List Nat)
 | as',[]=>match as' with
   | []=>some ([],[],[])
   | _=>none
 | as',r :: rs=>match as' with
   | a :: t=>match T6 o a r with
     | some (x,m,f)=>match Gs o t rs with
       | some (xs,m',f')=>some (x :: xs,m++m',f++f')
       | none=>none
     | none=>none
   | []=>none
end
def BR(o:List (Nat×Ob)):Nat->(ps:List m0)->A3 ps->Option (A3 ps×List Nat×Option Nat)
 | _,[],z=>some (z,[],none)
 | i,.io T t :: _,_=>match a8 o (500000+i) with
   | some (.box T' cs)=>bif Nat.beq T' T then(match B0 o 24 t cs with
     | some (y,l,_)=>some (y,l,some (500000+i))
     | none=>none) else none
   | _=>none
 | i,.dat _ :: r,z=>BR o (i+1) r z
 | i,.agg _ :: r,z=>BR o (i+1) r z
 | i,.fn _ _ :: r,z=>BR o (i+1) r z
 | i,.nof _ :: r,z=>BR o (i+1) r z
 | i,.nil :: r,z=>BR o (i+1) r z
 | i,.os _ _ :: r,z=>BR o (i+1) r z
def s0U(Γ:m3)(st:St):ResultVar->Option AV
 | .tmp t=>match a8 st.e t with
   | some ⟨[],a⟩=>some a
   | _=>none
 | .cell t ty=>match a8 st.e t with
   | some ⟨[],p⟩=>bif Io (some p) then(match P7 st.o p with
     | some (cs,_)=>match a8 Γ ty with
       | some ti=>HU ti cs
       | none=>none
     | none=>none) else none
   | _=>none
def Mt(Γ:m3)(st:St):List ResultVar->Option (List AV)
 | []=>some []
 | r :: rs=>match s0U Γ st r with
   | some a=>L4 (a :: ·) (Mt Γ st rs)
   | none=>none
def PM(Γ:m3)(st:St)(rs:List ResultVar)(ps:List m0)(r:AV)(z:A3 ps):Option (AV×A3 ps) :=
 match Mt Γ st rs with
 | some as'=>match T6 st.o (Uz as') r with
   | some (r',mv,fz)=>match BR st.o 0 ps z with
     | some (z',fz',pin)=>bif onceN mv&&Mp mv (fz++fz')&&PG (fun i=>Gb i (fz++fz')) pin&&(!C7 ps||CK r')&&PG (fun i=>onceN.notInS i mv) pin then some (r',z') else none
     | none=>none
   | none=>none
 | none=>none
mutual
theorem z0C{o:List (Nat×Ob)}:∀{a r:AV} {mv:List (Option Nat)} {fz:List Nat},T6 o a r=some (r,mv,fz)->∃q:Prop,q/\I6 o a r=some (q,mv,fz)
 | a,.ow T fr t xs,mv,fz,h=>by
   unfold T6 at h;unfold I6;split at h
   ·split at h
    ·rename_i E c s u g j;rw[ce] at h;split at h
     ·rename_i i;simp only[ba] at i;obtain⟨z,n,f⟩:=M7 h;simp only[pj,AV.ow.injEq,heq_eq_eq,true_and] at f;obtain⟨rfl,rfl,rfl⟩:=f;refine⟨(fr=true->c=true)/\P6 (.sl s) (.sl t) u=some z,⟨UJ i.2,n⟩,?_⟩
      grind
     grind
    grind
   ·split at h
    ·simp only[oi,pj,AV.ow.injEq,heq_eq_eq,true_and] at h;obtain⟨rfl,rfl,rfl⟩:=h;exact⟨_,⟨trivial,rfl⟩,rfl⟩
    grind
   grind
 | a,.d fr t x,mv,fz,h=>by
   unfold T6 at h;unfold I6;split at h
   ·rename_i y l G w;rw[ce] at h;split at h
    ·rename_i F;simp only[oi,pj,AV.d.injEq,heq_eq_eq,true_and] at h;obtain⟨rfl,rfl,rfl⟩:=h
     try rw[w]
     grind
    grind
   grind
 | a,.ob T rs,mv,fz,h=>by
   unfold T6 at h;unfold I6;split at h
   ·split at h
    ·rename_i E H j;rw[ce] at h;split at h
     ·rename_i P;split at h
      ·rename_i x l m b;simp only[oi,pj,AV.ob.injEq,true_and] at h;obtain⟨rfl,rfl,rfl⟩:=h;obtain⟨q,k,e⟩:=PN b;refine⟨q,k,?_⟩
       grind
      grind
     grind
    grind
   grind
 | a,.v x,mv,fz,h=>by
   unfold T6 at h;unfold I6;split at h
   ·simp only[oi,pj,AV.v.injEq] at h;obtain⟨rfl,rfl,rfl⟩:=h
    grind
   grind
 | a,.agg rs,mv,fz,h=>by
   unfold T6 at h;unfold I6;split at h
   ·split at h
    ·rename_i x l m b;simp only[oi,pj,AV.agg.injEq] at h;obtain⟨rfl,rfl,rfl⟩:=h;exact PN b
    grind
   grind
 | a,.tup rs,mv,fz,h=>by
   unfold T6 at h;unfold I6;split at h
   ·split at h
    ·rename_i x l m b;simp only[oi,pj,AV.tup.injEq] at h;obtain⟨rfl,rfl,rfl⟩:=h;exact PN b
    grind
   grind
 | a,.ptr _ _,mv,fz,h=>by grind[T6]
 | a,.pel ..,mv,fz,h=>by grind[T6]
 | a,.os _ _,mv,fz,h=>by grind[T6]
 | a,.fn _ _,mv,fz,h=>by grind[T6]
 | a,.gel _ _,mv,fz,h=>by grind[T6]
 | a,.og _,mv,fz,h=>by grind[T6]
theorem PN{o:List (Nat×Ob)}:∀{as' rs:List AV} {mv:List (Option Nat)} {fz:List Nat},Gs o as' rs=some (rs,mv,fz)->∃q:Prop,q/\BQ o as' rs=some (q,mv,fz)
 | as',[],mv,fz,h=>by
   unfold Gs at h;unfold BQ;split at h
   ·simp only[oi,pj,true_and] at h;obtain⟨rfl,rfl⟩:=h
    grind
   grind
 | as',r :: rs,mv,fz,h=>by
   unfold Gs at h;unfold BQ;split at h
   ·split at h
    ·rename_i x m f e;split at h
     ·rename_i g k j a;simp only[oi,pj,List.cons.injEq] at h;obtain⟨⟨rfl,rfl⟩,rfl,rfl⟩:=h;obtain⟨q,c,l⟩:=z0C e;obtain⟨d,b,i⟩:=PN a;refine⟨q/\d,⟨c,b⟩,?_⟩
      grind
     grind
    grind
   grind
end
theorem Gt{o:List (Nat×Ob)}:∀{ps:List m0} {i:Nat} {z:A3 ps} {fz:List Nat} {pin:Option Nat},BR o i ps z=some (z,fz,pin)->∃q:Prop,q/\T4 o i ps z=some (q,fz,pin)
 | [],i,z,fz,pin,h=>by
   simp only[BR,oi,pj,true_and] at h;obtain⟨rfl,rfl⟩:=h;exact⟨_,trivial,rfl⟩
 | .io T t :: r,i,z',fz,pin,h=>by
   unfold BR at h;unfold T4;split at h
   ·rename_i d f a;rw[ce] at h;split at h
    ·rename_i e;split at h
     ·rename_i y l c b;simp only[oi,pj] at h;obtain⟨rfl,rfl,rfl⟩:=h;refine⟨y=y,rfl,?_⟩
      grind
     grind
    grind
   grind
 | .dat _ :: r,i,z,fz,pin,h=>Gt (ps:=r) (i:=i+1) h
 | .agg _ :: r,i,z,fz,pin,h=>Gt (ps:=r) (i:=i+1) h
 | .fn _ _ :: r,i,z,fz,pin,h=>Gt (ps:=r) (i:=i+1) h
 | .nof _ :: r,i,z,fz,pin,h=>Gt (ps:=r) (i:=i+1) h
 | .nil :: r,i,z,fz,pin,h=>Gt (ps:=r) (i:=i+1) h
 | .os _ _ :: r,i,z,fz,pin,h=>Gt (ps:=r) (i:=i+1) h
theorem s0H{Γ:m3}{st:St}:∀{rs:List ResultVar} {as':List AV},Mt Γ st rs=some as'->∃q:Prop,q/\Gn Γ st rs=some (q,as')
 | [],as',h=>by
   simp only[Mt,oi] at h;subst h;exact⟨_,trivial,rfl⟩
 | r :: rs,as',h=>by
   unfold Mt at h;unfold Gn;split at h
   ·rename_i a b;obtain⟨l,k,d⟩:=M7 h;subst d;obtain⟨q,m,j⟩:=s0H k;have:∃c:Prop,c/\Mo Γ st r=some (c,a):=by
     unfold s0U at b;unfold Mo;split at b
     ·split at b
      ·rename_i f;cases b;refine⟨True,trivial,?_⟩
       grind
      grind
     ·split at b
      ·rename_i f;rw[ce] at b;split at b
       ·rename_i g;split at b
        ·rename_i n;split at b
         ·rename_i s;refine⟨AX st.o _,UC g,?_⟩
          grind
         grind
        grind
       grind
      grind
    obtain⟨c,i,e⟩:=this;rw[e,j]
    grind
   grind
theorem t0K{Γ:m3}{st:St}{rs:List ResultVar}{ps:List m0}{r:AV}{z:A3 ps}(h:PM Γ st rs ps r z=some (r,z)):Gq Γ st rs r ps z:=by
 unfold PM at h;split at h
 ·rename_i a f;split at h
  ·rename_i q v fz c;split at h
   ·rename_i o b d e;rw[ce] at h;split at h
    ·rename_i k;simp only[oi,pj] at h;obtain⟨rfl,rfl⟩:=h;obtain⟨g,u,j⟩:=s0H f;obtain⟨m,s,i⟩:=z0C c;obtain⟨n,l,t⟩:=Gt e
     grind[Gq]
    grind
   grind
  grind
 grind
end Go.Proofs.Xv
end
section
namespace Go.Proofs.Xv
open Go Go.RowKit Go.Proofs.Sv Go.Proofs.Xl
def C9(b:Bool)(n:Nat)(Γ:m3)(T:List Ct)(l:List Oper)(keep:List Nat)(st:St):Option (Prop×St):=bif b then PH n Γ T l keep st else Mr n Γ T l keep st
def Iq(st:St)(c:Operand):Option Bool:=match rd st [] c with
 | some (.d _ .bool b)=>some b
 | _=>none
theorem UL{st:St}{c:Operand}{b:Bool}(h:Iq st c=some b):∃f,rd st [] c=some (.d f .bool b):=by
 grind[Iq]
theorem ct{X:Cx}{st:St}{Q:Exit->Act->World->Prop}{c:Operand}{a d:Code}(b:Iq st c=some true)(h:VX X st a Q):VX X st (.cond c a d) Q:=(UL b).elim fun _ b=>r0u b h
theorem cf{X:Cx}{st:St}{Q:Exit->Act->World->Prop}{c:Operand}{a d:Code}(b:Iq st c=some false)(h:VX X st d Q):VX X st (.cond c a d) Q:=(UL b).elim fun _ b=>r0v b h
section
variable {P:Program} {n:Nat} {y:World×(Nat->Prop)×(Nat->Prop)×(Nat->Value->Prop)×Nat} {st:St} {Q:Exit->Act->World->Prop} {Γ:m3} {T:List Ct} {ρ α:Type} {r:ρ}
theorem PO(d:s6 P Γ)(g:∀c∈T,Ok P c)[i:H7 P]{a:List Nat}{st':St}{V:Prop}{id:Nat}{l:List Oper}{b:Bool}(h:C9 b n Γ T l a st=some (V,st'))(e:V)(f:FX (cx P n y) st' .normal Q):VX (cx P n y) st (.region id l.toArray b) Q:=by
 cases b with
 | true=>exact de d g a st' V h e f
 | false=>exact re d g a st' V h e f
theorem za(d:s6 P Γ)(f:∀c∈T,Ok P c)[g:H7 P](a:List Nat)(st':St){id:Nat}{l:List Oper}{b:Bool}(h:C9 b n Γ T l a st=some (True,st'))(e:FX (cx P n y) st' .normal Q):VX (cx P n y) st (.region id l.toArray b) Q :=
 PO d f h trivial e
theorem zb(d:s6 P Γ)(g:∀c∈T,Ok P c)[i:H7 P](a:List Nat)(st':St){V:Prop}[Decidable V]{e:Option ρ}{id:Nat}{l:List Oper}{b:Bool}(H:gd V e=some r)(h:C9 b n Γ T l a st=some (V,st'))(f:e=some r->FX (cx P n y) st' .normal Q):VX (cx P n y) st (.region id l.toArray b) Q :=
 PO d g h (DK H).1 (f (DK H).2)
theorem zc(d:s6 P Γ)(g:∀c∈T,Ok P c)[i:H7 P](a:List Nat)(S:α->St){x:α}{f:α->Option ρ}{id:Nat}{l:List Oper}{b:Bool}(H:lt x f=some r)(h:C9 b n Γ T l a st=some (True,S x))(e:∀v,f v=some r->FX (cx P n y) (S v) .normal Q):VX (cx P n y) st (.region id l.toArray b) Q :=
 PO d g h trivial (e x H)
theorem zd(d:s6 P Γ)(g:∀c∈T,Ok P c)[i:H7 P](a:List Nat)(S:α->St){V:Prop}[Decidable V]{x:α}{f:α->Option ρ}{id:Nat}{l:List Oper}{b:Bool}(H:gd V (lt x f)=some r)(h:C9 b n Γ T l a st=some (V,S x))(e:∀v,f v=some r->FX (cx P n y) (S v) .normal Q):VX (cx P n y) st (.region id l.toArray b) Q :=
 PO d g h (DK H).1 (e x (DK H).2)
theorem qa(d:s6 P Γ)(f:∀c∈T,Ok P c)[g:H7 P](a:List Nat)(st':St){id:Nat}{l:List Oper}{b:Bool}{c:Code}(h:C9 b n Γ T l a st=some (True,st'))(e:VX (cx P n y) st' c Q):VX (cx P n y) st (.seq (.region id l.toArray b) c) Q :=
 vQ (za d f a st' h (fQ e))
theorem qb(d:s6 P Γ)(g:∀c∈T,Ok P c)[i:H7 P](a:List Nat)(st':St){V:Prop}[Decidable V]{e:Option ρ}{id:Nat}{l:List Oper}{b:Bool}{c:Code}(H:gd V e=some r)(h:C9 b n Γ T l a st=some (V,st'))(f:e=some r->VX (cx P n y) st' c Q):VX (cx P n y) st (.seq (.region id l.toArray b) c) Q :=
 vQ (zb d g a st' H h fun H=>fQ (f H))
theorem qc(d:s6 P Γ)(g:∀c∈T,Ok P c)[i:H7 P](a:List Nat)(S:α->St){x:α}{f:α->Option ρ}{id:Nat}{l:List Oper}{b:Bool}{c:Code}(H:lt x f=some r)(h:C9 b n Γ T l a st=some (True,S x))(e:∀v,f v=some r->VX (cx P n y) (S v) c Q):VX (cx P n y) st (.seq (.region id l.toArray b) c) Q :=
 vQ (zc d g a S H h fun v H=>fQ (e v H))
theorem qd(d:s6 P Γ)(g:∀c∈T,Ok P c)[i:H7 P](a:List Nat)(S:α->St){V:Prop}[Decidable V]{x:α}{f:α->Option ρ}{id:Nat}{l:List Oper}{b:Bool}{c:Code}(H:gd V (lt x f)=some r)(h:C9 b n Γ T l a st=some (V,S x))(e:∀v,f v=some r->VX (cx P n y) (S v) c Q):VX (cx P n y) st (.seq (.region id l.toArray b) c) Q :=
 vQ (zd d g a S H h fun v H=>fQ (e v H))
theorem cd{X:Cx}{c:Operand}{a d:Code}{b:Bool}{f g:Option ρ}(H:(if b=true then f else g)=some r)(e:Iq st c=some b)(i:f=some r->VX X st a Q)(j:g=some r->VX X st d Q):VX X st (.cond c a d) Q :=
 (UL e).elim fun _ k=>Uk k (fun h=>i (by grind)) (fun h=>j (by grind))
theorem jn{X:Cx}{b:Type}(r:ρ)(E:b->St)(J:b->Option ρ){a d:Code}(h:∀s,J s=some r->VX X (E s) d Q)(k:∀Q',(∀{s st'},J s=some r->DM st' (E s)=some (E s)->FX X st' .normal Q')->(∀{st' id},FX X st' (.exit id) Q->FX X st' (.exit id) Q')->(∀{st'},FX X st' .ret Q->FX X st' .ret Q')->VX X st a Q'):VX X st (.seq a d) Q :=
 vQ (k _ (fun H c=>fQ (A0b _ (UK c) (h _ H))) fE fR)
theorem lx{X:Cx}{c:Type}(E:c->St)(d:c){F:(c->Option ρ)->c->Option ρ}{a:Code}(H:lp F d=some r)(i:DM st (E d)=some (E d))
  (b:∀Q' (g:c->Option ρ),(∀{s st'},g s=some r->DM st' (E s)=some (E s)->FX X st' .normal Q')->(∀{st' id},FX X st' (.exit id) Q->FX X st' (.exit id) Q')->(∀{st'},FX X st' .ret Q->FX X st' .ret Q')->∀s,F g s=some r->VX X (E s) a Q'):VX X st (.loop a) Q:=by
 refine A0a (fun z:Nat×c=>E z.2) (fun z=>D7 F z.1 z.2=some r) (fun z=>z.1) (J3,d) H (UK i) ?_;rintro⟨m,s⟩ hz;cases m with
 | zero=>cases hz
 | succ m=>exact b _ (D7 F m) (fun {e st'} f h=>B0x (m,e) f (Nat.lt_succ_self m) (UK h)) m0h n0w s hz
end
def b9(f:FuncId)(ps:List m0){ρ:Type}[Inhabited ρ](F:s8 ps->Option ρ)(R:ρ->AV)(Z:ρ->A3 ps):Ct:=⟨f,ps,fun x=>⟨(F x).isSome=true,R (vl (F x)),Z (vl (F x))⟩⟩
def K0T(X:Cx)(Γ:m3)(rs:List ResultVar)(ps:List m0){ρ:Type}(R:ρ->AV)(Z:ρ->A3 ps)(r:ρ)(x:Exit)(Q:Exit->Act->World->Prop):Prop :=
 ∀{st:St} {e:ρ},some e=some r->PM Γ st rs ps (R e) (Z e)=some (R e,Z e)->FX X st x Q
theorem okl{P:Program}{Γ:m3}(l:s6 P Γ){f:FuncId}{ps:List m0}{i:Type}[Inhabited i]{F:s8 ps->Option i}{R:i->AV}{Z:i->A3 ps}{d:Func}{a:Code}{n:Nat}(rs:List ResultVar)
  (u:P.funcs[f]?=some d) (s:d.ntmps=n) (v:d.body=some a) (t:d.results=rs.toArray) (b:AT P f=true) (j:(Nat.ble ps.length n&&X8 ps)=true)
  (h:∀y x r,F x=some r->∀Q,K0T (cx P n y) Γ rs ps R Z r .normal Q->K0T (cx P n y) Γ rs ps R Z r .ret Q->VX (cx P n y) ⟨I1 0 ps x,F0 0 ps x⟩ a Q):Ok P (b9 f ps F R Z):=by
 refine I0f (c:=b9 f ps F R Z) l rs u s v t b j (fun y x o g Q m=>?_);have q:=s0w o;refine h y x _ q Q ?_ ?_
 ·intro k e b g;cases b;exact(m k (t0K g)).1
 ·intro k e b g;cases b;exact(m k (t0K g)).2
mutual
def frz:AV->AV
 | .ow _ fr t xs=>.d (fr||x7 t) (.sl t) xs
 | .agg xs=>.agg (frzs xs)
 | .tup xs=>.tup (frzs xs)
 | a=>a
def frzs:List AV->List AV
 | []=>[]
 | a :: r=>frz a :: frzs r
end
mutual
def Ir:AV->Bool
 | .ob ..=>false
 | .agg xs=>Mu xs
 | .tup xs=>Mu xs
 | _=>true
def Mu:List AV->Bool
 | []=>true
 | a :: r=>Ir a&&Mu r
end
theorem PQ{w:World}{T:TypeId}{t:Ty}{g:Option Nat}{u:Value}{xs:List (c7 t)}{cs:List Value}{K:Nat->Prop}(a:Own w T (sz t) g u xs.length cs)(k:AllR (RT K w t) cs xs)(j:∀b,g=some b->K b):RT K w (.sl t) [u] xs:=by
 cases g with
 | none =>
   rcases a with ⟨_,f,_,p,l⟩ | ⟨b,_,_,_,hb,_⟩
   ·have:xs=[]:=List.eq_nil_of_length_eq_zero f;subst this;exact⟨p,0,by grind,Nat.le_refl _,by omega,.inl rfl⟩
   grind
 | some b =>
   obtain⟨i,e,d,c⟩:=a.at;rcases a with ⟨h,_⟩ | ⟨b',o1,cap,cur,hb,hv2,k1,k2,k3,k4,k5⟩
   ·cases h
   ·cases hb;rw[hv2] at d; cases d;exact⟨_,e,by rw[hv2],k2,(by grind[maxLen]),.inr ⟨b,i,cs,rfl,j b rfl,c,k⟩⟩
mutual
theorem ResR.frz{K K':Bool->Nat->Prop}{w:World}(f:∀fr k,K fr k->K' fr k):∀{a:AV} {u:Value} {gs:List (Option Nat)},Ir a=true->(∀b,some b∈gs->∀fr,K' fr b)->ResR K w a u gs->ResR K' w (Xv.frz a) u []
 | .v _,_,_,_,_,h=>⟨h.1,rfl⟩
 | .d fr t x,u,gs,_,_,⟨h,_⟩=>⟨RT.up h (f fr),rfl⟩
 | .agg xs,u,gs,hn,hg,⟨us,e,h⟩=>⟨us,e,ResRs.frz f (by grind[Ir]) hg h⟩
 | .ob _ _,_,_,hn,_,_=>by grind[Ir]
 | .tup xs,u,gs,hn,hg,⟨us,e,h⟩=>⟨us,e,ResRs.frz f (by grind[Ir]) hg h⟩
 | .ow T fr t xs,u,gs,_,hg,⟨g,cs,e,_,hO,hA⟩=>by
   refine⟨PQ hO (hA.mapR (fun c x j=>?_)) (fun b i=>hg b (by grind) _),rfl⟩
   grind[x7,RT.free,RT.up]
theorem ResRs.frz{K K':Bool->Nat->Prop}{w:World}(c:∀fr k,K fr k->K' fr k):∀{as':List AV} {us:List Value} {gs:List (Option Nat)},Mu as'=true->(∀b,some b∈gs->∀fr,K' fr b)->ResRs K w as' us gs->ResRs K' w (Xv.frzs as') us []
 | [],us,gs,_,_,h=>⟨h.1,rfl⟩
 | a :: r,us,gs,hn,hg,⟨u,us',g1,g2,e1,e2,h1,h2⟩=>by
   simp only[Mu,ba] at hn;exact⟨u,us',[],[],e1,rfl,ResR.frz c hn.1 (fun b d=>hg b (by grind)) h1,ResRs.frz c hn.2 (fun b d=>hg b (by grind)) h2⟩
end
theorem IOR.up{K K':Nat->Prop}{w:World}{go:Option Nat}(a:∀k,K k->K' k):∀{ps:List m0} {z:A3 ps},IOR K w go ps z->IOR K' w go ps z
 | [],_,_=>trivial
 | .io _ _ :: _,_,⟨b,cs,h1,h2,h3⟩=>⟨b,cs,h1,h2,RT.up h3 a⟩
 | .dat _ :: r,_z,h=>IOR.up (ps:=r) a h
 | .agg _ :: r,_z,h=>IOR.up (ps:=r) a h
 | .fn _ _ :: r,_z,h=>IOR.up (ps:=r) a h
 | .nof _ :: r,_z,h=>IOR.up (ps:=r) a h
 | .nil :: r,_z,h=>IOR.up (ps:=r) a h
 | .os _ _ :: r,_z,h=>IOR.up (ps:=r) a h
theorem ResR.lt{K:Bool->Nat->Prop}{w:World}:∀{a:AV} {u:Value} {gs:List (Option Nat)},ResR K w a u gs->∀b,some b∈gs->UF w b:=by
 suffices H:(∀(a:AV) {u:Value} {gs:List (Option Nat)},ResR K w a u gs->∀b,some b∈gs->UF w b) from fun {a}=>H a
 intro a;refine AV.rec (motive_1:=fun a=>∀{u:Value} {gs:List (Option Nat)},ResR K w a u gs->∀b,some b∈gs->UF w b) (motive_2:=fun l=>∀{d:List Value} {gs:List (Option Nat)},ResRs K w l d gs->∀b,some b∈gs->UF w b) ?_ ?_ ?_ ?_ ?_ ?_ ?_ ?_ ?_ ?_ ?_ ?_ ?_ ?_ a
 ·intro x u gs h b c; rw[h.2] at c; cases c
 ·intro k t x u gs h b c; rw[h.2] at c; cases c
 ·intro f i u gs h b c; obtain⟨d,_,h⟩:=h; grind
 ·intro f i u gs h b c; obtain⟨d,_,h⟩:=h; grind
 ·intro _ _ u gs h; exact h.elim
 ·intro _ _ _ _ _ u gs h; exact h.elim
 ·intro _ _ u gs h; exact h.elim
 ·intro _ _ _ u gs h; exact h.elim
 ·intro T k t f u gs h b c;obtain⟨g,G,e,_,s,_⟩:=h
  grind[List.mem_singleton,Dx]
 ·intro _ _ u gs h; exact h.elim
 ·intro _ u gs h; exact h.elim
 ·intro T f i u gs h b c;obtain⟨y,d,n,e,_,F,h⟩:=h
  grind[Tw]
 ·intro d gs h b c; rw[h.2] at c; cases c
 ·intro a r o m d gs h b c;obtain⟨u,j,z,q,_,E,P,v⟩:=h
  grind
theorem GM{P:Program}{f:FuncId}{ps:List m0}{d:Type}[Inhabited d]{F:s8 ps->Option d}{R:d->AV}{Z:d->A3 ps}(h:Ok P (b9 f ps F R Z))(z:C7 ps=false:=by rfl)(i:∀r,Ir (R r)=true:=by intro _; rfl):Ok P (b9 f ps F (fun r=>frz (R r)) Z):=by
 refine⟨h.1,fun x s w o q K E t=>?_⟩;refine Calls.mono (h.2 x s w o q K E t) ?_;rintro T V ⟨v,y,e,u,Q,j,n,H⟩;have l:=ResR.lt n;have j:∀b,some b∈y->w.heap.size<=b:=fun b a=>(j b a).resolve_right (fun h=>by have m:C7 ps=true:=h.1; rw[z] at m; cases m);refine⟨v,[],e,u,trivial,(fun b a=>nomatch a),ResR.frz (fun G k c=>⟨c.1,c.2.1,by simp⟩) (i _) (fun b a G=>⟨.inr (j b a),(l b a).g,by simp⟩) n,IOR.up (fun k c=>⟨c.1,c.2.1,by simp,c.2.2.2⟩) H⟩
mutual
def V2(id ver:Nat)(fr:Bool)(t:Ty)(xs:List (c7 t)):AV->Option AV
 | .os i v=>bif Nat.beq i id then(bif Nat.beq v ver then some (.d fr (.sl t) xs) else none) else some (.os i v)
 | .pel i v k s off=>bif Nat.beq i id then none else some (.pel i v k s off)
 | .agg l=>L4 .agg (CL id ver fr t xs l)
 | .tup l=>L4 .tup (CL id ver fr t xs l)
 | .fn f l=>L4 (.fn f) (CL id ver fr t xs l)
 | .ptr i off=>bif Nat.beq i id then none else some (.ptr i off)
 | .v x=>some (.v x)
 | .d fr t x=>some (.d fr t x)
 | .ow T fr t x=>some (.ow T fr t x)
 | .ob T l=>some (.ob T l)
 | .og i=>bif Nat.beq i id then some (.d fr (.sl t) xs) else some (.og i)
 | .gel i k=>bif Nat.beq i id then none else some (.gel i k)
def CL(id ver:Nat)(fr:Bool)(t:Ty)(xs:List (c7 t)):List AV->Option (List AV)
 | []=>some []
 | a :: r=>match V2 id ver fr t xs a with
   | some b=>L4 (b :: ·) (CL id ver fr t xs r)
   | none=>none
end
def CM(id ver:Nat)(fr:Bool)(t:Ty)(xs:List (c7 t)):List (Nat×Sl)->List (Nat×Sl)
 | []=>[]
 | (k,s) :: r=>match V2 id ver fr t xs s.a with
   | some b=>(k,⟨s.p,b⟩) :: CM id ver fr t xs r
   | none=>CM id ver fr t xs r
def V3(id ver:Nat)(fr:Bool)(t:Ty)(xs:List (c7 t)):List (Nat×Ob)->Option (List (Nat×Ob))
 | []=>some []
 | (k,o) :: r=>bif Nat.beq k id then V3 id ver fr t xs r else(match o with
   | .box T cs=>match CL id ver fr t xs cs with
     | some cs'=>L4 ((k,.box T cs') :: ·) (V3 id ver fr t xs r)
     | none=>none
   | o=>L4 ((k,o) :: ·) (V3 id ver fr t xs r))
def Gu:List (Nat×Sl)->Bool
 | []=>true
 | (k,_) :: r=>(r.all fun x=>!Nat.beq x.1 k)&&Gu r
def PR(id:Nat)(st:St):Option St:=match a8 st.o id with
 | some (.arr _ fr t xs ver)=>bif Gu st.e then(match V3 id ver (fr||x7 t) t xs st.o with
   | some o=>some ⟨CM id ver (fr||x7 t) t xs st.e,o⟩
   | none=>none) else none
 | some (.grd _ _ fr t xs none)=>bif Gu st.e then(match V3 id 0 (fr||x7 t) (.sl t) xs st.o with
   | some o=>some ⟨CM id 0 (fr||x7 t) (.sl t) xs st.e,o⟩
   | none=>none) else none
 | _=>none
section
variable {X:Cx} {G:Gh} {id ver:Nat} {fr:Bool} {t:Ty} {xs:List (c7 t)}
def CN(G:Gh)(id:Nat)(o:List (Nat×Ob)):Gh:=⟨G.ρ,G.γ,fun k=>G.K k∨G.γ id=some k∨(C5 (a8 G.o id)=true/\G.δ id k),G.w,o,G.B,G.δ⟩
theorem CO{o:List (Nat×Ob)}:∀{l r:List (Nat×Ob)},V3 id ver fr t xs l=some r->∀i,(i=id->a8 r i=none)/\(i≠id->match a8 l i with
  | some (.box T cs)=>∃cs',CL id ver fr t xs cs=some cs'/\a8 r i=some (.box T cs')
  | some o=>a8 r i=some o
  | none=>a8 r i=none)
 | [],r,h,i=>by
   simp only[V3,oi] at h;subst h;exact⟨fun _=>rfl,fun _=>rfl⟩
 | (k,ob) :: l,r,h,i=>by
   unfold V3 at h;rw[ce] at h;split at h
   ·rename_i a;have a:=nb a;obtain⟨b,c⟩:=CO (o:=o) h i;refine⟨b,fun hi=>?_⟩;rw[lK,if_neg (by omega)]
    grind
   ·rename_i a;have a:k≠id:=fun e=>a (by simp_all);split at h
    ·rename_i T cs;split at h
     ·rename_i cs' g;obtain⟨z,hz,rfl⟩:=M7 h;obtain⟨b,c⟩:=CO (o:=o) hz i;refine⟨fun hi=>?_,fun hi=>?_⟩
      ·rw[lK,if_neg (by rw[hi]; exact a)]; exact b hi
      ·rw[lK,lK];by_cases e:k=i
       ·rw[if_pos e,if_pos e]; exact⟨cs',g,rfl⟩
       ·rw[if_neg e,if_neg e]; exact c hi
     ·cases h
    ·rename_i d;obtain⟨z,hz,rfl⟩:=M7 h;obtain⟨b,c⟩:=CO (o:=o) hz i;refine⟨fun hi=>?_,fun hi=>?_⟩
     ·rw[lK,if_neg (by rw[hi]; exact a)]; exact b hi
     ·rw[lK,lK];by_cases e:k=i
      ·rw[if_pos e,if_pos e];cases ob with
       | box T cs=>exact(d T cs rfl).elim
       | arr T f j x v=>rfl
       | grd T m f j x h=>rfl
      ·rw[if_neg e,if_neg e]; exact c hi
def Is(G:Gh)(id ver:Nat)(fr:Bool)(t:Ty)(xs:List (c7 t))(o':List (Nat×Ob)):Prop:=∀u,AVR G (.os id ver) u∨AVR G (.og id) u->AVR (CN G id o') (.d fr (.sl t) xs) u
mutual
theorem PS{o':List (Nat×Ob)}(g:Is G id ver fr t xs o')(hz:V3 id ver fr t xs G.o=some o'):∀{a b:AV} {u:Value},V2 id ver fr t xs a=some b->AVR G a u->AVR (CN G id o') b u
 | .os i v,b,u,h,c=>by
   unfold V2 at h;rw[ce] at h;have E:=c;obtain⟨P,w,n,y,j,q,m,r,Q⟩:=c;split at h
   ·rename_i hi;have hi:=nb hi;subst hi;rw[ce] at h;split at h
    ·rename_i V;have V:=nb V;subst V;cases h;exact g u (.inl E)
    grind
   ·rename_i hi;cases h;have hi:i≠id:=fun e=>hi (by simp_all);have:=(CO (o:=G.o) hz i).2 hi;rw[m] at this;exact⟨P,w,n,y,j,q,this,r,Q⟩
 | .og i,b,u,h,c=>by
   unfold V2 at h;rw[ce] at h;have E:=c;obtain⟨P,⟨w,Te1,n,y,j,F,m⟩,r⟩:=c;split at h
   ·rename_i hi;have hi:=nb hi;subst hi;cases h;exact g u (.inr E)
   ·rename_i hi;cases h;have hi:i≠id:=fun e=>hi (by simp_all);have:=(CO (o:=G.o) hz i).2 hi;rw[m] at this;exact⟨P,⟨w,Te1,n,y,j,F,this⟩,r⟩
 | .gel i k,b,u,h,c=>by
   unfold V2 at h;rw[ce] at h;obtain⟨⟨w,Te1,n,y,j,F,m⟩,r⟩:=c;split at h
   ·cases h
   ·rename_i hi;cases h;have hi:i≠id:=fun e=>hi (by simp_all);have:=(CO (o:=G.o) hz i).2 hi;rw[m] at this;exact⟨⟨w,Te1,n,y,j,F,this⟩,r⟩
 | .pel i v k s off,b,u,h,c=>by
   unfold V2 at h;rw[ce] at h;obtain⟨P,w,n,y,j,q,m,r,Q⟩:=c;split at h
   ·cases h
   ·rename_i hi;cases h;have hi:i≠id:=fun e=>hi (by simp_all);have:=(CO (o:=G.o) hz i).2 hi;rw[m] at this;exact⟨P,w,n,y,j,q,this,r,Q⟩
 | .ptr i off,b,u,h,c=>by
   unfold V2 at h;rw[ce] at h;obtain⟨⟨w,X,m⟩,r⟩:=c;split at h
   ·cases h
   ·rename_i hi;cases h;have hi:i≠id:=fun e=>hi (by simp_all);have:=(CO (o:=G.o) hz i).2 hi;rw[m] at this;obtain⟨T,_,Q⟩:=this;exact⟨⟨w,T,Q⟩,r⟩
 | .agg l,b,u,h,c=>by
   unfold V2 at h;obtain⟨z,m,rfl⟩:=M7 h;obtain⟨H,e,c⟩:=c;exact⟨H,e,Mv g hz m c⟩
 | .tup l,b,u,h,c=>by
   unfold V2 at h;obtain⟨z,m,rfl⟩:=M7 h;obtain⟨H,e,c⟩:=c;exact⟨H,e,Mv g hz m c⟩
 | .fn f l,b,u,h,c=>by
   unfold V2 at h;obtain⟨z,m,rfl⟩:=M7 h;obtain⟨H,e,c⟩:=c;exact⟨H,e,Mv g hz m c⟩
 | .v x,b,u,h,c=>by unfold V2 at h; cases h; exact c
 | .d f t' x,b,u,h,c=>by
   unfold V2 at h; cases h;exact RT.up c (fun k W=>⟨.inl W.1,W.2⟩)
 | .ow ..,b,u,h,c=>c.elim
 | .ob ..,b,u,h,c=>c.elim
theorem Mv{o':List (Nat×Ob)}(c:Is G id ver fr t xs o')(hz:V3 id ver fr t xs G.o=some o'):∀{as' bs:List AV} {us:List Value},CL id ver fr t xs as'=some bs->AVRs G as' us->AVRs (CN G id o') bs us
 | [],bs,us,h,hu=>by
   simp only[CL,oi] at h;subst h; exact hu
 | a :: r,bs,us,h,⟨u,us',e,h1,h2⟩=>by
   unfold CL at h;split at h
   ·rename_i b f;obtain⟨z,d,rfl⟩:=M7 h;exact⟨u,us',e,PS c hz f h1,Mv c hz d h2⟩
   grind
end
theorem v0O{T:TypeId}{g:Bool}(S:Sat X G)(h:a8 G.o id=some (.arr T g t xs ver))(l:fr=(g||x7 t))(o':List (Nat×Ob)):Is G id ver fr t xs o':=fun u q=>by
 rcases q with ⟨H,P,v,y,m,i,d,F,r⟩ | ⟨_,⟨_,_,_,_,_,_,d⟩,_⟩
 ·rw[h] at d;cases d;rw[r rfl];obtain⟨E,w,s,n⟩:=S.obs id _ h;refine PQ w (s.mapR (fun c x j=>?_)) (fun b f=>⟨.inr (.inl f),fun _=>n b f⟩);subst l;by_cases z:x7 t=true
  ·grind[RT.free]
  ·exact RT.up j (fun k a=>⟨.inl a.1,fun e=>a.2 (by grind)⟩)
 grind
theorem u0k{a:Type}{R:List Value->a->Prop}:∀{vs:List Value} {xs:List a},vs.length=xs.length->(∀(k:Nat) v x,vs[k]?=some v->xs[k]?=some x->R [v] x)->AllR R vs xs
 | [],[],_,_=>rfl
 | v :: vs,x :: xs,hl,h=>⟨[v],vs,rfl,h 0 v x rfl rfl,u0k (by grind) (fun k c b e d=>h (k+1) c b e d)⟩
 | [],_ :: _,hl,_=>by grind
 | _ :: _,[],hl,_=>by grind
theorem v0N{T Te:TypeId}{l:Bool}{xs:List (List (c7 t))}(S:Sat X G)(r:a8 G.o id=some (.grd T Te l t xs none))(z:fr=(l||x7 t))(o':List (Nat×Ob)):Is G id ver fr (.sl t) xs o':=fun u P=>by
 rcases P with ⟨h0,T1,V,Y,F,s,h1,h2,q⟩ | ⟨_,_,q⟩
 ·grind
 ·rw[q];obtain⟨w,bs,W,i,H⟩:=S.obs id _ r;refine PQ (t:=.sl t) W (u0k i.len (fun k v x Q f=>?_)) (fun b a=>⟨.inr (.inl a),fun _=>H b a⟩);have g:k<xs.length:=by
   rcases Nat.lt_or_ge k xs.length with h | h
   ·exact h
   ·rw[List.getElem?_eq_none h] at f; cases f
  obtain⟨cs,j,m,E⟩:=i.row k g (fun h=>by cases h);have ev:w.getD k (.bool false)=v:=by rw[gq,Q]; rfl
  have n:xs.getD k []=x:=by rw[gq,f]; rfl
  rw[ev,n] at j;rw[n] at m;refine PQ j (m.mapR (fun c x y=>?_)) (fun b a=>⟨.inr (.inr ⟨by rw[r]; rfl,(i.blk b).2 ⟨k,g,(fun h=>by cases h),a⟩⟩),fun _=>E b a⟩);subst z;by_cases g:x7 t=true
  ·grind[RT.free]
  ·exact RT.up y (fun k d=>⟨.inl d.1,fun e=>d.2 (by grind)⟩)
theorem UM{aD:Ob}{o':List (Nat×Ob)}(S:Sat X G)(ho:a8 G.o id=some aD)(Q:∀k,G.γ id=some k->UF G.w k/\G.B<=k)(F:Is G id ver fr t xs o')(hz:V3 id ver fr t xs G.o=some o')(aC:Nat.blt id 500000=true):Sat X (CN G id o'):=by
 have P:=CO (o:=G.o) hz;have d:∀i m,a8 o' i=some m->i≠id/\∃n,a8 G.o i=some n:=fun i m h=>by
  grind
 have H:∀i,C5 (a8 o' i)=true->i≠id/\C5 (a8 G.o i)=true:=fun i r=>by
  grind[LX,hi]
 refine⟨S.base,S.os,S.tape,S.output,S.size,S.block,?_,?_,?_,?_,?_,?_,?_,?_⟩
 ·intro i m h;obtain⟨hi,n,l⟩:=d i m h;have:=(P i).2 hi;rw[l] at this;have y:=S.obs i n l;cases n with
  | box Y aF =>
    obtain⟨z,e1,e2⟩:=this;have h:a8 o' i=some m:=h;rw[e2] at h;cases h;obtain⟨b,us,W,u,V,g4⟩:=y;exact⟨b,us,W,u,V,Mv F hz e1 g4⟩
  | arr Y aI t1 aB aL =>
    simp only at this;have h:a8 o' i=some m:=h;rw[this] at h;cases h;obtain⟨cs,W,u,V⟩:=y;exact⟨cs,W,u.mapR (fun c x hr=>RT.up hr (fun k a=>⟨.inl a.1,a.2⟩)),V⟩
  | grd Y Te1 aI t1 aB aJ =>
    simp only at this;have h:a8 o' i=some m:=h;rw[this] at h;cases h;obtain⟨vs,bs,W,u,V⟩:=y;refine⟨vs,bs,W,⟨u.len,u.blk,u.inj,fun k a hh=>?_,u.one⟩,V⟩;obtain⟨cs,r1,r2,r3⟩:=u.row k a hh;exact⟨cs,r1,r2.mapR (fun c x hr=>RT.up hr (fun k a=>⟨.inl a.1,a.2⟩)),r3⟩
 ·intro i i' m n b h h' q aH;obtain⟨_,s,l⟩:=d i m h;obtain⟨_,o2,h2⟩:=d i' n h';exact S.inj i i' s o2 b l h2 q aH
 ·intro i m b h q a;obtain⟨hi,s,l⟩:=d i m h;rcases a with a | a | ⟨r,a⟩
  ·exact S.imm i s b l q a
  ·exact hi (S.inj i id s _ b l ho q a)
  ·exact(S.sep id b a r).2.2.1 i s l q
 ·intro i m b h q;obtain⟨_,s,l⟩:=d i m h;exact S.own i s b l q
 ·intro k a;rcases a with a | a | ⟨r,a⟩
  ·exact S.klt k a
  ·exact(Q k a).1.g
  ·exact(S.duf a r).g
 ·intro k a;rcases a with a | a | ⟨r,a⟩
  ·exact S.kfrom k a
  ·exact .inr (by rw[<- S.base.1]; exact(Q k a).2)
  ·obtain⟨T,Te,f,t,xs,aK,e⟩:=LX r;obtain⟨vs,bs,_,hR,_⟩:=S.obs id _ e;obtain⟨j,E,hh,q⟩:=(hR.blk k).1 a;obtain⟨_,_,_,h3⟩:=hR.row j E hh;exact .inr (by rw[<- S.base.1]; exact h3 k q)
 ·intro i b q r;obtain⟨hi,r⟩:=H i r;obtain⟨s1,s2,s3,s4⟩:=S.sep i b q r;refine⟨s1,?_,fun j o E aG=>?_,fun j E aA=>s4 j E (H j aA).2⟩
  ·rintro(a | a | ⟨aM,a⟩)
   ·grind
   ·grind
   grind
  ·obtain⟨_,s,l⟩:=d j o E;exact s3 j s l aG
 ·intro i v hv;obtain⟨⟨Y,aF,l⟩,h2⟩:=S.pin i v hv;have hi:500000+i≠id:=fun e=>by
   have:id<500000:=by simpa using aC
   omega
  have:=(P (500000+i)).2 hi;rw[l] at this;obtain⟨z,_,e⟩:=this;exact⟨⟨Y,z,e⟩,h2⟩
theorem It:∀{e:List (Nat×Sl)},Gu e=true->∀{k:Nat} {s:Sl},a8 (CM id ver fr t xs e) k=some s->∃a,a8 e k=some ⟨s.p,a⟩/\V2 id ver fr t xs a=some s.a
 | [],_,k,s,h=>by cases h
 | (j,s0) :: r,hn,k,s,h=>by
   simp only[Gu,ba,List.all_eq_true,Bool.not_eq_true'] at hn;unfold CM at h;split at h
   ·rename_i b f;rw[lK] at h ⊢;split at h
    ·rename_i e;cases h;exact⟨s0.a,by simp_all,f⟩
    ·rename_i e;rw[if_neg e];exact It hn.2 h
   ·obtain⟨a,m,c⟩:=It hn.2 h;refine⟨a,?_,c⟩;rw[lK];split
    ·rename_i e;exfalso;have:∀{e:List (Nat×Sl)},(∀x∈e,Nat.beq x.1 j=false)->a8 e j=none:=by
      intro e
      induction e with
      | nil=>intro _; rfl
      | cons y r l =>
        intro i;obtain⟨d,v⟩:=y;rw[lK,if_neg]
        ·grind
        ·intro g
         simp_all
     grind
    omega
end
theorem I0S{X:Cx}{st st':St}{id:Nat}(h:PR id st=some st')(j:Nat.blt id 500000=true){G:Gh}{a:Act}(S:Sat X G)(u:G.o=st.o)(i:EnvR X.n G st.e a):∃G',Sat X G'/\G'.o=st'.o/\G'.w=G.w/\EnvR X.n G' st'.e a:=by
 unfold PR at h;split at h
 ·rename_i T E t V ver d;rw[ce] at h;split at h
  ·rename_i q;split at h
   ·rename_i l hz;cases h;rw[<- u] at d hz;have c:=v0O S d rfl l;obtain⟨z,m,x,f⟩:=S.obs id _ d;refine⟨CN G id l,UM S d (fun k g=>⟨by grind[Dx],f k g⟩) c hz j,rfl,rfl,i.defers,i.size,fun k s g=>?_⟩;obtain⟨b,r,F⟩:=It q g;obtain⟨Q,H⟩:=i.val k _ r
    grind[PS]
   grind
  grind
 ·rename_i T W E t V d;rw[ce] at h;split at h
  ·rename_i q;split at h
   ·rename_i l hz;cases h;rw[<- u] at d hz;have c:=v0N (ver:=0) S d rfl l;obtain⟨v,y,m,P,f⟩:=S.obs id _ d;refine⟨CN G id l,UM S d (fun k g=>⟨by grind[Dx],f k g⟩) c hz j,rfl,rfl,i.defers,i.size,fun k s g=>?_⟩;obtain⟨b,r,F⟩:=It q g;obtain⟨Q,H⟩:=i.val k _ r
    grind[PS]
   grind
  grind
 grind
theorem fz{X:Cx}{st:St}{c:Code}{Q:Exit->Act->World->Prop}(id:Nat)(st':St)(h:PR id st=some st')(e:Nat.blt id 500000=true)(k:VX X st' c Q):VX X st c Q:=fun G a S f g=>by
 obtain⟨l,i,d,j,b⟩:=I0S h e S f g;have:=k l a i d b
 grind
theorem YT{X:Cx}{st:St}{c:Code}{Q:Exit->Act->World->Prop}{a:Type}{r:a}(H:none=some r):VX X st c Q:=by cases H
def Iu:List m0->Bool
 | []=>true
 | .dat (.int _) :: r=>Iu r
 | .dat .bool :: r=>Iu r
 | .dat .str :: r=>Iu r
 | _=>false
def sc:(ps:List m0)->s8 ps->List Value
 | [],_=>[]
 | .dat (.int k) :: r,x=>.int k x.1 :: sc r x.2
 | .dat .bool :: r,x=>.bool x.1 :: sc r x.2
 | .dat .str :: r,x=>.string x.1 :: sc r x.2
 | _ :: r,x=>sc r x.2
theorem PT{K:Nat->Prop}{w:World}:∀{ps:List m0} {x:s8 ps} {vs:List Value} {go:Option Nat},Iu ps=true->ArgsR K w go ps x vs->vs=sc ps x/\go=none
 | [],x,vs,go,_,h=>h
 | .dat (.int k) :: r,x,vs,go,hs,⟨v,us,e,a,h⟩=>by
   obtain⟨b,c⟩:=PT (ps:=r) hs h;refine⟨?_,c⟩;rw[e,b];have a:=a.1;simp only[List.cons.injEq,and_true] at a;rw[a]; rfl
 | .dat .bool :: r,x,vs,go,hs,⟨v,us,e,a,h⟩=>by
   obtain⟨b,c⟩:=PT (ps:=r) hs h;refine⟨?_,c⟩;rw[e,b];have a:[v]=_:=a;simp only[List.cons.injEq,and_true] at a;rw[a]; rfl
 | .dat .str :: r,x,vs,go,hs,⟨v,us,e,a,h⟩=>by
   obtain⟨b,c⟩:=PT (ps:=r) hs h;refine⟨?_,c⟩;rw[e,b];have a:=a.1;simp only[List.cons.injEq,and_true] at a;rw[a]; rfl
theorem PU{K:Nat->Prop}{w:World}{go:Option Nat}:∀{ps:List m0} (z:A3 ps),Iu ps=true->IOR K w go ps z
 | [],_,_=>trivial
 | .dat (.int _) :: r,z,h=>PU (ps:=r) z h
 | .dat .bool :: r,z,h=>PU (ps:=r) z h
 | .dat .str :: r,z,h=>PU (ps:=r) z h
theorem z0E{P:Program}{f:FuncId}{ps:List m0}{a:Type}[Inhabited a]{F:s8 ps->Option a}{t:Ty}{D:a->c7 t}{Z:a->A3 ps}(c:Iu ps=true)(l:AT P f=true)
  (h:∀x r w,F x=some r->wfs ps x->Calls P f (sc ps x).toArray w fun en w'=>∃v,en=.returned v/\Ext w w'/\RT (fun _=>False) w' t [v] (D r)):Ok P (b9 f ps F (fun r=>.d true t (D r)) Z):=by
 refine⟨l,fun x i w q s K u g=>?_⟩;obtain⟨rfl,rfl⟩:=PT c g;refine Calls.mono (h x _ w (s0w i) g.wfs) ?_;rintro en w' ⟨v,e,j,n⟩;exact⟨v,[],e,WE.of_ext j,trivial,(fun b o=>nomatch o),⟨RT.up n (fun k m=>m.elim),rfl⟩,PU _ c⟩
theorem F0o{K:Nat->Prop}{w:World}{k:IntKind}{x:Int}(h:lo k<=x/\x<=hi k):RT K w (.int k) [.int k x] x:=⟨rfl,h⟩
theorem F0n{K:Nat->Prop}{w:World}{s:ByteArray}(h:s.size<=9223372036854775807):RT K w .str [.string s] s:=⟨rfl,h⟩
end Go.Proofs.Xv
end
section
namespace Go.Proofs.Xl
instance K0J{α β:Type}[Inhabited α]:Inhabited (α ⊕ β):=⟨.inl default⟩
def Ll{α β:Type}:Option (α ⊕ β)->Bool
 | some (.inl _)=>true
 | _=>false
def RH{α β:Type}:Option (α ⊕ β)->Bool
 | some (.inr _)=>true
 | _=>false
def vL{α β:Type}[Inhabited α]:Option (α ⊕ β)->α
 | some (.inl a)=>a
 | _=>default
def vR{α β:Type}[Inhabited β]:Option (α ⊕ β)->β
 | some (.inr b)=>b
 | _=>default
def two{α β γ:Type}(f:α->γ)(g:β->γ):α ⊕ β->γ
 | .inl a=>f a
 | .inr b=>g b
end Go.Proofs.Xl
namespace Go.Proofs.Xv
open Go Go.RowKit Go.Proofs.Sv Go.Proofs.Xl
def RF(f:FuncId)(ps:List m0){α β:Type}[Inhabited α](F:s8 ps->Option (α ⊕ β))(R:α->AV)(z:A3 ps):Ct:=⟨f,ps,fun x=>⟨Ll (F x)=true,R (vL (F x)),z⟩⟩
def RG(f:FuncId)(ps:List m0){α β:Type}[Inhabited β](F:s8 ps->Option (α ⊕ β))(R:β->AV)(z:A3 ps):Ct:=⟨f,ps,fun x=>⟨RH (F x)=true,R (vR (F x)),z⟩⟩
theorem M0q{P:Program}{f:FuncId}{ps:List m0}{d e:Type}[Inhabited (d ⊕ e)][Inhabited d]{F:s8 ps->Option (d ⊕ e)}{g:d->AV}{RB:e->AV}{z:A3 ps}(h:Ok P (b9 f ps F (two g RB) (fun _=>z))):Ok P (RF f ps F g z):=by
 refine⟨h.1,fun x c w i j K k l=>?_⟩;have c:Ll (F x)=true:=c;cases hF:F x with
 | none=>rw[hF] at c; cases c
 | some s =>
   cases s with
   | inr b=>rw[hF] at c; cases c
   | inl a =>
     have:=h.2 x (show(F x).isSome=true by grind) w i j K k l;simp only[b9,RF] at this ⊢;rw[hF] at this ⊢;exact this
theorem M0p{P:Program}{f:FuncId}{ps:List m0}{e d:Type}[Inhabited (e ⊕ d)][Inhabited d]{F:s8 ps->Option (e ⊕ d)}{l:e->AV}{RB:d->AV}{z:A3 ps}(h:Ok P (b9 f ps F (two l RB) (fun _=>z))):Ok P (RG f ps F RB z):=by
 refine⟨h.1,fun x c w g i K j k=>?_⟩;have c:RH (F x)=true:=c;cases hF:F x with
 | none=>rw[hF] at c; cases c
 | some s =>
   cases s with
   | inl b=>rw[hF] at c; cases c
   | inr a =>
     have:=h.2 x (show(F x).isSome=true by grind) w g i K j k;simp only[b9,RG] at this ⊢;rw[hF] at this ⊢;exact this
theorem sp{X:Cx}{st:St}{c:Code}{Q:Exit->Act->World->Prop}{e:Type}{r:e}{b:Bool}{a d:Option e}(H:(if b=true then a else d)=some r)(f:a=some r->VX X st c Q)(g:d=some r->VX X st c Q):VX X st c Q:=by
 grind
end Go.Proofs.Xv
end
section
namespace Go.Proofs.Xv
open Go Go.RowKit Go.Proofs.Sv Go.Proofs.Xl
abbrev Z(e:List (Nat×Sl))(o:List (Nat×Ob)):St:=⟨e,o⟩
abbrev R(i:Nat):AV:=.ptr i 0
abbrev O(i:Nat):AV:=.os i 0
abbrev A(T:TypeId)(t:Ty)(xs:List (c7 t))(v:Nat):Ob:=.arr T true t xs v
abbrev K(T:TypeId)(t:Ty)(x:c7 t):Ob:=.box T (s5 false t x)
class HG(P:Program)(Γ:outParam m3):Prop where
 h:s6 P Γ
class HT(P:Program)(T:outParam (List Ct)):Prop where
 h:∀c∈T,Ok P c
def UN(st:St):List Nat:=st.e.map Prod.fst
section
variable {P:Program} {n:Nat} {y:World×(Nat->Prop)×(Nat->Prop)×(Nat->Value->Prop)×Nat} {st:St} {Q:Exit->Act->World->Prop} {Γ:m3} {T:List Ct} {ρ α:Type} {r:ρ}
theorem zD[a:HG P Γ][d:HT P T][e:H7 P](S:α->St){V:Prop}[Decidable V]{x:α}{f:α->Option ρ}{id:Nat}{l:List Oper}{b:Bool}(H:gd V (lt x f)=some r)(c:∀v,f v=some r->FX (cx P n y) (S v) .normal Q)(h:C9 b n Γ T l (UN (S x)) st=some (V,S x):=by kernel_rfl):VX (cx P n y) st (.region id l.toArray b) Q:=zd a.h d.h _ S H h c
theorem qC[a:HG P Γ][e:HT P T][g:H7 P](S:α->St){x:α}{f:α->Option ρ}{id:Nat}{l:List Oper}{b:Bool}{c:Code}(H:lt x f=some r)(d:∀v,f v=some r->VX (cx P n y) (S v) c Q)(h:C9 b n Γ T l (UN (S x)) st=some (True,S x):=by kernel_rfl):VX (cx P n y) st (.seq (.region id l.toArray b) c) Q:=qc a.h e.h _ S H h d
theorem qD[a:HG P Γ][e:HT P T][g:H7 P](S:α->St){V:Prop}[Decidable V]{x:α}{f:α->Option ρ}{id:Nat}{l:List Oper}{b:Bool}{c:Code}(H:gd V (lt x f)=some r)(d:∀v,f v=some r->VX (cx P n y) (S v) c Q)(h:C9 b n Γ T l (UN (S x)) st=some (V,S x):=by kernel_rfl):VX (cx P n y) st (.seq (.region id l.toArray b) c) Q:=qd a.h e.h _ S H h d
theorem cD{X:Cx}{c:Operand}{a d:Code}{b:Bool}{e f:Option ρ}(H:(if b=true then e else f)=some r)(i:e=some r->VX X st a Q)(g:f=some r->VX X st d Q)(h:Iq st c=some b:=by kernel_rfl):VX X st (.cond c a d) Q:=cd H h i g
theorem jN{X:Cx}{b:Type}(r:ρ)(E:b->St)(J:b->Option ρ){a d:Code}(h:∀s,J s=some r->VX X (E s) d Q)(k:∀Q',(∀{s st'},J s=some r->(h:DM st' (E s)=some (E s):=by kernel_rfl)->FX X st' .normal Q')->(∀{st' id},FX X st' (.exit id) Q->FX X st' (.exit id) Q')->(∀{st'},FX X st' .ret Q->FX X st' .ret Q')->VX X st a Q'):VX X st (.seq a d) Q:=jn r E J h (fun Q' n e t=>k Q' (fun H h=>n H h) e t)
theorem lX{X:Cx}{c:Type}(E:c->St)(d:c){F:(c->Option ρ)->c->Option ρ}{a:Code}(H:lp F d=some r)
 (b:∀Q' (g:c->Option ρ),(∀{s st'},g s=some r->(h:DM st' (E s)=some (E s):=by kernel_rfl)->FX X st' .normal Q')->(∀{st' id},FX X st' (.exit id) Q->FX X st' (.exit id) Q')->(∀{st'},FX X st' .ret Q->FX X st' .ret Q')->∀s,F g s=some r->VX X (E s) a Q') (f:DM st (E d)=some (E d):=by kernel_rfl):VX X st (.loop a) Q:=lx E d H f (fun Q' g n e t s H=>b Q' g (fun H h=>n H h) e t s H)
theorem fZ{X:Cx}{c:Code}(id:Nat)(st':St)(k:VX X st' c Q)(h:PR id st=some st':=by kernel_rfl)(a:Nat.blt id 500000=true:=by kernel_rfl):VX X st c Q:=fz id st' h a k
end
def PV(X:Cx)(Γ:m3)(rs:List ResultVar)(ps:List m0){ρ:Type}(R:ρ->AV)(Z:ρ->A3 ps)(r:ρ)(x:Exit)(Q:Exit->Act->World->Prop):Prop :=
 ∀{st:St} {e:ρ},some e=some r->(h:PM Γ st rs ps (R e) (Z e)=some (R e,Z e):=by kernel_rfl)->FX X st x Q
theorem okL{P:Program}{Γ:m3}[i:HG P Γ]{f:FuncId}{ps:List m0}{e:Type}[Inhabited e]{F:s8 ps->Option e}{R:e->AV}{Z:e->A3 ps}{d:Func}{c:Code}{n:Nat}(rs:List ResultVar)
  (m:P.funcs[f]?=some d) (k:d.ntmps=n) (l:d.results=rs.toArray)
  (h:∀y x r,F x=some r->∀Q,PV (cx P n y) Γ rs ps R Z r .normal Q->PV (cx P n y) Γ rs ps R Z r .ret Q->VX (cx P n y) ⟨I1 0 ps x,F0 0 ps x⟩ c Q)
  (o:d.body=some c:=by rfl) (j:AT P f=true:=by kernel_rfl) (g:(Nat.ble ps.length n&&X8 ps)=true:=by rfl):Ok P (b9 f ps F R Z) :=
 okl i.h rs m k o l j g (fun y x r H Q a b=>h y x r H Q (fun H h=>a H h) (fun H h=>b H h))
end Go.Proofs.Xv
end
section
namespace Go.Proofs.Xv
open Go Go.Proofs Go.Proofs.Sv
def UO(P:Program)(T:TypeId):Nat->List (Nat×Nat)->List (Option (Nat×Bool))
 | _,[]=>[]
 | k,_ :: r=>LV P T k :: UO P T (k+1) r
theorem z0Q{P:Program}{T:TypeId}:∀{l:List (Nat×Nat)} {k:Nat},UO P T k l=l.map (fun x=>some (x.1,true))->OU P T k l
 | [],_,_=>trivial
 | _ :: _,_,h=>⟨(List.cons.inj h).1,z0Q (List.cons.inj h).2⟩
abbrev G0k:=(Option (Nat×Nat×Option Value)×Bool×Bool×Bool)×Bool×Option (List (Nat×Nat))×Bool×List (Option (Nat×Bool))×Bool×Option (List (Bool×Bool))×Option TypeDesc
def UP(P:Program)(x:Nat×TI):G0k :=
 ((OK P x.1,BG x.2.zero.cells.toList x.2.size,Nat.blt 0 x.2.size,ones x.2.zero.cells.toList),match x.2.kd with
 | .agg pl e _=>(Al P x.1,HN P x.1,LW P x.1,UO P x.1 0 pl,(!e||Tz P x.1),TA P x.1,none)
 | .arr _ _=>(Al P x.1,none,true,[],true,none,P.underlying x.1)
 | .oth=>(P4 P x.1,none,true,[],true,none,none)
 | _=>(P4 P x.1,none,true,[],true,none,P.underlying x.1))
def UQ(P:Program)(x:Nat×TI):G0k :=
 ((some (x.2.size,x.2.bytes,some x.2.zero),true,true,true),match x.2.kd with
 | .agg pl _ ag=>(true,some pl,true,pl.map (fun x=>some (x.1,true)),true,some (ag.map fun b=>(b,!b)),none)
 | .arr m E=>(true,none,true,[],true,none,some (.array m E))
 | .sl E=>(true,none,true,[],true,none,some (.slice E))
 | .str=>(true,none,true,[],true,none,some .string)
 | .bool=>(true,none,true,[],true,none,some .bool)
 | .int k=>(true,none,true,[],true,none,some (.int k))
 | .ptr=>(true,none,true,[],true,none,some (.pointer (P.pointee x.1)))
 | .oth=>(true,none,true,[],true,none,none))
theorem H0O{P:Program}{x:Nat×TI}(h:UP P x=UQ P x):FV P x.1 x.2:=by
 obtain⟨T,c,b,zero,g,k⟩:=x;unfold UP UQ at h;simp only[pj] at h;obtain⟨⟨i,d,j,f⟩,a⟩:=h;refine⟨i,d,j,f,?_⟩;cases g <;> simp only[pj] at a <;> unfold OW
 ·exact⟨a.1,a.2.1,a.2.2.1,z0Q a.2.2.2.1,fun e=>by simpa [e] using a.2.2.2.2.1,a.2.2.2.2.2.1⟩
 ·exact⟨a.1,a.2.2.2.2.2.2⟩
 ·exact⟨a.1,a.2.2.2.2.2.2⟩
 ·exact⟨a.1,a.2.2.2.2.2.2⟩
 ·exact⟨a.1,a.2.2.2.2.2.2⟩
 ·exact⟨a.1,a.2.2.2.2.2.2⟩
 ·exact a.1
 ·exact⟨a.1,a.2.2.2.2.2.2⟩
theorem F0f{P:Program}{Γ:m3}(h:Γ.map (UP P)=Γ.map (UQ P)):s6 P Γ:=by
 induction Γ with
 | nil=>exact A0F
 | cons x r a =>
   simp only[List.map_cons,List.cons.injEq] at h;exact tK (H0O h.1) (a h.2)
end Go.Proofs.Xv
end
