/- Calls by contracts. Over any program. -/
import Derived.Test.YtlfeppknkfknhaaGreatDoorXA
import Derived.KernelRfl
set_option maxHeartbeats 0
section
namespace Go.Proofs.Xv
open Go Go.RowKit Go.Proofs.Sv
theorem Sat.after{X:Cx}{G:Gh}(S:Sat X G){w':World}{go:Option Nat}(hw:WE go G.w w'){K':Nat->Prop}(hK:∀k,G.K k->K' k)(hlt:∀k,K' k->UFg w' X.w0.heap.size k)(hfrom:∀k,K' k->X.K0 k∨X.base<=k)
  (hdis:∀id o b,lku G.o id=some o->G.γ id=some b->¬K' b) (hdl:∀id b,G.δ id b->isGrd (lku G.o id)=true->¬K' b) {upd:List (Nat×Ob)}
  (hu:(go=none/\upd=[])∨∃id b T cs0 t,∃z:den t,go=some b/\upd=[(id,Ob.box T (cellsD false t z))]/\lku G.o id=some (.box T cs0)/\G.γ id=some b/\∃us,Blk w' b us T/\RT K' w' t us z) :
  Sat X ⟨G.ρ,G.γ,K',w',upd++G.o,G.B,G.δ⟩/\GLe G ⟨G.ρ,G.γ,K',w',upd++G.o,G.B,G.δ⟩:=by
 have hgoK:∀k,G.K k->go≠some k:=fun k hk e=>by
  grind
 have hblk:∀k,G.K k->k<G.w.heap.size->w'.heap[k]?=G.w.heap[k]?:=fun k hk hl=>hw.block k hl (hgoK k hk)
 -- where the objects stand
 have hlk:∀i,(∃T cs0 t,∃z:den t,lku (upd++G.o) i=some (.box T (cellsD false t z))/\lku G.o i=some (.box T cs0)/\go=G.γ i/\(∃b us,G.γ i=some b/\Blk w' b us T/\RT K' w' t us z))∨(lku (upd++G.o) i=lku G.o i/\∀o b,lku G.o i=some o->G.γ i=some b->go≠some b):=fun i=>by
  rcases hu with ⟨rfl,rfl⟩ | ⟨id,b,T,cs0,t,z,rfl,rfl,ho,hγ,us,hB,hR⟩
  ·grind
  ·by_cases e:id=i
   ·subst e;exact .inl ⟨T,cs0,t,z,by rw[List.cons_append,lK,if_pos rfl],ho,hγ.symm,b,us,hγ,hB,hR⟩
   ·refine .inr ⟨by rw[List.cons_append,lK,if_neg e]; rfl,fun o b' ho' hb' e'=>?_⟩;cases e';exact e (S.inj id i _ _ b ho ho' hγ hb')
 have hle:GLe G ⟨G.ρ,G.γ,K',w',upd++G.o,G.B,G.δ⟩:=by
  refine⟨rfl,fun k hk hl=>⟨hK k hk,hblk k hk hl⟩,fun i T cs hi=>⟨rfl,?_⟩,fun i T Te fr t xs hole hi=>⟨rfl,?_⟩,fun i T fr t xs ver hi=>?_⟩
  ·grind
  ·grind
  ·grind
 have hback:∀i o,lku (upd++G.o) i=some o->∃o',lku G.o i=some o':=fun i o h=>by
  grind
 have hgb:∀i,isGrd (lku (upd++G.o) i)=true->isGrd (lku G.o i)=true:=fun i h=>by
  rcases hlk i with ⟨T',_,t,z,h1,_⟩ | ⟨h1,_⟩
  ·rw[h1] at h; cases h
  grind
 refine⟨⟨S.base,hw.os.trans S.os,hw.tape.trans S.tape,hw.output.trans S.output,Nat.le_trans S.size hw.size,fun k hk hi=>?_,?_,?_,?_,?_,hlt,hfrom,fun i b hb hg=>?_,fun i v h=>(S.pin i v h).mono hle⟩,hle⟩
 rotate_right
 ·have hg:=hgb i hg;obtain⟨s1,s2,s3,s4⟩:=S.sep i b hb hg
  grind
 ·refine(hw.block k (Nat.lt_of_lt_of_le hk S.size) (fun e=>?_)).trans (S.block k hk hi);rcases hu with ⟨rfl,_⟩ | ⟨id,b,T,cs0,t,z,rfl,_,ho,hγ,_⟩
  ·cases e
  ·cases e;rcases S.own id _ k ho hγ with h | h
   ·omega
   grind
 ·intro i o ho;rcases hlk i with ⟨T,cs0,t,z,h1,h2,_,b,us,h3,h4,h5⟩ | ⟨h1,h2⟩
  ·rw[h1] at ho;cases ho;obtain⟨b',us',g1,g2,_⟩:=S.obs i _ h2;rw[h3] at g1;cases g1;exact⟨b,us,h3,g2,h4,cellsD_sound (RT.up h5 (fun k hk=>⟨hk,(fun e=>by cases e)⟩))⟩
  ·have ho':lku G.o i=some o:=by rw[<- h1]; exact ho
   have:=S.obs i o ho';cases o with
   | box T cs =>
     obtain⟨b,us,g1,g2,g3,g4⟩:=this;exact⟨b,us,g1,g2,g3.we hw (fun j hj e=>by grind),g4.mono hle⟩
   | arr T fr t xs ver =>
     obtain⟨cs,g1,g2,g3⟩:=this;exact⟨cs,g1.we hw (fun j hj e=>h2 _ j ho' e hj),g2.mapR (fun c x hr=>RT.same (w:=G.w) hle.hR hr),g3⟩
   | grd T Te fr t xs hole =>
     obtain⟨vs,bs,g1,g2,g3⟩:=this;refine⟨vs,bs,g1.we hw (fun j hj e=>h2 _ j ho' e hj),g2.up hle (fun _=>Iff.rfl) hw (fun b hb hgb=>?_),g3⟩;rcases hu with ⟨rfl,_⟩ | ⟨id,b',T,cs0,t,z,rfl,_,ho2,hγ,_⟩
     ·grind
     ·cases hgb;exact(S.sep i b hb (by rw[ho']; rfl)).2.2.1 id _ ho2 hγ
 ·intro i i' o o' b ho ho' hb hb';obtain⟨o1,h1⟩:=hback i o ho;obtain⟨o2,h2⟩:=hback i' o' ho';exact S.inj i i' o1 o2 b h1 h2 hb hb'
 ·grind
 ·intro i o b ho hb;obtain⟨o1,h1⟩:=hback i o ho;exact S.own i o1 b h1 hb
theorem Sat.add{X:Cx}{G:Gh}(S:Sat X G){id:Nat}{ob:Ob}{r:Value}{g:Option Nat}(hd:lku G.o id=none)(hg:∀b,g=some b->(X.w0.heap.size<=b∨X.io b)/\¬G.K b/\(∀i o,lku G.o i=some o->G.γ i≠some b)/\∀i,G.δ i b->isGrd (lku G.o i)=true->False)
  (hob:GLe G (G.put id ob r g G.w)->ObR (G.put id ob r g G.w) id ob):Sat X (G.put id ob r g G.w)/\GLe G (G.put id ob r g G.w):=by
 have hlk:∀i,lku (G.put id ob r g G.w).o i=if id=i then some ob else lku G.o i:=fun i=>lK _ _ _ _
 have hne:∀i o,lku G.o i=some o->¬id=i:=fun i o h e=>by grind
 have hle:GLe G (G.put id ob r g G.w):=by
  refine⟨rfl,fun k hk _=>⟨hk,rfl⟩,fun i T cs hi=>?_,fun i T Te fr t xs hole hi=>?_,fun i T fr t xs ver hi=>?_⟩
  ·grind[Gh.put]
  ·grind[Gh.put]
  ·have e:=hne i _ hi;rw[hlk,if_neg e];simp only[Gh.put,if_neg (Ne.symm e)]
   grind
 refine⟨⟨S.base,S.os,S.tape,S.output,S.size,S.block,?_,?_,?_,?_,S.klt,S.kfrom,fun i b hb hgd=>?_,fun i v h=>(S.pin i v h).mono hle⟩,hle⟩
 rotate_right
 ·obtain⟨hn,hb⟩:=hb;rw[hlk,if_neg (Ne.symm hn)] at hgd;obtain⟨s1,s2,s3,s4⟩:=S.sep i b hb hgd;refine⟨s1,s2,fun j o ho hj=>?_,fun j hj hgj=>?_⟩
  ·grind[Gh.put]
  ·obtain⟨hn',hj⟩:=hj
   grind
 ·intro i o ho;rw[hlk] at ho;by_cases e:id=i
  ·grind
  ·rw[if_neg e] at ho;have:=S.obs i o ho;cases o with
   | box T cs =>
     obtain⟨b,us,h1,h2,h3,h4⟩:=this;exact⟨b,us,by grind[Gh.put],by grind[Gh.put],h3,h4.mono hle⟩
   | arr T fr t xs ver =>
     obtain⟨cs,h1,h2,h3⟩:=this;exact⟨cs,by grind[Gh.put],h2,by grind[Gh.put]⟩
   | grd T Te fr t xs hole =>
     obtain⟨vs,bs,h1,h2,h3⟩:=this;exact⟨vs,bs,by grind[Gh.put],h2.up hle (fun b=>⟨fun h=>h.2,fun h=>⟨Ne.symm e,h⟩⟩) (WE.refl (g:=none) _) (fun _ _ h=>by cases h),by grind[Gh.put]⟩
 ·intro i i' o o' b ho ho' hb hb';rw[hlk] at ho ho';simp only[Gh.put] at hb hb';by_cases e:i=id
  ·grind
  ·rw[if_neg e] at hb;rw[if_neg (Ne.symm e)] at ho;by_cases e':i'=id
   ·grind
   ·rw[if_neg e'] at hb';rw[if_neg (Ne.symm e')] at ho';exact S.inj i i' o o' b ho ho' hb hb'
 ·intro i o b ho hb hk;rw[hlk] at ho;simp only[Gh.put] at hb hk;by_cases e:i=id
  ·grind
  ·rw[if_neg e] at hb;rw[if_neg (Ne.symm e)] at ho;exact S.imm i o b ho hb hk
 ·intro i o b ho hb;rw[hlk] at ho;simp only[Gh.put] at hb;by_cases e:i=id
  ·grind
  ·rw[if_neg e] at hb;rw[if_neg (Ne.symm e)] at ho;exact S.own i o b ho hb
mutual
def placeA(d:Nat):Nat->AV->AV×List (Nat×Ob)×Nat
 | j,.ow T fr t xs=>(.os (1000*j+d) 0,[(1000*j+d,.arr T fr t xs 0)],j+1)
 | j,.ob T xs=>match placeAs d j xs with | (ys,o,k)=>(.ptr (1000*k+d) 0,(1000*k+d,.box T ys) :: o,k+1)
 | j,.agg xs=>match placeAs d j xs with | (ys,o,k)=>(.agg ys,o,k)
 | j,.tup xs=>match placeAs d j xs with | (ys,o,k)=>(.tup ys,o,k)
 | j,.v x=>(.v x,[],j)
 | j,.d fr t x=>(.d fr t x,[],j)
 | j,a=>(a,[],j)
def placeAs(d:Nat):Nat->List AV->List AV×List (Nat×Ob)×Nat
 | j,[]=>([],[],j)
 | j,a :: r=>match placeA d j a with
   | (b,o,k)=>match placeAs d k r with | (s,o',k')=>(b :: s,o'++o,k')
end
theorem lku_app{β:Type}{l m:List (Nat×β)}{i:Nat}(h:∀x∈l,x.1≠i):lku (l++m) i=lku m i:=by
 induction l with
 | nil=>rfl
 | cons x r ih =>
   obtain⟨d,v⟩:=x;rw[List.cons_append,lK,if_neg (h (d,v) (by simp))]
   grind
structure Placed(X:Cx)(d j k:Nat)(G:Gh)(obs:List (Nat×Ob))(gs:List (Option Nat))(G':Gh):Prop where
 sat:Sat X G'
 le:GLe G G'
 w:G'.w=G.w
 K:G'.K=G.K
 o:G'.o=obs++G.o
 jk:j<=k
 num:∀x∈obs,∃i,j<=i/\i<k/\x.1=1000*i+d
 far:∀b,some b ∉ gs->(∀i o,lku G.o i=some o->G.γ i≠some b)->∀i o,lku G'.o i=some o->G'.γ i≠some b
 dl:∀i b,G'.δ i b->isGrd (lku G'.o i)=true->G.δ i b/\isGrd (lku G.o i)=true
def Fresh(X:Cx)(G:Gh)(gs:List (Option Nat)):Prop:=∀b,some b∈gs->X.w0.heap.size<=b/\¬G.K b/\(∀i o,lku G.o i=some o->G.γ i≠some b)/\∀i,G.δ i b->isGrd (lku G.o i)=true->False
theorem noDup_app:∀{g h:List (Option Nat)},NoDup (g++h)->NoDup g/\NoDup h/\∀b,some b∈g->some b ∉ h
 | [],h,k=>⟨trivial,k,fun _ hb=>by cases hb⟩
 | x :: r,h,⟨k1,k2⟩=>by
   obtain⟨a1,a2,a3⟩:=noDup_app k2;refine⟨⟨fun b hb hm=>k1 b hb (by simp[hm]),a1⟩,a2,fun b hb hm=>?_⟩;rcases List.mem_cons.1 hb with e | hb
   ·exact k1 b e.symm (by simp[hm])
   grind
theorem placed_nil{X:Cx}{d j:Nat}{G:Gh}(S:Sat X G){gs:List (Option Nat)}:Placed X d j j G [] gs G :=
 ⟨S,GLe.refl G,rfl,rfl,rfl,Nat.le_refl _,(fun _ h=>by cases h),(fun _ _ h=>h),fun _ _ h h'=>⟨h,h'⟩⟩
mutual
theorem place_sound{X:Cx}{d:Nat}{K:Bool->Nat->Prop}:∀(a:AV) {j k:Nat} {b:AV} {obs:List (Nat×Ob)} {G:Gh} {u:Value} {gs:List (Option Nat)},placeA d j a=(b,obs,k)->Sat X G->(∀fr i,K fr i->rg G fr i)->ResR K G.w a u gs->NoDup gs->Fresh X G gs->(∀x∈obs,lku G.o x.1=none) ->
  ∃G',Placed X d j k G obs gs G'/\AVR G' b u
 | .ow T fr t xs,j,k,b,obs,G,u,gs,h,S,hK,hR,hN,hF,hfr=>by
   simp only[placeA,pj] at h;obtain⟨rfl,rfl,rfl⟩:=h;obtain⟨g,cs,rfl,h1,hO,hA⟩:=hR;have hd:=hfr _ (List.mem_singleton.2 rfl);have hp:=S.add (id:=1000*j+d) (ob:=.arr T fr t xs 0) (r:=u) (g:=g) hd (fun b hb=>let h:=hF b (by grind); ⟨.inl h.1,h.2⟩) (fun hle=>⟨cs,by grind[Gh.put],hA.mapR (fun c x hr=>RT.same (w:=G.w) (fun k hk _=>⟨hK fr k hk,rfl⟩) hr),fun b e=>by simp only[Gh.put,if_true] at e ⊢; subst e; exact Nat.le_trans S.le (hF b (by simp)).1⟩);refine⟨_,⟨hp.1,hp.2,rfl,rfl,rfl,Nat.le_succ _,fun x hx=>?_,fun b hb hold i o hi=>?_,fun i b hb hgd=>?_⟩,h1,T,fr,t,xs,0,?_,Nat.le_refl _,fun _=>by simp[Gh.put]⟩
   ·cases List.mem_singleton.1 hx;exact⟨j,Nat.le_refl _,Nat.lt_succ_self _,rfl⟩
   ·rw[show(Gh.put G (1000*j+d) (.arr T fr t xs 0) u g G.w).o=(1000*j+d,.arr T fr t xs 0) :: G.o from rfl,lK] at hi
    grind[Gh.put]
   ·obtain⟨hn,hb⟩:=hb;rw[show(Gh.put G (1000*j+d) (.arr T fr t xs 0) u g G.w).o=(1000*j+d,.arr T fr t xs 0) :: G.o from rfl,lK,if_neg (Ne.symm hn)] at hgd;exact⟨hb,hgd⟩
   ·rw[show(Gh.put G (1000*j+d) (.arr T fr t xs 0) u g G.w).o=(1000*j+d,.arr T fr t xs 0) :: G.o from rfl,lK]; simp
 | .agg xs,j,k,b,obs,G,u,gs,h,S,hK,⟨us,e,hR⟩,hN,hF,hfr=>by
   simp only[placeA] at h;cases hp:placeAs d j xs with
   | mk ys r =>
     obtain⟨o,k'⟩:=r;rw[hp] at h;simp only[pj] at h;obtain⟨rfl,rfl,rfl⟩:=h;obtain⟨G',h1,h2⟩:=places_sound xs hp S hK hR hN hF hfr;exact⟨G',h1,us,e,h2⟩
 | .tup xs,j,k,b,obs,G,u,gs,h,S,hK,⟨us,e,hR⟩,hN,hF,hfr=>by
   simp only[placeA] at h;cases hp:placeAs d j xs with
   | mk ys r =>
     obtain⟨o,k'⟩:=r;rw[hp] at h;simp only[pj] at h;obtain⟨rfl,rfl,rfl⟩:=h;obtain⟨G',h1,h2⟩:=places_sound xs hp S hK hR hN hF hfr;exact⟨G',h1,us,e,h2⟩
 | .v x,j,k,b,obs,G,u,gs,h,S,hK,⟨hR,e⟩,hN,hF,hfr=>by
   simp only[placeA,pj] at h;obtain⟨rfl,rfl,rfl⟩:=h;exact⟨G,placed_nil S,hR⟩
 | .d fr t x,j,k,b,obs,G,u,gs,h,S,hK,⟨hR,e⟩,hN,hF,hfr=>by
   simp only[placeA,pj] at h;obtain⟨rfl,rfl,rfl⟩:=h;exact⟨G,placed_nil S,RT.same (w:=G.w) (fun k hk _=>⟨hK fr k hk,rfl⟩) hR⟩
 | .ptr _ _,_,_,_,_,_,_,_,_,_,_,hR,_,_,_=>hR.elim
 | .pel _ _ _ _ _,_,_,_,_,_,_,_,_,_,_,hR,_,_,_=>hR.elim
 | .os _ _,_,_,_,_,_,_,_,_,_,_,hR,_,_,_=>hR.elim
 | .fn _ _,_,_,_,_,_,_,_,_,_,_,hR,_,_,_=>hR.elim
 | .gel _ _,_,_,_,_,_,_,_,_,_,_,hR,_,_,_=>hR.elim
 | .og _,_,_,_,_,_,_,_,_,_,_,hR,_,_,_=>hR.elim
 | .ob T xs,j,k,b,obs,G,u,gs,h,S,hK,⟨b0,us,gs',eg,hu,hB,hR⟩,hN,hF,hfr=>by
   subst eg;simp only[placeA] at h;cases hp:placeAs d j xs with
   | mk ys r =>
     obtain⟨o,k'⟩:=r;rw[hp] at h;simp only[pj] at h;obtain⟨rfl,rfl,rfl⟩:=h;obtain⟨n1,n2⟩:=hN;have hnum:=places_num xs hp;have hle:=places_le xs hp;obtain⟨G1,P1,A1⟩:=places_sound xs hp S hK hR n2 (fun b hb=>hF b (by grind)) (fun x hx=>hfr x (by grind));obtain⟨f1,f2,f3,f4⟩:=hF b0 (by simp);have hd:lku G1.o (1000*k'+d)=none:=by
      rw[P1.o,lku_app]
      ·simp_all
      ·intro y hy e;obtain⟨i',hi1',hi2',hy1⟩:=hnum y hy;rw[hy1] at e;omega
     have hp:=P1.sat.add (id:=1000*k'+d) (ob:=.box T ys) (r:=u) (g:=some b0) hd (fun b hb=>by
      cases hb;exact⟨.inl f1,by rw[P1.K]; exact f2,P1.far b0 (n1 b0 rfl) f3,fun i hi hgi=>f4 i (P1.dl i b0 hi hgi).1 (P1.dl i b0 hi hgi).2⟩) (fun hle=>⟨b0,us,by simp[Gh.put],by simp[Gh.put,hu],by show Blk G1.w b0 us T; rw[P1.w]; exact hB,A1.mono hle⟩)
     have ho:(Gh.put G1 (1000*k'+d) (.box T ys) u (some b0) G1.w).o=(1000*k'+d,.box T ys) :: G1.o:=rfl;refine⟨_,⟨hp.1,GLe.trans P1.le hp.2 (by rw[P1.w]; exact Nat.le_refl _),P1.w,P1.K,by rw[ho,P1.o]; rfl,by omega,fun x hx=>?_,fun b hb hold i o hi=>?_,fun i b hb hgd=>?_⟩,⟨T,ys,by rw[ho,lK,if_pos rfl]⟩,b0,by simp[Gh.put,hu],by rw[hu]⟩
     ·rcases List.mem_cons.1 hx with rfl | hx
      ·exact⟨k',by omega,by omega,rfl⟩
      ·obtain⟨i,h1,h2,h3⟩:=P1.num x hx;exact⟨i,h1,by omega,h3⟩
     ·rw[ho,lK] at hi;simp only[Gh.put];by_cases e:i=1000*k'+d
      ·grind
      ·rw[if_neg e];rw[if_neg (Ne.symm e)] at hi;exact P1.far b (fun h=>hb (by simp[h])) hold i o hi
     ·obtain⟨hn,hb⟩:=hb;rw[ho,lK,if_neg (Ne.symm hn)] at hgd;exact P1.dl i b hb hgd
theorem places_sound{X:Cx}{d:Nat}{K:Bool->Nat->Prop}:∀(as':List AV) {j k:Nat} {bs:List AV} {obs:List (Nat×Ob)} {G:Gh} {us:List Value} {gs:List (Option Nat)},placeAs d j as'=(bs,obs,k)->Sat X G->(∀fr i,K fr i->rg G fr i)->ResRs K G.w as' us gs->NoDup gs->Fresh X G gs->(∀x∈obs,lku G.o x.1=none) ->
  ∃G',Placed X d j k G obs gs G'/\AVRs G' bs us
 | [],j,k,bs,obs,G,us,gs,h,S,hK,⟨hR,e⟩,hN,hF,hfr=>by
   simp only[placeAs,pj] at h;obtain⟨rfl,rfl,rfl⟩:=h;exact⟨G,placed_nil S,hR⟩
 | a :: r,j,k,bs,obs,G,us,gs,h,S,hK,⟨u,us',g1,g2,e1,e2,hR1,hR2⟩,hN,hF,hfr=>by
   subst e1; subst e2;simp only[placeAs] at h;cases hp:placeA d j a with
   | mk b q =>
     obtain⟨o,k1⟩:=q;rw[hp] at h;simp only at h;cases hp2:placeAs d k1 r with
     | mk s q =>
       obtain⟨o',k2⟩:=q;rw[hp2] at h;simp only[pj] at h;obtain⟨rfl,rfl,rfl⟩:=h;obtain⟨n1,n2,n3⟩:=noDup_app hN;obtain⟨G1,P1,A1⟩:=place_sound a hp S hK hR1 n1 (fun b hb=>hF b (by simp[hb])) (fun x hx=>hfr x (by simp[hx]));have hF2:Fresh X G1 g2:=fun b hb=>by
        obtain⟨f1,f2,f3,f4⟩:=hF b (by simp[hb]);exact⟨f1,by rw[P1.K]; exact f2,P1.far b (fun h=>n3 b h hb) f3,fun i hi hgi=>f4 i (P1.dl i b hi hgi).1 (P1.dl i b hi hgi).2⟩
       have hfr2:∀x∈o',lku G1.o x.1=none:=fun x hx=>by
        obtain⟨i,hi1,hi2,hx1⟩:∃i,k1<=i/\i<k2/\x.1=1000*i+d:=by
         exact places_num r hp2 x hx
        rw[P1.o,lku_app]
        ·grind
        ·intro y hy e;obtain⟨i',hi1',hi2',hy1⟩:=P1.num y hy;rw[hy1,hx1] at e;omega
       obtain⟨G2,P2,A2⟩:=places_sound r hp2 P1.sat (fun fr i hi=>by obtain⟨h1,h2⟩:=hK fr i hi; exact⟨by rw[P1.K]; exact h1,fun e=>by rw[P1.le.hB]; exact h2 e⟩) (by rw[P1.w]; exact hR2) n2 hF2 hfr2;refine⟨G2,⟨P2.sat,?_,P2.w.trans P1.w,P2.K.trans P1.K,?_,Nat.le_trans P1.jk P2.jk,?_,?_,fun i b hb hgd=>P1.dl i b (P2.dl i b hb hgd).1 (P2.dl i b hb hgd).2⟩,u,us',rfl,A1.mono P2.le,A2⟩
       ·exact GLe.trans P1.le P2.le (by rw[P1.w]; exact Nat.le_refl _)
       ·rw[P2.o,P1.o,List.append_assoc]
       ·intro x hx;rcases List.mem_append.1 hx with hx | hx
        ·obtain⟨i,h1,h2,h3⟩:=P2.num x hx;exact⟨i,Nat.le_trans P1.jk h1,h2,h3⟩
        ·obtain⟨i,h1,h2,h3⟩:=P1.num x hx;exact⟨i,h1,Nat.lt_of_lt_of_le h2 P2.jk,h3⟩
       ·intro b hb hold;exact P2.far b (fun h=>hb (by simp[h])) (P1.far b (fun h=>hb (by simp[h])) hold)
theorem place_num{d:Nat}:∀(a:AV) {j k:Nat} {b:AV} {obs:List (Nat×Ob)},placeA d j a=(b,obs,k)->(∀x∈obs,∃i,j<=i/\i<k/\x.1=1000*i+d)/\j<=k
 | .ow T fr t xs,j,k,b,obs,h=>by
   simp only[placeA,pj] at h;obtain⟨rfl,rfl,rfl⟩:=h;refine⟨fun x hx=>?_,Nat.le_succ _⟩;cases List.mem_singleton.1 hx;exact⟨j,Nat.le_refl _,Nat.lt_succ_self _,rfl⟩
 | .agg xs,j,k,b,obs,h=>by
   simp only[placeA] at h;cases hp:placeAs d j xs with
   | mk ys r =>
     obtain⟨o,k'⟩:=r;rw[hp] at h;simp only[pj] at h;obtain⟨rfl,rfl,rfl⟩:=h;exact⟨places_num xs hp,places_le xs hp⟩
 | .tup xs,j,k,b,obs,h=>by
   simp only[placeA] at h;cases hp:placeAs d j xs with
   | mk ys r =>
     obtain⟨o,k'⟩:=r;rw[hp] at h;simp only[pj] at h;obtain⟨rfl,rfl,rfl⟩:=h;exact⟨places_num xs hp,places_le xs hp⟩
 | .v x,j,k,b,obs,h=>by simp only[placeA,pj] at h; grind
 | .d fr t x,j,k,b,obs,h=>by simp only[placeA,pj] at h; grind
 | .ptr _ _,j,k,b,obs,h=>by simp only[placeA,pj] at h; grind
 | .pel _ _ _ _ _,j,k,b,obs,h=>by simp only[placeA,pj] at h; grind
 | .os _ _,j,k,b,obs,h=>by simp only[placeA,pj] at h; grind
 | .fn _ _,j,k,b,obs,h=>by simp only[placeA,pj] at h; grind
 | .gel _ _,j,k,b,obs,h=>by simp only[placeA,pj] at h; grind
 | .og _,j,k,b,obs,h=>by simp only[placeA,pj] at h; grind
 | .ob T xs,j,k,b,obs,h=>by
   simp only[placeA] at h;cases hp:placeAs d j xs with
   | mk ys r =>
     obtain⟨o,k'⟩:=r;rw[hp] at h;simp only[pj] at h;obtain⟨rfl,rfl,rfl⟩:=h;have hnum:=places_num xs hp;have hle:=places_le xs hp;refine⟨fun x hx=>?_,by omega⟩;rcases List.mem_cons.1 hx with rfl | hx
     ·exact⟨k',hle,by omega,rfl⟩
     ·obtain⟨i,h1,h2,h3⟩:=hnum x hx;exact⟨i,h1,by omega,h3⟩
theorem places_le{d:Nat}:∀(as':List AV) {j k:Nat} {bs:List AV} {obs:List (Nat×Ob)},placeAs d j as'=(bs,obs,k)->j<=k
 | [],j,k,bs,obs,h=>by simp only[placeAs,pj] at h; omega
 | a :: r,j,k,bs,obs,h=>by
   simp only[placeAs] at h;cases hp:placeA d j a with
   | mk b q =>
     obtain⟨o,k1⟩:=q;rw[hp] at h;simp only at h;cases hp2:placeAs d k1 r with
     | mk s q =>
       obtain⟨o',k2⟩:=q;rw[hp2] at h;simp only[pj] at h;obtain⟨rfl,rfl,rfl⟩:=h;exact Nat.le_trans (place_num a hp).2 (places_le r hp2)
theorem places_num{d:Nat}:∀(as':List AV) {j k:Nat} {bs:List AV} {obs:List (Nat×Ob)},placeAs d j as'=(bs,obs,k)->∀x∈obs,∃i,j<=i/\i<k/\x.1=1000*i+d
 | [],j,k,bs,obs,h=>by simp only[placeAs,pj] at h; grind
 | a :: r,j,k,bs,obs,h=>by
   simp only[placeAs] at h;cases hp:placeA d j a with
   | mk b q =>
     obtain⟨o,k1⟩:=q;rw[hp] at h;simp only at h;cases hp2:placeAs d k1 r with
     | mk s q =>
       obtain⟨o',k2⟩:=q;rw[hp2] at h;simp only[pj] at h;obtain⟨rfl,rfl,rfl⟩:=h;intro x hx;rcases List.mem_append.1 hx with hx | hx
       ·obtain⟨i,h1,h2,h3⟩:=places_num r hp2 x hx;exact⟨i,Nat.le_trans (place_num a hp).2 h1,h2,h3⟩
       ·obtain⟨i,h1,h2,h3⟩:=(place_num a hp).1 x hx;exact⟨i,h1,Nat.lt_of_lt_of_le h2 (places_le r hp2),h3⟩
end
def cellsIO:(ps:List Par)->IOT ps->List AV
 | [],_=>[]
 | .io _ t :: _,z=>cellsD false t z
 | .dat _ :: r,z=>cellsIO r z
 | .agg _ :: r,z=>cellsIO r z
 | .fn _ _ :: r,z=>cellsIO r z
 | .nof _ :: r,z=>cellsIO r z
 | .nil :: r,z=>cellsIO r z
 | .os _ _ :: r,z=>cellsIO r z
def ioUpd(o:List (Nat×Ob))(ps:List Par)(z:IOT ps):Option Nat->List (Nat×Ob)
 | none=>[]
 | some id=>match lku o id with
   | some (.box T _)=>[(id,.box T (cellsIO ps z))]
   | _=>[]
def isNil{α:Type}:List α->Bool
 | []=>true
 | _ :: _=>false
theorem isNil_eq{α:Type}{l:List α}(h:isNil l=true):l=[]:=by cases l with
 | nil=>rfl
 | cons a b=>cases h
def isNone{α:Type}:Option α->Bool
 | none=>true
 | some _=>false
def allFresh(o:List (Nat×Ob)):List (Nat×Ob)->Bool
 | []=>true
 | (i,_) :: r=>freshO o i&&allFresh o r
def notIn(i:Nat):List Nat->Bool
 | []=>true
 | x :: r=>!Nat.beq x i&&notIn i r
def ioOk(l:List Nat):Option Nat->Bool
 | none=>true
 | some i=>notIn i l
def fnOk:List Par->List AV->Bool
 | .fn f _ :: r,.fn f' _ :: s=>Nat.beq f f'&&fnOk r s
 | .nof f :: r,.fn f' _ :: s=>Nat.beq f f'&&fnOk r s
 | _ :: r,_ :: s=>fnOk r s
 | _,_=>true
/- Data that lead into new memory alone, or nowhere. -/
mutual
def freshR:AV->Bool
 | .d fr t _=>fr||kfree t
 | .ow _ fr t _=>fr||kfree t
 | .ob _ xs=>freshRs xs
 | .agg xs=>freshRs xs
 | .tup xs=>freshRs xs
 | _=>true
def freshRs:List AV->Bool
 | []=>true
 | a :: r=>freshR a&&freshRs r
end
mutual
theorem ResR.fresh{K K':Bool->Nat->Prop}{w:World}(hK:∀fr k,K true k->K' fr k):∀{a:AV} {u:Value} {gs:List (Option Nat)},freshR a=true->ResR K w a u gs->ResR K' w a u gs
 | .v _,_,_,_,h=>h
 | .d fr t x,u,gs,hf,⟨h,e⟩=>by
   refine⟨?_,e⟩;simp only[freshR,Bool.or_eq_true] at hf
   grind[RT.up,RT.free]
 | .ow T fr t xs,u,gs,hf,⟨g,cs,h1,h2,h3,h4⟩=>by
   refine⟨g,cs,h1,h2,h3,h4.mapR (fun c x h=>?_)⟩;simp only[freshR,Bool.or_eq_true] at hf
   grind[RT.up,RT.free]
 | .agg xs,u,gs,hf,⟨us,e,h⟩=>⟨us,e,ResRs.fresh hK (by grind[freshR]) h⟩
 | .ob T xs,u,gs,hf,⟨b,us,gs',e1,e2,h1,h⟩=>⟨b,us,gs',e1,e2,h1,ResRs.fresh hK (by grind[freshR]) h⟩
 | .tup xs,u,gs,hf,⟨us,e,h⟩=>⟨us,e,ResRs.fresh hK (by grind[freshR]) h⟩
theorem ResRs.fresh{K K':Bool->Nat->Prop}{w:World}(hK:∀fr k,K true k->K' fr k):∀{as':List AV} {us:List Value} {gs:List (Option Nat)},freshRs as'=true->ResRs K w as' us gs->ResRs K' w as' us gs
 | [],_,_,_,h=>h
 | a :: r,us,gs,hf,⟨u,us',g1,g2,e1,e2,h1,h2⟩=>by
   simp only[freshRs,ba] at hf;exact⟨u,us',g1,g2,e1,e2,ResR.fresh hK hf.1 h1,ResRs.fresh hK hf.2 h2⟩
end
def givT(o:List (Nat×Ob))(q:Prop)(rv:AV)(l:List Nat):Option Nat->Option (Prop×AV×List (Nat×Ob)×List Nat)
 | some id=>match rv,lku o id with
   | .ow T fr t xs,some (.arr _ _ _ _ ver)=>bif kfree t&&isNil l then some (q,.os id (ver+1),[(id,.arr T fr t xs (ver+1))],[id]) else none
   | _,_=>none
 | none=>none
def callT(o:List (Nat×Ob))(d f:Nat)(as':List AV):List Ct->Option (Prop×AV×List (Nat×Ob)×List Nat)
 | []=>none
 | c :: r=>bif Nat.beq c.f f&&fnOk c.ps as' then(match argsA o c.ps as' with
   | some (x,l,io)=>match c.res x with
     | ⟨q,rv,z⟩=>bif giv c.ps then givT o q rv l io else(match placeA d 0 rv with
       | (av,obs,_)=>bif ioOk l io&&allFresh o obs&&(isNil l||(freshR rv&&isNone io)) then some (q,av,obs++ioUpd o c.ps z io,(obs.map Prod.fst)++(l++io.toList)) else none)
   | none=>none) else callT o d f as' r
def absC(T:List Ct)(st:St)(p:Pa)(d:Nat):Op->Option (Prop×AV×List (Nat×Ob)×List Nat)
 | .call ⟨.value x,xs,_⟩=>match rd st p x,rds st p xs.toList with
   | some (.fn f caps),some as'=>callT st.o d f (as'++caps) T
   | _,_=>none
 | _=>none
def Cl(X:Cx)(G:Gh)(a:Act)(op:Op)(ty:TypeId)(av:AV)(obs:List (Nat×Ob)):Prop :=
 ∃f vs,(∀dst pos after g,(execOp a.eval ⟨dst,op,ty,pos,after,g⟩).run X.P G.w=.ok (.enter f vs) G.w) /\
  Calls X.P f vs G.w fun en w'=>∃v G',en=.returned v/\G'.w=w'/\Sat X G'/\GLe G G'/\G'.o=obs++G.o/\AVR G' av v
theorem allFresh_eq{o:List (Nat×Ob)}:∀{l:List (Nat×Ob)},allFresh o l=true->∀x∈l,lku o x.1=none
 | [],_,_,h=>by cases h
 | (i,b) :: r,h,x,hx=>by
   simp only[allFresh,ba] at h;rcases List.mem_cons.1 hx with rfl | hx
   ·grind[freshO_eq]
   ·exact allFresh_eq h.2 x hx
theorem notIn_eq{i:Nat}:∀{l:List Nat},notIn i l=true->i ∉ l
 | [],_,h=>by cases h
 | x :: r,h,hx=>by
   simp only[notIn,ba,Bool.not_eq_true'] at h;rcases List.mem_cons.1 hx with rfl | hx
   ·simp at h
   ·exact notIn_eq h.2 hx
theorem IOR.get{K:Nat->Prop}{w:World}{b:Nat}:∀{ps:List Par} {z:IOT ps} {Ka:Nat->Prop} {wa:World} {x:denPs ps} {vs:List Value},¬giv ps=true->IOR K w (some b) ps z->ArgsR Ka wa (some b) ps x vs->∃t,∃z':den t,∃T us cs0,cellsIO ps z=cellsD false t z'/\Blk w b us T/\RT K w t us z'/\Blk wa b cs0 T
 | [],_,_,_,_,_,_,_,h=>by cases h.2
 | .os _ _ :: r,_,_,_,_,_,hv,_,_=>(hv rfl).elim
 | .io T t :: r,z,_,_,x,vs,_,⟨b',cs,e,hB,hR⟩,⟨b2,cs2,us,_,e2,_,hB2,_⟩=>by cases e; cases e2; exact⟨t,z,T,cs,_,rfl,hB,hR,hB2⟩
 | .dat _ :: r,z,_,_,x,vs,hv,h,⟨_,_,_,_,k⟩=>IOR.get (ps:=r) hv h k
 | .agg _ :: r,z,_,_,x,vs,hv,h,⟨_,_,_,_,k⟩=>IOR.get (ps:=r) hv h k
 | .fn _ _ :: r,z,_,_,x,vs,hv,h,⟨_,_,_,_,k⟩=>IOR.get (ps:=r) hv h k
 | .nof _ :: r,z,_,_,x,vs,hv,h,⟨_,_,k⟩=>IOR.get (ps:=r) hv h k
 | .nil :: r,z,_,_,x,vs,hv,h,⟨_,_,k⟩=>IOR.get (ps:=r) hv h k
theorem argsA_ids{o:List (Nat×Ob)}:∀{ps:List Par} {as':List AV} {x:denPs ps} {l:List Nat} {io:Option Nat},argsA o ps as'=some (x,l,io)->∀id∈l,∃ob,lku o id=some ob
 | [],[],x,l,io,h=>by
   simp only[argsA,oi,pj] at h
   grind
 | [],_ :: _,x,l,io,h=>by grind[argsA]
 | _ :: _,[],x,l,io,h=>by grind[argsA]
 | p :: r,a :: as',x,l,io,h=>by
   simp only[argsA] at h;split at h
   ·rename_i x1 l1 i1 h1;split at h
    ·rename_i y m j h2;have ih:=argsA_ids h2;have hl1:∀id∈l1,∃ob,lku o id=some ob:=by
      unfold argA at h1;split at h1
      ·split at h1
       ·grind[oi,pj,datN_ids]
       grind
      ·split at h1
       ·grind[oi,pj,datN_ids]
       grind
      ·rw[ce] at h1;split at h1
       ·split at h1
        ·grind[oi,pj,datN_ids]
        grind
       grind
      ·grind
      ·grind
      ·grind
      ·grind
      ·cases h1
     grind
    grind
   grind
theorem call_fin{X:Cx}{G:Gh}(S:Sat X G){d:Nat}{as':List AV}{us:List Value}(hA:AVRs G as' us){ps:List Par}(hgv:¬giv ps=true){x:denPs ps}{l:List Nat}{io:Option Nat}(hargs:argsA G.o ps as'=some (x,l,io))(hio:ioOk l io=true) :
  ∃go,KW X.P G.w go (Bor G l)/\ArgsR (Bor G l) G.w go ps x us/\∀(res:denPs ps->Res ps),allFresh G.o (placeA d 0 (res x).r).2.1=true/\(isNil l||(freshR (res x).r&&isNone io))=true->∀(en:Ending) (w':World),
  (∃v gs,en=.returned v/\WE go G.w w'/\NoDup gs/\(∀b,some b∈gs->G.w.heap.size<=b∨(giv ps=true/\go=some b))/\ResR (fun fr=>KRes fr (Bor G l) G.w w' gs) w' (res x).r v gs /\
    IOR (fun k=>(Bor G l k∨G.w.heap.size<=k)/\UFg w' G.w.heap.size k/\some k ∉ gs/\go≠some k) w' go ps (res x).z) ->
  ∃v G',en=.returned v/\G'.w=w'/\Sat X G'/\GLe G G'/\G'.o=((placeA d 0 (res x).r).2.1++ioUpd G.o ps (res x).z io)++G.o/\AVR G' (placeA d 0 (res x).r).1 v:=by
 have hids:=argsA_ids hargs;obtain⟨_,go,hAR,hgo⟩:=argsA_sound S hids hargs (fun _ h=>h) (fun i hi=>by subst hi; exact notIn_eq hio) hA;have hKl:∀k,Bor G l k->k<G.w.heap.size:=by
  rintro k (h | ⟨id,hid,hk⟩)
  ·exact(S.klt k h).lt
  ·obtain⟨ob,ho⟩:=hids id hid;have:=S.obs id ob ho;cases ob with
   | box T cs=>obtain⟨b,us,h1,h2,h3,h4⟩:=this; rw[hk] at h1; cases h1; exact(blk_uf h3).lt
   | arr T fr t xs ver=>obtain⟨cs,h1,h2,_⟩:=this; rw[hk] at h1; exact(own_uf h1).lt
   | grd T Te fr t xs hole=>obtain⟨vs,bs,h1,_⟩:=this; rw[hk] at h1; exact(own_uf h1).lt
 have hgK:∀k,G.K k->go≠some k:=fun k hk e=>by
  rcases hgo with ⟨_,e'⟩ | ⟨id,b,T',cs',_,e',ho',hγ'⟩ | ⟨_,_,_,_,_,_,_,_,_,e'⟩
  ·grind
  ·rw[e'] at e; cases e; exact S.imm id _ _ ho' hγ' hk
  grind
 have hWK:WK X.P G.w fun k=>go=some k:=S.wk.sub fun k hk=>by
  rcases hgo with ⟨_,e'⟩ | ⟨id,b,T',cs',_,e',ho',hγ'⟩ | ⟨id,_,_,_,_,_,_,e',ho',_⟩
  ·rw[e'] at hk; cases hk
  ·rw[e'] at hk; cases hk; exact S.own id _ _ ho' hγ'
  ·exact S.own id _ _ ho' (e' ▸ hk)
 refine⟨go,⟨hKl,hWK⟩,hAR,fun res hc0 en w' hpost=>?_⟩;obtain⟨v,gs,rfl,hw,hN,hgs,hR,hIO⟩:=hpost;have hc:(ioOk l io=true/\allFresh G.o (placeA d 0 (res x).r).2.1=true)/\(isNil l||(freshR (res x).r&&isNone io))=true:=⟨⟨hio,hc0.1⟩,hc0.2⟩;have hgs:∀b,some b∈gs->G.w.heap.size<=b:=fun b hb=>(hgs b hb).resolve_right (fun h=>hgv h.1);have hlt:∀id o b,lku G.o id=some o->G.γ id=some b->b<G.w.heap.size:=fun id o b ho hb=>by
  have:=S.obs id o ho;cases o with
  | box T cs=>obtain⟨b',us,h1,h2,h3,h4⟩:=this; rw[hb] at h1; cases h1; exact h3.lt
  | arr T fr t xs ver=>obtain⟨cs,h1,h2,_⟩:=this; exact h1.lt b hb
  | grd T Te fr t xs hole=>obtain⟨vs,bs,h1,_⟩:=this; exact h1.lt b hb
 -- the region that data may lead to now
 let K':Nat->Prop:=fun k=>G.K k∨(G.w.heap.size<=k/\UF w' k/\some k ∉ gs)
 have hbl:l=[]->∀k,Bor G l k->G.K k:=fun hnil k hk=>by
  subst hnil;rcases hk with h | ⟨id,hid,_⟩
  ·exact h
  grind
 have hcase:l=[]∨(freshR (res x).r=true/\io=none):=by
  have:=hc.2;simp only[Bool.or_eq_true,ba] at this;rcases this with h | ⟨h1,h2⟩
  ·grind[isNil_eq]
  ·refine .inr ⟨h1,?_⟩;cases io with
   | none=>rfl
   | some i=>cases h2
 obtain⟨KR,hKR,hR⟩:∃KR:Bool->Nat->Prop,(∀fr k,KR fr k->K' k/\(fr=true->G.B<=k))/\ResR KR w' (res x).r v gs:=by
  rcases hcase with hnil | ⟨hfr,_⟩
  ·refine⟨_,fun fr k hk=>?_,hR⟩;obtain⟨h1 | h1,h2,h3⟩:=hk
   ·grind
   ·exact⟨.inr ⟨h1,h2.2 h1,h3⟩,fun _=>Nat.le_trans S.le (Nat.le_trans S.size h1)⟩
  ·refine⟨fun _=>KRes true (Bor G l) G.w w' gs,fun fr k hk=>?_,ResR.fresh (fun _ _ h=>h) hfr hR⟩;obtain⟨h1 | h1,h2,h3⟩:=hk
   ·grind
   ·exact⟨.inr ⟨h1,h2.2 h1,h3⟩,fun _=>Nat.le_trans S.le (Nat.le_trans S.size h1)⟩
 have hupd:(go=none/\ioUpd G.o ps (res x).z io=[])∨∃id b T cs0 t,∃z:den t,go=some b/\ioUpd G.o ps (res x).z io=[(id,Ob.box T (cellsD false t z))]/\lku G.o id=some (.box T cs0)/\G.γ id=some b/\∃us,Blk w' b us T/\RT K' w' t us z:=by
  rcases hgo with ⟨rfl,rfl⟩ | ⟨id,b,T,cs,rfl,rfl,ho,hγ⟩ | ⟨_,_,_,_,_,_,_,_,_,e⟩
  rotate_right
  ·grind
  ·exact .inl ⟨rfl,rfl⟩
  ·obtain⟨t,z',T',us',cs0,e,hB,hRT,hB0⟩:=IOR.get hgv hIO hAR;obtain⟨b',us2,h1,h2,h3,h4⟩:=S.obs id _ ho;rw[hγ] at h1;cases h1;have hTT:T=T':=by
    unfold Blk at h3 hB0;rw[h3] at hB0;simp only[oi,Obj.cells.injEq] at hB0;exact hB0.2.1
   subst hTT;refine .inr ⟨id,b,T,cs,t,z',rfl,?_,ho,hγ,us',hB,RT.same (w:=w') (fun k hk _=>⟨?_,rfl⟩) hRT⟩
   ·grind[ioUpd]
   ·obtain⟨h1 | h1,h2,h3,h4⟩:=hk
    ·grind
    ·exact .inr ⟨h1,h2.2 h1,h3⟩
 obtain⟨S1,L1⟩:=Sat.after S hw (K':=K') (fun k hk=>.inl hk) (by
  rintro k (h | h)
  ·exact(S.klt k h).same hw.size (hw.block k (S.klt k h).lt (hgK k h))
  ·exact h.2.1.g) (by
  rintro k (h | h)
  ·exact S.kfrom k h
  ·exact .inr (Nat.le_trans S.base.2.1 (Nat.le_trans S.size h.1))) (by
  rintro id o b ho hb (h | h)
  ·exact S.imm id o b ho hb h
  grind) (by
  rintro id b hb hgd (h | h)
  ·exact(S.sep id b hb hgd).2.1 h
  ·have:=S.dlt hb hgd; omega) hupd
 have hback:∀i o,lku (ioUpd G.o ps (res x).z io++G.o) i=some o->∃o',lku G.o i=some o':=fun i o h=>by
  rcases hupd with ⟨_,e⟩ | ⟨id,b,T,cs0,t,z,_,e,ho,_⟩
  ·rw[e] at h; exact⟨o,h⟩
  ·rw[e,List.cons_append,lK] at h;by_cases e':id=i
   ·subst e'; exact⟨_,ho⟩
   ·rw[if_neg e'] at h; exact⟨o,h⟩
 have hgb:∀i,isGrd (lku (ioUpd G.o ps (res x).z io++G.o) i)=true->isGrd (lku G.o i)=true:=fun i h=>by
  rcases hupd with ⟨_,e⟩ | ⟨id,b,T,cs0,t,z,_,e,ho,_⟩
  ·grind
  ·rw[e,List.cons_append,lK] at h;by_cases e':id=i
   ·rw[if_pos e'] at h; cases h
   grind
 have hF:Fresh X ⟨G.ρ,G.γ,K',w',ioUpd G.o ps (res x).z io++G.o,G.B,G.δ⟩ gs:=fun b hb=>by
  refine⟨Nat.le_trans S.size (hgs b hb),?_,fun i o hi e=>?_,fun i hi hgd=>?_⟩
  ·rintro(h | h)
   ·have:=(S.klt b h).lt; have:=hgs b hb; omega
   grind
  ·grind
  ·have:=S.dlt hi (hgb i hgd);have:=hgs b hb;omega
 have hfr:∀y∈(placeA d 0 (res x).r).2.1,lku (ioUpd G.o ps (res x).z io++G.o) y.1=none:=fun y hy=>by
  grind[allFresh_eq,lku,ioUpd]
 obtain⟨G',P,hv⟩:=place_sound (K:=KR) (res x).r (d:=d) (j:=0) rfl S1 hKR hR hN hF hfr;refine⟨v,G',rfl,P.w,P.sat,GLe.trans L1 P.le hw.size,?_,hv⟩;rw[P.o,List.append_assoc]
theorem callT_sound{X:Cx}{G:Gh}(S:Sat X G){d f:Nat}{as':List AV}{us:List Value}(hA:AVRs G as' us):∀{T:List Ct},(∀c∈T,Ok X.P c)->∀{q:Prop} {av:AV} {obs:List (Nat×Ob)} {fp:List Nat},callT G.o d f as' T=some (q,av,obs,fp)->q ->
  enterB X.P f=true/\Calls X.P f us.toArray G.w fun en w'=>∃v G',en=.returned v/\G'.w=w'/\Sat X G'/\GLe G G'/\G'.o=obs++G.o/\AVR G' av v
 | [],_,q,av,obs,fp,h,_=>by cases h
 | c :: r,hT,q,av,obs,fp,h,hq=>by
   have hr:=callT_sound S (d:=d) hA (T:=r) (fun c hc=>hT c (by grind)) (f:=f) (q:=q) (av:=av) (obs:=obs) (fp:=fp);simp only[callT,ce] at h;split at h
   ·rename_i hf;rw[ba] at hf;have hf:=nb hf.1;split at h
    ·rename_i x l io hargs;by_cases hgv:giv c.ps=true
     ·rw[if_pos hgv] at h;unfold givT at h;split at h
      ·rename_i id;split at h
       ·rename_i T fr t xs E' fr' t' xs' ver hrv ho;rw[ce] at h;split at h
        ·rename_i hkf;rw[ba] at hkf;have hnil:=isNil_eq hkf.2;subst hnil;simp only[oi,pj] at h;obtain⟨rfl,rfl,rfl,_⟩:=h;obtain⟨hent,hok⟩:=hT c (by simp);refine⟨by grind,?_⟩;have hids:=argsA_ids hargs;obtain⟨_,go,hAR,hgo⟩:=argsA_sound S hids hargs (fun _ h=>h) (fun i hi h=>by cases h) hA;have hgo:go=G.γ id:=by
          rcases hgo with ⟨e,_⟩ | ⟨id',b,T',cs',e,_,ho',_⟩ | ⟨id',_,_,_,_,_,e,hg,_⟩
          ·cases e
          ·grind
          ·grind
         subst hgo;obtain⟨_,_,_,hBB⟩:=S.obs id _ ho;have hKl:∀k,Bor G [] k->k<G.w.heap.size:=by
          rintro k (h | ⟨id,hid,hk⟩)
          ·exact(S.klt k h).lt
          ·grind
         rw[<- hf];refine Calls.mono (hok x hq G.w us (G.γ id) (Bor G []) ⟨hKl,S.wk.sub fun k hk=>S.own id _ k ho hk⟩ hAR) ?_;rintro en w' ⟨v,gs,rfl,hw,hN,hgs,hR,hIO⟩;rw[hrv] at hR;obtain⟨g,cs,rfl,hone,hO,hA2⟩:=hR;have hgb:∀b,g=some b->G.γ id=some b∨G.w.heap.size<=b:=fun b hb=>by
          grind
         have hput:=S.put (id:=id) (ob:=.arr T fr t xs (ver+1)) (r:=v) (g:=g) (w':=w') (go:=G.γ id) ⟨(fun T cs h=>by grind),(fun T fr' t' xs' v'' h=>by grind),by rw[ho]; rfl⟩
          (fun b hb=>⟨⟨_,ho⟩,hb⟩) hw hgb
          (fun hle=>⟨cs,by grind[Gh.put],hA2.mapR (fun c x h=>RT.free hkf.1 h),fun b e=>by
            simp only[Gh.put,if_true] at e ⊢;rcases hgb b e with h | h
            ·exact hBB b h
            ·exact Nat.le_trans S.le (Nat.le_trans S.size h)⟩)
         exact⟨v,_,rfl,rfl,hput.1,hput.2,rfl,hone,T,fr,t,xs,ver+1,by rw[show(Gh.put G id (.arr T fr t xs (ver+1)) v g w').o=(id,.arr T fr t xs (ver+1)) :: G.o from rfl,lK]; simp,Nat.le_refl _,fun _=>by simp[Gh.put]⟩
        ·cases h
       ·cases h
      ·cases h
     rw[if_neg hgv] at h;split at h
     ·rename_i hc;simp only[ba] at hc;simp only[oi,pj] at h;obtain⟨rfl,rfl,rfl,_⟩:=h;obtain⟨hent,hok⟩:=hT c (by simp);refine⟨by grind,?_⟩;obtain⟨go,hKl,hAR,hfin⟩:=call_fin S (d:=d) hA hgv hargs hc.1.1;rw[<- hf];exact Calls.mono (hok x hq G.w us go (Bor G l) hKl hAR) (fun en w' hpost=>hfin c.res ⟨hc.1.2,hc.2⟩ en w' hpost)
     grind
    grind
   grind
theorem absC_sound{X:Cx}{G:Gh}{a:Act}{st:St}{p:Pa}{T:List Ct}(hT:∀c∈T,Ok X.P c)(S:Sat X G)(ho:G.o=st.o)(hE:EnvR X.n G st.e a)(hp:PathP p a){op:Op}{ty:TypeId}{d:Nat}{q:Prop}{r:AV}{obs:List (Nat×Ob)}{fp:List Nat}
  (h:absC T st p d op=some (q,r,obs,fp)) (hq:q):Cl X G a op ty r obs:=by
 unfold absC at h;split at h
 ·rename_i x xs Ts;split at h
  ·rename_i f caps as' h1 h2;obtain⟨cs,hv,hc⟩:=rd_sound hE hp h1;have hA:=rds_sound hE hp h2;rw[<- ho] at h;obtain⟨hent,hcall⟩:=callT_sound S (AVRs.app hc hA) hT h hq;refine⟨f,_,fun dst pos after g=>?_,hcall⟩
   haveI:HasBody X.P f:=⟨hent⟩
   have e1:xs.map a.eval=(xs.toList.map a.eval).toArray:=by grind
   simp only[execOp,resolve,e1,hv];simp[Deferred.ofValue,invoke,run_callFunc]
  grind
 grind
def absG(Γ:Tab')(st:St)(p:Pa)(d:Nat):Op->Option (Prop×AV×List (Nat×Ob)×List Nat)
 | .load T x=>match rd st p x,lku Γ T with
   | some (.gel id k),some ⟨_,_,_,.sl _,_⟩=>match lku st.o id with
     | some (.grd T0 Te fr t xs none)=>bif freshO st.o d then some (k<xs.length,.os d 0,[(d,.arr Te fr t (xs.getD k []) 0),(id,.grd T0 Te fr t xs (some k))],[d,id]) else none
     | _=>none
   | _,_=>none
 | .slice T x l h none=>match rd st p x,optA st p l,optA st p h,lku Γ T with
   | some (.os id ver),some lo,some none,some ⟨_,_,_,.sl E,_⟩=>match lku Γ E,lku st.o id with
     | some te,some (.arr E' fr t xs ver')=>bif Nat.beq ver ver'&&Nat.beq te.size (sz t) then some (vcSl (lo.getD 0) xs.length xs.length,.os id (ver+1),[(id,.arr E' fr t (cutL xs lo none) (ver+1))],[id]) else none
     | _,_=>none
   | _,_,_,_=>none
 | _=>none
def absGU(Γ:Tab')(st:St)(p:Pa):Op->Option (Prop×List (Nat×Ob)×List Nat)
 | .store T x y=>match rd st p x,rd st p y,lku Γ T with
   | some (.gel id k),some (.os d ver),some ti=>match lku st.o id,lku st.o d with
     | some (.grd T0 Te fr t xs (some k')),some (.arr Te' fr' t' l ver')=>match castD (.sl t') (.sl t) l with
       | some l'=>bif Nat.beq ver ver'&&Nat.beq Te Te'&&Nat.beq ti.size 1 then some (k<xs.length/\k=k',[(id,.grd T0 Te (fr&&fr') t (xs.set k l') none),(d,.arr Te' fr' t' [] (ver+1))],[id,d]) else none
       | none=>none
     | _,_=>none
   | _,_,_=>none
 | _=>none
def Ml(X:Cx)(G:Gh)(a:Act)(op:Op)(ty:TypeId)(av:AV)(obs:List (Nat×Ob)):Prop :=
 ∃v G',(∀dst pos after g,(execOp a.eval ⟨dst,op,ty,pos,after,g⟩).run X.P G.w=.ok (.value v) G'.w)/\Sat X G'/\GLe G G'/\G'.o=obs++G.o/\AVR G' av v
def Ul(X:Cx)(G:Gh)(a:Act)(op:Op)(ty:TypeId)(obs:List (Nat×Ob)):Prop :=
 ∃G',(∀dst pos after g,(execOp a.eval ⟨dst,op,ty,pos,after,g⟩).run X.P G.w=.ok .skip G'.w)/\Sat X G'/\GLe G G'/\G'.o=obs++G.o
theorem getD_of{α:Type}{l:List α}{k:Nat}(hk:k<l.length)(z:α):l[k]?=some (l.getD k z):=by grind
section
variable {X:Cx} {G:Gh} {a:Act} {st:St} {Γ:Tab'} {p:Pa}
theorem takeRow(S:Sat X G){id d k:Nat}{T0 Te:TypeId}{fr:Bool}{t:Ty}{xs:List (List (den t))}(ho:lku G.o id=some (.grd T0 Te fr t xs none))(hd:lku G.o d=none)(hk:k<xs.length){vs:List Value}{bs:Nat->Option Nat}
  (hO:Own G.w T0 1 (G.γ id) (G.ρ id) xs.length vs) (hR:Rows G id Te fr t xs none vs bs) (hB:∀b,G.γ id=some b->G.B<=b) :
  ∃G',Sat X G'/\GLe G G'/\G'.w=G.w/\G'.o=[(d,.arr Te fr t (xs.getD k []) 0),(id,.grd T0 Te fr t xs (some k))]++G.o/\AVR G' (.os d 0) (vs.getD k (.bool false)):=by
 have hne:¬id=d:=fun e=>by grind
 obtain⟨cs,r1,r2,r3⟩:=hR.row k hk (fun h=>by cases h);have hsep:∀b j,j<xs.length->bs j=some b->(X.w0.heap.size<=b∨X.io b)/\¬G.K b/\(∀i o,lku G.o i=some o->G.γ i≠some b)/\∀i,G.δ i b->isGrd (lku G.o i)=true->id=i:=fun b j hj hb=>S.sep id b ((hR.blk b).2 ⟨j,hj,(fun h=>by cases h),hb⟩) (by rw[ho]; rfl)
 have h1:=S.grd (id:=id) (T':=T0) (Te':=Te) (fr':=fr) (t':=t) (xs':=xs) (hole':=some k) (D:=fun b=>∃j,j<xs.length/\j≠k/\bs j=some b) (w':=G.w) (go:=none) ho (fun _ e=>by cases e) (WE.refl _)
  (fun b ⟨j,hj,_,hb⟩=>by
    grind)
  (fun hle=>⟨vs,bs,hO,⟨hR.len,fun b=>⟨fun h=>?_,fun⟨j,hj,hh,hb⟩=>.inl ⟨rfl,j,hj,(fun e=>hh (by rw[e])),hb⟩⟩,fun j j' b hj hj' _ _ hb hb'=>hR.inj j j' b hj hj' (fun h=>by cases h) (fun h=>by cases h) hb hb',fun j hj _=>hR.row j hj (fun h=>by cases h),hR.one⟩,hB⟩)
 ·obtain⟨S1,L1⟩:=h1;have hlk:∀i,lku (G.grd id (.grd T0 Te fr t xs (some k)) (fun b=>∃j,j<xs.length/\j≠k/\bs j=some b) G.w).o i=if id=i then some (.grd T0 Te fr t xs (some k)) else lku G.o i:=fun i=>lK _ _ _ _
  have h2:=S1.add (id:=d) (ob:=.arr Te fr t (xs.getD k []) 0) (r:=vs.getD k (.bool false)) (g:=bs k) (by grind)
   (fun b hb=>by
     obtain⟨s1,s2,s3,s4⟩:=hsep b k hk hb;refine⟨s1,s2,fun i o hi=>?_,fun i hi hg=>?_⟩
     ·rw[hlk] at hi;by_cases e:id=i
      ·subst e; exact s3 _ _ ho
      ·rw[if_neg e] at hi; exact s3 i o hi
     ·rw[hlk] at hg;rcases hi with ⟨_,j,hj,hjk,hjb⟩ | ⟨hi,hib⟩
      ·exact hjk (hR.inj j k b hj hk (fun h=>by cases h) (fun h=>by cases h) hjb hb)
      ·rw[if_neg (Ne.symm hi)] at hg;exact hi (s4 i hib hg).symm)
   (fun hle=>⟨cs,by simp only[Gh.put,if_true]; exact r1,r2,fun b e=>by simp only[Gh.put,if_true] at e ⊢; exact r3 b e⟩)
  obtain⟨S2,L2⟩:=h2;refine⟨_,S2,L1.trans L2 (Nat.le_refl _),rfl,rfl,hR.one _ ?_,Te,fr,t,xs.getD k [],0,by rw[show ∀G0:Gh,(Gh.put G0 d (.arr Te fr t (xs.getD k []) 0) (vs.getD k (.bool false)) (bs k) G0.w).o=(d,.arr Te fr t (xs.getD k []) 0) :: G0.o from fun _=>rfl,lK]; simp,Nat.le_refl _,fun _=>by simp[Gh.put]⟩;exact List.mem_of_getElem? (getD_of (by rw[hR.len]; exact hk) _)
 ·rcases h with ⟨_,j,hj,hjk,hb⟩ | ⟨h,_⟩
  ·exact⟨j,hj,(fun e=>hjk (Option.some.inj e).symm),hb⟩
  ·exact(h rfl).elim
theorem own_drop{w:World}{E s:Nat}{g:Option Nat}{pp:Option Addr}{n cap:Nat}{cs:List Value}(h:Own w E s g (.slice pp n cap) n cs){k:Nat}(hk:k<=n):∃g',(g'=none∨g'=g)/\n<=cap/\Own w E s g' (.slice (if cap=k then pp else pp.map (·.add (k*s))) (n-k) (cap-k)) (n-k) (cs.drop (k*s)):=by
 have hcl:=h.clen;rcases h with ⟨rfl,rfl,rfl,p,hv⟩ | ⟨b,o,c,cur,rfl,hv,h1,h2,h3,h4,rfl⟩
 ·cases hv;have:k=0:=by omega
  subst this;exact⟨none,.inl rfl,Nat.le_refl _,.inl ⟨rfl,rfl,by simp,pp,by simp⟩⟩
 ·cases hv;by_cases hc:cap=k
  ·refine⟨none,.inl rfl,h2,.inl ⟨rfl,by omega,?_,some ⟨b,o,none⟩,?_⟩⟩
   ·grind
   grind
  ·refine⟨some b,.inr rfl,h2,.inr ⟨b,o+k*s,cap-k,cur,rfl,?_,h1,by omega,by omega,?_,?_⟩⟩
   ·grind[Addr.add]
   ·have:=Nat.mul_le_mul_right s (show k<=cap by omega)
    grind[Nat.sub_mul]
   grind[List.drop_take,List.drop_drop,Nat.sub_mul]
theorem rowTail_sound(hΓ:TabOk X.P Γ)(S:Sat X G)(hE:EnvR X.n G st.e a)(hp:PathP p a){T E E' ty id ver:Nat}{s0 y0:Nat}{z0:Value}{ty0:Ty}{x:Operand}{l h:Option Operand}{lo:Option Int}{fr:Bool}{t:Ty}{xs:List (den t)}{te:TI}
  (hT:lku Γ T=some ⟨s0,y0,z0,.sl E,ty0⟩) (hte:lku Γ E=some te) (ho:lku G.o id=some (.arr E' fr t xs ver)) (hs:te.size=sz t) (hx:AVR G (.os id ver) (a.eval x)) (hl:optA st p l=some lo) (hh:optA st p h=some none) (hq:vcSl (lo.getD 0) xs.length xs.length) :
  Ml X G a (.slice T x l h none) ty (.os id (ver+1)) [(id,.arr E' fr t (cutL xs lo none) (ver+1))]:=by
 obtain⟨_,T1,fr1,t1,xs1,ver1,g1,g2,g3⟩:=hx;rw[ho] at g1;cases g1;have hu:=g3 rfl;obtain⟨cs,hO,hA,hBB⟩:=S.obs id _ ho;obtain⟨pp,cap,hv⟩:=hO.len;rw[hv] at hO hu;have hU:=(hΓ T _ hT).2.2.2.2.2;have hI:Info X.P E te.size te.bytes te.zero:=⟨(hΓ E _ hte).1⟩;obtain⟨inf,hinfo,h2,h3,h5⟩:=hI.get;have hcut:cutL xs lo none=xs.drop (lo.getD 0).toNat:=by
  rw[cutL_eq xs lo none hq];simp
 rw[hcut];have hh':h=none:=by
  rcases optA_sound hE hp hh with ⟨e1,_⟩ | ⟨y,n,k,_,e2,_⟩
  ·exact e1
  ·cases e2
 subst hh';have hl':(∃n k,l=some n/\a.eval n=.int k (lo.getD 0))∨(l=none/\lo.getD 0=0):=by
  rcases optA_sound hE hp hl with ⟨e1,e2⟩ | ⟨y,n,k,e1,e2,e3⟩
  ·grind
  ·grind
 generalize lo.getD 0=l0 at *
 obtain⟨q1,q2,q3⟩:=hq;have hk:l0.toNat<=xs.length:=by omega
 obtain⟨g',hg',hcap,hO'⟩:=own_drop hO hk;have hrun:∀dst pos after g,(execOp a.eval ⟨dst,.slice T x l none none,ty,pos,after,g⟩).run X.P G.w=.ok (.value (.slice (if cap=l0.toNat then pp else pp.map (·.add (l0.toNat*sz t))) (xs.length-l0.toNat) (cap-l0.toNat))) G.w:=by
  intro dst pos after g;rcases hl' with ⟨n1,k1,rfl,e1⟩ | ⟨rfl,e1⟩
  ·have r2:=run_sliceBound (P:=X.P) (w:=G.w) k1 l0 xs.length .sliceB q1 q2;simp[execOp,hu,Instr.sliceAt,Instr.slice,Instr.sliceBounds,run_underlying hU,Result.andThen,run_sizeOf' G.w hinfo,h2,hs,e1,r2]
  ·simp[execOp,hu,Instr.sliceAt,Instr.slice,Instr.sliceBounds,run_underlying hU,Result.andThen,run_sizeOf' G.w hinfo,h2,hs,e1]
 have h:=S.put (id:=id) (ob:=.arr E' fr t (xs.drop l0.toNat) (ver+1)) (r:=.slice (if cap=l0.toNat then pp else pp.map (·.add (l0.toNat*sz t))) (xs.length-l0.toNat) (cap-l0.toNat)) (g:=g') (w':=G.w) (go:=G.γ id) ⟨(fun T cs h=>by grind),(fun T fr' t' xs' v'' h=>by grind),by rw[ho]; rfl⟩
  (fun b hb=>⟨⟨_,ho⟩,hb⟩) (WE.refl _) (fun b hb=>by
    rcases hg' with h | h
    ·rw[h] at hb; cases hb
    ·exact .inl (h ▸ hb))
  (fun hle=>⟨cs.drop (l0.toNat*sz t),by simp only[Gh.put,if_true,List.length_drop]; exact hO',(AllR.takeD (fun c y hy=>RT.len hy) l0.toNat hA).2.mapR (fun c x hr=>RT.same (w:=G.w) hle.hR hr),fun b e=>by
    simp only[Gh.put,if_true] at e ⊢;rcases hg' with h | h
    ·rw[h] at e; cases e
    ·exact hBB b (h ▸ e)⟩)
 exact⟨_,G.put id (.arr E' fr t (xs.drop l0.toNat) (ver+1)) (.slice (if cap=l0.toNat then pp else pp.map (·.add (l0.toNat*sz t))) (xs.length-l0.toNat) (cap-l0.toNat)) g' G.w,hrun,h.1,h.2,rfl,rfl,E',fr,t,xs.drop l0.toNat,ver+1,by rw[show(Gh.put G id (.arr E' fr t (xs.drop l0.toNat) (ver+1)) _ _ _).o=(id,.arr E' fr t (xs.drop l0.toNat) (ver+1)) :: G.o from rfl,lK]; simp,Nat.le_refl _,fun _=>by simp[Gh.put]⟩
theorem absG_sound(hΓ:TabOk X.P Γ)(S:Sat X G)(ho:G.o=st.o)(hE:EnvR X.n G st.e a)(hp:PathP p a){op:Op}{ty:TypeId}{d:Nat}{q:Prop}{r:AV}{obs:List (Nat×Ob)}{l:List Nat}
  (h:absG Γ st p d op=some (q,r,obs,l)) (hq:q):Ml X G a op ty r obs:=by
 unfold absG at h;split at h
 ·rename_i T x;split at h
  ·rename_i id k s0 y0 z0 E ty0 h1 h2;split at h
   ·rename_i T0 Te fr t xs h3;rw[ce] at h;split at h
    ·rename_i hf;simp only[oi,pj] at h;obtain⟨rfl,rfl,rfl,_⟩:=h;rw[<- ho] at h3 hf;have hx:=rd_sound hE hp h1;obtain⟨_,b,o,n,c,hρ,hx⟩:=hx;obtain⟨vs,bs,hO,hR,hB⟩:=S.obs id _ h3;have hb:G.γ id=some b:=by
      rcases hO with ⟨_,hn,_⟩ | ⟨b',o',cap,cur,hb,hv,_⟩
      ·omega
      ·rw[hρ] at hv;simp only[Value.slice.injEq,oi,Addr.mk.injEq] at hv;rw[hb,hv.1.1]
     have hat:At G.w b o vs:=by rw[hb] at hO; obtain⟨o0,c0,e0,hat⟩:=hO.at; rw[hρ] at e0; cases e0; exact hat
     have hget:=getD_of (by rw[hR.len]; exact hq:k<vs.length) (.bool false);have hat1:At G.w b (o+k) [vs.getD k (.bool false)]:=by
      intro i v hv;cases i with
      | zero =>
        simp only[List.getElem?_cons_zero,oi] at hv;subst hv;have:=hat k _ hget;omega
      | succ i=>grind
     obtain⟨v,hrun,hv⟩:=ld_sound (ty:=ty) (cs:=[.v (vs.getD k (.bool false))]) (av:=.v (vs.getD k (.bool false))) hE (hΓ _ _ h2) hx hat1 ⟨_,[],rfl,rfl,rfl⟩ rfl;have hv:v=_:=hv;subst hv;obtain⟨G',S',L',hw,hO',hr⟩:=takeRow S h3 (freshO_eq hf) hq hO hR hB;exact⟨_,G',fun dst pos after g=>by grind,S',L',hO',hr⟩
    grind
   grind
  grind
 ·rename_i T x l0 h0;split at h
  ·rename_i id ver lo s0 y0 z0 E ty0 h1 h2 h3 h4;split at h
   ·rename_i te E' fr t xs ver' h5 h6;rw[ce] at h;split at h
    ·rename_i hf;rw[ba] at hf
     grind[oi,pj,nb,rowTail_sound,rd_sound]
    grind
   grind
  grind
 grind
theorem spl1_get{vs:List Value}{k j:Nat}{u z:Value}(hk:k<vs.length):(spl vs k [u]).getD j z=if j=k then u else vs.getD j z:=by
 grind[spl]
theorem backRow(hΓ:TabOk X.P Γ)(S:Sat X G){id d k ver:Nat}{T0 Te T ty:TypeId}{fr fr':Bool}{t:Ty}{xs:List (List (den t))}{l:List (den t)}{x y:Operand}{ti:TI}(hT:lku Γ T=some ti)(hs:ti.size=1)
  (ho:lku G.o id=some (.grd T0 Te fr t xs (some k))) (hd:lku G.o d=some (.arr Te fr' t l ver)) (hk:k<xs.length) (hx:AVR G (.gel id k) (a.eval x)) (hy:AVR G (.os d ver) (a.eval y)) :
  Ul X G a (.store T x y) ty [(id,.grd T0 Te (fr&&fr') t (xs.set k l) none),(d,.arr Te fr' t [] (ver+1))]:=by
 haveI:Info X.P T ti.size ti.bytes ti.zero:=⟨(hΓ T _ hT).1⟩
 have hne:¬d=id:=fun e=>by grind
 obtain⟨_,b,o,n,c,hρ,hxe⟩:=hx;obtain⟨y0,T1,fr1,t1,xs1,ver1,g1,g2,g3⟩:=hy;rw[hd] at g1;cases g1;have hye:=g3 rfl;obtain⟨cs,hOd,hA,hBd⟩:=S.obs d _ hd;have hOd':Own G.w Te (sz t) (G.γ d) (a.eval y) l.length cs:=by rw[hye]; exact hOd
 -- the row lets go of its block
 have h1:=S.put (id:=d) (ob:=.arr Te fr' t [] (ver+1)) (r:=.slice none 0 0) (g:=none) (w':=G.w) (go:=none) ⟨(fun T cs h=>by grind),(fun T fr' t' xs' v'' h=>by grind),by rw[hd]; rfl⟩
  (fun _ e=>by cases e) (WE.refl _) (fun _ e=>by cases e) (fun hle=>⟨[],by simp only[Gh.put,if_true]; exact Own.nil,rfl,fun b e=>by grind[Gh.put]⟩)
 generalize hG1:G.put d (.arr Te fr' t [] (ver+1)) (.slice none 0 0) none G.w=G1 at h1;obtain⟨S1,L1⟩:=h1;have hw1:G1.w=G.w:=by rw[<- hG1]; rfl
 have hK1:G1.K=G.K:=by rw[<- hG1]; rfl
 have hB1:G1.B=G.B:=by rw[<- hG1]; rfl
 have hlk1:∀i,lku G1.o i=if d=i then some (.arr Te fr' t [] (ver+1)) else lku G.o i:=fun i=>by rw[<- hG1]; exact lK _ _ _ _
 have hρ1:∀i,i≠d->G1.ρ i=G.ρ i:=fun i hi=>by grind[Gh.put]
 have hγ1:∀i,i≠d->G1.γ i=G.γ i:=fun i hi=>by rw[<- hG1]; simp only[Gh.put,if_neg hi]
 have hγd:G1.γ d=none:=by rw[<- hG1]; simp only[Gh.put,if_true]
 have hδ1:∀i b,G1.δ i b↔i≠d/\G.δ i b:=fun i b=>by rw[<- hG1]; exact Iff.rfl
 have ho1:lku G1.o id=some (.grd T0 Te fr t xs (some k)):=by rw[hlk1,if_neg hne]; exact ho
 obtain⟨vs,bs,hO,hR,hB⟩:=S1.obs id _ ho1;have hb:G1.γ id=some b:=by
  rcases hO with ⟨_,hn,_⟩ | ⟨b',o',cap,cur,hb,hv,_⟩
  ·omega
  ·rw[hρ1 id (Ne.symm hne),hρ] at hv;simp only[Value.slice.injEq,oi,Addr.mk.injEq] at hv;rw[hb,hv.1.1]
 have hbG:G.γ id=some b:=by rw[<- hγ1 id (Ne.symm hne)]; exact hb
 -- the store
 have hO':=hO;rw[hb] at hO';rcases hO' with ⟨h,_⟩ | ⟨b',o',cap,cur,hb',hv2,k1,k2,k3,k4,k5⟩
 ·cases h
 cases hb';have hρ2:G1.ρ id=.slice (some ⟨b,o,none⟩) n c:=(hρ1 id (Ne.symm hne)).trans hρ;have hoo:o'=o:=by rw[hρ2] at hv2; cases hv2; rfl
 subst hoo;have hcur:cur.toList.length=o'+cap:=by rw[Array.length_toList,k4,Nat.mul_one]
 have hcells:(a.eval y).cells.toList=[a.eval y]:=by
  have:=y0;cases hv:a.eval y <;> rw[hv] at this <;> first | rfl | (simp[Value.oneCell'] at this)
 have hBk:Blk G.w b cur.toList T0:=by unfold Blk; rw[Array.toArray_toList]; rw[hw1] at k1; exact k1
 have hst:=run_storeVar (P:=X.P) (T:=T) (o:=o'+k) (v:=a.eval y) hcells (by rw[hs]; rfl) (ones_of (fun u hu=>by cases List.mem_singleton.1 hu; exact y0)) hBk (by simp only[List.length_singleton]; omega);have hW:=wr_setRow G.w b (spl cur.toList (o'+k) [a.eval y]).toArray;have hlenk:k<vs.length:=by rw[hR.len]; exact hk
 have hOset:Own (G.w.setRow b (spl cur.toList (o'+k) [a.eval y]).toArray) T0 1 (G1.γ id) (G1.ρ id) xs.length (spl vs k [a.eval y]):=by
  rw[hb] at hO ⊢;have:=Own.set (w':=G.w.setRow b (spl cur.toList (o'+k) [a.eval y]).toArray) (k:=k) (vs:=[a.eval y]) hO hρ2 hk rfl (fun cur' hc'=>by
   rw[k1] at hc';cases hc';rw[Nat.mul_one]
   grind[setRow_heap])
  rwa [Nat.mul_one] at this
 have hdb:∀b',G.γ d=some b'->(X.w0.heap.size<=b'∨X.io b')/\¬G.K b'/\(∀i o,lku G1.o i=some o->G1.γ i≠some b')/\∀i,G1.δ i b'->isGrd (lku G1.o i)=true->False:=fun b' hb'=>by
  refine⟨S.own d _ b' hd hb',S.imm d _ b' hd hb',fun i o hi hg=>?_,fun i hi hg=>?_⟩
  ·by_cases e:i=d
   ·grind
   ·rw[hlk1,if_neg (Ne.symm e)] at hi;rw[hγ1 i e] at hg;exact e (S.inj i d _ _ b' hi hd hg hb')
  ·obtain⟨e,hi⟩:=(hδ1 i b').1 hi;rw[hlk1,if_neg (Ne.symm e)] at hg;exact(S.sep i b' hi hg).2.2.1 d _ hd hb'
 have h2:=S1.grd (id:=id) (T':=T0) (Te':=Te) (fr':=fr&&fr') (t':=t) (xs':=xs.set k l) (hole':=none) (D:=fun b'=>G1.δ id b'∨G.γ d=some b') (w':=G.w.setRow b (spl cur.toList (o'+k) [a.eval y]).toArray) (go:=some b) ho1 (fun b' e=>by grind) (by grind[WE.of_wr])
  (fun b' hb'=>by
    rcases hb' with hb' | hb'
    ·obtain⟨s1,s2,s3,s4⟩:=S1.sep id b' hb' (by rw[ho1]; rfl)
     grind
    grind)
  (fun hle=>by
    refine⟨spl vs k [a.eval y],fun j=>if j=k then G.γ d else bs j,by rw[List.length_set]; exact hOset,⟨?_,fun b'=>⟨fun h=>?_,fun h=>?_⟩,fun j j' b' hj hj' _ _ hb1 hb2=>?_,fun j hj _=>?_,fun v hv=>?_⟩,hB⟩
    ·grind[List.length_set,spl,List.length_append,List.length_take,List.length_drop,List.length_singleton]
    ·have h':G1.δ id b'∨G.γ d=some b':=by
      rcases h with ⟨_,h⟩ | ⟨h,_⟩
      ·exact h
      ·omega
     rcases h' with h' | h'
     ·obtain⟨j,hj,hjk,hjb⟩:=(hR.blk b').1 h'
      grind
     ·exact⟨k,by grind,(fun h=>by cases h),by grind⟩
    ·obtain⟨j,hj,_,hjb⟩:=h;rw[List.length_set] at hj;refine .inl ⟨rfl,?_⟩;by_cases e:j=k
     ·grind
     ·rw[if_neg e] at hjb; exact .inl ((hR.blk b').2 ⟨j,hj,(fun h=>e (Option.some.inj h).symm),hjb⟩)
    ·rw[List.length_set] at hj hj';have mix:∀i,i<xs.length->i≠k->bs i=some b'->G.γ d=some b'->False:=fun i hi hik hib hdd=>(hdb b' hdd).2.2.2 id ((hR.blk b').2 ⟨i,hi,(fun h=>hik (Option.some.inj h).symm),hib⟩) (by rw[ho1]; rfl);by_cases e:j=k
     ·grind
     ·by_cases e':j'=k
      ·grind
      ·rw[if_neg e] at hb1; rw[if_neg e'] at hb2;exact hR.inj j j' b' hj hj' (fun h=>e (Option.some.inj h).symm) (fun h=>e' (Option.some.inj h).symm) hb1 hb2
    ·rw[List.length_set] at hj;simp only[spl1_get hlenk];by_cases e:j=k
     ·subst e;simp only[if_true];have eg:(xs.set j l).getD j []=l:=by simp[hj]
      rw[eg];refine⟨cs,hOd'.we (w':=G.w.setRow b (spl cur.toList (o'+j) [a.eval y]).toArray) (WE.of_wr hW) (fun i hi e=>?_),hA.mapR (fun c x hr=>?_),fun b' hb'=>show G1.B<=b' from by grind⟩
      ·grind
      ·refine RT.up (RT.same (K':=rg G fr') (w:=G.w) (fun i hi hl=>⟨hi,?_⟩) hr) (fun i hi=>⟨show G1.K i from by rw[hK1]; exact hi.1,fun e=>show G1.B<=i from ?_⟩)
       ·exact hW.block i (fun e=>S.imm id _ b ho hbG (by rw[<- e]; exact hi.1))
       ·rw[ba] at e; rw[hB1]; exact hi.2 e.2
     ·simp only[if_neg e];obtain⟨cs',r1,r2,r3⟩:=hR.row j hj (fun h=>e (Option.some.inj h).symm);have eg:(xs.set k l).getD j []=xs.getD j []:=by simp[List.getElem?_set_ne (Ne.symm e)]
      rw[eg];refine⟨cs',r1.we (WE.of_wr (by rw[hw1]; exact hW)) (fun i hi e'=>?_),r2.mapR (fun c x hr=>RT.up (RT.same (w:=G1.w) hle.hR hr) (fun i hi=>⟨hi.1,fun e=>hi.2 (by grind)⟩)),r3⟩;cases hi;exact(S1.sep id b ((hR.blk b).2 ⟨j,hj,(fun h=>e (Option.some.inj h).symm),e'⟩) (by rw[ho1]; rfl)).2.2.1 id _ ho1 hb
    ·unfold spl at hv;rcases List.mem_append.1 hv with hv | hv
     ·rcases List.mem_append.1 hv with hv | hv
      ·exact hR.one v (List.mem_of_mem_take hv)
      grind
     ·exact hR.one v (List.mem_of_mem_drop hv))
 obtain⟨S2,L2⟩:=h2;refine⟨_,store_exec hxe hst,S2,L1.trans L2 (by grind),?_⟩;rw[<- hG1];rfl
theorem absGU_sound(hΓ:TabOk X.P Γ)(S:Sat X G)(ho:G.o=st.o)(hE:EnvR X.n G st.e a)(hp:PathP p a){op:Op}{ty:TypeId}{q:Prop}{obs:List (Nat×Ob)}{l:List Nat}
  (h:absGU Γ st p op=some (q,obs,l)) (hq:q):Ul X G a op ty obs:=by
 unfold absGU at h;split at h
 ·rename_i T x y;split at h
  ·rename_i id k d ver ti h1 h2 h3;split at h
   ·rename_i T0 Te fr t xs k' Te' fr' t' l0 ver' h4 h5;split at h
    ·rename_i l' h6;rw[ce] at h;split at h
     ·rename_i hf;simp only[ba] at hf
      grind[oi,pj,nb,castD_eq,backRow,rd_sound]
     grind
    grind
   grind
  grind
 grind
end
def kindP:Op->Bool
 | .move _ | .assign _ | .nilCheck _ | .pick .. | .binOp .. | .unOp .. | .convert .. | .fieldAddr .. | .field .. | .load .. | .indexAddr .. | .index .. | .extract .. | .makeFunc .. | .build .. | .slice ..=>true
 | .call ⟨.builtin .len,_,_⟩ | .call ⟨.builtin .min,_,_⟩ | .call ⟨.builtin .max,_,_⟩=>true
 | _=>false
def kindM:Op->Bool
 | .alloc _ | .box .. | .makeSlice .. | .buildSlice .. | .call ⟨.builtin .append,_,_⟩=>true
 | _=>false
def kindU:Op->Bool
 | .store ..=>true
 | _=>false
def absO(Γ:Tab')(T:List Ct)(st:St)(p:Pa)(o:Oper):Option (Prop×Option AV×List (Nat×Ob)×List Nat):=match o.dst with
 | some d=>bif kindP o.op then(match absP Γ st p o.op with
   | some (q,r,l)=>some (q,some r,[],l)
   | none=>match absG Γ st p d o.op with
     | some (q,r,obs,l)=>some (q,some r,obs,l)
     | none=>none) else bif kindM o.op then(match absM Γ st p d o.op with
     | some (q,r,w,l)=>some (q,some r,[w],l)
     | none=>none) else match absC T st p d o.op with
       | some (q,r,obs,l)=>some (q,some r,obs,l)
       | none=>none
 | none=>bif kindU o.op then(match absU Γ st p o.op with
   | some (q,w,l)=>some (q,none,[w],l)
   | none=>match absGU Γ st p o.op with
     | some (q,obs,l)=>some (q,none,obs,l)
     | none=>none) else match absC T st p 0 o.op with
     | some (q,_,obs,l)=>some (q,none,obs,l)
     | none=>none
def pathOf(all:List Oper)(e:List (Nat×Sl))(o:Oper):Option Pa:=match o.guard with
 | none=>some []
 | some (j,b)=>match nthL all j with
   | some oj=>match oj.dst with
     | some dj=>match lku e dj with
       | some ⟨q,.d _ .bool _⟩=>some ((dj,b) :: q)
       | _=>none
     | none=>none
   | none=>none
def condP(e:List (Nat×Sl)):Pa->Prop
 | []=>True
 | (s,b) :: r=>(match lku e s with
   | some ⟨q,.d _ .bool x⟩=>if subP q r=true then x=b else True
   | _=>True)/\condP e r
def addE(dst:Option Nat)(p:Pa)(av:Option AV)(e:List (Nat×Sl)):List (Nat×Sl):=match dst,av with
 | some d,some a=>(d,⟨p,a⟩) :: e
 | _,_=>e
def OpWp(P:Program)(ops:Array Oper)(Q:Exit->Act->World->Prop)(o:Oper)(K:Act->World->Prop)(a:Act)(w:World):Prop :=
 if Region.wanted o (yielded ops a.tmps) then o.wp P a w K Q else K (a.put o.dst undef) w
section
variable {X:Cx} {G:Gh} {a:Act} {st:St} {Γ:Tab'} {T:List Ct}
theorem condP_of(hE:EnvR X.n G st.e a):∀{p:Pa},PathP p a->condP st.e p
 | [],_=>trivial
 | (s,b) :: r,h=>by
   have h1:=h (s,b) (by simp);have hr:PathP r a:=fun x hx=>h x (by grind);refine⟨?_,condP_of hE hr⟩;split
   ·rename_i q f x hs;split
    ·rename_i hsub;have:=avr_bool ((hE.val s _ hs).1 (hr.sub hsub))
     grind
    grind
   grind
theorem put_lt{d:Nat}{v:Value}(hd:d<a.tmps.size)(t:Nat):(a.put (some d) v).tmps.getD t undef=if d=t then v else a.tmps.getD t undef:=by
 unfold Act.put;by_cases h:d=t
 ·simp_all
 ·simp[h]
theorem put_size{d:Option Nat}{v:Value}:(a.put d v).tmps.size=a.tmps.size/\(a.put d v).defers=a.defers:=by
 cases d <;> simp[Act.put]
theorem pathP_put{d:Nat}{v:Value}(hd:d<a.tmps.size){p:Pa}(h:∀x∈p,x.1≠d):PathP p (a.put (some d) v)↔PathP p a:=by
 constructor <;> intro k x hx
 ·have:=k x hx;rw[put_lt hd,if_neg (Ne.symm (h x hx))] at this; omega
 ·rw[put_lt hd,if_neg (Ne.symm (h x hx))]; exact k x hx
theorem EnvR.put{G':Gh}{d:Nat}{v:Value}{p:Pa}{r:AV}(hE:EnvR X.n G' st.e a)(hd:d<X.n)(hp:∀x∈p,x.1≠d)(hs:∀t s,lku st.e t=some s->∀x∈s.p,x.1≠d)
  (hv:(PathP p a->AVR G' r v)/\(¬PathP p a->v=undef)):EnvR X.n G' ((d,⟨p,r⟩) :: st.e) (a.put (some d) v):=by
 have hd':d<a.tmps.size:=by rw[hE.size]; exact hd
 refine⟨by rw[put_size.2]; exact hE.defers,by rw[put_size.1]; exact hE.size,fun t s ht=>?_⟩;rw[lK] at ht;rw[put_lt hd'];by_cases e:d=t
 ·rw[if_pos e] at ht ⊢
  grind[pathP_put]
 ·rw[if_neg e] at ht ⊢;rw[pathP_put hd' (hs t s ht)];exact hE.val t s ht
theorem yielded_bool{ops:Array Oper}{all:List Oper}(ha:ops=all.toArray){j dj:Nat}{oj:Oper}(hj:nthL all j=some oj)(hd:oj.dst=some dj):yielded ops a.tmps j=match a.tmps.getD dj undef with
  | .bool v=>some v
  | _=>none:=by
 subst ha;rw[nthL_eq] at hj;unfold yielded;have e1:(all.toArray[j]?).bind (·.dst)=some dj:=by simp[hj,hd]
 rw[e1];simp only[Option.bind_some];rw[Array.getD_eq_getD_getElem?]
 grind[undef]
theorem path_cases{ops:Array Oper}{all:List Oper}(ha:ops=all.toArray)(hE:EnvR X.n G st.e a){o:Oper}{p:Pa}(hp:pathOf all st.e o=some p) :
  (Region.wanted o (yielded ops a.tmps)=true/\PathP p a)∨(Region.wanted o (yielded ops a.tmps)=false/\¬PathP p a):=by
 unfold pathOf at hp;split at hp
 ·rename_i hg;simp only[oi] at hp; subst hp;exact .inl ⟨by grind[Region.wanted],fun x hx=>by cases hx⟩
 ·rename_i j b hg;split at hp
  ·rename_i oj hj;split at hp
   ·rename_i dj hd;split at hp
    ·rename_i q f x hs;simp only[oi] at hp; subst hp;have hy:=yielded_bool (a:=a) ha hj hd;have hv:=hE.val dj _ hs;by_cases hq:PathP q a
     ·have e:=avr_bool (hv.1 hq);rw[e] at hy;simp only at hy;by_cases hb:x=b
      ·subst hb;refine .inl ⟨by grind[Region.wanted],fun y hy'=>?_⟩;rcases List.mem_cons.1 hy' with rfl | h
       ·exact e
       ·exact hq y h
      ·refine .inr ⟨by grind[Region.wanted],fun h=>?_⟩;have:=h (dj,b) (by simp)
       grind
     ·have e:=hv.2 hq;rw[e] at hy;simp only[undef] at hy;exact .inr ⟨by grind[Region.wanted],fun h=>hq (fun y hy'=>h y (by grind))⟩
    grind
   grind
  grind
theorem op_ok(hΓ:TabOk X.P Γ)(hT:∀c∈T,Ok X.P c){ops:Array Oper}{all:List Oper}(ha:ops=all.toArray){Q:Exit->Act->World->Prop}(S:Sat X G)(ho:G.o=st.o)(hE:EnvR X.n G st.e a){o:Oper}{p:Pa}{q:Prop}{av:Option AV}{obs:List (Nat×Ob)}{fp:List Nat}
  (hp:pathOf all st.e o=some p) (h:absO Γ T st p o=some (q,av,obs,fp)) (hq:condP st.e p->q) (hg:p=[]∨obs=[]) (hd:∀d,o.dst=some d->d<X.n/\(∀x∈p,x.1≠d)/\∀t s,lku st.e t=some s->∀x∈s.p,x.1≠d)
  {K:Act->World->Prop} (hK:∀a' G',Sat X G'->GLe G G'->G'.o=obs++st.o->EnvR X.n G' (addE o.dst p av st.e) a'->K a' G'.w):OpWp X.P ops Q o K a G.w:=by
 unfold OpWp;rcases path_cases ha hE hp with ⟨hw,hP⟩ | ⟨hw,hP⟩
 ·rw[if_pos hw];have hq:=hq (condP_of hE hP);unfold absO at h;split at h
  ·rename_i d hdst;obtain⟨hd1,hd2,hd3⟩:=hd d hdst;rw[ce] at h;split at h
   ·split at h
    ·rename_i q' r l hh;simp only[oi,pj] at h;obtain⟨rfl,rfl,rfl,_⟩:=h;obtain⟨v,hrun,hv⟩:=absP_sound hΓ S ho hE hP (ty:=o.type) hh hq;unfold Oper.wp;have:=hrun o.dst o.pos o.after o.guard;rw[show(execOp a.eval o).run X.P G.w=.ok (.value v) G.w from this];show K (a.put o.dst v) G.w;rw[hdst];refine hK _ G S (GLe.refl G) (by grind) ?_;rw[hdst];exact EnvR.put hE hd1 hd2 hd3 ⟨fun _=>hv,fun h=>(h hP).elim⟩
    ·split at h
     ·rename_i q' r obs' l hh;simp only[oi,pj] at h;obtain⟨rfl,rfl,rfl,_⟩:=h;obtain⟨v,G',hrun,hS,hL,hO,hv⟩:=absG_sound hΓ S ho hE hP (ty:=o.type) hh hq;unfold Oper.wp;have:=hrun o.dst o.pos o.after o.guard;rw[show(execOp a.eval o).run X.P G.w=.ok (.value v) G'.w from this];show K (a.put o.dst v) G'.w;rw[hdst];refine hK _ G' hS hL (by grind) ?_;rw[hdst];exact EnvR.put (hE.mono hL) hd1 hd2 hd3 ⟨fun _=>hv,fun h=>(h hP).elim⟩
     grind
   ·rw[ce] at h;split at h
    ·split at h
     ·rename_i q' r w l hh;simp only[oi,pj] at h;obtain⟨rfl,rfl,rfl,_⟩:=h;obtain⟨v,G',hrun,hS,hL,hO,hv⟩:=absM_sound hΓ S ho hE hP (ty:=o.type) hh hq;unfold Oper.wp;have:=hrun o.dst o.pos o.after o.guard;rw[show(execOp a.eval o).run X.P G.w=.ok (.value v) G'.w from this];show K (a.put o.dst v) G'.w;rw[hdst];refine hK _ G' hS hL (by grind) ?_;rw[hdst];exact EnvR.put (hE.mono hL) hd1 hd2 hd3 ⟨fun _=>hv,fun h=>(h hP).elim⟩
     grind
    ·split at h
     ·rename_i q' r obs' l hh;simp only[oi,pj] at h;obtain⟨rfl,rfl,rfl,_⟩:=h;obtain⟨f,vs,hrun,hc⟩:=absC_sound hT S ho hE hP (ty:=o.type) hh hq;unfold Oper.wp;have:=hrun o.dst o.pos o.after o.guard;rw[show(execOp a.eval o).run X.P G.w=.ok (.enter f vs) G.w from this];refine Calls.mono hc ?_;rintro en w' ⟨v,G',rfl,rfl,hS,hL,hO,hv⟩;show K (a.put o.dst v) G'.w;rw[hdst];refine hK _ G' hS hL (by grind) ?_;rw[hdst];exact EnvR.put (hE.mono hL) hd1 hd2 hd3 ⟨fun _=>hv,fun h=>(h hP).elim⟩
     grind
  ·rename_i hdst;rw[ce] at h;split at h
   ·split at h
    ·rename_i q' w l hh;simp only[oi,pj] at h;obtain⟨rfl,rfl,rfl,_⟩:=h;obtain⟨G',hrun,hS,hL,hO⟩:=absU_sound hΓ S ho hE hP (ty:=o.type) hh hq;unfold Oper.wp;have:=hrun o.dst o.pos o.after o.guard;rw[show(execOp a.eval o).run X.P G.w=.ok .skip G'.w from this];show K (a.put o.dst undef) G'.w;rw[hdst];refine hK _ G' hS hL (by grind) ?_;rw[hdst];exact hE.mono hL
    ·split at h
     ·rename_i q' obs' l hh;simp only[oi,pj] at h;obtain⟨rfl,rfl,rfl,_⟩:=h;obtain⟨G',hrun,hS,hL,hO⟩:=absGU_sound hΓ S ho hE hP (ty:=o.type) hh hq;unfold Oper.wp;have:=hrun o.dst o.pos o.after o.guard;rw[show(execOp a.eval o).run X.P G.w=.ok .skip G'.w from this];show K (a.put o.dst undef) G'.w;rw[hdst];refine hK _ G' hS hL (by grind) ?_;rw[hdst];exact hE.mono hL
     grind
   ·split at h
    ·rename_i q' r obs' l hh;simp only[oi,pj] at h;obtain⟨rfl,rfl,rfl,_⟩:=h;obtain⟨f,vs,hrun,hc⟩:=absC_sound hT S ho hE hP (ty:=o.type) hh hq;unfold Oper.wp;have:=hrun o.dst o.pos o.after o.guard;rw[show(execOp a.eval o).run X.P G.w=.ok (.enter f vs) G.w from this];refine Calls.mono hc ?_;rintro en w' ⟨v,G',rfl,rfl,hS,hL,hO,hv⟩;show K (a.put o.dst v) G'.w;rw[hdst];refine hK _ G' hS hL (by grind) ?_;rw[hdst];exact hE.mono hL
    grind
 ·rw[if_neg (by grind)];have hob:obs=[]:=by
   rcases hg with rfl | h
   ·exact(hP (fun x hx=>by cases hx)).elim
   ·exact h
  subst hob;refine hK _ G S (GLe.refl G) (by grind) ?_;cases hdst:o.dst with
  | none=>cases av <;> exact hE
  | some d =>
    obtain⟨hd1,hd2,hd3⟩:=hd d hdst;have:∃r,av=some r:=by
     unfold absO at h;rw[hdst] at h;simp only[ce] at h;split at h
     ·grind
     ·grind
    obtain⟨r,rfl⟩:=this;exact EnvR.put hE hd1 hd2 hd3 ⟨fun h=>(hP h).elim,fun _=>rfl⟩
end
section
variable {e e':List (Nat×Sl)} {o o':List (Nat×Ob)}
theorem rd_local{x:Operand}{p:Pa}(h:∀t,x=.tmp t->lku e t=lku e' t):rd ⟨e,o⟩ p x=rd ⟨e',o'⟩ p x:=by
 cases x with
 | tmp t=>simp only[rd,h t rfl]
 | _=>rfl
theorem rds_local{p:Pa}:∀{xs:List Operand},(∀t,.tmp t∈xs->lku e t=lku e' t)->rds ⟨e,o⟩ p xs=rds ⟨e',o'⟩ p xs
 | [],_=>rfl
 | x :: r,h=>by
   unfold rds;rw[rd_local (o:=o) (o':=o') (p:=p) (x:=x) (fun t ht=>h t (by grind)),rds_local (xs:=r) (fun t ht=>h t (by grind))]
theorem deref_local{v:AV}{cs:List AV}{l:List Nat}(h:derefA o v=some (cs,l))(ho:∀id∈l,lku o id=lku o' id):derefA o' v=some (cs,l)/\derefQ o' v=derefQ o v:=by
 unfold derefA at h;split at h
 ·rename_i id off;split at h
  ·rename_i T cs' hx;simp only[oi,pj] at h;obtain⟨rfl,rfl⟩:=h
   grind[derefA,derefQ]
  grind
 ·rename_i id ver k s off;split at h
  ·rename_i T fr t xs ver' hx;rw[ce] at h;split at h
   ·rename_i hv;simp only[oi,pj] at h;obtain⟨rfl,rfl⟩:=h
    grind[derefA,derefQ]
   grind
  grind
 ·simp only[oi,pj] at h;obtain⟨rfl,rfl⟩:=h;exact⟨rfl,rfl⟩
 grind
theorem idx_local{Γ:Tab'}{T:TypeId}{v r:AV}{n:Int}{q:Prop}{l:List Nat}(h:idxA Γ o T v n=some (q,r,l))(ho:∀id∈l,lku o id=lku o' id):idxA Γ o' T v n=some (q,r,l):=by
 unfold idxA at h ⊢;split at h
 ·exact h
 ·grind
 ·exact h
 ·grind
 omega
theorem dat1_local{rec rec':(t:Ty)->List AV->Option (den t×List Nat×Bool)}(hrec:∀{t:Ty} {cs:List AV} {x:den t} {l:List Nat} {fl:Bool},rec t cs=some (x,l,fl)->(∀id∈l,lku o id=lku o' id)->rec' t cs=some (x,l,fl))
  {t:Ty} {c:AV} {x:den t} {l:List Nat} {fl:Bool} (h:dat1 o rec t c=some (x,l,fl)) (ho:∀id∈l,lku o id=lku o' id):dat1 o' rec' t c=some (x,l,fl):=by
 unfold dat1 at h;split at h
 ·grind[dat1]
 ·exact h
 ·rename_i e id ver;split at h
  ·rename_i T fr e' xs ver' hx;rw[ce] at h;split at h
   ·rename_i hv;split at h
    ·rename_i y hy;simp only[oi,pj] at h;obtain⟨rfl,rfl,rfl⟩:=h
     grind[dat1]
    grind
   grind
  grind
 ·rename_i e id off;split at h
  ·rename_i T cs hx;split at h
   ·rename_i x1 l1 f1 h1;simp only[oi,pj] at h;obtain⟨rfl,rfl,rfl⟩:=h
    grind[hi,dat1]
   grind
  grind
 grind
theorem datN_local:∀(n:Nat) {t:Ty} {cs:List AV} {x:den t} {l:List Nat} {fl:Bool},datN o n t cs=some (x,l,fl)->(∀id∈l,lku o id=lku o' id)->datN o' n t cs=some (x,l,fl):=by
 intro n
 induction n with
 | zero=>grind[datN]
 | succ n ih =>
   intro t cs x l fl h ho;cases t with
   | pr a b =>
     unfold datN at h ⊢
     grind
   | _ =>
     unfold datN at h ⊢
     grind[dat1_local]
theorem data_local{v:AV}{t:Ty}{ys:List (den t)}{ids:List Nat}{fl:Bool}(h:dataA o v=some ⟨t,ys,ids,fl⟩)(ho:∀id∈ids,lku o id=lku o' id):dataA o' v=some ⟨t,ys,ids,fl⟩:=by
 unfold dataA at h
 grind[id,dataA]
theorem fresh_local{d:Nat}(h:lku o d=lku o' d):freshO o' d=freshO o d:=by grind[freshO]
theorem argsA_local:∀{ps:List Par} {as':List AV} {x:denPs ps} {l:List Nat} {io:Option Nat},argsA o ps as'=some (x,l,io)->(∀id∈l,lku o id=lku o' id)->(∀i,io=some i->lku o i=lku o' i)->argsA o' ps as'=some (x,l,io)
 | [],[],x,l,io,h,_,_=>h
 | [],_ :: _,x,l,io,h,_,_=>by grind[argsA]
 | _ :: _,[],x,l,io,h,_,_=>by grind[argsA]
 | p :: r,a :: as',x,l,io,h,hl,hio=>by
   simp only[argsA] at h ⊢;split at h
   ·rename_i x1 l1 i1 h1;split at h
    ·rename_i y m j h2;have hx:l=l1++m/\((i1=none/\io=j)∨(∃i,i1=some i/\j=none/\io=some i)):=by
      split at h
      ·grind
      ·grind
      ·cases h
     obtain⟨rfl,hij⟩:=hx;have hl1:∀id∈l1,lku o id=lku o' id:=fun id hid=>hl id (by grind);have h1':argA o' p a=some (x1,l1,i1):=by
      unfold argA at h1;split at h1
      ·split at h1
       ·rename_i hd;simp only[oi,pj] at h1;obtain⟨rfl,rfl,rfl⟩:=h1
        grind[argA,datN_local]
       grind
      ·split at h1
       ·rename_i hd;simp only[oi,pj] at h1;obtain⟨rfl,rfl,rfl⟩:=h1
        grind[argA,datN_local]
       grind
      ·rw[ce] at h1;split at h1
       ·rename_i hf;split at h1
        ·rename_i hd;simp only[oi,pj] at h1;obtain⟨rfl,rfl,rfl⟩:=h1;simp only[argA,datN_local 24 hd hl1,hf,cond_true]
        grind
       grind
      ·exact h1
      ·rename_i T t id _;split at h1
       ·rename_i T' cs ho;rw[ce] at h1;split at h1
        ·rename_i hT;split at h1
         ·rename_i x0 hd;simp only[oi,pj] at h1;obtain⟨rfl,rfl,rfl⟩:=h1;rcases hij with ⟨e,_⟩ | ⟨i',e,_,rfl⟩
          ·cases e
          cases e;have e1:=hio id rfl;rw[ho] at e1;simp only[argA,<- e1,hT,cond_true,datN_local 24 hd hl1]
         grind
        grind
       grind
      ·rename_i E t id ver _;split at h1
       ·rename_i E' fr t' xs ver' ho;rw[ce] at h1;split at h1
        ·rename_i hb;split at h1
         ·rename_i x0 hc;simp only[oi,pj] at h1;obtain⟨rfl,rfl,rfl⟩:=h1;rcases hij with ⟨e,_⟩ | ⟨i',e,_,rfl⟩
          ·cases e
          cases e;have e1:=hio id rfl
          grind[argA]
         grind
        grind
       grind
      ·exact h1
      ·cases h1
     have h2':=argsA_local h2 (fun id hid=>hl id (by grind)) (fun i hi=>by
      grind)
     grind
    grind
   grind
theorem allFresh_local:∀{l:List (Nat×Ob)},(∀x∈l,lku o x.1=lku o' x.1)->allFresh o' l=allFresh o l
 | [],_=>rfl
 | (i,b) :: r,h=>by
   simp only[allFresh];rw[fresh_local (h (i,b) (by simp)),allFresh_local (fun x hx=>h x (by grind))]
theorem callT_local{d f:Nat}{as':List AV}:∀{T:List Ct} {q:Prop} {av:AV} {obs:List (Nat×Ob)} {fp:List Nat},callT o d f as' T=some (q,av,obs,fp)->(∀id∈fp,lku o id=lku o' id)->callT o' d f as' T=some (q,av,obs,fp)
 | [],q,av,obs,fp,h,_=>by cases h
 | c :: r,q,av,obs,fp,h,ho=>by
   simp only[callT,ce] at h ⊢;split at h
   ·rename_i hf;rw[if_pos hf];split at h
    ·rename_i x l io hargs;by_cases hgv:giv c.ps=true
     ·rw[if_pos hgv] at h;unfold givT at h;split at h
      ·rename_i id;split at h
       ·rename_i T fr t xs E' fr' t' xs' ver hrv hoid;rw[ce] at h;split at h
        ·rename_i hk;simp only[oi,pj] at h;obtain⟨rfl,rfl,rfl,rfl⟩:=h;have hnil:=isNil_eq (ba _ _ ▸ hk).2;subst hnil;have hio:lku o id=lku o' id:=ho id (by simp);rw[argsA_local hargs (fun _ h=>by cases h) (fun i hi=>by grind)];simp only[hgv,if_true,givT,hrv,<- hio,hoid,hk,cond_true]
        grind
       grind
      grind
     rw[if_neg hgv] at h;simp only[if_neg hgv];split at h
     ·rename_i hc;have hc':=hc;simp only[oi,pj] at h;obtain⟨rfl,rfl,rfl,rfl⟩:=h;have hl:∀id∈l,lku o id=lku o' id:=fun id hid=>ho id (by grind);have hio:∀i,io=some i->lku o i=lku o' i:=fun i hi=>ho i (by grind);rw[argsA_local hargs hl hio];simp only;rw[allFresh_local (o:=o) (fun x hx=>ho x.1 (List.mem_append.2 (.inl (List.mem_map_of_mem hx)))),if_pos hc'];have:ioUpd o' c.ps (c.res x).z io=ioUpd o c.ps (c.res x).z io:=by
       cases io with
       | none=>rfl
       | some i=>simp only[ioUpd,hio i rfl]
      grind
     grind
    grind
   ·rename_i hf;rw[if_neg hf];exact callT_local h ho
def slotsL(xs:List Operand):List Nat:=xs.filterMap fun | .tmp t=>some t | _=>none
theorem mem_slots{xs:List Operand}{t:Nat}(h:.tmp t∈xs):t∈slotsL xs:=List.mem_filterMap.2 ⟨_,h,rfl⟩
theorem optA_local{p:Pa}{x:Option Operand}(h:∀t,x=some (.tmp t)->lku e t=lku e' t):optA ⟨e,o⟩ p x=optA ⟨e',o'⟩ p x:=by
 cases x with
 | none=>rfl
 | some y =>
   grind[optA,rd_local]
theorem buildA_local{p:Pa}{pl:List (Nat×Nat)}:∀{ps:List (Nat×Operand)} {cs:List AV},(∀t,.tmp t∈ps.map (·.2)->lku e t=lku e' t)->buildA ⟨e,o⟩ p pl cs ps=buildA ⟨e',o'⟩ p pl cs ps
 | [],_,_=>rfl
 | (i,x) :: r,cs,h=>by
   unfold buildA;rw[rd_local (o:=o) (o':=o') (p:=p) (x:=x) (fun t ht=>h t (by grind))];have ih:=fun cs=>buildA_local (p:=p) (pl:=pl) (ps:=r) (cs:=cs) (fun t ht=>h t (by grind))
   simp_all
theorem partsA_local{p:Pa}{t:Ty}:∀{ps:List (Nat×Operand)} {k:Nat} {ys:List (den t)×Bool},(∀s,.tmp s∈ps.map (·.2)->lku e s=lku e' s)->partsA ⟨e,o⟩ p t k ps=some ys->partsA ⟨e',o'⟩ p t k ps=some ys
 | [],_,_,_,h=>h
 | (i,x) :: r,k,ys,hs,h=>by
   unfold partsA at h ⊢;rw[ce] at h ⊢;split at h
   ·rename_i hi;rw[if_pos hi];rw[<- rd_local (o:=o) (o':=o') (p:=p) (x:=x) (fun t ht=>hs t (by grind))];split at h
    ·rename_i v hv;split at h
     ·rename_i cs hc;simp only;split at h
      ·rename_i y f hy;rw[datN_local 24 hy (fun _ h=>by cases h)];simp only;split at h
       ·rename_i ys' g hys;rw[partsA_local (fun s hs'=>hs s (by grind)) hys];exact h
       grind
      grind
     omega
    omega
   grind
theorem absP_local{Γ:Tab'}{p:Pa}{op:Op}{q:Prop}{r:AV}{l:List Nat}(hs:∀t,.tmp t∈op.operands.toList->lku e t=lku e' t)(h:absP Γ ⟨e,o⟩ p op=some (q,r,l))(ho:∀id∈l,lku o id=lku o' id):absP Γ ⟨e',o'⟩ p op=some (q,r,l):=by
 have R:∀(p:Pa) (x:Operand),x∈op.operands.toList->rd ⟨e',o'⟩ p x=rd ⟨e,o⟩ p x:=fun p x hx=>(rd_local (fun t ht=>hs t (by grind))).symm;unfold absP at h;split at h
 ·grind[absP,Op.operands]
 ·grind[absP,Op.operands]
 ·rename_i x;simp only[absP,R _ x (by simp[Op.operands])];split at h
  ·grind[oi,pj,deref_local]
  omega
 ·grind[absP,Op.operands]
 ·grind[absP,Op.operands]
 ·grind[absP,Op.operands]
 ·grind[absP,Op.operands]
 ·rename_i x;simp only[absP,R _ x (by simp[Op.operands])]
  grind
 ·rename_i x f;simp only[absP,R _ x (by simp[Op.operands])];split at h
  ·rename_i v s0 y0 z0 pl ty0 hv hT;split at h
   ·rename_i off s1 cs l' hf hd;split at h
    ·rename_i r' hm;simp only[oi,pj] at h;obtain⟨rfl,rfl,rfl⟩:=h;simp only[hf,(deref_local hd ho).1,hm]
    grind
   grind
  omega
 ·rename_i x;simp only[absP,R _ x (by simp[Op.operands])];split at h
  ·grind[oi,pj,deref_local]
  omega
 ·grind[absP,Op.operands,idx_local]
 ·grind[absP,Op.operands]
 ·grind[absP,Op.operands]
 ·grind[absP,Op.operands]
 ·grind[rds,rds_local,Op.operands,absP]
 ·rename_i T parts;have:∀pl cs,buildA ⟨e',o'⟩ p pl cs parts.toList=buildA ⟨e,o⟩ p pl cs parts.toList:=fun pl cs=>(buildA_local (fun t ht=>hs t (by grind[Op.operands]))).symm
  grind[absP]
 ·grind[optA,optA_local,Op.operands,absP]
 ·rename_i xs Ts;have:rds ⟨e',o'⟩ p xs.toList=rds ⟨e,o⟩ p xs.toList:=(rds_local (fun t ht=>hs t (by grind[Op.operands,Call.operands]))).symm;simp only[absP,this]
  grind
 ·grind[rds,rds_local,Op.operands,Call.operands,absP]
 ·grind[rds,rds_local,Op.operands,Call.operands,absP]
 grind
end
section
variable {e e':List (Nat×Sl)} {o o':List (Nat×Ob)}
theorem absM_local{Γ:Tab'}{p:Pa}{d:Nat}{op:Op}{q:Prop}{r:AV}{w:Nat×Ob}{l:List Nat}(hs:∀t,.tmp t∈op.operands.toList->lku e t=lku e' t)(h:absM Γ ⟨e,o⟩ p d op=some (q,r,w,l))(ho:∀id∈l,lku o id=lku o' id):absM Γ ⟨e',o'⟩ p d op=some (q,r,w,l):=by
 have R:∀(x:Operand),x∈op.operands.toList->rd ⟨e',o'⟩ p x=rd ⟨e,o⟩ p x:=fun x hx=>(rd_local (fun t ht=>hs t (by grind))).symm;unfold absM at h;split at h
 ·simp only[absM];split at h
  ·split at h
   ·rw[ce] at h ⊢;split at h
    ·rename_i hf;have hh:=h;simp only[oi,pj] at h;obtain⟨_,_,_,rfl⟩:=h;rw[fresh_local (ho d (by simp)),if_pos hf]; exact hh
    grind
   omega
  omega
 ·rename_i T x;simp only[absM,R x (by simp[Op.operands])];split at h
  ·split at h
   ·rw[ce] at h ⊢;split at h
    ·rename_i hf;have hh:=h;simp only[oi,pj] at h;obtain⟨_,_,_,rfl⟩:=h;rw[fresh_local (ho d (by simp)),if_pos hf]; exact hh
    grind
   omega
  omega
 ·rename_i T x y;simp only[absM,R x (by simp[Op.operands]),R y (by simp[Op.operands])];split at h
  ·split at h
   ·split at h
    ·rw[ce] at h ⊢;split at h
     ·rename_i hf;have hh:=h;simp only[oi,pj] at h;obtain⟨_,_,_,rfl⟩:=h;rw[fresh_local (ho d (by simp)),if_pos hf]; exact hh
     grind
    ·split at h
     ·split at h
      ·rename_i hd;rw[datN_local 24 hd (fun _ h=>by cases h)];simp only;rw[ce] at h ⊢;split at h
       ·rename_i hf;have hh:=h;simp only[oi,pj] at h;obtain⟨_,_,_,rfl⟩:=h;rw[fresh_local (ho d (by simp)),if_pos hf]; exact hh
       grind
      grind
     omega
   omega
  omega
 ·rename_i T n parts;simp only[absM];split at h
  ·split at h
   ·split at h
    ·rename_i xs hp;rw[partsA_local (e':=e') (o':=o') (fun s hs'=>hs s (by grind[Op.operands])) hp];simp only;rw[ce] at h ⊢;split at h
     ·rename_i hf;have hh:=h;simp only[oi,pj] at h;obtain⟨_,_,_,rfl⟩:=h;rw[fresh_local (ho d (by simp)),if_pos hf]; exact hh
     grind
    grind
   omega
  omega
 ·rename_i xs Ts;have:rds ⟨e',o'⟩ p xs.toList=rds ⟨e,o⟩ p xs.toList:=(rds_local (fun t ht=>hs t (by grind[Op.operands,Call.operands]))).symm;simp only[absM,this];split at h
  ·split at h
   ·rename_i h3 h4 h5;split at h
    ·rename_i h6 h7;rw[ce] at h;split at h
     ·rename_i hf;have hh:=h;simp only[oi,pj] at h;obtain⟨_,_,_,rfl⟩:=h;have e1:=ho _ List.mem_cons_self;simp only at h4;rw[h4] at e1;have e2:=data_local (o':=o') h5 (fun id hid=>ho id (by grind))
      grind
     grind
    grind
   grind
  ·split at h
   ·rename_i h3 h5;split at h
    ·rename_i h6;rw[ce] at h;split at h
     ·rename_i hf;have hh:=h;simp only[oi,pj] at h;obtain⟨_,_,_,rfl⟩:=h;have e2:=data_local (o':=o') h5 (fun id hid=>ho id (by grind));simp only[h3,e2,h6,fresh_local (ho d (by simp))]
      grind
     grind
    grind
   grind
  omega
 grind
theorem absU_local{Γ:Tab'}{p:Pa}{op:Op}{q:Prop}{w:Nat×Ob}{l:List Nat}(hs:∀t,.tmp t∈op.operands.toList->lku e t=lku e' t)(h:absU Γ ⟨e,o⟩ p op=some (q,w,l))(ho:∀id∈l,lku o id=lku o' id):absU Γ ⟨e',o'⟩ p op=some (q,w,l):=by
 have R:∀(x:Operand),x∈op.operands.toList->rd ⟨e',o'⟩ p x=rd ⟨e,o⟩ p x:=fun x hx=>(rd_local (fun t ht=>hs t (by grind))).symm;unfold absU at h;split at h
 ·rename_i T x y;simp only[absU,R x (by simp[Op.operands]),R y (by simp[Op.operands])];split at h
  ·grind
  ·split at h
   ·rename_i h4 h5;split at h
    ·rename_i h6;rw[ce] at h;split at h
     ·rename_i hf;have hh:=h;simp only[oi,pj] at h;obtain⟨_,_,rfl⟩:=h;have e1:=ho _ (List.mem_singleton.2 rfl);simp only at h4;rw[h4] at e1;simp only[<- e1,h5,datN_local (o':=o') 24 h6 (fun _ h=>by cases h),hf,cond_true]; exact hh
     grind
    grind
   grind
  omega
 grind
theorem absC_local{T:List Ct}{p:Pa}{d:Nat}{op:Op}{q:Prop}{r:AV}{obs:List (Nat×Ob)}{fp:List Nat}(hs:∀t,.tmp t∈op.operands.toList->lku e t=lku e' t)(h:absC T ⟨e,o⟩ p d op=some (q,r,obs,fp))(ho:∀id∈fp,lku o id=lku o' id):absC T ⟨e',o'⟩ p d op=some (q,r,obs,fp):=by
 unfold absC at h
 grind[rds,rds_local,Op.operands,Call.operands,rd,rd_local,absC,callT_local]
theorem absG_P{Γ:Tab'}{st:St}{p:Pa}{d:Nat}{op:Op}{r:Prop×AV×List (Nat×Ob)×List Nat}(h:absG Γ st p d op=some r):absP Γ st p op=none:=by
 unfold absG at h
 grind[absP,derefA]
theorem absGU_U{Γ:Tab'}{st:St}{p:Pa}{op:Op}{r:Prop×List (Nat×Ob)×List Nat}(h:absGU Γ st p op=some r):absU Γ st p op=none:=by
 unfold absGU at h
 grind[absU]
theorem absG_local{Γ:Tab'}{p:Pa}{d:Nat}{op:Op}{q:Prop}{r:AV}{obs:List (Nat×Ob)}{l:List Nat}(hs:∀t,.tmp t∈op.operands.toList->lku e t=lku e' t)(h:absG Γ ⟨e,o⟩ p d op=some (q,r,obs,l))(ho:∀id∈l,lku o id=lku o' id):absG Γ ⟨e',o'⟩ p d op=some (q,r,obs,l):=by
 have R:∀(x:Operand),x∈op.operands.toList->rd ⟨e',o'⟩ p x=rd ⟨e,o⟩ p x:=fun x hx=>(rd_local (fun t ht=>hs t (by grind))).symm;unfold absG at h;split at h
 ·rename_i T x;simp only[absG,R x (by simp[Op.operands])];split at h
  ·rename_i h1 h2;split at h
   ·rename_i h3;rw[ce] at h;split at h
    ·rename_i hf;have hh:=h;simp only[oi,pj] at h;obtain⟨_,_,_,rfl⟩:=h;have e1:=ho _ (List.mem_cons_of_mem _ (List.mem_singleton.2 rfl));simp only at h3;rw[h3] at e1;simp only at hf;simp only[<- e1,fresh_local (ho d (by simp)),hf,cond_true];exact hh
    grind
   grind
  omega
 ·rename_i T x l h0;have e2:optA ⟨e',o'⟩ p l=optA ⟨e,o⟩ p l:=(optA_local (fun t ht=>hs t (by grind[Op.operands]))).symm;have e3:optA ⟨e',o'⟩ p h0=optA ⟨e,o⟩ p h0:=(optA_local (fun t ht=>hs t (by grind[Op.operands]))).symm;simp only[absG,R x (by simp[Op.operands]),e2,e3]
  grind
 grind
theorem absGU_local{Γ:Tab'}{p:Pa}{op:Op}{q:Prop}{obs:List (Nat×Ob)}{l:List Nat}(hs:∀t,.tmp t∈op.operands.toList->lku e t=lku e' t)(h:absGU Γ ⟨e,o⟩ p op=some (q,obs,l))(ho:∀id∈l,lku o id=lku o' id):absGU Γ ⟨e',o'⟩ p op=some (q,obs,l):=by
 have R:∀(x:Operand),x∈op.operands.toList->rd ⟨e',o'⟩ p x=rd ⟨e,o⟩ p x:=fun x hx=>(rd_local (fun t ht=>hs t (by grind))).symm;unfold absGU at h;split at h
 ·rename_i T x y;simp only[absGU,R x (by simp[Op.operands]),R y (by simp[Op.operands])];split at h
  ·grind
  omega
 grind
theorem absO_local{Γ:Tab'}{T:List Ct}{p:Pa}{x:Oper}{q:Prop}{av:Option AV}{obs:List (Nat×Ob)}{fp:List Nat}(hs:∀t,.tmp t∈x.op.operands.toList->lku e t=lku e' t)(h:absO Γ T ⟨e,o⟩ p x=some (q,av,obs,fp))(ho:∀id∈fp,lku o id=lku o' id) :
  absO Γ T ⟨e',o'⟩ p x=some (q,av,obs,fp):=by
 unfold absO at h ⊢;split at h
 ·rw[ce] at h ⊢;split at h
  ·rename_i hk;rw[if_pos hk]
   grind[oi,pj,absP_local,absG_local,absG_P]
  ·rename_i hk;rw[if_neg hk];rw[ce] at h ⊢;split at h
   ·rename_i hk;rw[if_pos hk]
    grind[oi,pj,absM_local]
   ·rename_i hk;rw[if_neg hk]
    grind[oi,pj,absC_local]
 ·rw[ce] at h ⊢;split at h
  ·rename_i hk;rw[if_pos hk]
   grind[oi,pj,absU_local,absGU_local,absGU_U]
  ·rename_i hk;rw[if_neg hk]
   grind[oi,pj,absC_local]
end
structure Rec where
 o:Oper
 p:Pa
 av:Option AV
 obs:List (Nat×Ob)
 fp:List Nat
def vcW(e:List (Nat×Sl))(p:Pa)(q:Prop):Prop:=match p with
 | []=>q
 | x :: r=>condP e (x :: r)->q
def goOps(Γ:Tab')(T:List Ct)(all:List Oper):List Oper->St->List Rec->(St->List Rec->Prop)->Prop
 | [],st,rs,K=>K st rs
 | o :: r,st,rs,K=>match pathOf all st.e o with
   | some p=>match absO Γ T st p o with
     | some (q,av,obs,fp)=>bif isNil p||isNil obs then(vcW st.e p q/\goOps Γ T all r ⟨addE o.dst p av st.e,obs++st.o⟩ (⟨o,p,av,obs,fp⟩ :: rs) K) else False
     | none=>False
   | none=>False
def regOk(n:Nat):Nat->List Nat->List Oper->Bool
 | _,_,[]=>true
 | i,seen,o :: r=>(match o.dst with
   | some d=>Nat.blt d n&&notIn d seen
   | none=>true)&&(match o.guard with
   | some (j,_)=>Nat.blt j i
   | none=>true)&&regOk n (i+1) (match o.dst with
   | some d=>d :: seen
   | none=>seen) r
def stepR(st:St)(R:Rec):St:=⟨addE R.o.dst R.p R.av st.e,R.obs++st.o⟩
def RunL(Γ:Tab')(T:List Ct)(all:List Oper):St->List Rec->Prop
 | _,[]=>True
 | st,R :: r=>pathOf all st.e R.o=some R.p/\(∃q,absO Γ T st R.p R.o=some (q,R.av,R.obs,R.fp)/\(condP st.e R.p->q))/\(R.p=[]∨R.obs=[])/\RunL Γ T all (stepR st R) r
theorem go_run{Γ:Tab'}{T:List Ct}{all:List Oper}{K:St->List Rec->Prop}:∀{ops:List Oper} {st:St} {rs:List Rec},goOps Γ T all ops st rs K->∃recs:List Rec,recs.map (·.o)=ops/\RunL Γ T all st recs/\K (recs.foldl stepR st) (recs.reverse++rs)
 | [],st,rs,h=>⟨[],rfl,trivial,h⟩
 | o :: r,st,rs,h=>by
   unfold goOps at h;split at h
   ·rename_i p hp;split at h
    ·rename_i q av obs fp ho;rw[ce] at h;split at h
     ·rename_i hg;obtain⟨h1,h2⟩:=h;obtain⟨recs,e1,e2,e3⟩:=go_run h2;refine⟨⟨o,p,av,obs,fp⟩ :: recs,by grind,⟨hp,⟨q,ho,?_⟩,?_,e2⟩,by simp only[List.foldl_cons,List.reverse_cons,List.append_assoc,List.singleton_append]; exact e3⟩
      ·intro hc;cases p with
       | nil=>exact h1
       | cons x r=>exact h1 hc
      ·rw[Bool.or_eq_true] at hg
       grind[isNil_eq]
     grind
    grind
   grind
theorem nthL_some{β:Type}{l:List β}{j:Nat}{x:β}(h:nthL l j=some x):l[j]?=some x:=by grind[nthL_eq]
section
variable {X:Cx} {Γ:Tab'} {T:List Ct}
theorem seq_cont(hΓ:TabOk X.P Γ)(hT:∀c∈T,Ok X.P c){ops:Array Oper}{all:List Oper}(ha:ops=all.toArray){Q:Exit->Act->World->Prop}{rest:List Oper}:∀(recs:List Rec) (i:Nat) (seen:List Nat) (st:St) (G:Gh) (a:Act),(∀j,j<recs.length->recs[j]?.map (·.o)=all[i+j]?)->regOk X.n i seen (recs.map (·.o))=true ->
  (∀j oj dj,j<i->all[j]?=some oj->oj.dst=some dj->dj∈seen)->(∀t s,lku st.e t=some s->∀x∈s.p,x.1∈seen)->RunL Γ T all st recs->Sat X G->G.o=st.o->EnvR X.n G st.e a ->
  (∀G' a',Sat X G'->G'.o=(recs.foldl stepR st).o->EnvR X.n G' (recs.foldl stepR st).e a'->wpList X.P ops Q rest a' G'.w)->wpList X.P ops Q (recs.map (·.o)++rest) a G.w
 | [],i,seen,st,G,a,_,_,_,_,_,S,ho,hE,hK=>hK G a S ho hE
 | R :: r,i,seen,st,G,a,hall,hreg,hseen,hpath,⟨hp,⟨q,hab,hq⟩,hg,hrun⟩,S,ho,hE,hK=>by
   simp only[List.map_cons,regOk,ba] at hreg;obtain⟨⟨hr1,hr2⟩,hr3⟩:=hreg;have hdn:∀d,R.o.dst=some d->d<X.n/\d ∉ seen:=fun d hd=>by
    rw[hd] at hr1;simp only[ba] at hr1;exact⟨by simp_all,notIn_eq hr1.2⟩
   have hps:∀x∈R.p,x.1∈seen:=by
    unfold pathOf at hp;split at hp
    ·grind
    ·rename_i j b hgd;rw[hgd] at hr2;have hji:j<i:=by simpa using hr2
     split at hp
     ·rename_i oj hj;split at hp
      ·rename_i dj hdj;split at hp
       ·rename_i q' f' x' hs;simp only[oi] at hp; rw[<- hp];intro y hy;rcases List.mem_cons.1 hy with rfl | hy
        ·grind[nthL_some]
        ·exact hpath dj _ hs y hy
       grind
      grind
     grind
   have hd:∀d,R.o.dst=some d->d<X.n/\(∀x∈R.p,x.1≠d)/\∀t s,lku st.e t=some s->∀x∈s.p,x.1≠d:=fun d hd=>⟨(hdn d hd).1,fun x hx e=>(hdn d hd).2 (e ▸ hps x hx),fun t s ht x hx e=>(hdn d hd).2 (e ▸ hpath t s ht x hx)⟩
   have key:=op_ok (K:=wpList X.P ops Q (r.map (·.o)++rest)) hΓ hT ha (Q:=Q) S ho hE hp hab hq hg hd (fun a' G' S' _ ho' hE'=>by
    refine seq_cont hΓ hT ha r (i+1) _ (stepR st R) G' a' (fun j hj=>?_) hr3 ?_ ?_ hrun S' ho' hE' hK
    ·have:=hall (j+1) (by grind);simp only[List.getElem?_cons_succ] at this;rw[this]; congr 1; omega
    ·intro j oj dj hj h1 h2;rcases Nat.lt_or_ge j i with h | h
     ·grind
     ·have hji:j=i:=by omega
      subst hji;have h0:=hall 0 (by simp)
      grind
    ·intro t s ht x hx;have hin:x.1∈seen->x.1∈(match R.o.dst with | some d=>d :: seen | none=>seen):=fun h=>by
      grind
     simp only[stepR,addE] at ht
     grind[lK])
   grind[wpList,OpWp]
theorem seq_run(hΓ:TabOk X.P Γ)(hT:∀c∈T,Ok X.P c){ops:Array Oper}{all:List Oper}(ha:ops=all.toArray){Q:Exit->Act->World->Prop}(recs:List Rec)(i:Nat)(seen:List Nat)(st:St)(G:Gh)(a:Act)(hall:∀j,recs[j]?.map (·.o)=all[i+j]?)(hreg:regOk X.n i seen (recs.map (·.o))=true)
  (hseen:∀j oj dj,j<i->all[j]?=some oj->oj.dst=some dj->dj∈seen) (hpath:∀t s,lku st.e t=some s->∀x∈s.p,x.1∈seen) (hrun:RunL Γ T all st recs) (S:Sat X G) (ho:G.o=st.o) (hE:EnvR X.n G st.e a)
  (hK:∀G' a',Sat X G'->G'.o=(recs.foldl stepR st).o->EnvR X.n G' (recs.foldl stepR st).e a'->Q .normal a' G'.w):wpList X.P ops Q (recs.map (·.o)) a G.w:=by
 have:=seq_cont (rest:=[]) hΓ hT ha recs i seen st G a (fun j _=>hall j) hreg hseen hpath hrun S ho hE hK
 rwa [List.append_nil] at this
end
def stD(D:Nat->Bool):Nat->List Rec->St->St
 | _,[],st=>st
 | i,R :: r,st=>stD D (i+1) r (if D i=true then stepR st R else st)
def wrS(R:Rec)(t:Nat):Prop:=R.o.dst=some t
def wrO(R:Rec)(id:Nat):Prop:=∃x∈R.obs,x.1=id
theorem step_e(st:St)(R:Rec)(t:Nat)(h:¬wrS R t):lku (stepR st R).e t=lku st.e t:=by
 simp only[stepR,addE];split
 ·rename_i d a hd _;rw[lK,if_neg (fun e=>h (by rw[<- e]; exact hd))]
 ·rfl
theorem step_o(st:St)(R:Rec)(id:Nat)(h:¬wrO R id):lku (stepR st R).o id=lku st.o id:=by
 simp only[stepR];exact lku_app (fun x hx e=>h ⟨x,hx,e⟩)
theorem step_e_congr{st st':St}{R:Rec}{t:Nat}(h:lku st.e t=lku st'.e t):lku (stepR st R).e t=lku (stepR st' R).e t:=by
 simp only[stepR,addE]
 grind[lK]
theorem lku_app2{β:Type}{l m m':List (Nat×β)}{i:Nat}(h:lku m i=lku m' i):lku (l++m) i=lku (l++m') i:=by
 induction l with
 | nil=>exact h
 | cons x r ih =>
   grind[lK]
theorem step_o_congr{st st':St}{R:Rec}{id:Nat}(h:lku st.o id=lku st'.o id):lku (stepR st R).o id=lku (stepR st' R).o id:=lku_app2 h
theorem stD_e{D D':Nat->Bool}{t:Nat}:∀{recs:List Rec} {i:Nat} {st st':St},(∀j R,recs[j]?=some R->wrS R t->D (i+j)=D' (i+j))->lku st.e t=lku st'.e t->lku (stD D i recs st).e t=lku (stD D' i recs st').e t
 | [],_,_,_,_,h=>h
 | R :: r,i,st,st',hD,h=>by
   simp only[stD];refine stD_e (fun j R' hR hw=>by have:=hD (j+1) R' (by grind) hw; rwa [show i+(j+1)=i+1+j by omega] at this) ?_;by_cases hw:wrS R t
   ·have:=hD 0 R rfl hw;simp only[Nat.add_zero] at this
    grind[step_e_congr]
   grind[step_e]
theorem stD_o{D D':Nat->Bool}{id:Nat}:∀{recs:List Rec} {i:Nat} {st st':St},(∀j R,recs[j]?=some R->wrO R id->D (i+j)=D' (i+j))->lku st.o id=lku st'.o id->lku (stD D i recs st).o id=lku (stD D' i recs st').o id
 | [],_,_,_,_,h=>h
 | R :: r,i,st,st',hD,h=>by
   simp only[stD];refine stD_o (fun j R' hR hw=>by have:=hD (j+1) R' (by grind) hw; rwa [show i+(j+1)=i+1+j by omega] at this) ?_;by_cases hw:wrO R id
   ·have:=hD 0 R rfl hw;simp only[Nat.add_zero] at this
    grind[step_o_congr]
   grind[step_o]
theorem stD_e_top{D:Nat->Bool}{t:Nat}{R:Rec}:∀{recs:List Rec} {i j:Nat} {st st':St},recs[j]?=some R->wrS R t->R.av≠none->D (i+j)=true->(∀k R',j<k->recs[k]?=some R'->wrS R' t->D (i+k)=false)->lku (stD D i recs st).e t=lku (stepR st' R).e t
 | R0 :: r,i,0,st,st',hj,hw,hav,hD,hl=>by
   simp only[List.getElem?_cons_zero,oi] at hj; subst hj;simp only[Nat.add_zero] at hD;simp only[stD,hD,if_true];have h0:lku (stD D (i+1) r (stepR st R0)).e t=lku (stepR st R0).e t:=by
    have:∀{recs:List Rec} {i:Nat} {st:St},(∀k R',recs[k]?=some R'->wrS R' t->D (i+k)=false)->lku (stD D i recs st).e t=lku st.e t:=by
     intro recs
     induction recs with
     | nil=>intro i st _; rfl
     | cons R1 r1 ih =>
       intro i st h;simp only[stD];rw[ih (fun k R' hR hw'=>by have:=h (k+1) R' (by grind) hw'; rwa [show i+(k+1)=i+1+k by omega] at this)];split
       ·rename_i hD1;refine step_e st R1 t (fun hw'=>?_);have:=h 0 R1 rfl hw'
        grind
       ·rfl
    exact this (fun k R' hR hw'=>by have:=hl (k+1) R' (by omega) (by grind) hw'; rwa [show i+(k+1)=i+1+k by omega] at this)
   rw[h0];unfold wrS at hw;simp only[stepR,addE,hw];cases h:R0.av with
   | none=>grind
   | some a=>simp only[lK,if_true]
 | R0 :: r,i,j+1,st,st',hj,hw,hav,hD,hl=>by
   simp only[stD];exact stD_e_top (j:=j) (by grind) hw hav (by grind) (fun k R' hk hR hw'=>by have:=hl (k+1) R' (by omega) (by grind) hw'; rwa [show i+(k+1)=i+1+k by omega] at this)
theorem lku_app_mem{β:Type}{l m m':List (Nat×β)}{i:Nat}(h:∃x∈l,x.1=i):lku (l++m) i=lku (l++m') i:=by
 induction l with
 | nil=>grind
 | cons x r ih =>
   obtain⟨d,v⟩:=x;rw[List.cons_append,List.cons_append,lK,lK]
   grind
theorem stD_o_top{D:Nat->Bool}{id:Nat}{R:Rec}:∀{recs:List Rec} {i j:Nat} {st st':St},recs[j]?=some R->wrO R id->D (i+j)=true->(∀k R',j<k->recs[k]?=some R'->wrO R' id->D (i+k)=false)->lku (stD D i recs st).o id=lku (stepR st' R).o id
 | R0 :: r,i,0,st,st',hj,hw,hD,hl=>by
   simp only[List.getElem?_cons_zero,oi] at hj; subst hj;simp only[Nat.add_zero] at hD;simp only[stD,hD,if_true];have h0:lku (stD D (i+1) r (stepR st R0)).o id=lku (stepR st R0).o id:=by
    have:∀{recs:List Rec} {i:Nat} {st:St},(∀k R',recs[k]?=some R'->wrO R' id->D (i+k)=false)->lku (stD D i recs st).o id=lku st.o id:=by
     intro recs
     induction recs with
     | nil=>intro i st _; rfl
     | cons R1 r1 ih =>
       intro i st h;simp only[stD];rw[ih (fun k R' hR hw'=>by have:=h (k+1) R' (by grind) hw'; rwa [show i+(k+1)=i+1+k by omega] at this)];split
       ·rename_i hD1;refine step_o st R1 id (fun hw'=>?_);have:=h 0 R1 rfl hw'
        grind
       ·rfl
    exact this (fun k R' hR hw'=>by have:=hl (k+1) R' (by omega) (by grind) hw'; rwa [show i+(k+1)=i+1+k by omega] at this)
   rw[h0];exact lku_app_mem hw
 | R0 :: r,i,j+1,st,st',hj,hw,hD,hl=>by
   simp only[stD];exact stD_o_top (j:=j) (by grind) hw (by grind) (fun k R' hk hR hw'=>by have:=hl (k+1) R' (by omega) (by grind) hw'; rwa [show i+(k+1)=i+1+k by omega] at this)
theorem stD_all{D:Nat->Bool}:∀{recs:List Rec} {i:Nat} {st:St},(∀j,j<recs.length->D (i+j)=true)->stD D i recs st=recs.foldl stepR st
 | [],_,_,_=>rfl
 | R :: r,i,st,h=>by
   have h0:=h 0 (by simp);simp only[Nat.add_zero] at h0;simp only[stD,h0,if_true,List.foldl_cons];exact stD_all (fun j hj=>by have:=h (j+1) (by grind); rwa [show i+(j+1)=i+1+j by omega] at this)
theorem run_at{Γ:Tab'}{T:List Ct}{all:List Oper}:∀{recs:List Rec} {i:Nat} {st:St} {j:Nat} {R:Rec},RunL Γ T all st recs->recs[j]?=some R ->
  ∃sj,sj=stD (fun k=>decide (k<i+j)) i recs st/\pathOf all sj.e R.o=some R.p/\(∃q,absO Γ T sj R.p R.o=some (q,R.av,R.obs,R.fp)/\(condP sj.e R.p->q))/\(R.p=[]∨R.obs=[])
 | [],_,_,j,_,_,h=>by grind
 | R0 :: r,i,st,0,R,⟨h1,h2,h3,h4⟩,h=>by
   simp only[List.getElem?_cons_zero,oi] at h; subst h;have:∀{recs:List Rec} {i j:Nat} {st:St},i<=j->stD (fun k=>decide (k<i)) j recs st=st:=by
    intro recs
    induction recs with
    | nil=>intro i j st _; rfl
    | cons R r ih =>
      intro i j st hij;simp only[stD];rw[if_neg (by grind)];exact ih (by omega)
   simp_all
 | R0 :: r,i,st,j+1,R,⟨h1,h2,h3,h4⟩,h=>by
   obtain⟨sj,e,k1,k2,k3⟩:=run_at (i:=i+1) (j:=j) h4 (by simpa using h)
   grind[stD]
def backs(o:Oper):List Nat:=o.after.toList.filterMap fun e=>bif Region.binds .any e then some e.on else none
def backOk:Nat->List Oper->Bool
 | _,[]=>true
 | i,o :: r=>(backs o).all (fun k=>Nat.blt k i)&&backOk (i+1) r
def befs:List (List Nat)->List Oper->List (List Nat)
 | acc,[]=>acc
 | acc,o :: r=>befs (acc++[backs o++(backs o).flatMap fun k=>(nthL acc k).getD []]) r
def inL(x:Nat):List Nat->Bool
 | []=>false
 | y :: r=>Nat.beq x y||inL x r
theorem inL_eq{x:Nat}:∀{l:List Nat},inL x l=true↔x∈l
 | []=>by simp[inL]
 | y :: r=>by
   simp only[inL,Bool.or_eq_true,List.mem_cons,inL_eq (l:=r)]
   simp_all
theorem mem_backs{o:Oper}{k:Nat}:k∈backs o↔∃e∈o.after,Region.binds .any e=true/\e.on=k:=by
 unfold backs
 grind
def Closed(D:Nat->Bool)(all:List Oper):Prop:=∀i o,all[i]?=some o->D i=true->∀k∈backs o,D k=true
theorem befs_spec{all:List Oper}:∀{rest:List Oper} {acc:List (List Nat)},(∀j:Nat,rest[j]?=all[acc.length+j]?)->backOk acc.length rest=true ->
  (∀(i:Nat) (l:List Nat),acc[i]?=some l->(∀k∈l,k<i)/\∀D,Closed D all->∀o,all[i]?=some o->(∀k∈backs o,D k=true)->∀k∈l,D k=true) ->
  ∀(i:Nat) (l:List Nat),(befs acc rest)[i]?=some l->(∀k∈l,k<i)/\∀D,Closed D all->∀o,all[i]?=some o->(∀k∈backs o,D k=true)->∀k∈l,D k=true
 | [],acc,_,_,h=>h
 | o :: r,acc,hall,hb,h=>by
   simp only[backOk,ba,List.all_eq_true] at hb;simp only[befs];refine befs_spec (fun j=>?_) (by grind) (fun i l hi=>?_)
   ·have:=hall (j+1);simp only[List.getElem?_cons_succ] at this;rw[this]; congr 1; simp; omega
   ·rcases Nat.lt_or_ge i acc.length with hlt | hge
    ·rw[List.getElem?_append_left hlt] at hi;exact h i l hi
    ·have hia:i=acc.length:=by
      rcases Nat.eq_or_lt_of_le hge with e | e
      ·exact e.symm
      ·rw[List.getElem?_eq_none (by simp; omega)] at hi; cases hi
     subst hia;simp only[List.getElem?_concat_length,oi] at hi;subst hi;have hk:∀k:Nat,k∈backs o->k<acc.length:=fun k hk=>by simp_all
     refine⟨fun k hk'=>?_,fun D hD o' ho' hbk k hk'=>?_⟩
     ·grind[nthL_eq,List.getElem?_eq_getElem]
     ·have h0:=hall 0;simp only[List.getElem?_cons_zero,Nat.add_zero] at h0;rw[<- h0] at ho';cases ho';rcases List.mem_append.1 hk' with h1 | h1
      ·grind
      ·obtain⟨m,hm,h2⟩:=List.mem_flatMap.1 h1;rw[nthL_eq] at h2;have hm':=hk m hm;rw[List.getElem?_eq_getElem hm'] at h2;have hDm:=hbk m hm;obtain⟨om,hom⟩:∃om,all[m]?=some om:=by
        grind
       exact(h m acc[m] (List.getElem?_eq_getElem hm')).2 D hD om hom (fun k' hk''=>hD m om hom hDm k' hk'') k h2
end Go.Proofs.Xv
end
section
set_option maxHeartbeats 0
namespace Go.Proofs.Xv
open Go Go.RowKit Go.Proofs.Sv
theorem Sat.congr{X:Cx}{G:Gh}(S:Sat X G){o':List (Nat×Ob)}(h:∀i,lku o' i=lku G.o i):Sat X { G with o:=o' }/\GLe G { G with o:=o' }:=by
 have hle:GLe G { G with o:=o' }:=⟨rfl,fun k hk _=>⟨hk,rfl⟩,fun i T cs hi=>⟨rfl,T,cs,(h i).trans hi⟩,fun i T Te fr t xs hole hi=>⟨rfl,T,Te,fr,t,xs,hole,(h i).trans hi⟩,fun i T fr t xs ver hi=>⟨T,fr,t,xs,ver,(h i).trans hi,Nat.le_refl _,fun _=>rfl⟩⟩;have back:∀i o,lku o' i=some o->lku G.o i=some o:=fun i o hi=>(h i).symm.trans hi;refine⟨⟨S.base,S.os,S.tape,S.output,S.size,S.block,fun i o hi=>?_,fun i i' o o2 b hi hi'=>S.inj i i' o o2 b (back i o hi) (back i' o2 hi'),fun i o b hi=>S.imm i o b (back i o hi),fun i o b hi=>S.own i o b (back i o hi),S.klt,S.kfrom,fun i b hb hg=>?_,fun i v h=>(S.pin i v h).mono hle⟩,hle⟩
 rotate_right
 ·obtain⟨s1,s2,s3,s4⟩:=S.sep i b hb (by grind)
  grind
 have:=S.obs i o (back i o hi);cases o with
 | box T cs=>obtain⟨b,us,h1,h2,h3,h4⟩:=this; exact⟨b,us,h1,h2,h3,h4.mono hle⟩
 | arr T fr t xs ver=>exact this
 | grd T Te fr t xs hole =>
   obtain⟨vs,bs,h1,h2,h3⟩:=this;exact⟨vs,bs,h1,h2.up hle (fun _=>Iff.rfl) (WE.refl (g:=none) _) (fun _ _ h=>by cases h),h3⟩
theorem EnvR.congr{n:Nat}{G:Gh}{e e':List (Nat×Sl)}{a:Act}(h:EnvR n G e a)(he:∀t,lku e' t=lku e t):EnvR n G e' a :=
 ⟨h.defers,h.size,fun t s ht=>h.val t s (by grind)⟩
theorem pathOf_local{all:List Oper}{e e':List (Nat×Sl)}{o:Oper}{p:Pa}(h:pathOf all e o=some p)(hs:∀x∈p,lku e x.1=lku e' x.1):pathOf all e' o=some p:=by
 unfold pathOf at h ⊢;split at h
 ·exact h
 grind[oi,lku,List.mem_cons_self]
theorem condP_local{e e':List (Nat×Sl)}:∀{p:Pa},(∀x∈p,lku e x.1=lku e' x.1)->condP e p->condP e' p
 | [],_,_=>trivial
 | (s,b) :: r,h,⟨h1,h2⟩=>by
   refine⟨?_,condP_local (fun x hx=>h x (by grind)) h2⟩
   simp_all
def slotsR(R:Rec):List Nat:=slotsL R.o.op.operands.toList++R.p.map Prod.fst
def disj(l m:List Nat):Bool:=l.all fun x=>!inL x m
def chk1(bs:List (List Nat))(i:Nat)(A:Rec)(k:Nat)(B:Rec):Bool :=
 (match A.o.dst with
   | some d=>(!inL d (slotsR B)||(inL i ((nthL bs k).getD [])||inL k ((nthL bs i).getD [])))&&(!inL d (B.p.map Prod.fst)||inL i ((nthL bs k).getD []))
   | none=>true)&&(disj (A.obs.map Prod.fst) (B.fp++B.obs.map Prod.fst)||(inL i ((nthL bs k).getD [])||inL k ((nthL bs i).getD [])))
def allI(f:Nat->Rec->Bool):Nat->List Rec->Bool
 | _,[]=>true
 | i,R :: r=>f i R&&allI f (i+1) r
theorem allI_get{f:Nat->Rec->Bool}:∀{recs:List Rec} {i:Nat},allI f i recs=true->∀j R,recs[j]?=some R->f (i+j) R=true
 | [],_,_,j,R,h=>by grind
 | R0 :: r,i,h,0,R,hj=>by
   grind[allI]
 | R0 :: r,i,h,j+1,R,hj=>by
   simp only[allI,ba] at h;have:=allI_get h.2 j R (by grind)
   grind
def selfOk(A:Rec):Bool:=match A.o.dst with
 | some d=>!inL d (A.p.map Prod.fst)
 | none=>true
def chkD(bs:List (List Nat))(recs:List Rec):Bool:=allI (fun i A=>selfOk A&&allI (fun k B=>Nat.beq i k||chk1 bs i A k B) 0 recs) 0 recs
theorem chkD_get{bs:List (List Nat)}{recs:List Rec}(h:chkD bs recs=true){i k:Nat}{A B:Rec}(hi:recs[i]?=some A)(hk:recs[k]?=some B)(hne:i≠k):chk1 bs i A k B=true:=by
 have h1:=allI_get h i A hi;rw[ba] at h1;have h2:=allI_get h1.2 k B hk
 simp_all
theorem regOk_dst{n:Nat}:∀{l:List Oper} {i:Nat} {seen:List Nat},regOk n i seen l=true->(∀(j:Nat) (o:Oper) (d:Nat),l[j]?=some o->o.dst=some d->d<n/\d ∉ seen)/\(∀(j k:Nat) (o o':Oper) (d:Nat),l[j]?=some o->l[k]?=some o'->o.dst=some d->o'.dst=some d->j=k)
 | [],_,_,_=>⟨fun j o d h=>by grind,fun j k o o' d h=>by grind⟩
 | o0 :: r,i,seen,h=>by
   simp only[regOk,ba] at h;obtain⟨⟨h1,_⟩,h3⟩:=h;obtain⟨g1,g2⟩:=regOk_dst h3;have hin:∀d,d∈seen->d∈(match o0.dst with | some d=>d :: seen | none=>seen):=fun d hd=>by
    grind
   have h0:∀d,o0.dst=some d->d<n/\d ∉ seen:=fun d hd=>by
    rw[hd] at h1;simp only[ba] at h1;exact⟨by simp_all,notIn_eq h1.2⟩
   grind
theorem filter_lt{α:Type}{p p':α->Bool}:∀{l:List α},(∀x,p' x=true->p x=true)->(∃x∈l,p x=true/\p' x=false)->(l.filter p').length < (l.filter p).length
 | [],_,⟨x,hx,_⟩=>by cases hx
 | y :: r,h,⟨x,hx,h1,h2⟩=>by
   have hle:∀l:List α,(l.filter p').length<=(l.filter p).length:=fun l=>by
    induction l with
    | nil=>grind
    | cons z s ih =>
      grind
   rcases List.mem_cons.1 hx with rfl | hx
   ·grind
   ·have ih:=filter_lt h ⟨x,hx,h1,h2⟩;simp only[List.filter_cons];by_cases hz:p' y=true
    ·rw[if_pos hz,if_pos (h y hz)]; simp only[List.length_cons]; omega
    ·rw[if_neg hz];split
     ·simp only[List.length_cons]; omega
     ·exact ih
theorem stD_from{D:Nat->Bool}{t:Nat}{s:Sl}:∀{recs:List Rec} {i:Nat} {st:St},lku (stD D i recs st).e t=some s->lku st.e t=some s∨∃k R,recs[k]?=some R/\D (i+k)=true/\s.p=R.p
 | [],_,_,h=>.inl h
 | R :: r,i,st,h=>by
   simp only[stD] at h;rcases stD_from h with h' | ⟨k,R',h1,h2,h3⟩
   ·by_cases hD:D i=true
    ·rw[if_pos hD] at h';simp only[stepR,addE] at h';split at h'
     ·rw[lK] at h';split at h'
      ·cases h';exact .inr ⟨0,R,rfl,hD,rfl⟩
      grind
     grind
    grind
   ·exact .inr ⟨k+1,R',by grind,by grind,h3⟩
theorem absO_av{Γ:Tab'}{T:List Ct}{st:St}{p:Pa}{o:Oper}{d:Nat}{q:Prop}{av:Option AV}{obs:List (Nat×Ob)}{fp:List Nat}(h:absO Γ T st p o=some (q,av,obs,fp))(hd:o.dst=some d):av≠none:=by
 grind[absO]
section
variable {X:Cx} {Γ:Tab'} {T:List Ct}
theorem draw_any(hΓ:TabOk X.P Γ)(hT:∀c∈T,Ok X.P c){l:List Oper}{recs:List Rec}{st:St}{Q:Exit->Act->World->Prop}(hl:recs.map (·.o)=l)(hrun:RunL Γ T l st recs)(hplain:∀t s,lku st.e t=some s->s.p=[])
  (hreg:regOk X.n 0 [] l=true) (hback:backOk 0 l=true) (hchk:chkD (befs [] l) recs=true) (hK:∀G' a',Sat X G'->G'.o=(recs.foldl stepR st).o->EnvR X.n G' (recs.foldl stepR st).e a'->Q .normal a' G'.w) :
  ∀(fuel:Nat) (listed:Array Bool) (G:Gh) (a:Act),((List.range l.length).filter fun i=>!listed.getD i true).length<=fuel->listed.size=l.length->Closed (fun k=>listed.getD k false) l->Sat X G->(∀id,lku G.o id=lku (stD (fun k=>listed.getD k false) 0 recs st).o id) ->
   EnvR X.n G (stD (fun k=>listed.getD k false) 0 recs st).e a->wpAny X.P .any l.toArray Q fuel listed a G.w:=by
 have hrl:recs.length=l.length:=by rw[<- hl]; simp
 have hro:∀(j:Nat) (R:Rec),recs[j]?=some R->l[j]?=some R.o:=fun j R h=>by rw[<- hl,List.getElem?_map,h]; rfl
 have hor:∀(j:Nat) (o:Oper),l[j]?=some o->∃R,recs[j]?=some R/\R.o=o:=fun j o h=>by
  rw[<- hl,List.getElem?_map] at h;cases hr:recs[j]? with
  | none=>rw[hr] at h; cases h
  | some R=>rw[hr] at h; cases h; exact⟨R,rfl,rfl⟩
 have hbs:=befs_spec (all:=l) (rest:=l) (acc:=[]) (fun j=>by simp) hback (fun i m h=>by grind);have hdst:=regOk_dst hreg;have hbk:∀(i:Nat) (o:Oper) (k:Nat),l[i]?=some o->k∈backs o->k<i:=by
  have:∀{m:List Oper} {i:Nat},backOk i m=true->∀j o k,m[j]?=some o->k∈backs o->k<i+j:=by
   intro m
   induction m with
   | nil=>grind
   | cons o0 r ih =>
     intro i h j o k hj hk;simp only[backOk,ba,List.all_eq_true] at h;cases j with
     | zero=>simp only[List.getElem?_cons_zero,oi] at hj; simp_all
     | succ j=>grind
  intro i o k h1 h2;have:=this hback i o k h1 h2; omega
 -- all is done: the end
 have hend:∀(listed:Array Bool) (G:Gh) (a:Act),(∀i,i<l.length->listed.getD i false=true)->Sat X G->(∀id,lku G.o id=lku (stD (fun k=>listed.getD k false) 0 recs st).o id)->EnvR X.n G (stD (fun k=>listed.getD k false) 0 recs st).e a->Q .normal a G.w:=by
  intro listed G a hall S hO hE;rw[stD_all (fun j hj=>by grind)] at hO hE;obtain⟨S',L'⟩:=S.congr (o':=(recs.foldl stepR st).o) (fun i=>(hO i).symm);exact hK ⟨G.ρ,G.γ,G.K,G.w,(recs.foldl stepR st).o,G.B,G.δ⟩ a S' rfl (hE.mono L')
 intro fuel
 induction fuel with
 | zero =>
   intro listed G a hf hsz hcl S hO hE;have hnil:(List.range l.length).filter (fun i=>!listed.getD i true)=[]:=List.eq_nil_of_length_eq_zero (by omega);have hall:∀i,i<l.length->listed.getD i true=true:=fun i hi=>by
    cases h:listed.getD i true with
    | true=>rfl
    | false =>
      have:i∈(List.range l.length).filter (fun i=>!listed.getD i true):=List.mem_filter.2 ⟨List.mem_range.2 hi,by grind⟩;rw[hnil] at this; cases this
   refine⟨?_,hend listed G a (fun i hi=>?_) S hO hE⟩
   ·grind[Region.ready,hi,mem_ready,Nat.lt_or_ge,List.getElem?_eq_none]
   grind
 | succ fuel ih =>
   intro listed G a hf hsz hcl S hO hE;refine⟨fun hr=>hend listed G a ?_ S hO hE,fun i hi=>?_⟩
   · -- nothing is ready: all is done
     intro i
     induction i using Nat.strongRecOn with
     | ind i ihi =>
       intro hi;cases h:listed.getD i false with
       | true=>rfl
       | false =>
         have:i∈Region.ready .any l.toArray listed:=mem_ready.2 ⟨by
          grind,l[i],by grind,fun e he hb=>ihi e.on (hbk i l[i] e.on (List.getElem?_eq_getElem hi) (mem_backs.2 ⟨e,he,hb,rfl⟩)) (by have:=hbk i l[i] e.on (List.getElem?_eq_getElem hi) (mem_backs.2 ⟨e,he,hb,rfl⟩); omega)⟩
         rw[hr] at this; cases this
   ·obtain⟨hun,o,ho,hed⟩:=mem_ready.1 hi;rw[List.getElem?_toArray] at ho;obtain⟨R,hR,rfl⟩:=hor i o ho;have hilt:i<l.length:=by
     rcases Nat.lt_or_ge i l.length with h | h
     ·exact h
     ·grind
    have hDi:listed.getD i false=false:=by
     have hs:i<listed.size:=by omega
     rw[Array.getD_eq_getD_getElem?,Array.getElem?_eq_getElem hs] at hun ⊢;exact hun
    -- what stands ahead of i is done
    have hbi:∀k∈((nthL (befs [] l) i).getD []),k<i/\listed.getD k false=true:=by
     intro k hk;rw[nthL_eq] at hk;cases hb:(befs [] l)[i]? with
     | none=>grind
     | some m =>
       grind[mem_backs]
    have hbD:∀k,listed.getD k false=true->k<l.length->∀m∈((nthL (befs [] l) k).getD []),m<k/\listed.getD m false=true:=by
     intro k hk hkl m hm;rw[nthL_eq] at hm;cases hb:(befs [] l)[k]? with
     | none=>grind
     | some b =>
       rw[hb] at hm;obtain⟨g1,g2⟩:=hbs k b hb;exact⟨g1 m hm,g2 _ hcl l[k] (List.getElem?_eq_getElem hkl) (fun k' hk'=>hcl k l[k] (List.getElem?_eq_getElem hkl) hk k' hk') m hm⟩
    have hbs2:∀k,k<l.length->∀m∈((nthL (befs [] l) k).getD []),m<k:=by
     intro k hkl m hm;rw[nthL_eq] at hm;cases hb:(befs [] l)[k]? with
     | none=>grind
     | some b=>grind
    -- ordered with i: done exactly if earlier in the text
    have hord:∀k,k<l.length->k≠i->(inL k ((nthL (befs [] l) i).getD [])||inL i ((nthL (befs [] l) k).getD []))=true->listed.getD k false=decide (k<i):=by
     intro k hkl hne h;rw[Bool.or_eq_true] at h;rcases h with h | h
     ·grind[inL_eq]
     ·grind[inL_eq]
    obtain⟨sj,hsj,hpj,⟨q,hab,hq⟩,hg⟩:=run_at (i:=0) hrun hR;rw[Nat.zero_add] at hsj
    -- the slots and objects that i looks at are as in the text's order
    have hse:∀t,t∈slotsR R->lku sj.e t=lku (stD (fun k=>listed.getD k false) 0 recs st).e t:=by
     intro t ht;rw[hsj];refine stD_e (fun k R' hk hw=>?_) rfl;rw[Nat.zero_add];by_cases hki:k=i
     ·grind
     ·have hc:=chkD_get hchk hk hR hki;have hkl:k<l.length:=by
       rcases Nat.lt_or_ge k l.length with h | h
       ·exact h
       ·grind
      simp only[chk1,ba] at hc;have hw:R'.o.dst=some t:=hw;rw[hw] at hc;simp only[ba] at hc;have h1:=hc.1.1;rw[Bool.or_eq_true] at h1;rcases h1 with h1 | h1
      ·grind[inL_eq]
      ·exact(hord k hkl hki (by omega)).symm
    have hso:∀id,id∈R.fp++R.obs.map Prod.fst->lku sj.o id=lku G.o id:=by
     intro id hid;rw[hO,hsj];refine stD_o (fun k R' hk hw=>?_) rfl;rw[Nat.zero_add];by_cases hki:k=i
     ·grind
     ·have hc:=chkD_get hchk hk hR hki;have hkl:k<l.length:=by
       rcases Nat.lt_or_ge k l.length with h | h
       ·exact h
       ·grind
      simp only[chk1,ba] at hc;have h1:=hc.2;rw[Bool.or_eq_true] at h1;obtain⟨y,hy,hyi⟩:=hw;rcases h1 with h1 | h1
      ·grind[disj,List.all_eq_true,List.mem_map_of_mem,inL_eq]
      ·exact(hord k hkl hki (Bool.or_comm _ _ ▸ h1)).symm
    have hps:∀x∈R.p,lku sj.e x.1=lku (stD (fun k=>listed.getD k false) 0 recs st).e x.1:=fun x hx=>hse x.1 (List.mem_append.2 (.inr (List.mem_map_of_mem hx)));have hp':=pathOf_local hpj hps;have hab':absO Γ T ⟨(stD (fun k=>listed.getD k false) 0 recs st).e,G.o⟩ R.p R.o=some (q,R.av,R.obs,R.fp) :=
     absO_local (e:=sj.e) (o:=sj.o) (fun t ht=>hse t (List.mem_append.2 (.inl (mem_slots ht)))) hab (fun id hid=>hso id (List.mem_append.2 (.inl hid)))
    have hd:∀d,R.o.dst=some d->d<X.n/\(∀x∈R.p,x.1≠d)/\∀t s,lku (stD (fun k=>listed.getD k false) 0 recs st).e t=some s->∀x∈s.p,x.1≠d:=by
     intro d hd;refine⟨(hdst.1 i R.o d ho hd).1,fun x hx e=>?_,fun t s ht x hx e=>?_⟩
     ·have h1:=allI_get hchk i R hR;rw[Nat.zero_add,ba] at h1
      grind[selfOk,inL_eq]
     ·rcases stD_from ht with h | ⟨k,Rk,hk,hDk,hsp⟩
      ·grind
      ·rw[Nat.zero_add] at hDk;have hki:i≠k:=fun e'=>by grind
       have hkl:k<l.length:=by
        rcases Nat.lt_or_ge k l.length with h | h
        ·exact h
        ·grind
       have hc:=chkD_get hchk hR hk hki;simp only[chk1,ba,hd] at hc;have h2:=hc.1.2;rw[Bool.or_eq_true] at h2
       grind[inL_eq]
    have hset:∀k,(listed.setIfInBounds i true).getD k false=if k=i then true else listed.getD k false:=fun k=>by
     by_cases hki:k=i
     ·subst hki;have hs:k<listed.size:=by omega
      simp[hs]
     ·rw[if_neg hki]; exact getD_set_ne false (Ne.symm hki)
    have key:=op_ok (st:=⟨(stD (fun k=>listed.getD k false) 0 recs st).e,G.o⟩) (K:=wpAny X.P .any l.toArray Q fuel (listed.setIfInBounds i true)) hΓ hT (ops:=l.toArray) (all:=l) rfl (Q:=Q) S rfl hE hp' hab' (fun hc=>hq (condP_local (fun x hx=>(hps x hx).symm) hc)) hg hd (fun a' G' S' _ hO' hE'=>by
     refine ih (listed.setIfInBounds i true) G' a' ?_ (by grind) ?_ S' ?_ ?_
     ·have:((List.range l.length).filter fun j=>!(listed.setIfInBounds i true).getD j true).length < ((List.range l.length).filter fun j=>!listed.getD j true).length:=by
       refine filter_lt (fun j hj=>?_) ⟨i,List.mem_range.2 hilt,by grind,?_⟩
       ·by_cases hji:i=j
        ·grind
        grind
       ·grind
      omega
     ·intro k o hk hDk m hm;simp only[hset] at hDk ⊢;by_cases hmi:m=i
      ·grind
      ·rw[if_neg hmi];by_cases hki:k=i
       ·subst hki;rw[ho] at hk;cases hk;obtain⟨e,he,hb',rfl⟩:=mem_backs.1 hm
        grind
       ·rw[if_neg hki] at hDk;exact hcl k o hk hDk m hm
     ·intro id;rw[hO'];by_cases hw:wrO R id
      ·rw[stD_o_top (D:=fun k=>(listed.setIfInBounds i true).getD k false) (st':=⟨[],G.o⟩) hR hw (by grind) (fun k Rk hik hk hwk=>?_)]
       ·rfl
       ·rw[Nat.zero_add];simp only[hset,if_neg (show k≠i by omega)];have hkl:k<l.length:=by
         rcases Nat.lt_or_ge k l.length with h | h
         ·exact h
         ·grind
        have hc:=chkD_get hchk hk hR (show k≠i by omega);simp only[chk1,ba] at hc;have h1:=hc.2;rw[Bool.or_eq_true] at h1;obtain⟨y,hy,hyi⟩:=hwk;obtain⟨z,hz,hzi⟩:=hw;rcases h1 with h1 | h1
        ·simp only[disj,List.all_eq_true] at h1
         grind[List.mem_map_of_mem,inL_eq]
        grind
      ·have e1:=step_o ⟨[],G.o⟩ R id hw;simp only[stepR] at e1;rw[e1,hO];refine stD_o (fun k Rk hk hwk=>?_) rfl;rw[Nat.zero_add];simp only[hset];rw[if_neg (fun e=>by grind)]
     ·refine hE'.congr (fun t=>?_);by_cases hw:wrS R t
      ·have hav:=absO_av hab hw;rw[stD_e_top (D:=fun k=>(listed.setIfInBounds i true).getD k false) (st':=⟨(stD (fun k=>listed.getD k false) 0 recs st).e,G.o⟩) hR hw hav (by grind) (fun k Rk hik hk hwk=>by
        have:=hdst.2 i k R.o Rk.o t ho (hro k Rk hk) hw hwk;omega)]
       rfl
      ·have e1:=step_e ⟨(stD (fun k=>listed.getD k false) 0 recs st).e,G.o⟩ R t hw;simp only[stepR] at e1;rw[e1];refine stD_e (fun k Rk hk hwk=>?_) rfl;rw[Nat.zero_add];simp only[hset];rw[if_neg (fun e=>by grind)])
    grind[wpOp,OpWp]
end
end Go.Proofs.Xv
end
section
namespace Go.Proofs.Xv
open Go Go.RowKit Go.Proofs.Sv
def VX(X:Cx)(st:St)(c:Code)(Q:Exit->Act->World->Prop):Prop:=∀G a,Sat X G->G.o=st.o->EnvR X.n G st.e a->c.wp X.P Q a G.w
def FX(X:Cx)(st:St)(x:Exit)(Q:Exit->Act->World->Prop):Prop:=∀G a,Sat X G->G.o=st.o->EnvR X.n G st.e a->Q x a G.w
def keepE(e:List (Nat×Sl)):List Nat->List (Nat×Sl)
 | []=>[]
 | t :: r=>match lku e t with
   | some ⟨[],a⟩=>(t,⟨[],a⟩) :: keepE e r
   | _=>keepE e r
def nubO:List Nat->List (Nat×Ob)->List (Nat×Ob)
 | _,[]=>[]
 | seen,(i,b) :: r=>bif inL i seen then nubO seen r else(i,b) :: nubO (i :: seen) r
def cut(keep:List Nat)(st:St):St:=⟨keepE st.e keep,nubO [] st.o⟩
theorem keepE_lk{e:List (Nat×Sl)}:∀{keep:List Nat} {t:Nat} {s:Sl},lku (keepE e keep) t=some s->lku e t=some s/\s.p=[]
 | [],t,s,h=>by cases h
 | k :: r,t,s,h=>by
   unfold keepE at h;split at h
   ·rename_i a hk;rw[lK] at h;split at h
    ·grind
    ·exact keepE_lk h
   ·exact keepE_lk h
theorem nubO_lk:∀{o:List (Nat×Ob)} {seen:List Nat} {i:Nat},i ∉ seen->lku (nubO seen o) i=lku o i
 | [],_,_,_=>rfl
 | (j,b) :: r,seen,i,h=>by
   unfold nubO;rw[ce,lK];split
   ·rename_i hj;have:¬j=i:=fun e=>h (by grind[inL_eq]);rw[if_neg this];exact nubO_lk h
   ·rw[lK];split
    ·rfl
    ·rename_i hji;exact nubO_lk (by grind)
theorem cut_ok{X:Cx}{st:St}{G:Gh}{a:Act}(keep:List Nat)(S:Sat X G)(ho:G.o=st.o)(hE:EnvR X.n G st.e a):∃G',Sat X G'/\G'.o=(cut keep st).o/\G'.w=G.w/\EnvR X.n G' (cut keep st).e a:=by
 obtain⟨S',L'⟩:=S.congr (o':=(cut keep st).o) (fun i=>by rw[ho]; exact nubO_lk (by simp));refine⟨_,S',rfl,rfl,hE.defers,hE.size,fun t s ht=>?_⟩;obtain⟨h1,_⟩:=keepE_lk ht;have:=(hE.mono L').val t s h1;omega
def plainE(e:List (Nat×Sl)):Bool:=e.all fun x=>isNil x.2.p
theorem plainE_eq{e:List (Nat×Sl)}(h:plainE e=true):∀t s,lku e t=some s->s.p=[]:=by
 intro t s ht;have:∃x∈e,x.2=s:=by
  induction e with
  | nil=>cases ht
  | cons y r ih =>
    obtain⟨d,v⟩:=y;rw[lK] at ht;split at ht
    ·simp_all
    grind[plainE]
 obtain⟨x,hx,rfl⟩:=this
 grind[plainE,List.all_eq_true,isNil_eq]
section
variable {X:Cx} {st:St} {Q:Exit->Act->World->Prop}
theorem vQ{x y:Code}(h:VX X st x (seqQ X.P y Q)):VX X st (.seq x y) Q:=fun G a S ho hE=>wp_seq (h G a S ho hE)
theorem vB{id:Nat}{c:Code}(h:VX X st c (blkQ id Q)):VX X st (.block id c) Q:=fun G a S ho hE=>wp_block (h G a S ho hE)
theorem vK(h:FX X st .normal Q):VX X st .skip Q:=fun G a S ho hE=>wp_skip (h G a S ho hE)
theorem vTT(h:FX X st .ret Q):VX X st .ret Q:=fun G a S ho hE=>wp_ret (h G a S ho hE)
theorem vE{id:Nat}(h:FX X st (.exit id) Q):VX X st (.exit id) Q:=fun G a S ho hE=>wp_exit (h G a S ho hE)
theorem vx_cond{c:Operand}{x y:Code}{f b:Bool}(hc:rd st [] c=some (.d f .bool b))(ht:b=true->VX X st x Q)(hf:b=false->VX X st y Q):VX X st (.cond c x y) Q:=fun G a S ho hE=>by
 have e:=avr_bool (rd_sound hE (p:=[]) (fun _ h=>by cases h) hc);exact wp_cond_split e (fun h=>ht h G a S ho hE) (fun h=>hf h G a S ho hE)
theorem vx_cond_t{c:Operand}{x y:Code}{f:Bool}(hc:rd st [] c=some (.d f .bool true))(ht:VX X st x Q):VX X st (.cond c x y) Q:=vx_cond hc (fun _=>ht) (fun h=>by cases h)
theorem vx_cond_f{c:Operand}{x y:Code}{f:Bool}(hc:rd st [] c=some (.d f .bool false))(ht:VX X st y Q):VX X st (.cond c x y) Q:=vx_cond hc (fun h=>by cases h) (fun _=>ht)
theorem fQ{y:Code}(h:VX X st y Q):FX X st .normal (seqQ X.P y Q):=fun G a S ho hE=>h G a S ho hE
theorem fE{y:Code}{id:Nat}(h:FX X st (.exit id) Q):FX X st (.exit id) (seqQ X.P y Q):=fun G a S ho hE=>h G a S ho hE
theorem fR{y:Code}(h:FX X st .ret Q):FX X st .ret (seqQ X.P y Q):=fun G a S ho hE=>h G a S ho hE
theorem fK{id:Nat}(h:FX X st .normal Q):FX X st .normal (blkQ id Q):=fun G a S ho hE=>h G a S ho hE
theorem fDD{id:Nat}(h:FX X st .ret Q):FX X st .ret (blkQ id Q):=fun G a S ho hE=>h G a S ho hE
theorem fX{id id':Nat}(hid:Nat.beq id' id=true)(h:FX X st .normal Q):FX X st (.exit id') (blkQ id Q):=fun G a S ho hE=>by
 have:id'=id:=by simpa using hid
 show(if id'=id then Q .normal a G.w else Q (.exit id') a G.w);rw[if_pos this]; exact h G a S ho hE
theorem vx_reg{Γ:Tab'}{T:List Ct}(hΓ:TabOk X.P Γ)(hT:∀c∈T,Ok X.P c){id:Nat}{l:List Oper}(keep:List Nat)(hreg:regOk X.n 0 [] l=true)(hpl:plainE st.e=true)
  (h:goOps Γ T l l st [] fun st' _=>FX X (cut keep st') .normal Q):VX X st (.region id l.toArray false) Q:=by
 intro G a S ho hE;obtain⟨recs,e1,e2,e3⟩:=go_run h;refine wp_region_lit ?_;have:=seq_run hΓ hT (ops:=l.toArray) (all:=l) rfl (Q:=Q) recs 0 [] st G a (fun j=>by grind) (by grind) (fun j oj dj hj=>by omega) (fun t s ht x hx=>by grind[plainE_eq]) e2 S ho hE
  (fun G' a' S' ho' hE'=>by
    obtain⟨G2,S2,ho2,hw2,hE2⟩:=cut_ok keep S' ho' hE';have:=e3 G2 a' S2 ho2 hE2
    grind)
 grind
theorem vx_draw{Γ:Tab'}{T:List Ct}(hΓ:TabOk X.P Γ)(hT:∀c∈T,Ok X.P c)[hm:Mixed X.P]{id:Nat}{l:List Oper}(keep:List Nat)(hreg:(regOk X.n 0 [] l&&backOk 0 l)=true)(hpl:plainE st.e=true)
  (h:goOps Γ T l l st [] fun st' rs=>chkD (befs [] l) rs.reverse=true/\FX X (cut keep st') .normal Q):VX X st (.region id l.toArray true) Q:=by
 intro G a S ho hE;rw[ba] at hreg;obtain⟨recs,e1,e2,e3,e4⟩:=go_run h;rw[List.append_nil,List.reverse_reverse] at e3;refine wp_region_any hm.h ?_;have hext:Ext G.w { G.w with drawn:=G.w.drawn+1 }:=(Below.refl _ _).drew;obtain⟨S1,L1⟩:=S.ext hext;have:=draw_any hΓ hT (Q:=Q) (l:=l) (recs:=recs) (st:=st) e1 e2 (plainE_eq hpl) hreg.1 hreg.2 e3 (fun G' a' S' ho' hE'=>by
   obtain⟨G2,S2,ho2,hw2,hE2⟩:=cut_ok keep S' ho' hE';have:=e4 G2 a' S2 ho2 hE2
   grind) l.length (Array.replicate l.length false) { G with w:={ G.w with drawn:=G.w.drawn+1 } } a
  (by grind) (by simp) (fun i o _ hD=>by
    by_cases hi:i<l.length
    ·simp_all
    grind) S1 (fun id=>by
    have:∀{recs:List Rec} {i:Nat} {st:St},(∀j,(Array.replicate l.length false).getD j false=false)->stD (fun k=>(Array.replicate l.length false).getD k false) i recs st=st:=by
     intro recs
     induction recs with
     | nil=>intro i st _; rfl
     | cons R r ih=>grind[stD]
    rw[this (fun j=>by by_cases hj:j<l.length <;> simp[hj])]
    grind) (by
    have:∀{recs:List Rec} {i:Nat} {st:St},(∀j,(Array.replicate l.length false).getD j false=false)->stD (fun k=>(Array.replicate l.length false).getD k false) i recs st=st:=by
     intro recs
     induction recs with
     | nil=>intro i st _; rfl
     | cons R r ih=>grind[stD]
    rw[this (fun j=>by by_cases hj:j<l.length <;> simp[hj])];exact hE.mono L1)
 omega
end
def isCur:Option Ob->Nat->Prop
 | some (.arr _ _ _ _ v),ver=>v=ver
 | _,_=>False
theorem isCur_eq{b:Option Ob}{ver:Nat}(h:isCur b ver):∃T fr t xs,b=some (.arr T fr t xs ver):=by
 unfold isCur at h
 grind
def isBox:Option Ob->Prop
 | some (.box _ _)=>True
 | _=>False
theorem isBox_eq{b:Option Ob}(h:isBox b):∃T cs,b=some (.box T cs):=by
 unfold isBox at h
 grind
def isFree:Option Ob->Prop
 | none=>True
 | _=>False
theorem isFree_eq{b:Option Ob}(h:isFree b):b=none:=by
 grind[isFree]
def isNilV:Value->Prop
 | .slice none 0 0=>True
 | _=>False
theorem isNilV_eq{u:Value}(h:isNilV u):u=.slice none 0 0:=by
 grind[isNilV]
def nilD:(t:Ty)->den t->Prop
 | .sl _,x=>x=[]
 | _,_=>False
theorem nilD_ok{K:Nat->Prop}{w:World}:∀{t:Ty} {x:den t},nilD t x->RT K w t [.slice none 0 0] x
 | .sl _,x,h=>by
   have h:x=[]:=h;subst h;exact⟨none,0,rfl,Nat.le_refl _,by omega,.inl rfl⟩
def isGrdP:Option Ob->Prop
 | some (.grd ..)=>True
 | _=>False
theorem isGrdP_eq{b:Option Ob}(h:isGrdP b):∃T Te fr t xs hole,b=some (.grd T Te fr t xs hole):=by
 unfold isGrdP at h
 grind
def noHole:Option Nat->Prop
 | none=>True
 | some _=>False
theorem noHole_eq{h:Option Nat}(k:noHole h):h=none:=by
 cases h with
 | none=>rfl
 | some _=>exact k.elim
/- The first value may be taken for the second one. -/
mutual
def cvA(o o':List (Nat×Ob)):AV->AV->Prop
 | .d fr t x,b=>match b with
   | .d fr' t' y=>(fr'=true->fr=true)/\castD t t' x=some y
   | _=>False
 | .v x,b=>match b with
   | .v y=>x=y
   | .os id ver=>isNilV x/\isFree (lku o id)/\isCur (lku o' id) ver
   | .d _ t y=>isNilV x/\nilD t y
   | _=>False
 | .os id ver,b=>match b with
   | .os id' ver'=>id=id'/\isCur (lku o id) ver/\isCur (lku o' id) ver'
   | _=>False
 | .ptr id off,b=>match b with
   | .ptr id' off'=>id=id'/\off=off'/\isBox (lku o' id)
   | _=>False
 | .agg xs,b=>match b with
   | .agg ys=>cvAs o o' xs ys
   | _=>False
 | .tup xs,b=>match b with
   | .tup ys=>cvAs o o' xs ys
   | _=>False
 | .fn f xs,b=>match b with
   | .fn g ys=>f=g/\cvAs o o' xs ys
   | _=>False
 | .og id,b=>match b with
   | .og id'=>id=id'/\isGrdP (lku o' id)
   | _=>False
 | _,_=>False
def cvAs(o o':List (Nat×Ob)):List AV->List AV->Prop
 | [],ys=>match ys with
   | []=>True
   | _=>False
 | a :: r,ys=>match ys with
   | b :: s=>cvA o o' a b/\cvAs o o' r s
   | _=>False
end
def cvO(o o':List (Nat×Ob)):Option Ob->Ob->Prop
 | some (.box T cs),.box T' cs'=>T=T'/\cvAs o o' cs cs'
 | some (.arr T fr t xs _),.arr T' fr' t' ys _=>T=T'/\(fr'=true->fr=true)/\castD (.sl t) (.sl t') xs=some ys
 | none,.arr _ _ _ ys _=>ys=[]
 | some (.grd T Te fr t xs h),.grd T' Te' fr' t' ys h'=>T=T'/\Te=Te'/\noHole h/\noHole h'/\(fr'=true->fr=true)/\castD (.sl (.sl t)) (.sl (.sl t')) xs=some ys
 | _,_=>False
def cvE1(o o':List (Nat×Ob))(b:AV):Option Sl->Prop
 | some ⟨[],a⟩=>cvA o o' a b
 | _=>False
def cvP:Pa->Prop
 | []=>True
 | _=>False
theorem cvP_eq{q:Pa}(h:cvP q):q=[]:=by
 grind[cvP]
def cvEs(o o':List (Nat×Ob))(e:List (Nat×Sl)):List (Nat×Sl)->Prop
 | []=>True
 | (t,s) :: r=>cvP s.p/\cvE1 o o' s.a (lku e t)/\cvEs o o' e r
def cvOs(o o':List (Nat×Ob)):List (Nat×Ob)->Prop
 | []=>True
 | (i,b) :: r=>cvO o o' (lku o i) b/\cvOs o o' r
def pins(o':List (Nat×Ob)):List (Nat×Ob)->Prop
 | []=>True
 | (i,.box _ _) :: r=>(bif Nat.ble 500000 i then isBox (lku o' i) else True)/\pins o' r
 | (_,.arr ..) :: r=>pins o' r
 | (_,.grd ..) :: r=>pins o' r
def Into(st st':St):Prop:=cvEs st.o st'.o st.e st'.e/\cvOs st.o st'.o st'.o/\pins st'.o st.o
def into(G:Gh)(o':List (Nat×Ob)):Gh :=
 ⟨fun i=>match lku G.o i with | some _=>G.ρ i | none=>.slice none 0 0,fun i=>match lku G.o i with | some _=>G.γ i | none=>none,G.K,G.w,o',G.B,G.δ⟩
theorem into_ρ{G:Gh}{o':List (Nat×Ob)}{i:Nat}{b:Ob}(h:lku G.o i=some b):(into G o').ρ i=G.ρ i:=by grind[into]
theorem into_γ{G:Gh}{o':List (Nat×Ob)}{i:Nat}{b:Ob}(h:lku G.o i=some b):(into G o').γ i=G.γ i:=by grind[into]
theorem into_ρ0{G:Gh}{o':List (Nat×Ob)}{i:Nat}(h:lku G.o i=none):(into G o').ρ i=.slice none 0 0:=by grind[into]
theorem into_γ0{G:Gh}{o':List (Nat×Ob)}{i:Nat}(h:lku G.o i=none):(into G o').γ i=none:=by grind[into]
mutual
theorem cvA_sound{G:Gh}{o':List (Nat×Ob)}:∀{a b:AV} {u:Value},cvA G.o o' a b->AVR G a u->AVR (into G o') b u
 | .d fr t x,b,u,h,hu=>by
   unfold cvA at h;split at h
   ·obtain⟨h1,h2⟩:=h;obtain⟨e,rfl⟩:=castD_eq h2;subst e;exact RT.up hu (fun k hk=>⟨hk.1,fun e=>hk.2 (h1 e)⟩)
   grind
 | .v x,b,u,h,hu=>by
   have hu:u=x:=hu;unfold cvA at h;split at h
   ·exact hu.trans h
   ·obtain⟨h0,h1,h2⟩:=h;have h0:=isNilV_eq h0;have h1:=isFree_eq h1;obtain⟨T,fr,t,xs,h2⟩:=isCur_eq h2;subst hu;subst h0;exact⟨rfl,T,fr,t,xs,_,h2,Nat.le_refl _,fun _=>(into_ρ0 h1).symm⟩
   ·obtain⟨h0,h1⟩:=h;have h0:=isNilV_eq h0;subst hu;subst h0;exact nilD_ok h1
   grind
 | .os id ver,b,u,h,⟨h0,T,fr,t,xs,ver',k1,k2,k3⟩=>by
   unfold cvA at h;split at h
   ·obtain⟨rfl,h1,h2⟩:=h;obtain⟨T1,fr1,t1,xs1,h1⟩:=isCur_eq h1;obtain⟨T2,fr2,t2,xs2,h2⟩:=isCur_eq h2;rw[k1] at h1;cases h1;exact⟨h0,_,_,_,_,_,h2,Nat.le_refl _,fun _=>(k3 rfl).trans (into_ρ k1).symm⟩
   grind
 | .ptr id off,b,u,h,⟨⟨T,cs,k1⟩,b',k2,k3⟩=>by
   unfold cvA at h;split at h
   ·obtain⟨rfl,rfl,h2⟩:=h;exact⟨isBox_eq h2,b',(into_ρ k1).trans k2,k3⟩
   grind
 | .agg xs,b,u,h,⟨us,e,hu⟩=>by
   unfold cvA at h;split at h
   ·exact⟨us,e,cvAs_sound h hu⟩
   grind
 | .tup xs,b,u,h,⟨us,e,hu⟩=>by
   unfold cvA at h;split at h
   ·exact⟨us,e,cvAs_sound h hu⟩
   grind
 | .fn f xs,b,u,h,⟨us,e,hu⟩=>by
   unfold cvA at h;split at h
   ·obtain⟨rfl,h⟩:=h;exact⟨us,e,cvAs_sound h hu⟩
   grind
 | .pel _ _ _ _ _,b,u,h,hu=>by grind[cvA]
 | .gel _ _,b,u,h,hu=>by grind[cvA]
 | .og id,b,u,h,⟨h0,⟨T,Te,fr,t,xs,hole,k1⟩,k2⟩=>by
   unfold cvA at h;split at h
   ·obtain⟨rfl,h2⟩:=h;exact⟨h0,isGrdP_eq h2,k2.trans (into_ρ k1).symm⟩
   grind
 | .ow _ _ _ _,b,u,h,hu=>hu.elim
 | .ob _ _,b,u,h,hu=>hu.elim
theorem cvAs_sound{G:Gh}{o':List (Nat×Ob)}:∀{as' bs:List AV} {us:List Value},cvAs G.o o' as' bs->AVRs G as' us->AVRs (into G o') bs us
 | [],bs,us,h,hu=>by
   unfold cvAs at h;split at h
   ·exact hu
   grind
 | a :: r,bs,us,h,⟨u,us',e,k1,k2⟩=>by
   unfold cvAs at h;split at h
   ·exact⟨u,us',e,cvA_sound h.1 k1,cvAs_sound h.2 k2⟩
   grind
end
theorem cvOs_lk{o o':List (Nat×Ob)}:∀{l:List (Nat×Ob)} {i:Nat} {b:Ob},cvOs o o' l->lku l i=some b->cvO o o' (lku o i) b
 | [],_,_,_,h=>by cases h
 | (j,c) :: r,i,b,h,hl=>by
   rw[lK] at hl;split at hl
   ·rename_i e; subst e; cases hl; exact h.1
   ·exact cvOs_lk h.2 hl
theorem cvEs_lk{o o':List (Nat×Ob)}{e:List (Nat×Sl)}:∀{l:List (Nat×Sl)} {t:Nat} {s:Sl},cvEs o o' e l->lku l t=some s->s.p=[]/\cvE1 o o' s.a (lku e t)
 | [],_,_,_,h=>by cases h
 | (j,c) :: r,t,s,h,hl=>by
   rw[lK] at hl;split at hl
   ·rename_i e; subst e; cases hl; exact⟨cvP_eq h.1,h.2.1⟩
   ·exact cvEs_lk h.2.2 hl
theorem pins_lk{o':List (Nat×Ob)}:∀{l:List (Nat×Ob)} {i:Nat} {T:TypeId} {cs:List AV},pins o' l->lku l (500000+i)=some (.box T cs)->isBox (lku o' (500000+i))
 | [],_,_,_,_,h=>by cases h
 | (j,.arr ..) :: r,i,_,_,h,hl=>by
   rw[lK] at hl;split at hl
   ·cases hl
   ·exact pins_lk (l:=r) h hl
 | (j,.grd ..) :: r,i,_,_,h,hl=>by
   rw[lK] at hl;split at hl
   ·cases hl
   ·exact pins_lk (l:=r) h hl
 | (j,.box ..) :: r,i,_,_,h,hl=>by
   rw[lK] at hl;split at hl
   ·rename_i e; subst e;have:=h.1
    simp_all
   ·exact pins_lk h.2 hl
theorem into_sat{X:Cx}{G:Gh}{o':List (Nat×Ob)}(S:Sat X G)(h:cvOs G.o o' o')(hpin:pins o' G.o):Sat X (into G o'):=by
 have hγ:∀{i:Nat} {b:Nat},(into G o').γ i=some b->(∃c,lku G.o i=some c)/\G.γ i=some b:=fun {i b} hb=>by
  cases hl:lku G.o i with
  | none=>grind[into_γ0]
  | some c=>grind[into_γ]
 have hgb:∀i,isGrd (lku o' i)=true->isGrd (lku G.o i)=true:=fun i hg=>by
  obtain⟨T,Te,fr,t,xs,hole,e⟩:=isGrd_eq hg;have hc:=cvOs_lk h e;cases hl:lku G.o i with
  | none=>rw[hl] at hc; exact hc.elim
  | some c =>
    rw[hl] at hc;cases c with
    | box T cs=>exact hc.elim
    | arr T fr t xs ver=>exact hc.elim
    | grd T Te fr t xs hole=>rfl
 refine⟨S.base,S.os,S.tape,S.output,S.size,S.block,?_,?_,?_,?_,S.klt,S.kfrom,fun i b hb hg=>?_,fun i v hv=>?_⟩
 rotate_right
 rotate_right
 ·obtain⟨s1,s2,s3,s4⟩:=S.sep i b hb (hgb i hg);exact⟨s1,s2,fun j o ho hj=>by grind,fun j hj hgj=>s4 j hj (hgb j hgj)⟩
 ·obtain⟨⟨T,cs,h1⟩,b,h2,h3⟩:=S.pin i v hv;exact⟨isBox_eq (pins_lk hpin h1),b,(into_ρ h1).trans h2,h3⟩
 ·intro id o ho;have hc:=cvOs_lk h ho;cases hl:lku G.o id with
  | none =>
    rw[hl] at hc;cases o with
    | box T cs=>exact hc.elim
    | grd T Te fr t xs hole=>exact hc.elim
    | arr T fr t xs ver =>
      have hx:xs=[]:=hc;subst hx;refine⟨[],?_,rfl,fun b hb=>by grind⟩;rw[into_γ0 hl,into_ρ0 hl];exact .inl ⟨rfl,rfl,rfl,none,rfl⟩
  | some c =>
    rw[hl] at hc;have:=S.obs id c hl;cases c with
    | box T cs =>
      cases o with
      | arr T' fr t xs ver=>exact hc.elim
      | grd T Te fr t xs hole=>exact hc.elim
      | box T' cs' =>
        obtain⟨rfl,hc⟩:=hc;obtain⟨b,us,h1,h2,h3,h4⟩:=this;exact⟨b,us,(into_γ hl).trans h1,(into_ρ hl).trans h2,h3,cvAs_sound hc h4⟩
    | arr T fr t xs ver =>
      cases o with
      | box T' cs'=>exact hc.elim
      | arr T' fr' t' ys ver' =>
        obtain⟨rfl,h1,h2⟩:=hc;obtain⟨e,rfl⟩:=castD_eq h2;cases e;obtain⟨cs,k1,k2,k3⟩:=this;refine⟨cs,?_,k2.mapR (fun c x hr=>RT.up hr (fun k hk=>⟨hk.1,fun e=>hk.2 (h1 e)⟩)),fun b hb=>k3 b (hγ hb).2⟩;rw[into_γ hl,into_ρ hl];exact k1
      | grd T Te fr t xs hole=>exact hc.elim
    | grd T Te fr t xs hole =>
      cases o with
      | box T' cs'=>exact hc.elim
      | arr T' fr' t' ys ver'=>exact hc.elim
      | grd T' Te' fr' t' ys hole' =>
        obtain⟨rfl,rfl,e1,e2,h1,h2⟩:=hc;have e1:=noHole_eq e1;have e2:=noHole_eq e2;subst e1; subst e2;obtain⟨e,rfl⟩:=castD_eq h2;cases e;obtain⟨vs,bs,k1,k2,k3⟩:=this;refine⟨vs,bs,by rw[into_γ hl,into_ρ hl]; exact k1,⟨k2.len,k2.blk,k2.inj,fun k hk hh=>?_,k2.one⟩,fun b hb=>k3 b (hγ hb).2⟩;obtain⟨cs,r1,r2,r3⟩:=k2.row k hk hh;exact⟨cs,r1,r2.mapR (fun c x hr=>RT.up hr (fun k hk=>⟨hk.1,fun e=>hk.2 (h1 e)⟩)),r3⟩
 ·intro i i' o1 o2 b h1 h2 h3 h4;obtain⟨⟨c,hc⟩,h3⟩:=hγ h3;obtain⟨⟨c',hc'⟩,h4⟩:=hγ h4;exact S.inj i i' c c' b hc hc' h3 h4
 ·intro i o1 b h1 h2;obtain⟨⟨c,hc⟩,h2⟩:=hγ h2;exact S.imm i c b hc h2
 ·intro i o1 b h1 h2;obtain⟨⟨c,hc⟩,h2⟩:=hγ h2;exact S.own i c b hc h2
theorem into_ok{X:Cx}{G:Gh}{st st':St}{a:Act}(h:Into st st')(S:Sat X G)(ho:G.o=st.o)(hE:EnvR X.n G st.e a):∃G',Sat X G'/\G'.o=st'.o/\G'.w=G.w/\EnvR X.n G' st'.e a:=by
 obtain⟨h1,h2,h3⟩:=h;rw[<- ho] at h1 h2 h3;refine⟨into G st'.o,into_sat S h2 h3,rfl,rfl,hE.defers,hE.size,fun t s ht=>?_⟩;obtain⟨hp,hc⟩:=cvEs_lk h1 ht;rw[hp];refine⟨fun _=>?_,fun hn=>(hn (fun _ h=>by cases h)).elim⟩;unfold cvE1 at hc;split at hc
 ·rename_i a0 hl;exact cvA_sound hc ((hE.val t _ hl).1 (fun _ h=>by cases h))
 grind
section
variable {X:Cx} {st:St} {Q:Exit->Act->World->Prop}
def loopX(X:Cx){σ:Type}(E:σ->St)(J:σ->Prop)(μ:σ->Nat)(s:σ)(Q:Exit->Act->World->Prop):Exit->Act->World->Prop
 | .normal,a,w=>∃s',μ s'<μ s/\J s'/\∃G,Sat X G/\G.o=(E s').o/\G.w=w/\EnvR X.n G (E s').e a
 | e,a,w=>Q e a w
theorem vx_into{c:Code}(st':St)(h:Into st st')(k:VX X st' c Q):VX X st c Q:=fun G a S ho hE=>by
 obtain⟨G',S',ho',hw',hE'⟩:=into_ok h S ho hE;have:=k G' a S' ho' hE'
 grind
theorem vx_loop{body:Code}{σ:Type}(E:σ->St)(J:σ->Prop)(μ:σ->Nat)(s0:σ)(h0:J s0)(hs0:Into st (E s0))
  (round:∀s,J s->VX X (E s) body (loopX X E J μ s Q)):VX X st (.loop body) Q:=by
 intro G a S ho hE;obtain⟨G0,S0,ho0,hw0,hE0⟩:=into_ok hs0 S ho hE;refine wp_loop_ghost (fun m a w=>∃s,μ s=m/\J s/\∃G,Sat X G/\G.o=(E s).o/\G.w=w/\EnvR X.n G (E s).e a) (μ s0) ⟨s0,rfl,h0,G0,S0,ho0,hw0,hE0⟩ ?_;rintro m a w ⟨s,rfl,hJ,G,S,ho,rfl,hE⟩;refine wp_mono (round s hJ G a S ho hE) ?_;intro x a' w' hx;cases x with
 | normal =>
   obtain⟨s',h1,h2,h3⟩:=hx;exact⟨μ s',h1,s',rfl,h2,h3⟩
 | _=>exact hx
theorem fx_loop{σ:Type}{E:σ->St}{J:σ->Prop}{μ:σ->Nat}{s:σ}(s':σ)(hJ:J s')(hμ:μ s'<μ s)(hs:Into st (E s')):FX X st .normal (loopX X E J μ s Q):=fun G a S ho hE=>by
 obtain⟨G',S',ho',hw',hE'⟩:=into_ok hs S ho hE;exact⟨s',hμ,hJ,G',S',ho',hw',hE'⟩
theorem fx_loop_exit{σ:Type}{E:σ->St}{J:σ->Prop}{μ:σ->Nat}{s:σ}{id:Nat}(h:FX X st (.exit id) Q):FX X st (.exit id) (loopX X E J μ s Q):=fun G a S ho hE=>h G a S ho hE
theorem fx_loop_ret{σ:Type}{E:σ->St}{J:σ->Prop}{μ:σ->Nat}{s:σ}(h:FX X st .ret Q):FX X st .ret (loopX X E J μ s Q):=fun G a S ho hE=>h G a S ho hE
end
def start:Nat->(ps:List Par)->denPs ps->List (Nat×Sl)
 | _,[],_=>[]
 | i,.dat t :: r,x=>(i,⟨[],.d false t x.1⟩) :: start (i+1) r x.2
 | i,.agg t :: r,x=>(i,⟨[],.agg (cellsD false t x.1)⟩) :: start (i+1) r x.2
 | i,.fn f c :: r,x=>(i,⟨[],.fn f (cellsD false c x.1)⟩) :: start (i+1) r x.2
 | i,.nof f :: r,x=>(i,⟨[],.fn f []⟩) :: start (i+1) r x.2
 | i,.nil :: r,x=>(i,⟨[],.v (.pointer none)⟩) :: start (i+1) r x.2
 | i,.io _ _ :: r,x=>(i,⟨[],.ptr (500000+i) 0⟩) :: start (i+1) r x.2
 | i,.os _ _ :: r,x=>(i,⟨[],.os (500000+i) 0⟩) :: start (i+1) r x.2
def startO:Nat->(ps:List Par)->denPs ps->List (Nat×Ob)
 | _,[],_=>[]
 | i,.io T t :: _,x=>[(500000+i,.box T (cellsD false t x.1))]
 | i,.os E t :: _,x=>[(500000+i,.arr E true t x.1 0)]
 | i,.dat _ :: r,x=>startO (i+1) r x.2
 | i,.agg _ :: r,x=>startO (i+1) r x.2
 | i,.fn _ _ :: r,x=>startO (i+1) r x.2
 | i,.nof _ :: r,x=>startO (i+1) r x.2
 | i,.nil :: r,x=>startO (i+1) r x.2
def pinOf:Nat->List Par->Option Nat->Option (Nat×Value)
 | _,[],_=>none
 | i,.io _ _ :: _,some b=>some (i,.pointer (some ⟨b,0,none⟩))
 | _,.os _ _ :: _,_=>none
 | i,_ :: r,go=>pinOf (i+1) r go
def noOb:List Par->Bool
 | []=>true
 | .io _ _ :: _=>false
 | .os _ _ :: _=>false
 | .dat _ :: r=>noOb r
 | .agg _ :: r=>noOb r
 | .fn _ _ :: r=>noOb r
 | .nof _ :: r=>noOb r
 | .nil :: r=>noOb r
def oneOb:List Par->Bool
 | []=>true
 | .io _ _ :: r=>noOb r
 | .os _ _ :: r=>noOb r
 | .dat _ :: r=>oneOb r
 | .agg _ :: r=>oneOb r
 | .fn _ _ :: r=>oneOb r
 | .nof _ :: r=>oneOb r
 | .nil :: r=>oneOb r
theorem startO_no:∀{ps:List Par} {i:Nat} {x:denPs ps},noOb ps=true->startO i ps x=[]
 | [],_,_,_=>rfl
 | .io _ _ :: _,_,_,h=>by cases h
 | .os _ _ :: _,_,_,h=>by cases h
 | .dat _ :: r,i,x,h=>startO_no (ps:=r) (i:=i+1) h
 | .agg _ :: r,i,x,h=>startO_no (ps:=r) (i:=i+1) h
 | .fn _ _ :: r,i,x,h=>startO_no (ps:=r) (i:=i+1) h
 | .nof _ :: r,i,x,h=>startO_no (ps:=r) (i:=i+1) h
 | .nil :: r,i,x,h=>startO_no (ps:=r) (i:=i+1) h
theorem ior_no{K:Nat->Prop}{w:World}{go:Option Nat}:∀{ps:List Par} {z:IOT ps},noOb ps=true->IOR K w go ps z
 | [],_,_=>trivial
 | .io _ _ :: _,_,h=>by cases h
 | .os _ _ :: _,_,h=>by cases h
 | .dat _ :: r,z,h=>ior_no (ps:=r) h
 | .agg _ :: r,z,h=>ior_no (ps:=r) h
 | .fn _ _ :: r,z,h=>ior_no (ps:=r) h
 | .nof _ :: r,z,h=>ior_no (ps:=r) h
 | .nil :: r,z,h=>ior_no (ps:=r) h
theorem giv_no:∀{ps:List Par},noOb ps=true->¬giv ps=true
 | [],_=>fun e=>by cases e
 | .io _ _ :: _,h=>by cases h
 | .os _ _ :: _,h=>by cases h
 | .dat _ :: r,h=>giv_no (ps:=r) h
 | .agg _ :: r,h=>giv_no (ps:=r) h
 | .fn _ _ :: r,h=>giv_no (ps:=r) h
 | .nof _ :: r,h=>giv_no (ps:=r) h
 | .nil :: r,h=>giv_no (ps:=r) h
theorem ior_giv{K:Nat->Prop}{w:World}{go:Option Nat}:∀{ps:List Par} {z:IOT ps},oneOb ps=true->giv ps=true->IOR K w go ps z
 | [],_,_,_=>trivial
 | .io _ _ :: r,_,h,g=>(giv_no (ps:=r) h g).elim
 | .os _ _ :: r,_z,h,_=>ior_no (ps:=r) h
 | .dat _ :: r,_z,h,g=>ior_giv (ps:=r) h g
 | .agg _ :: r,_z,h,g=>ior_giv (ps:=r) h g
 | .fn _ _ :: r,_z,h,g=>ior_giv (ps:=r) h g
 | .nof _ :: r,_z,h,g=>ior_giv (ps:=r) h g
 | .nil :: r,_z,h,g=>ior_giv (ps:=r) h g
theorem oneOb_of:∀{ps:List Par},noOb ps=true->oneOb ps=true
 | [],_=>rfl
 | .io _ _ :: _,h=>by cases h
 | .os _ _ :: _,h=>by cases h
 | .dat _ :: r,h=>oneOb_of (ps:=r) h
 | .agg _ :: r,h=>oneOb_of (ps:=r) h
 | .fn _ _ :: r,h=>oneOb_of (ps:=r) h
 | .nof _ :: r,h=>oneOb_of (ps:=r) h
 | .nil :: r,h=>oneOb_of (ps:=r) h
def pinP(o:Option (Nat×Value)):Nat->Value->Prop:=fun i v=>o=some (i,v)
def rho0:List Par->List Value->Value
 | .io _ _ :: _,v :: _=>v
 | .os _ _ :: _,v :: _=>v
 | _ :: r,_ :: us=>rho0 r us
 | _,_=>undef
def GhS(K:Nat->Prop)(w:World)(go:Option Nat)(r0:Value)(B:Nat)(o:List (Nat×Ob)):Gh:=⟨fun _=>r0,fun _=>go,K,w,o,B,fun _ _=>False⟩
@[reducible] def cx (P:Program) (n:Nat) (y:World×(Nat->Prop)×(Nat->Prop)×(Nat->Value->Prop)×Nat):Cx:=⟨P,n,y.1,y.2.1,y.2.2.1,y.2.2.2.1,y.2.2.2.2⟩
def baseOf(ps:List Par)(w:World):Nat:=bif giv ps then 0 else w.heap.size
theorem baseOf_no{ps:List Par}{w:World}(h:¬giv ps=true):baseOf ps w=w.heap.size:=by
 grind[baseOf]
theorem baseOf_yes{ps:List Par}{w:World}(h:giv ps=true):baseOf ps w=0:=by
 grind[baseOf]
theorem baseOf_le(ps:List Par)(w:World):baseOf ps w<=w.heap.size:=by
 by_cases h:giv ps=true
 ·rw[baseOf_yes h]; exact Nat.zero_le _
 ·rw[baseOf_no h]; exact Nat.le_refl _
theorem rg_false{K:Nat->Prop}{w:World}{go:Option Nat}{r0:Value}{B:Nat}{o:List (Nat×Ob)}{t:Ty}{us:List Value}{x:den t}(h:RT K w t us x):RT (rg (GhS K w go r0 B o) false) (GhS K w go r0 B o).w t us x :=
 RT.up h (fun _ hk=>⟨hk,fun e=>by cases e⟩)
theorem start_obs{K:Nat->Prop}{w:World}:∀{ps:List Par} {i:Nat} {x:denPs ps} {vs:List Value} {go:Option Nat},ArgsR K w go ps x vs ->
  (startO i ps x=[]/\go=none/\pinOf i ps go=none/\¬giv ps=true)∨(∃j b T t z cs,startO i ps x=[(500000+j,.box T (cellsD false t z))]/\go=some b/\pinOf i ps go=some (j,.pointer (some ⟨b,0,none⟩))/\rho0 ps vs=.pointer (some ⟨b,0,none⟩)/\Blk w b cs T/\RT K w t cs z/\¬K b) ∨
    ∃j E t,∃xs:List (den t),∃cs,startO i ps x=[(500000+j,.arr E true t xs 0)]/\pinOf i ps go=none/\(rho0 ps vs).oneCell'=true/\Own w E (sz t) go (rho0 ps vs) xs.length cs/\AllR (RT K w t) cs xs/\(∀b,go=some b->¬K b)/\giv ps=true
 | [],i,x,vs,go,h=>.inl ⟨rfl,h.2,rfl,fun e=>by cases e⟩
 | .dat t :: r,i,x,vs,go,⟨v,us,e,_,h⟩=>by
   subst e;have:=start_obs (i:=i+1) h;cases go <;> exact this
 | .agg t :: r,i,x,vs,go,⟨v,us,e,_,h⟩=>by
   subst e;have:=start_obs (i:=i+1) h;cases go <;> exact this
 | .fn f t :: r,i,x,vs,go,⟨v,us,e,_,h⟩=>by
   subst e;have:=start_obs (i:=i+1) h;cases go <;> exact this
 | .nof f :: r,i,x,vs,go,⟨us,e,h⟩=>by
   subst e;have:=start_obs (i:=i+1) h;cases go <;> exact this
 | .nil :: r,i,x,vs,go,⟨us,e,h⟩=>by
   subst e;have:=start_obs (i:=i+1) h;cases go <;> exact this
 | .io T t :: r,i,x,vs,go,⟨b,cs,us,e,hgo,h1,h2,h3,h⟩=>by
   subst hgo;subst e;exact .inr (.inl ⟨i,b,T,t,x.1,cs,rfl,rfl,rfl,rfl,h2,h3,h1⟩)
 | .os E t :: r,i,x,vs,go,⟨v,cs,us,e,h1,h2,h3,h4,h⟩=>by
   subst e;exact .inr (.inr ⟨i,E,t,x.1,cs,rfl,(by cases go <;> rfl),h2,h3,h4,h1,rfl⟩)
theorem start_env{K:Nat->Prop}{w:World}{o:List (Nat×Ob)}{g0:Option Nat}{r0:Value}{B:Nat}:∀{ps:List Par} {i:Nat} {x:denPs ps} {vs:List Value} {go:Option Nat},oneOb ps=true->ArgsR K w go ps x vs->(startO i ps x≠[]->rho0 ps vs=r0)->(∀z∈startO i ps x,lku o z.1=some z.2) ->
  ∀t s,lku (start i ps x) t=some s->i<=t/\s.p=[]/\∃u,vs[t-i]?=some u/\AVR (GhS K w g0 r0 B o) s.a u
 | [],i,x,vs,go,_,h,_,_,t,s,ht=>by cases ht
 | .dat ty :: r,i,x,vs,go,hn,⟨v,us,e,h1,h⟩,hg,hz,t,s,ht=>by
   subst e;unfold start at ht;rw[lK] at ht;split at ht
   ·rename_i e; subst e; cases ht; exact⟨Nat.le_refl _,rfl,v,by simp,rg_false h1⟩
   ·obtain⟨a1,a2,u,a3,a4⟩:=start_env (ps:=r) (i:=i+1) hn h hg hz t s ht;exact⟨by omega,a2,u,by grind,a4⟩
 | .agg ty :: r,i,x,vs,go,hn,⟨v,us,e,h1,h⟩,hg,hz,t,s,ht=>by
   subst e;unfold start at ht;rw[lK] at ht;split at ht
   ·rename_i e; subst e; cases ht; exact⟨Nat.le_refl _,rfl,_,by simp,v,rfl,cellsD_sound (rg_false h1)⟩
   ·obtain⟨a1,a2,u,a3,a4⟩:=start_env (ps:=r) (i:=i+1) hn h hg hz t s ht;exact⟨by omega,a2,u,by grind,a4⟩
 | .fn f ty :: r,i,x,vs,go,hn,⟨v,us,e,h1,h⟩,hg,hz,t,s,ht=>by
   subst e;unfold start at ht;rw[lK] at ht;split at ht
   ·rename_i e; subst e; cases ht; exact⟨Nat.le_refl _,rfl,_,by simp,v,rfl,cellsD_sound (rg_false h1)⟩
   ·obtain⟨a1,a2,u,a3,a4⟩:=start_env (ps:=r) (i:=i+1) hn h hg hz t s ht;exact⟨by omega,a2,u,by grind,a4⟩
 | .nof f :: r,i,x,vs,go,hn,⟨us,e,h⟩,hg,hz,t,s,ht=>by
   subst e;unfold start at ht;rw[lK] at ht;split at ht
   ·rename_i e; subst e; cases ht; exact⟨Nat.le_refl _,rfl,_,by simp,[],rfl,rfl⟩
   ·obtain⟨a1,a2,u,a3,a4⟩:=start_env (ps:=r) (i:=i+1) hn h hg hz t s ht;exact⟨by omega,a2,u,by grind,a4⟩
 | .nil :: r,i,x,vs,go,hn,⟨us,e,h⟩,hg,hz,t,s,ht=>by
   subst e;unfold start at ht;rw[lK] at ht;split at ht
   ·rename_i e; subst e; cases ht; exact⟨Nat.le_refl _,rfl,_,by simp,rfl⟩
   ·obtain⟨a1,a2,u,a3,a4⟩:=start_env (ps:=r) (i:=i+1) hn h hg hz t s ht;exact⟨by omega,a2,u,by grind,a4⟩
 | .io T ty :: r,i,x,vs,go,hn,⟨b,cs,us,e,hgo,h1,h2,h3,h⟩,hg,hz,t,s,ht=>by
   subst e;have hr0:Value.pointer (some ⟨b,0,none⟩)=r0:=hg (fun e=>by cases e);unfold start at ht;rw[lK] at ht;split at ht
   ·rename_i e; subst e; cases ht;exact⟨Nat.le_refl _,rfl,_,by simp,⟨_,_,hz _ (List.mem_singleton.2 rfl)⟩,b,hr0.symm,rfl⟩
   ·have hno:startO (i+1) r x.2=[]:=startO_no hn;obtain⟨a1,a2,u,a3,a4⟩:=start_env (ps:=r) (i:=i+1) (oneOb_of hn) h (fun e=>(e hno).elim) (fun z hz'=>by rw[hno] at hz'; cases hz') t s ht;exact⟨by omega,a2,u,by grind,a4⟩
 | .os E ty :: r,i,x,vs,go,hn,⟨v,cs,us,e,h1,h2,h3,h4,h⟩,hg,hz,t,s,ht=>by
   subst e;have hr0:v=r0:=hg (fun e=>by cases e);unfold start at ht;rw[lK] at ht;split at ht
   ·rename_i e; subst e; cases ht;exact⟨Nat.le_refl _,rfl,_,by simp,h2,_,_,_,_,_,hz _ (List.mem_singleton.2 rfl),Nat.le_refl _,fun _=>hr0⟩
   ·have hno:startO (i+1) r x.2=[]:=startO_no hn;obtain⟨a1,a2,u,a3,a4⟩:=start_env (ps:=r) (i:=i+1) (oneOb_of hn) h (fun e=>(e hno).elim) (fun z hz'=>by rw[hno] at hz'; cases hz') t s ht;exact⟨by omega,a2,u,by grind,a4⟩
theorem ArgsR.len{K:Nat->Prop}{w:World}:∀{ps:List Par} {x:denPs ps} {vs:List Value} {go:Option Nat},ArgsR K w go ps x vs->vs.length=ps.length
 | [],x,vs,go,h=>by rw[h.1]; rfl
 | .dat t :: r,x,vs,go,⟨v,us,e,_,h⟩=>by rw[e,List.length_cons,h.len]; rfl
 | .agg t :: r,x,vs,go,⟨v,us,e,_,h⟩=>by rw[e,List.length_cons,h.len]; rfl
 | .fn f t :: r,x,vs,go,⟨v,us,e,_,h⟩=>by rw[e,List.length_cons,h.len]; rfl
 | .nof f :: r,x,vs,go,⟨us,e,h⟩=>by rw[e,List.length_cons,h.len]; rfl
 | .nil :: r,x,vs,go,⟨us,e,h⟩=>by rw[e,List.length_cons,h.len]; rfl
 | .io T t :: r,x,vs,go,⟨b,cs,us,e,_,_,_,_,h⟩=>by rw[e,List.length_cons,h.len]; rfl
 | .os E t :: r,x,vs,go,⟨v,cs,us,e,_,_,_,_,h⟩=>by rw[e,List.length_cons,h.len]; rfl
theorem start_sat{P:Program}{n:Nat}{K:Nat->Prop}{w:World}{ps:List Par}{x:denPs ps}{vs:List Value}{go:Option Nat}(hk0:KW P w go K)(h:ArgsR K w go ps x vs) :
  Sat (cx P n ⟨w,fun k=>go=some k,K,pinP (pinOf 0 ps go),baseOf ps w⟩) (GhS K w go (rho0 ps vs) (baseOf ps w) (startO 0 ps x)):=by
 have hW:=hk0.2;have hK:=hk0.1;have hK:∀k,K k->UFg w w.heap.size k:=fun k hk=>⟨hK k hk,fun h=>absurd (hK k hk) (Nat.not_lt.2 h)⟩;have hγ:∀i,(GhS K w go (rho0 ps vs) (baseOf ps w) (startO 0 ps x)).γ i=go:=fun _=>rfl;have hbl:=baseOf_le ps w;rcases start_obs (i:=0) h with ⟨h0,hg,hp,_⟩ | ⟨j,b,T,t,z,cs,h0,hg,hp,hr,h1,h2,h3⟩ | ⟨j,E,t,xs,cs,h0,hp,h1,h2,h3,h4,hv⟩
 ·have hlk:∀i o,lku (GhS K w go (rho0 ps vs) (baseOf ps w) (startO 0 ps x)).o i=some o->False:=fun i o e=>by
   have:lku (startO 0 ps x) i=some o:=e;rw[h0] at this; cases this
  refine⟨⟨rfl,hbl,hW⟩,rfl,rfl,rfl,Nat.le_refl _,fun _ _ _=>rfl,fun i o e=>(hlk i o e).elim,fun i _ o _ _ e=>(hlk i o e).elim,fun i o _ e=>(hlk i o e).elim,fun i o _ e=>(hlk i o e).elim,hK,fun k hk=>.inl hk,fun _ _ h=>h.elim,fun i v e=>?_⟩;have:pinOf 0 ps go=some (i,v):=e
  grind
 ·subst hg;have hlk:∀i o,lku (GhS K w (some b) (rho0 ps vs) (baseOf ps w) (startO 0 ps x)).o i=some o->i=500000+j/\o=.box T (cellsD false t z):=fun i o e=>by
   have:lku (startO 0 ps x) i=some o:=e;rw[h0,lK] at this;split at this
   ·grind
   ·cases this
  refine⟨⟨rfl,hbl,hW⟩,rfl,rfl,rfl,Nat.le_refl _,fun _ _ _=>rfl,fun i o e=>?_,fun i i' o o' _ e e' _ _=>(hlk i o e).1.trans (hlk i' o' e').1.symm,fun i o b' e e' hk=>?_,fun i o b' e e'=>.inr (by grind),hK,fun k hk=>.inl hk,fun _ _ h=>h.elim,fun i v e=>?_⟩
  ·obtain⟨rfl,rfl⟩:=hlk i o e;exact⟨b,cs,rfl,hr,h1,cellsD_sound (rg_false h2)⟩
  ·rw[hγ] at e'; cases e'; exact h3 hk
  ·have:pinOf 0 ps (some b)=some (i,v):=e;rw[hp] at this;cases this;refine⟨⟨T,cellsD false t z,?_⟩,b,hr,rfl⟩;show lku (startO 0 ps x) _=_;rw[h0,lK,if_pos rfl]
 ·have hlk:∀i o,lku (GhS K w go (rho0 ps vs) (baseOf ps w) (startO 0 ps x)).o i=some o->i=500000+j/\o=.arr E true t xs 0:=fun i o e=>by
   have:lku (startO 0 ps x) i=some o:=e;rw[h0,lK] at this;split at this
   ·grind
   ·cases this
  have hb0:=baseOf_yes (w:=w) hv;refine⟨⟨rfl,hbl,hW⟩,rfl,rfl,rfl,Nat.le_refl _,fun _ _ _=>rfl,fun i o e=>?_,fun i i' o o' _ e e' _ _=>(hlk i o e).1.trans (hlk i' o' e').1.symm,fun i o b' e e' hk=>?_,fun i o b' e e'=>.inr (by grind),hK,fun k hk=>.inl hk,fun _ _ h=>h.elim,fun i v e=>?_⟩
  ·obtain⟨rfl,rfl⟩:=hlk i o e;exact⟨cs,h2,h3.mapR (fun c x hx=>RT.up hx (fun k hk=>⟨hk,fun _=>by show baseOf ps w<=k; omega⟩)),fun b _=>by show baseOf ps w<=b; omega⟩
  ·rw[hγ] at e'; exact h4 b' e' hk
  ·have:pinOf 0 ps go=some (i,v):=e;rw[hp] at this;cases this
/- A value as the wanted result: on what condition, the rows handed over, the objects that become data. -/
mutual
def outA(o:List (Nat×Ob)):AV->AV->Option (Prop×List (Option Nat)×List Nat)
 | a,.ow T fr t xs=>match a with
   | .os id ver=>match lku o id with
     | some (.arr T' fr' t' ys ver')=>bif Nat.beq ver ver'&&Nat.beq T' T then some ((fr=true->fr'=true)/\castD (.sl t') (.sl t) ys=some xs,[some id],[]) else none
     | _=>none
   | .v x=>some (isNilV x/\xs=[],[none],[])
   | _=>none
 | a,.d fr t x=>match datN o 24 t [a] with
   | some (y,l,fl)=>some ((fr=true->fl=true)/\y=x,[],l)
   | none=>none
 | a,.ob T rs=>match a with
   | .ptr id 0=>match lku o id with
     | some (.box T' cs)=>bif Nat.beq T' T then(match outAs o cs rs with
       | some (q,m,f)=>some (q,some id :: m,f)
       | none=>none) else none
     | _=>none
   | _=>none
 | a,.v x=>match a with
   | .v y=>some (y=x,[],[])
   | _=>none
 | a,.agg rs=>match a with
   | .agg as'=>outAs o as' rs
   | _=>none
 | a,.tup rs=>match a with
   | .tup as'=>outAs o as' rs
   | _=>none
 | _,_=>none
def outAs(o:List (Nat×Ob)):List AV->List AV->Option (Prop×List (Option Nat)×List Nat)
 | as',[]=>match as' with
   | []=>some (True,[],[])
   | _=>none
 | as',r :: rs=>match as' with
   | a :: t=>match outA o a r with
     | some (q,m,f)=>match outAs o t rs with
       | some (q',m',f')=>some (q/\q',m++m',f++f')
       | none=>none
     | none=>none
   | []=>none
end
def gsOf(G:Gh)(mv:List (Option Nat)):List (Option Nat):=mv.map fun o=>o.bind G.γ
def ArrId(G:Gh)(mv:List (Option Nat)):Prop:=∀id,some id∈mv->∃o,lku G.o id=some o
mutual
theorem outA_sound{X:Cx}{G:Gh}(S:Sat X G){K':Nat->Prop}(hK:∀k,G.K k->K' k){Kf:Bool->Nat->Prop}(hf:∀fr k,rk G K' fr k->Kf fr k):∀{a r:AV} {u:Value} {q:Prop} {mv:List (Option Nat)} {fz:List Nat},outA G.o a r=some (q,mv,fz)->q->(∀id∈fz,(∃o,lku G.o id=some o)->∀b,G.γ id=some b->K' b)->AVR G a u ->
  ResR Kf G.w r u (gsOf G mv)/\ArrId G mv
 | a,.ow T fr t xs,u,q,mv,fz,h,hq,hz,hu=>by
   unfold outA at h;split at h
   ·rename_i id ver;split at h
    ·rename_i T' fr' t' ys ver' ho;rw[ce] at h;split at h
     ·rename_i hv;simp only[ba] at hv;have hv1:=nb hv.1;have hv2:=nb hv.2;subst hv1; subst hv2;simp only[oi,pj] at h;obtain⟨rfl,rfl,rfl⟩:=h;obtain⟨h1,h2⟩:=hq;obtain⟨e,rfl⟩:=castD_eq h2;cases e;obtain⟨h0,T1,fr1,t1,xs1,ver1,k1,k2,k3⟩:=hu;rw[ho] at k1;cases k1;have hu:=k3 rfl;subst hu;obtain⟨cs,g1,g2,g3⟩:=S.obs id _ ho;exact⟨⟨G.γ id,cs,rfl,h0,g1,g2.mapR (fun c x hr=>RT.up hr (fun k hk=>hf fr k ⟨hK k hk.1,fun e=>hk.2 (h1 e)⟩))⟩,fun i hi=>by
       grind⟩
     grind
    grind
   ·rename_i x;simp only[oi,pj] at h;obtain⟨rfl,rfl,rfl⟩:=h;obtain⟨h1,rfl⟩:=hq;have h1:=isNilV_eq h1;have hu:u=x:=hu;subst hu;subst h1;exact⟨⟨none,[],rfl,rfl,.inl ⟨rfl,rfl,rfl,none,rfl⟩,rfl⟩,fun i hi=>by grind⟩
   grind
 | a,.d fr t x,u,q,mv,fz,h,hq,hz,hu=>by
   unfold outA at h;split at h
   ·rename_i y l fl hd;simp only[oi,pj] at h;obtain⟨rfl,rfl,rfl⟩:=h;obtain⟨h1,rfl⟩:=hq;exact⟨⟨RT.up (datN_sound S hK 24 hd (fun id hid=>hz id hid (datN_ids 24 hd id hid)) ⟨u,[],rfl,hu,rfl⟩) (fun k hk=>hf fr k ⟨hk.1,fun e=>hk.2 (h1 e)⟩),rfl⟩,fun i hi=>by cases hi⟩
   grind
 | a,.ob T rs,u,q,mv,fz,h,hq,hz,hu=>by
   unfold outA at h;split at h
   ·rename_i id;split at h
    ·rename_i T' cs ho;rw[ce] at h;split at h
     ·rename_i hT;have hT:=nb hT;subst hT;split at h
      ·rename_i q1 m1 f1 h1;simp only[oi,pj] at h;obtain⟨rfl,rfl,rfl⟩:=h;obtain⟨_,b,hb,rfl⟩:=hu;obtain⟨b',us,g1,g2,g3,g4⟩:=S.obs id _ ho;rw[hb] at g2;cases g2;obtain⟨a1,a2⟩:=outAs_sound S hK hf h1 hq hz g4;refine⟨⟨b,us,gsOf G m1,by grind[gsOf],rfl,g3,a1⟩,fun i hi=>?_⟩;rcases List.mem_cons.1 hi with e | hi
       ·grind
       ·exact a2 i hi
      grind
     grind
    grind
   grind
 | a,.v x,u,q,mv,fz,h,hq,hz,hu=>by
   unfold outA at h;split at h
   ·simp only[oi,pj] at h;obtain⟨rfl,rfl,rfl⟩:=h;exact⟨⟨(show u=_ from hu).trans hq,rfl⟩,fun i hi=>by cases hi⟩
   grind
 | a,.agg rs,u,q,mv,fz,h,hq,hz,hu=>by
   unfold outA at h;split at h
   ·obtain⟨us,e,hu⟩:=hu;obtain⟨h1,h2⟩:=outAs_sound S hK hf h hq hz hu;exact⟨⟨us,e,h1⟩,h2⟩
   grind
 | a,.tup rs,u,q,mv,fz,h,hq,hz,hu=>by
   unfold outA at h;split at h
   ·obtain⟨us,e,hu⟩:=hu;obtain⟨h1,h2⟩:=outAs_sound S hK hf h hq hz hu;exact⟨⟨us,e,h1⟩,h2⟩
   grind
 | a,.ptr _ _,u,q,mv,fz,h,hq,hz,hu=>by grind[outA]
 | a,.pel _ _ _ _ _,u,q,mv,fz,h,hq,hz,hu=>by grind[outA]
 | a,.os _ _,u,q,mv,fz,h,hq,hz,hu=>by grind[outA]
 | a,.fn _ _,u,q,mv,fz,h,hq,hz,hu=>by grind[outA]
 | a,.gel _ _,u,q,mv,fz,h,hq,hz,hu=>by grind[outA]
 | a,.og _,u,q,mv,fz,h,hq,hz,hu=>by grind[outA]
theorem outAs_sound{X:Cx}{G:Gh}(S:Sat X G){K':Nat->Prop}(hK:∀k,G.K k->K' k){Kf:Bool->Nat->Prop}(hf:∀fr k,rk G K' fr k->Kf fr k):∀{as' rs:List AV} {us:List Value} {q:Prop} {mv:List (Option Nat)} {fz:List Nat},outAs G.o as' rs=some (q,mv,fz)->q->(∀id∈fz,(∃o,lku G.o id=some o)->∀b,G.γ id=some b->K' b)->AVRs G as' us ->
  ResRs Kf G.w rs us (gsOf G mv)/\ArrId G mv
 | as',[],us,q,mv,fz,h,hq,hz,hu=>by
   unfold outAs at h;split at h
   ·simp only[oi,pj] at h;obtain⟨rfl,rfl,rfl⟩:=h;exact⟨⟨hu,rfl⟩,fun i hi=>by cases hi⟩
   grind
 | as',r :: rs,us,q,mv,fz,h,hq,hz,hu=>by
   unfold outAs at h;split at h
   ·rename_i a t;split at h
    ·rename_i q1 m1 f1 h1;split at h
     ·rename_i q2 m2 f2 h2;simp only[oi,pj] at h;obtain⟨rfl,rfl,rfl⟩:=h;obtain⟨u,us',e,hu1,hu2⟩:=hu;obtain⟨a1,a2⟩:=outA_sound S hK hf h1 hq.1 (fun id hid=>hz id (by grind)) hu1;obtain⟨b1,b2⟩:=outAs_sound S hK hf h2 hq.2 (fun id hid=>hz id (by grind)) hu2;refine⟨⟨u,us',gsOf G m1,gsOf G m2,e,by simp[gsOf],a1,b1⟩,fun i hi=>?_⟩;rcases List.mem_append.1 hi with h | h
      ·exact a2 i h
      ·exact b2 i h
     grind
    grind
   grind
end
def ioA(o:List (Nat×Ob)):Nat->(ps:List Par)->IOT ps->Option (Prop×List Nat×Option Nat)
 | _,[],_=>some (True,[],none)
 | i,.io T t :: _,z=>match lku o (500000+i) with
   | some (.box T' cs)=>bif Nat.beq T' T then(match datN o 24 t cs with
     | some (y,l,_)=>some (y=z,l,some (500000+i))
     | none=>none) else none
   | _=>none
 | i,.dat _ :: r,z=>ioA o (i+1) r z
 | i,.agg _ :: r,z=>ioA o (i+1) r z
 | i,.fn _ _ :: r,z=>ioA o (i+1) r z
 | i,.nof _ :: r,z=>ioA o (i+1) r z
 | i,.nil :: r,z=>ioA o (i+1) r z
 | i,.os _ _ :: r,z=>ioA o (i+1) r z
def resV(Γ:Tab')(st:St):ResultVar->Option (Prop×AV)
 | .tmp t=>match lku st.e t with
   | some ⟨[],a⟩=>some (True,a)
   | _=>none
 | .cell t ty=>match lku st.e t with
   | some ⟨[],p⟩=>match derefA st.o p with
     | some (cs,_)=>match lku Γ ty with
       | some ti=>match ldA ti cs with
         | some a=>some (derefQ st.o p,a)
         | none=>none
       | none=>none
     | none=>none
   | _=>none
def resVs(Γ:Tab')(st:St):List ResultVar->Option (Prop×List AV)
 | []=>some (True,[])
 | r :: rs=>match resV Γ st r with
   | some (q,a)=>match resVs Γ st rs with
     | some (q',l)=>some (q/\q',a :: l)
     | none=>none
   | none=>none
def resM(tmps:Array Value):ResultVar->Sem Value
 | .tmp t=>pure (tmps.getD t undef)
 | .cell a t=>do loadVar t (<- asAddr (tmps.getD a undef))
theorem resV_sound{X:Cx}{Γ:Tab'}(hΓ:TabOk X.P Γ){G:Gh}{st:St}{a:Act}(S:Sat X G)(ho:G.o=st.o)(hE:EnvR X.n G st.e a){r:ResultVar}{q:Prop}{b:AV}(h:resV Γ st r=some (q,b))(hq:q) :
  ∃v,(resM a.tmps r).run X.P G.w=.ok v G.w/\AVR G b v:=by
 unfold resV at h;split at h
 ·rename_i t;split at h
  ·rename_i a0 hl;simp only[oi,pj] at h;obtain⟨rfl,rfl⟩:=h;exact⟨_,rfl,(hE.val t _ hl).1 (fun _ h=>by cases h)⟩
  grind
 ·rename_i t ty;split at h
  ·rename_i p hl;split at h
   ·rename_i cs l hd;split at h
    ·rename_i ti hti;split at h
     ·rename_i av hld;simp only[oi,pj] at h;obtain⟨rfl,rfl⟩:=h;rw[<- ho] at hd hq;obtain⟨bk,o,us,hp,hat,hA⟩:=deref_sound S hd hq ((hE.val t _ hl).1 (fun _ h=>by cases h));obtain⟨hi,hl',_,_,hk⟩:=hΓ _ _ hti;have hk:=kd_agg hk;have key:∀v,(loadVar ty ⟨bk,o,none⟩).run X.P G.w=.ok v G.w->(resM a.tmps (.cell t ty)).run X.P G.w=.ok v G.w:=fun v hv=>by
       grind[undef,Array.getD_eq_getD_getElem?,resM,asAddr]
      unfold ldA at hld;rw[ce] at hld;split at hld
      ·rename_i hg;rw[ce] at hld;split at hld
       ·rename_i hle;simp only[oi] at hld; subst hld;have hle:=Nat.le_of_ble_eq_true hle
        haveI:AggT X.P ty:=⟨hk.1 hg⟩
        haveI:Info X.P ty ti.size ti.bytes ti.zero:=⟨hi⟩
        have hlen:=hA.len;exact⟨_,key _ (loadVar_agg (by grind) (at_take hat ti.size)),us.take ti.size,rfl,(hA.take _).1⟩
       grind
      ·rename_i hg;split at hld
       ·rename_i c r;simp only[oi] at hld; subst hld
        haveI:NotAgg X.P ty:=⟨hk.2 (by grind)⟩
        obtain⟨u,us',rfl,hu,_⟩:=hA;exact⟨u,key _ (loadVar_one (by simpa using hat 0 u rfl)),hu⟩
       grind
     grind
    grind
   grind
  grind
theorem resVs_sound{X:Cx}{Γ:Tab'}(hΓ:TabOk X.P Γ){G:Gh}{st:St}{a:Act}(S:Sat X G)(ho:G.o=st.o)(hE:EnvR X.n G st.e a):∀{rs:List ResultVar} {q:Prop} {bs:List AV},resVs Γ st rs=some (q,bs)->q ->
  ∃vs,(rs.mapM (resM a.tmps)).run X.P G.w=.ok vs G.w/\AVRs G bs vs/\vs.length=rs.length
 | [],q,bs,h,hq=>by
   simp only[resVs,oi,pj] at h;obtain⟨rfl,rfl⟩:=h;exact⟨[],rfl,rfl,rfl⟩
 | r :: rs,q,bs,h,hq=>by
   unfold resVs at h;split at h
   ·rename_i q1 b h1;split at h
    ·rename_i q2 l h2;simp only[oi,pj] at h;obtain⟨rfl,rfl⟩:=h;obtain⟨v,e1,hv⟩:=resV_sound hΓ S ho hE h1 hq.1;obtain⟨vs,e2,hvs,hl⟩:=resVs_sound hΓ S ho hE h2 hq.2;exact⟨v :: vs,by simp_all,⟨v,vs,rfl,hv,hvs⟩,by grind⟩
    grind
   grind
def oneOf:List AV->AV
 | [a]=>a
 | as'=>.tup as'
def oneV:List Value->Value
 | [v]=>v
 | vs=>.tuple vs.toArray
theorem oneOf_sound{G:Gh}{as':List AV}{vs:List Value}(h:AVRs G as' vs):AVR G (oneOf as') (oneV vs):=by
 match as',vs,h with
 | [],vs,h=>have h:vs=[]:=h; subst h; exact⟨[],rfl,rfl⟩
 | [a],vs,⟨u,us,e,h1,h2⟩=>have h2:us=[]:=h2; subst h2; subst e; exact h1
 | a :: b :: r,vs,⟨u,us,e,h1,u2,us2,e2,h2,h3⟩=>subst e2; subst e; exact⟨u :: u2 :: us2,rfl,u,_,rfl,h1,u2,us2,rfl,h2,h3⟩
theorem results_run{fn:Func}{rs:List ResultVar}(hr:fn.results=rs.toArray){P:Program}{tmps:Array Value}{w:World}{vs:List Value}(h:(rs.mapM (resM tmps)).run P w=.ok vs w):(results fn tmps).run P w=.ok (oneV vs) w:=by
 have hm:results fn tmps=(do
   let vs <- Array.mapM (resM tmps) rs.toArray
   pure (if h:vs.size=1 then vs[0] else .tuple vs)):=by
  unfold results;rw[hr];congr 1
 have:(Array.mapM (resM tmps) rs.toArray).run P w=.ok vs.toArray w:=by
  rw[List.mapM_toArray];simp[h,Result.andThen]
 rw[hm];simp only[Sem.run_bind,this,Result.andThen]
 match vs with
 | []=>rfl
 | [v]=>rfl
 | v :: u :: r=>rfl
def onceN:List (Option Nat)->Bool
 | []=>true
 | none :: r=>onceN r
 | some i :: r=>notInS i r&&onceN r
where notInS (i:Nat):List (Option Nat)->Bool
 | []=>true
 | none :: r=>notInS i r
 | some j :: r=>!(Nat.beq i j)&&notInS i r
def apart(mv:List (Option Nat)):List Nat->Bool
 | []=>true
 | i :: r=>onceN.notInS i mv&&apart mv r
theorem notInS_eq{i:Nat}:∀{l:List (Option Nat)},onceN.notInS i l=true->some i ∉ l
 | [],_=>by simp
 | none :: r,h=>by
   have:=notInS_eq (l:=r) h;simpa using this
 | some j :: r,h=>by
   simp only[onceN.notInS,ba,Bool.not_eq_true'] at h;have:=notInS_eq h.2;simp only[List.mem_cons,oi,not_or];exact⟨fun e=>by simp_all,this⟩
theorem apart_eq{mv:List (Option Nat)}:∀{l:List Nat},apart mv l=true->∀i∈l,some i ∉ mv
 | j :: r,h,i,hi=>by
   simp only[apart,ba] at h;rcases List.mem_cons.1 hi with rfl | hi
   ·grind[notInS_eq]
   ·exact apart_eq h.2 i hi
theorem once_dup{X:Cx}{G:Gh}(S:Sat X G):∀{mv:List (Option Nat)},onceN mv=true->ArrId G mv->NoDup (gsOf G mv)
 | [],_,_=>trivial
 | none :: r,h,ha=>⟨(fun b e=>by cases e),once_dup S (mv:=r) h (fun i hi=>ha i (List.mem_cons_of_mem _ hi))⟩
 | some i :: r,h,ha=>by
   simp only[onceN,ba] at h;refine⟨fun b e hb=>?_,once_dup S h.2 (fun i hi=>ha i (List.mem_cons_of_mem _ hi))⟩;have e:G.γ i=some b:=e;obtain⟨o,ho,hob⟩:=List.mem_map.1 hb;cases o with
   | none=>grind
   | some j =>
     have hob:G.γ j=some b:=hob;obtain⟨_,h1⟩:=ha i (by simp);obtain⟨_,h2⟩:=ha j (List.mem_cons_of_mem _ ho);have:=S.inj i j _ _ b h1 h2 e hob
     grind[notInS_eq]
def noneOr(f:Nat->Bool):Option Nat->Bool
 | none=>true
 | some i=>f i
/- Data that lead nowhere. -/
mutual
def kfR:AV->Bool
 | .d _ t _=>kfree t
 | .ow _ _ t _=>kfree t
 | .ob _ xs=>kfRs xs
 | .agg xs=>kfRs xs
 | .tup xs=>kfRs xs
 | _=>true
def kfRs:List AV->Bool
 | []=>true
 | a :: r=>kfR a&&kfRs r
end
mutual
theorem ResR.kf{K K':Bool->Nat->Prop}{w:World}:∀{a:AV} {u:Value} {gs:List (Option Nat)},kfR a=true->ResR K w a u gs->ResR K' w a u gs
 | .v _,_,_,_,h=>h
 | .d fr t x,u,gs,hf,⟨h,e⟩=>⟨RT.free (by grind[kfR]) h,e⟩
 | .ow T fr t xs,u,gs,hf,⟨g,cs,h1,h2,h3,h4⟩=>⟨g,cs,h1,h2,h3,h4.mapR (fun c x h=>RT.free (by grind[kfR]) h)⟩
 | .agg xs,u,gs,hf,⟨us,e,h⟩=>⟨us,e,ResRs.kf (by grind[kfR]) h⟩
 | .ob T xs,u,gs,hf,⟨b,us,gs',e1,e2,h1,h⟩=>⟨b,us,gs',e1,e2,h1,ResRs.kf (by grind[kfR]) h⟩
 | .tup xs,u,gs,hf,⟨us,e,h⟩=>⟨us,e,ResRs.kf (by grind[kfR]) h⟩
theorem ResRs.kf{K K':Bool->Nat->Prop}{w:World}:∀{as':List AV} {us:List Value} {gs:List (Option Nat)},kfRs as'=true->ResRs K w as' us gs->ResRs K' w as' us gs
 | [],_,_,_,h=>h
 | a :: r,us,gs,hf,⟨u,us',g1,g2,e1,e2,h1,h2⟩=>by
   simp only[kfRs,ba] at hf;exact⟨u,us',g1,g2,e1,e2,ResR.kf hf.1 h1,ResRs.kf hf.2 h2⟩
end
def endA(Γ:Tab')(st:St)(rs:List ResultVar)(r:AV)(ps:List Par)(z:IOT ps):Prop :=
 match resVs Γ st rs with
 | some (q0,as')=>match outA st.o (oneOf as') r with
   | some (q,mv,fz)=>match ioA st.o 0 ps z with
     | some (q',fz',pin)=>bif onceN mv&&apart mv (fz++fz')&&noneOr (fun i=>notIn i (fz++fz')) pin&&(!giv ps||kfR r)&&noneOr (fun i=>onceN.notInS i mv) pin then q0/\q/\q' else False
     | none=>False
   | none=>False
 | none=>False
def PostC(c:Ct)(x:denPs c.ps)(w:World)(go:Option Nat)(K:Nat->Prop)(en:Ending)(w':World):Prop :=
 ∃v gs,en=.returned v/\WE go w w'/\NoDup gs/\(∀b,some b∈gs->w.heap.size<=b∨(giv c.ps=true/\go=some b))/\ResR (fun fr=>KRes fr K w w' gs) w' (c.res x).r v gs /\
  IOR (fun k=>(K k∨w.heap.size<=k)/\UFg w' w.heap.size k/\some k ∉ gs/\go≠some k) w' go c.ps (c.res x).z
theorem ioA_sound{X:Cx}{G:Gh}(S:Sat X G){K' Kf:Nat->Prop}(hK:∀k,G.K k->K' k)(hf:∀k,K' k->Kf k){go:Option Nat}:∀{ps:List Par} {i:Nat} {z:IOT ps} {q:Prop} {fz:List Nat} {pin:Option Nat},¬giv ps=true->ioA G.o i ps z=some (q,fz,pin)->q->X.pin=pinP (pinOf i ps go)->((∃b,go=some b)∨pin=none) ->
  (∀id∈fz,(∃o,lku G.o id=some o)->∀b,G.γ id=some b->K' b)->IOR Kf G.w go ps z/\∀id,pin=some id->∃T cs,lku G.o id=some (.box T cs)/\G.γ id=go
 | .os _ _ :: _,_,_,_,_,_,hv,_,_,_,_,_=>(hv rfl).elim
 | [],i,z,q,fz,pin,_,h,hq,_,_,_=>by
   simp only[ioA,oi,pj] at h;obtain⟨_,_,rfl⟩:=h;exact⟨trivial,fun _ e=>by cases e⟩
 | .io T t :: r,i,z,q,fz,pin,_,h,hq,hp,hg,hz=>by
   unfold ioA at h;split at h
   ·rename_i T' cs ho;rw[ce] at h;split at h
    ·rename_i hT;have hT:=nb hT;subst hT;split at h
     ·rename_i y l fl hd;simp only[oi,pj] at h;obtain⟨rfl,rfl,rfl⟩:=h;obtain rfl:=hq;rcases hg with ⟨b,rfl⟩ | hg
      ·obtain⟨_,b',k1,k2⟩:=S.pin i (.pointer (some ⟨b,0,none⟩)) (by rw[hp]; rfl);cases k2;obtain⟨b2,us,g1,g2,g3,g4⟩:=S.obs _ _ ho;rw[k1] at g2;cases g2;exact⟨⟨b,us,rfl,g3,RT.up (datN_sound S hK 24 hd (fun id hid=>hz id hid (datN_ids 24 hd id hid)) g4) (fun k hk=>hf k hk.1)⟩,fun id e=>by grind⟩
      grind
     grind
    grind
   grind
 | .dat t :: r,i,z,q,fz,pin,hv,h,hq,hp,hg,hz=>ioA_sound (ps:=r) (i:=i+1) S hK hf hv h hq (by cases go <;> exact hp) hg hz
 | .agg t :: r,i,z,q,fz,pin,hv,h,hq,hp,hg,hz=>ioA_sound (ps:=r) (i:=i+1) S hK hf hv h hq (by cases go <;> exact hp) hg hz
 | .fn f t :: r,i,z,q,fz,pin,hv,h,hq,hp,hg,hz=>ioA_sound (ps:=r) (i:=i+1) S hK hf hv h hq (by cases go <;> exact hp) hg hz
 | .nof f :: r,i,z,q,fz,pin,hv,h,hq,hp,hg,hz=>ioA_sound (ps:=r) (i:=i+1) S hK hf hv h hq (by cases go <;> exact hp) hg hz
 | .nil :: r,i,z,q,fz,pin,hv,h,hq,hp,hg,hz=>ioA_sound (ps:=r) (i:=i+1) S hK hf hv h hq (by cases go <;> exact hp) hg hz
theorem io_or{K:Nat->Prop}{w:World}{o:List (Nat×Ob)}:∀{ps:List Par} {i:Nat} {x:denPs ps} {vs:List Value} {go:Option Nat} {z:IOT ps} {q:Prop} {fz:List Nat} {pin:Option Nat},¬giv ps=true->ArgsR K w go ps x vs->ioA o i ps z=some (q,fz,pin)->(go=none/\pin=none)∨∃b j,go=some b/\pin=some j
 | .os _ _ :: _,_,_,_,_,_,_,_,_,hv,_,_=>(hv rfl).elim
 | [],i,x,vs,go,z,q,fz,pin,_,ha,h=>by
   simp only[ioA,oi,pj] at h;exact .inl ⟨ha.2,h.2.2.symm⟩
 | .io T t :: r,i,x,vs,go,z,q,fz,pin,_,⟨b,_,_,_,hg,_⟩,h=>by
   grind[ioA]
 | .dat t :: r,i,x,vs,go,z,q,fz,pin,hv,⟨_,_,_,_,ha⟩,h=>io_or (ps:=r) (i:=i+1) hv ha h
 | .agg t :: r,i,x,vs,go,z,q,fz,pin,hv,⟨_,_,_,_,ha⟩,h=>io_or (ps:=r) (i:=i+1) hv ha h
 | .fn f t :: r,i,x,vs,go,z,q,fz,pin,hv,⟨_,_,_,_,ha⟩,h=>io_or (ps:=r) (i:=i+1) hv ha h
 | .nof f :: r,i,x,vs,go,z,q,fz,pin,hv,⟨_,_,ha⟩,h=>io_or (ps:=r) (i:=i+1) hv ha h
 | .nil :: r,i,x,vs,go,z,q,fz,pin,hv,⟨_,_,ha⟩,h=>io_or (ps:=r) (i:=i+1) hv ha h
theorem end_ok{P:Program}{n:Nat}{Γ:Tab'}(hΓ:TabOk P Γ){c:Ct}{x:denPs c.ps}{w:World}{K:Nat->Prop}{go:Option Nat}{vs:List Value}(hob:oneOb c.ps=true)(ha:ArgsR K w go c.ps x vs)
  {fn:Func} {rs:List ResultVar} (hr:fn.results=rs.toArray) {st:St} (h:endA Γ st rs (c.res x).r c.ps (c.res x).z) :
  ∀G a,Sat (cx P n ⟨w,fun k=>go=some k,K,pinP (pinOf 0 c.ps go),baseOf c.ps w⟩) G->G.o=st.o->EnvR n G st.e a->a.defers=[]/\∃v,(results fn a.tmps).run P G.w=.ok v G.w/\PostC c x w go K (.returned v) G.w:=by
 intro G a S ho hE;unfold endA at h;split at h
 ·rename_i q0 as' h0;split at h
  ·rename_i q mv fz h1;split at h
   ·rename_i q' fz' pin h2;rw[ce] at h;split at h
    ·rename_i hb;simp only[ba] at hb;obtain⟨⟨⟨⟨hb1,hb2⟩,hb3⟩,hb4⟩,hb5⟩:=hb;obtain⟨hq0,hq,hq'⟩:=h;obtain⟨us,e1,hu,_⟩:=resVs_sound (X:=cx P n ⟨w,fun k=>go=some k,K,pinP (pinOf 0 c.ps go),baseOf c.ps w⟩) hΓ S ho hE h0 hq0;rw[<- ho] at h1 h2;have hap:=apart_eq hb2;obtain⟨_,har⟩:=outA_sound (K':=fun _=>True) (Kf:=fun _ _=>True) S (fun _ _=>trivial) (fun _ _ _=>trivial) h1 hq (fun _ _ _ _ _=>trivial) (oneOf_sound hu);have hgs:∀k,some k∈gsOf G mv->∃id,some id∈mv/\G.γ id=some k:=fun k hk=>by
      obtain⟨o,h1,h2⟩:=List.mem_map.1 hk;cases o with
      | none=>cases h2
      | some id=>grind
     by_cases hgv:giv c.ps=true
     ·obtain⟨hR,_⟩:=outA_sound (K':=fun _=>True) (Kf:=fun _ _=>True) S (fun _ _=>trivial) (fun _ _ _=>trivial) h1 hq (fun _ _ _ _ _=>trivial) (oneOf_sound hu);rw[hgv,Bool.not_true,Bool.false_or] at hb4;refine⟨hE.defers,_,results_run hr e1,_,gsOf G mv,rfl,⟨S.os,S.tape,S.output,S.size,fun k hk hg=>S.block k hk hg⟩,once_dup S hb1 har,fun b hb=>?_,ResR.kf hb4 hR,ior_giv hob hgv⟩;obtain⟨j,j1,j2⟩:=hgs b hb;obtain⟨_,j3⟩:=har j j1;rcases S.own j _ b j3 j2 with h | h
      ·grind
      grind
     have hb0:=baseOf_no (w:=w) hgv;have hio:=io_or hgv ha h2;obtain⟨_,hpin⟩:=ioA_sound (K':=fun _=>True) (Kf:=fun _=>True) (go:=go) S (fun _ _=>trivial) (fun _ _=>trivial) hgv h2 hq' rfl (by
      grind) (fun _ _ _ _ _=>trivial)
     have hfz:∀id∈fz++fz',∀o,lku G.o id=some o->∀k,G.γ id=some k->w.heap.size<=k/\UFg G.w w.heap.size k/\some k ∉ gsOf G mv/\go≠some k:=fun id hid o ho' k hk=>by
      have hgo:go≠some k:=fun e=>by
       rcases hio with ⟨h,_⟩ | ⟨b,j,h,hj⟩
       ·grind
       ·obtain⟨T,cs,k1,k2⟩:=hpin j hj;have:=S.inj id j _ _ k ho' k1 hk (k2.trans e);subst this;rw[hj] at hb3;exact notIn_eq hb3 hid
      refine⟨?_,?_,?_,hgo⟩
      ·rcases S.own id o k ho' hk with h | h
       ·exact h
       grind
      ·have:=S.obs id o ho';cases o with
       | box T cs=>obtain⟨b',us,h1,h2,h3,h4⟩:=this; rw[hk] at h1; cases h1; exact(blk_uf h3).g
       | arr T fr t xs ver=>obtain⟨cs,h1,h2,_⟩:=this; rw[hk] at h1; exact(own_uf h1).g
       | grd T Te fr t xs hole=>obtain⟨vs,bs,h1,_⟩:=this; rw[hk] at h1; exact(own_uf h1).g
      ·intro hm;obtain⟨j,j1,j2⟩:=hgs k hm;obtain⟨_,j3⟩:=har j j1;have:=S.inj id j _ _ k ho' j3 hk j2
       grind
     have hKk:∀k,G.K k->(K k∨w.heap.size<=k)/\UFg G.w w.heap.size k/\some k ∉ gsOf G mv/\go≠some k:=fun k hk=>by
      refine⟨by
       have h:K k∨baseOf c.ps w<=k:=S.kfrom k hk
       rwa [hb0] at h,S.klt k hk,fun hm=>?_,fun e=>?_⟩
      ·obtain⟨j,j1,j2⟩:=hgs k hm;obtain⟨_,j3⟩:=har j j1;exact S.imm j _ k j3 j2 hk
      ·rcases hio with ⟨h,_⟩ | ⟨b,j,h,hj⟩
       ·grind
       ·obtain⟨T,cs,k1,k2⟩:=hpin j hj;exact S.imm j _ k k1 (k2.trans e) hk
     let K':Nat->Prop:=fun k=>G.K k∨∃id∈fz++fz',G.γ id=some k/\∃o,lku G.o id=some o
     have hK'f:∀k,K' k->(K k∨w.heap.size<=k)/\UFg G.w w.heap.size k/\some k ∉ gsOf G mv/\go≠some k:=fun k hk=>by
      grind
     obtain⟨hR,_⟩:=outA_sound (K':=K') (Kf:=fun fr=>KRes fr K w G.w (gsOf G mv)) S (fun _ h=>.inl h) (fun fr k hk=>by
      obtain⟨a1,a2,a3,_⟩:=hK'f k hk.1;refine⟨?_,a2,a3⟩;cases fr with
      | false =>
        grind
      | true=>exact .inr (by
        have h:G.B<=k:=hk.2 rfl;have e:G.B=baseOf c.ps w:=S.base.1;omega)) h1 hq (fun id hid ⟨o,ho'⟩ b hb=>.inr ⟨id,by grind,hb,o,ho'⟩) (oneOf_sound hu)
     obtain⟨hI,_⟩:=ioA_sound (K':=K') (Kf:=fun k=>(K k∨w.heap.size<=k)/\UFg G.w w.heap.size k/\some k ∉ gsOf G mv/\go≠some k) (go:=go) S (fun _ h=>.inl h) hK'f hgv h2 hq' rfl (by
      grind) (fun id hid ⟨o,ho'⟩ b hb=>.inr ⟨id,by grind,hb,o,ho'⟩)
     refine⟨hE.defers,_,results_run hr e1,_,gsOf G mv,rfl,⟨S.os,S.tape,S.output,S.size,fun k hk hg=>S.block k hk hg⟩,once_dup S hb1 har,fun b hb=>?_,hR,hI⟩;obtain⟨j,j1,j2⟩:=hgs b hb;obtain⟨_,j3⟩:=har j j1;rcases S.own j _ b j3 j2 with h | h
     ·grind
     ·have h:go=some b:=h;rcases hio with ⟨h',_⟩ | ⟨b',i',h',hj⟩
      ·grind
      ·obtain⟨T,cs,k1,k2⟩:=hpin i' hj;have:=S.inj i' j _ _ b k1 j3 (k2.trans h) j2;subst this;rw[hj] at hb5;exact(notInS_eq hb5 j1).elim
    grind
   grind
  grind
 grind
def wfs:(ps:List Par)->denPs ps->Prop
 | [],_=>True
 | .dat t :: r,x=>wf t x.1/\wfs r x.2
 | .agg t :: r,x=>wf t x.1/\wfs r x.2
 | .fn _ c :: r,x=>wf c x.1/\wfs r x.2
 | .nof _ :: r,x=>wfs r x.2
 | .nil :: r,x=>wfs r x.2
 | .io _ t :: r,x=>wf t x.1/\wfs r x.2
 | .os _ t :: r,x=>wf (.sl t) x.1/\wfs r x.2
theorem own_wf{K:Nat->Prop}{w:World}{E s:Nat}{t:Ty}{g:Option Nat}{v:Value}{cs:List Value}{xs:List (den t)}(h:Own w E s g v xs.length cs)(hA:AllR (RT K w t) cs xs):wf (.sl t) xs:=by
 refine⟨?_,fun x hx=>?_⟩
 ·rcases h with ⟨_,h,_⟩ | ⟨b,o,cap,cur,_,_,_,h1,h2,_⟩
  ·omega
  grind[maxLen,Nat.le_trans]
 ·obtain⟨c,hc⟩:=hA.mem x hx;exact RT.wf hc
theorem ArgsR.wfs{K:Nat->Prop}{w:World}:∀{ps:List Par} {x:denPs ps} {vs:List Value} {go:Option Nat},ArgsR K w go ps x vs->Xv.wfs ps x
 | [],_x,_vs,_go,_=>trivial
 | .dat _t :: _r,_x,_vs,_go,⟨_v,_us,_e,h1,h⟩=>⟨RT.wf h1,ArgsR.wfs h⟩
 | .agg _t :: _r,_x,_vs,_go,⟨_v,_us,_e,h1,h⟩=>⟨RT.wf h1,ArgsR.wfs h⟩
 | .fn _f _t :: _r,_x,_vs,_go,⟨_v,_us,_e,h1,h⟩=>⟨RT.wf h1,ArgsR.wfs h⟩
 | .nof _f :: r,_x,_vs,_go,⟨_us,_e,h⟩=>ArgsR.wfs (ps:=r) h
 | .nil :: r,_x,_vs,_go,⟨_us,_e,h⟩=>ArgsR.wfs (ps:=r) h
 | .io _ _t :: _r,_x,_vs,_go,⟨_,_cs,_us,_e,_,_,_,h1,h⟩=>⟨RT.wf h1,ArgsR.wfs h⟩
 | .os _ _t :: _r,_x,_vs,_go,⟨_v,_cs,_us,_e,_,_,h1,h2,h⟩=>⟨own_wf h1 h2,ArgsR.wfs h⟩
theorem ok_of{P:Program}{Γ:Tab'}(hΓ:TabOk P Γ){c:Ct}{fn:Func}{code:Code}{n:Nat}(rs:List ResultVar)(hf:P.funcs[c.f]?=some fn)(hn:fn.ntmps=n)(hb:fn.body=some code)(hr:fn.results=rs.toArray)(he:enterB P c.f=true)(hle:(Nat.ble c.ps.length n&&oneOb c.ps)=true)
  (h:∀y x,(c.res x).q->Xv.wfs c.ps x->∀Q,(∀st,endA Γ st rs (c.res x).r c.ps (c.res x).z->FX (cx P n y) st .normal Q/\FX (cx P n y) st .ret Q)->VX (cx P n y) ⟨start 0 c.ps x,startO 0 c.ps x⟩ code Q):Ok P c:=by
 refine⟨he,fun x hq w vs go K hK ha=>?_⟩;rw[ba] at hle;obtain⟨hle,hob⟩:=hle;have hle:=Nat.le_of_ble_eq_true hle;have hlen:=ha.len;refine calls_of_wp hf hb ?_;have:=h ⟨w,fun k=>go=some k,K,pinP (pinOf 0 c.ps go),baseOf c.ps w⟩ x hq ha.wfs (bodyPost P fn (PostC c x w go K)) (fun st hst=>?_) (GhS K w go (rho0 c.ps vs) (baseOf c.ps w) (startO 0 c.ps x)) { tmps:=vs.toArray++Array.replicate (fn.ntmps-vs.toArray.size) undef,defers:=[] } (start_sat hK ha) rfl ⟨rfl,by grind,fun t s ht=>?_⟩
 ·exact this
 ·exact⟨fun G a S ho hE=>end_ok hΓ hob ha hr hst G a S ho hE,fun G a S ho hE=>end_ok hΓ hob ha hr hst G a S ho hE⟩
 ·obtain⟨_,a2,u,a3,a4⟩:=start_env (i:=0) (o:=startO 0 c.ps x) (r0:=rho0 c.ps vs) (B:=baseOf c.ps w) (g0:=go) hob ha (fun _=>rfl) (fun z hz=>by
   rcases start_obs (i:=0) ha with ⟨h0,_⟩ | ⟨j,b,T,t,z',cs,h0,_⟩ | ⟨j,E,t,xs,cs,h0,_⟩
   ·grind
   ·rw[h0] at hz ⊢;cases List.mem_singleton.1 hz;rw[lK,if_pos rfl]
   ·rw[h0] at hz ⊢;cases List.mem_singleton.1 hz;rw[lK,if_pos rfl]) t s ht
  rw[a2];refine⟨fun _=>?_,fun hn=>(hn (fun _ h=>by cases h)).elim⟩;have hlt:t<vs.length:=by
   rcases Nat.lt_or_ge t vs.length with h' | h'
   ·exact h'
   ·grind
  rw[Array.getD_eq_getD_getElem?,Array.getElem?_append_left (by omega)]
  grind
def notPel:Option AV->Bool
 | some (.pel ..)=>false
 | some (.gel ..)=>false
 | _=>true
theorem notPel_q{o:List (Nat×Ob)}{v:AV}(h:notPel (some v)=true):derefQ o v:=by
 cases v <;> first | trivial | cases h
def trivO(st:St)(p:Pa):Op->Bool
 | .move _ | .assign _ | .pick .. | .unOp .not .. | .fieldAddr .. | .field .. | .extract .. | .makeFunc .. | .build .. | .alloc _ | .box .. | .buildSlice ..=>true
 | .call ⟨.builtin .len,_,_⟩ | .call ⟨.builtin .min,_,_⟩ | .call ⟨.builtin .max,_,_⟩=>true
 | .load _ x | .nilCheck x | .store _ x _=>notPel (rd st p x)
 | .binOp .eql .. | .binOp .neq .. | .binOp .lss .. | .binOp .leq .. | .binOp .gtr .. | .binOp .geq ..=>true
 | _=>false
theorem cmpV_q{k k':IntKind}{b:Bool}{q:Prop}{r:AV}(h:cmpV k k' b=some (q,r)):q:=by
 grind[cmpV]
theorem binA_q{ti:Option TI}{op:BinOp}{u v r:AV}{q:Prop}(ho:(match op with | .eql | .neq | .lss | .leq | .gtr | .geq=>true | _=>false)=true)(h:binA ti op u v=some (q,r)):q:=by
 unfold binA at h
 grind[cmpV_q,oi,pj,absurd]
theorem absP_q{Γ:Tab'}{st:St}{p:Pa}{op:Op}{q:Prop}{r:AV}{l:List Nat}(ht:trivO st p op=true)(h:absP Γ st p op=some (q,r,l)):q:=by
 unfold absP at h;split at h
 case h_5 op' T x y n =>
  split at h
  ·split at h
   ·rename_i hb;simp only[oi,pj] at h;obtain⟨rfl,_⟩:=h;refine binA_q ?_ hb;cases op' <;> first | rfl | exact ht
   grind
  grind
 case h_3 x =>
  split at h
  ·rename_i v hv;split at h
   ·simp only[oi,pj] at h;obtain⟨rfl,_⟩:=h;exact notPel_q (by rw[<- hv]; exact ht)
   grind
  grind
 all_goals try (simp[trivO] at ht; done)
 case h_10 T x =>
  split at h
  ·rename_i v ti hv hti;split at h
   ·split at h
    ·simp only[oi,pj] at h;obtain⟨rfl,_⟩:=h;exact notPel_q (by rw[<- hv]; exact ht)
    grind
   grind
  grind
 all_goals (repeat' (split at h))
 all_goals first
  | cases h; done
  | (simp only[oi,pj] at h; rw[<- h.1]; trivial)
  | (rw[ce] at h
     split at h
     ·grind
     ·cases h)
theorem absM_q{Γ:Tab'}{st:St}{p:Pa}{d:Nat}{op:Op}{q:Prop}{r:AV}{w:Nat×Ob}{l:List Nat}(ht:trivO st p op=true)(h:absM Γ st p d op=some (q,r,w,l)):q:=by
 unfold absM at h
 grind[trivO]
theorem absU_q{Γ:Tab'}{st:St}{p:Pa}{op:Op}{q:Prop}{w:Nat×Ob}{l:List Nat}(ht:trivO st p op=true)(h:absU Γ st p op=some (q,w,l)):q:=by
 unfold absU at h
 grind[trivO,notPel]
theorem absG_q{Γ:Tab'}{st:St}{p:Pa}{d:Nat}{op:Op}{r:Prop×AV×List (Nat×Ob)×List Nat}(ht:trivO st p op=true)(h:absG Γ st p d op=some r):False:=by
 unfold absG at h
 grind[trivO,notPel]
theorem absGU_q{Γ:Tab'}{st:St}{p:Pa}{op:Op}{r:Prop×List (Nat×Ob)×List Nat}(ht:trivO st p op=true)(h:absGU Γ st p op=some r):False:=by
 unfold absGU at h
 grind[trivO,notPel]
theorem absO_q{Γ:Tab'}{T:List Ct}{st:St}{p:Pa}{o:Oper}{q:Prop}{av:Option AV}{obs:List (Nat×Ob)}{l:List Nat}(ht:trivO st p o.op=true)(h:absO Γ T st p o=some (q,av,obs,l)):q:=by
 have hc:∀d q r obs l,absC T st p d o.op≠some (q,r,obs,l):=fun d q r obs l hc=>by
  unfold absC at hc
  grind[trivO]
 unfold absO at h;split at h
 ·rw[ce] at h;split at h
  ·grind[oi,pj,absP_q,absG_q]
  ·rw[ce] at h
   grind[oi,pj,absM_q]
 ·rw[ce] at h
  grind[oi,pj,absU_q,absGU_q]
def goV(Γ:Tab')(T:List Ct)(all:List Oper):List Oper->St->List Rec->Option (Prop×St×List Rec)
 | [],st,rs=>some (True,st,rs)
 | o :: r,st,rs=>match pathOf all st.e o with
   | some p=>match absO Γ T st p o with
     | some (q,av,obs,fp)=>bif isNil p||isNil obs then(match goV Γ T all r ⟨addE o.dst p av st.e,obs++st.o⟩ (⟨o,p,av,obs,fp⟩ :: rs) with
       | some (V,st',rs')=>some (bif trivO st p o.op then V else(vcW st.e p q/\V),st',rs')
       | none=>none) else none
     | none=>none
   | none=>none
theorem vcW_of{e:List (Nat×Sl)}{p:Pa}{q:Prop}(h:q):vcW e p q:=by
 unfold vcW
 grind
theorem goV_ok{Γ:Tab'}{T:List Ct}{all:List Oper}{K:St->List Rec->Prop}:∀{ops:List Oper} {st:St} {rs:List Rec} {V:Prop} {st':St} {rs':List Rec},goV Γ T all ops st rs=some (V,st',rs')->V->K st' rs'->goOps Γ T all ops st rs K
 | [],st,rs,V,st',rs',h,hV,hK=>by
   simp only[goV,oi,pj] at h;obtain⟨_,rfl,rfl⟩:=h;exact hK
 | o :: r,st,rs,V,st',rs',h,hV,hK=>by
   unfold goV at h;unfold goOps;split at h
   ·rename_i p hp
    try (rw[hp]; simp only)
    split at h
    ·rename_i q av obs fp ho
     try (rw[ho]; simp only)
     rw[ce] at h ⊢;split at h
     ·rename_i hb;rw[if_pos hb];split at h
      ·rename_i V1 st1 rs1 h1;simp only[oi,pj] at h;obtain⟨hv,rfl,rfl⟩:=h;rw[ce] at hv;split at hv
       ·rename_i ht;subst hv;exact⟨vcW_of (absO_q ht ho),goV_ok h1 hV hK⟩
       ·subst hv;exact⟨hV.1,goV_ok h1 hV.2 hK⟩
      grind
     grind
    grind
   grind
def seqR(n:Nat)(Γ:Tab')(T:List Ct)(l:List Oper)(keep:List Nat)(st:St):Option (Prop×St) :=
 bif regOk n 0 [] l&&plainE st.e then(match goV Γ T l l st [] with
  | some (V,st',_)=>some (V,cut keep st')
  | none=>none) else none
def drwR(n:Nat)(Γ:Tab')(T:List Ct)(l:List Oper)(keep:List Nat)(st:St):Option (Prop×St) :=
 bif regOk n 0 [] l&&backOk 0 l&&plainE st.e then(match goV Γ T l l st [] with
  | some (V,st',rs)=>bif chkD (befs [] l) rs.reverse then some (V,cut keep st') else none
  | none=>none) else none
section
variable {P:Program} {n:Nat} {y:World×(Nat->Prop)×(Nat->Prop)×(Nat->Value->Prop)×Nat} {st:St} {Q:Exit->Act->World->Prop} {Γ:Tab'} {T:List Ct}
theorem rs(hΓ:TabOk P Γ)(hT:∀c∈T,Ok P c)(keep:List Nat)(st':St)(V:Prop){id:Nat}{l:List Oper}{c:Code}(h:seqR n Γ T l keep st=some (V,st'))(hV:V)(hc:VX (cx P n y) st' c Q):VX (cx P n y) st (.seq (.region id l.toArray false) c) Q:=by
 unfold seqR at h;rw[ce] at h;split at h
 ·rename_i hb;rw[ba] at hb;split at h
  ·rename_i V1 st1 rs1 h1;simp only[oi,pj] at h;obtain⟨rfl,rfl⟩:=h;exact vQ (vx_reg (X:=cx P n y) hΓ hT keep hb.1 hb.2 (goV_ok h1 hV (fQ hc)))
  grind
 grind
theorem re(hΓ:TabOk P Γ)(hT:∀c∈T,Ok P c)(keep:List Nat)(st':St)(V:Prop){id:Nat}{l:List Oper}(h:seqR n Γ T l keep st=some (V,st'))(hV:V)(hc:FX (cx P n y) st' .normal Q):VX (cx P n y) st (.region id l.toArray false) Q:=by
 unfold seqR at h;rw[ce] at h;split at h
 ·rename_i hb;rw[ba] at hb;split at h
  ·rename_i V1 st1 rs1 h1;simp only[oi,pj] at h;obtain⟨rfl,rfl⟩:=h;exact vx_reg (X:=cx P n y) hΓ hT keep hb.1 hb.2 (goV_ok h1 hV hc)
  grind
 grind
theorem de(hΓ:TabOk P Γ)(hT:∀c∈T,Ok P c)[hm:Mixed P](keep:List Nat)(st':St)(V:Prop){id:Nat}{l:List Oper}(h:drwR n Γ T l keep st=some (V,st'))(hV:V)(hc:FX (cx P n y) st' .normal Q):VX (cx P n y) st (.region id l.toArray true) Q:=by
 unfold drwR at h;rw[ce] at h;split at h
 ·rename_i hb;rw[ba] at hb;split at h
  ·rename_i V1 st1 rs1 h1;rw[ce] at h;split at h
   ·rename_i hk;simp only[oi,pj] at h;obtain⟨rfl,rfl⟩:=h;exact vx_draw (X:=cx P n y) hΓ hT keep hb.1 hb.2 (goV_ok h1 hV ⟨hk,hc⟩)
   grind
  grind
 grind
theorem ds(hΓ:TabOk P Γ)(hT:∀c∈T,Ok P c)[hm:Mixed P](keep:List Nat)(st':St)(V:Prop){id:Nat}{l:List Oper}{c:Code}(h:drwR n Γ T l keep st=some (V,st'))(hV:V)(hc:VX (cx P n y) st' c Q):VX (cx P n y) st (.seq (.region id l.toArray true) c) Q :=
 vQ (de hΓ hT keep st' V h hV (fQ hc))
end
theorem tab_nil{P:Program}:TabOk P []:=fun _ _ h=>by cases h
theorem tK{P:Program}{T:TypeId}{ti:TI}{Γ:Tab'}(h:TIok P T ti)(hr:TabOk P Γ):TabOk P ((T,ti) :: Γ):=fun T' ti' hl=>by
 rw[lK] at hl;split at hl
 ·grind
 ·exact hr T' ti' hl
abbrev i64:Ty:=.int .i64
abbrev p(t:Nat)(a:AV):Nat×Sl:=(t,⟨[],a⟩)
abbrev I(x:Int):AV:=.d true (.int .i64) x
abbrev J(x:Int):AV:=.d false (.int .i64) x
abbrev B(x:Bool):AV:=.d true .bool x
abbrev C(x:Bool):AV:=.d false .bool x
abbrev S(x:ByteArray):AV:=.d true .str x
abbrev U(x:ByteArray):AV:=.d false .str x
abbrev D(t:Ty)(x:den t):AV:=.d false t x
abbrev N(t:Ty)(x:den t):AV:=.d true t x
abbrev L(t:Ty)(x:List (den t)):AV:=.d false (.sl t) x
abbrev M(t:Ty)(x:List (den t)):AV:=.d true (.sl t) x
abbrev nil:AV:=.v (.slice none 0 0)
theorem ev{Γ:Tab'}{st:St}{rs:List ResultVar}{r:AV}{ps:List Par}{z:IOT ps}(V:Prop)(h:endA Γ st rs r ps z=V)(hV:V):endA Γ st rs r ps z:=h ▸ hV
theorem tn{P:Program}:∀c∈([]:List Ct),Ok P c:=fun _ h=>by cases h
theorem tc{P:Program}{c:Ct}{T:List Ct}(h:Ok P c)(hr:∀c∈T,Ok P c):∀c'∈c :: T,Ok P c':=fun c' h'=>by
 grind
end Go.Proofs.Xv
end
section
namespace Go.Proofs.Xd
open Go Go.Proofs.Xv
theorem fill_step{α:Type}(a:List α)(z d:α)(s:Nat)(h:s<a.length):(a.take s++List.replicate (a.length-s) z).set s (a.getD s d)=a.take (s+1)++List.replicate (a.length-(s+1)) z:=by
 apply List.ext_getElem?
 grind
theorem fill_end{α:Type}(a:List α)(z:α)(s:Nat)(h:a.length<=s):a.take s++List.replicate (a.length-s) z=a:=by
 grind[List.take_of_length_le,Nat.sub_eq_zero_of_le]
theorem list_eq{α:Type}{a b:List α}(d:α)(hl:a.length=b.length)(h:∀i,i<a.length->a.getD i d=b.getD i d):a=b:=by
 apply List.ext_getElem?
 grind
def szN(n:Nat)(l:Int):Int:=if l-(n:Int)<0 then -1 else l-(n:Int)
theorem szN_le{n:Nat}{l:Int}(h:0<=l) : -1<=szN n l/\szN n l<=l:=by grind[szN]
theorem szN_neg{m n:Nat}{l:Int}(h:szN m l<0):szN (m+n) l = -1:=by
 grind[szN]
theorem szN_pos{m n:Nat}{l:Int}(h:0<=szN m l):szN (m+n) l=szN n (szN m l):=by
 grind[szN]
def cnt:(t:Ty)->den t->Nat
 | .int _,_=>0
 | .bool,_=>0
 | .str,s=>s.size
 | .sl e,xs=>xs.length+(xs.map (cnt e)).sum
 | .pt e,x=>cnt e x
 | .pr a b,x=>cnt a x.1+cnt b x.2
theorem cnt_at{t:Ty}{a:List (den t)}{i:Nat}{d:den t}(h:i<a.length):cnt t (a.getD i d)<=(a.map (cnt t)).sum:=by
 rw[gq,List.getElem?_eq_getElem h];have hm:∀(l:List (den t)) (x:den t),x∈l->cnt t x<=(l.map (cnt t)).sum:=by
  intro l
  induction l with
  | nil=>grind
  | cons y r ih =>
    grind
 simp_all
theorem szM_m1{n:Nat}{l:Int}(h:l-(n:Int)<0):szN n l = -1:=if_pos h
theorem szM_eq{n:Nat}{l:Int}(h:0<=l-(n:Int)):szN n l=l-(n:Int):=if_neg (by omega)
theorem szM_neg{m n:Nat}{l:Int}(h:l-(m:Int)<0):szN (m+n) l = -1:=szN_neg (by grind[szM_m1])
theorem szM_pos{m n:Nat}{l:Int}(h:0<=l-(m:Int)):szN (m+n) l=szN n (l-(m:Int)):=by
 grind[szN_pos,szM_eq]
theorem szN_zero{l:Int}(h:0<=l):szN 0 l=l:=by grind[szM_eq]
theorem cnt_pr{a b:Ty}{x:den (.pr a b)}:cnt (.pr a b) x=cnt a x.1+cnt b x.2:=by grind[cnt]
theorem cnt_int{k:IntKind}{x:Int}:cnt (.int k) x=0:=by grind[cnt]
theorem cnt_bool{x:Bool}:cnt .bool x=0:=by grind[cnt]
theorem cnt_str{x:ByteArray}:cnt .str x=x.size:=by grind[cnt]
theorem cnt_sl{e:Ty}{x:List (den e)}:cnt (.sl e) x=x.length+(x.map (cnt e)).sum:=by grind[cnt]
theorem cnt_ints{k:IntKind}{x:List Int}:cnt (.sl (.int k)) x=x.length:=by
 have:∀l:List Int,(l.map (cnt (.int k))).sum=0:=by
  intro l
  induction l with
  | nil=>rfl
  | cons a r ih=>grind[cnt]
 grind[cnt_sl]
end Go.Proofs.Xd
end
section
namespace Go.Proofs.Xl
def gd{ρ:Type}(V:Prop)[Decidable V](e:Option ρ):Option ρ:=if V then e else none
def lt{α β:Type}(x:α)(f:α->β):β:=f x
def vl{α:Type}[Inhabited α](o:Option α):α:=o.getD default
def in64(x:Int):Prop := -9223372036854775808<=x/\x<=9223372036854775807
instance (x:Int):Decidable (in64 x):=inferInstanceAs (Decidable (_/\_))
def ix(i:Int)(n:Nat):Prop:=0<=i/\i < (n:Int)
instance (i:Int)(n:Nat):Decidable (ix i n):=inferInstanceAs (Decidable (_/\_))
def big:Nat:=36893488147419103232
def itF{σ ρ:Type}(F:(σ->Option ρ)->σ->Option ρ):Nat->σ->Option ρ
 | 0,_=>none
 | n+1,s=>F (itF F n) s
def lp{σ ρ:Type}(F:(σ->Option ρ)->σ->Option ρ)(s:σ):Option ρ:=itF F big s
theorem gd_some{ρ:Type}{V:Prop}[Decidable V]{e:Option ρ}{r:ρ}(h:gd V e=some r):V/\e=some r:=by
 grind[gd]
theorem gP{ρ:Type}{V:Prop}[Decidable V]{e:Option ρ}(h:V):gd V e=e:=if_pos h
theorem vS{α:Type}[Inhabited α](x:α):vl (some x)=x:=rfl
theorem some_vl{α:Type}[Inhabited α]{o:Option α}(h:o.isSome=true):o=some (vl o):=by cases o with
 | none=>cases h
 | some x=>rfl
end Go.Proofs.Xl
namespace Go.Proofs.Xv
open Go Go.RowKit Go.Proofs.Sv Go.Proofs.Xl
def optMap{α β:Type}(f:α->β):Option α->Option β
 | some x=>some (f x)
 | none=>none
theorem optMap_some{α β:Type}{f:α->β}{o:Option α}{y:β}(h:optMap f o=some y):∃x,o=some x/\f x=y:=by
 cases o with
 | none=>cases h
 | some x=>exact⟨x,rfl,by cases h; rfl⟩
def wkN(o o':List (Nat×Ob))(x:Value)(id ver:Nat):Option AV:=match x with
 | .slice none 0 0=>match lku o id with
   | none=>match lku o' id with
     | some (.arr _ _ _ _ v)=>bif Nat.beq v ver then some (.os id ver) else none
     | _=>none
   | _=>none
 | _=>none
def wkD(x:Value)(fr:Bool)(e:Ty):Option AV:=match x with
 | .slice none 0 0=>some (.d fr (.sl e) [])
 | _=>none
def wkS(o o':List (Nat×Ob))(id ver id' ver':Nat):Option AV:=bif Nat.beq id id' then(match lku o id with
    | some (.arr _ _ _ _ v)=>match lku o' id with
      | some (.arr _ _ _ _ v')=>bif Nat.beq v ver&&Nat.beq v' ver' then some (.os id' ver') else none
      | _=>none
    | _=>none) else none
def wkP(o':List (Nat×Ob))(id off:Nat):Option AV:=match lku o' id with
 | some (.box _ _)=>some (.ptr id off)
 | _=>none
def wkG(o':List (Nat×Ob))(id:Nat):Option AV:=match lku o' id with
 | some (.grd ..)=>some (.og id)
 | _=>none
mutual
def wkA(o o':List (Nat×Ob)):AV->AV->Option AV
 | .d fr t x,b=>match b with
   | .d fr' t' _=>bif !fr'||fr then optMap (.d fr' t') (castD t t' x) else none
   | _=>none
 | .v x,b=>match b with
   | .v _=>some (.v x)
   | .os id ver=>wkN o o' x id ver
   | .d fr (.sl e) _=>wkD x fr e
   | _=>none
 | .os id ver,b=>match b with
   | .os id' ver'=>wkS o o' id ver id' ver'
   | _=>none
 | .ptr id off,b=>match b with
   | .ptr _ _=>wkP o' id off
   | _=>none
 | .agg xs,b=>match b with
   | .agg ys=>optMap .agg (wkAs o o' xs ys)
   | _=>none
 | .tup xs,b=>match b with
   | .tup ys=>optMap .tup (wkAs o o' xs ys)
   | _=>none
 | .fn f xs,b=>match b with
   | .fn _ ys=>optMap (.fn f) (wkAs o o' xs ys)
   | _=>none
 | .og id,b=>match b with
   | .og _=>wkG o' id
   | _=>none
 | _,_=>none
def wkAs(o o':List (Nat×Ob)):List AV->List AV->Option (List AV)
 | [],ys=>match ys with
   | []=>some []
   | _=>none
 | a :: r,ys=>match ys with
   | b :: s=>match wkA o o' a b with
     | some x=>optMap (x :: ·) (wkAs o o' r s)
     | none=>none
   | _=>none
end
def wkO(o o':List (Nat×Ob)):Option Ob->Ob->Option Ob
 | some (.box T cs),.box _ cs'=>optMap (.box T) (wkAs o o' cs cs')
 | some (.arr T fr t xs _),.arr _ fr' t' _ v'=>bif !fr'||fr then optMap (fun z=>.arr T fr' t' z v') (castD (.sl t) (.sl t') xs) else none
 | none,.arr T fr t _ v=>some (.arr T fr t [] v)
 | some (.grd T Te fr t xs none),.grd _ _ fr' t' _ none=>bif !fr'||fr then optMap (fun z=>.grd T Te fr' t' z none) (castD (.sl (.sl t)) (.sl (.sl t')) xs) else none
 | _,_=>none
def wkEs(o o':List (Nat×Ob))(e:List (Nat×Sl)):List (Nat×Sl)->Option (List (Nat×Sl))
 | []=>some []
 | (t,s) :: r=>match s.p,lku e t with
   | [],some ⟨[],a⟩=>match wkA o o' a s.a with
     | some x=>optMap ((t,⟨[],x⟩) :: ·) (wkEs o o' e r)
     | none=>none
   | _,_=>none
def wkOs(o o':List (Nat×Ob)):List (Nat×Ob)->Option (List (Nat×Ob))
 | []=>some []
 | (i,b) :: r=>match wkO o o' (lku o i) b with
   | some x=>optMap ((i,x) :: ·) (wkOs o o' r)
   | none=>none
def pinsB(o':List (Nat×Ob)):List (Nat×Ob)->Bool
 | []=>true
 | (i,.box _ _) :: r=>(bif Nat.ble 500000 i then(match lku o' i with | some (.box _ _)=>true | _=>false) else true)&&pinsB o' r
 | (_,.arr ..) :: r=>pinsB o' r
 | (_,.grd ..) :: r=>pinsB o' r
def weak(a b:St):Option St:=match wkEs a.o b.o a.e b.e with
 | some e=>match wkOs a.o b.o b.o with
   | some o=>bif pinsB b.o a.o then some ⟨e,o⟩ else none
   | none=>none
 | none=>none
theorem wkN_ok{o o':List (Nat×Ob)}{x:Value}{id ver:Nat}(h:wkN o o' x id ver=some (.os id ver)):isNilV x/\isFree (lku o id)/\isCur (lku o' id) ver:=by
 unfold wkN at h;split at h
 ·split at h
  ·rename_i h1;split at h
   ·rename_i h2;rw[ce] at h;split at h
    ·rename_i hv;have:=nb hv;subst this;rw[h1,h2];exact⟨trivial,trivial,rfl⟩
    grind
   grind
  grind
 grind
theorem wkS_ok{o o':List (Nat×Ob)}{id ver id' ver':Nat}(h:wkS o o' id ver id' ver'=some (.os id' ver')):id=id'/\isCur (lku o id) ver/\isCur (lku o' id) ver':=by
 unfold wkS at h;rw[ce] at h;split at h
 ·rename_i hid;split at h
  ·rename_i h1;split at h
   ·rename_i h2;rw[ce] at h;split at h
    ·rename_i hv;rw[ba] at hv;have e1:=nb hv.1;have e2:=nb hv.2;subst e1; subst e2;rw[h1,h2];exact⟨nb hid,rfl,rfl⟩
    grind
   grind
  grind
 grind
theorem wkD_ok{x:Value}{fr:Bool}{e:Ty}{y:den (.sl e)}(h:wkD x fr e=some (.d fr (.sl e) y)):isNilV x/\nilD (.sl e) y:=by
 unfold wkD at h;split at h
 ·simp only[oi,AV.d.injEq,heq_eq_eq,true_and] at h;exact⟨trivial,h.symm⟩
 grind
theorem fl_ok{a b:Bool}(h:(!a||b)=true):a=true->b=true:=by
 grind
mutual
theorem wkA_ok{o o':List (Nat×Ob)}:∀{a b:AV},wkA o o' a b=some b->cvA o o' a b
 | .d fr t x,b,h=>by
   unfold wkA at h;unfold cvA;split at h
   ·rename_i fr' t' y;rw[ce] at h;split at h
    ·rename_i hf;obtain⟨z,h1,h2⟩:=optMap_some h
     grind
    grind
   grind
 | .v x,b,h=>by
   unfold wkA at h
   grind[cvA,wkN_ok,wkD_ok]
 | .os id ver,b,h=>by
   unfold wkA at h
   grind[cvA,wkS_ok]
 | .ptr id off,b,h=>by
   unfold wkA at h;unfold cvA;split at h
   ·unfold wkP at h;split at h
    ·rename_i h1;simp only[oi,AV.ptr.injEq] at h;obtain⟨rfl,rfl⟩:=h;exact⟨rfl,rfl,by rw[h1]; trivial⟩
    grind
   grind
 | .agg xs,b,h=>by
   unfold wkA at h;unfold cvA;split at h
   ·obtain⟨z,h1,h2⟩:=optMap_some h;simp only[AV.agg.injEq] at h2;subst h2;exact wkAs_ok h1
   grind
 | .tup xs,b,h=>by
   unfold wkA at h;unfold cvA;split at h
   ·obtain⟨z,h1,h2⟩:=optMap_some h;simp only[AV.tup.injEq] at h2;subst h2;exact wkAs_ok h1
   grind
 | .fn f xs,b,h=>by
   unfold wkA at h;unfold cvA;split at h
   ·obtain⟨z,h1,h2⟩:=optMap_some h;simp only[AV.fn.injEq] at h2;obtain⟨rfl,rfl⟩:=h2;exact⟨rfl,wkAs_ok h1⟩
   grind
 | .pel ..,b,h=>by grind[wkA]
 | .gel ..,b,h=>by grind[wkA]
 | .og id,b,h=>by
   unfold wkA at h;unfold cvA;split at h
   ·unfold wkG at h;split at h
    ·rename_i h1;simp only[oi,AV.og.injEq] at h;subst h;exact⟨rfl,by rw[h1]; trivial⟩
    grind
   grind
 | .ow ..,b,h=>by grind[wkA]
 | .ob ..,b,h=>by grind[wkA]
theorem wkAs_ok{o o':List (Nat×Ob)}:∀{as' bs:List AV},wkAs o o' as' bs=some bs->cvAs o o' as' bs
 | [],bs,h=>by
   grind[wkAs,cvAs]
 | a :: r,bs,h=>by
   unfold wkAs at h;unfold cvAs;split at h
   ·split at h
    ·rename_i x hx;obtain⟨z,h1,h2⟩:=optMap_some h;simp only[List.cons.injEq] at h2;obtain⟨rfl,rfl⟩:=h2;exact⟨wkA_ok hx,wkAs_ok h1⟩
    grind
   grind
end
theorem wkO_ok{o o':List (Nat×Ob)}{a:Option Ob}{b:Ob}(h:wkO o o' a b=some b):cvO o o' a b:=by
 unfold wkO at h;split at h
 ·obtain⟨z,h1,h2⟩:=optMap_some h;simp only[Ob.box.injEq] at h2;obtain⟨rfl,rfl⟩:=h2;exact⟨rfl,wkAs_ok h1⟩
 ·rw[ce] at h;split at h
  ·rename_i hf;obtain⟨z,h1,h2⟩:=optMap_some h;simp only[Ob.arr.injEq,heq_eq_eq,true_and,and_true] at h2;obtain⟨rfl,rfl⟩:=h2;exact⟨rfl,fl_ok hf,h1⟩
  grind
 ·simp only[oi,Ob.arr.injEq,heq_eq_eq,true_and,and_true] at h;exact h.symm
 ·rw[ce] at h;split at h
  ·rename_i hf;obtain⟨z,h1,h2⟩:=optMap_some h;simp only[Ob.grd.injEq,heq_eq_eq,true_and,and_true] at h2;obtain⟨rfl,rfl,rfl⟩:=h2;exact⟨rfl,rfl,trivial,trivial,fl_ok hf,h1⟩
  grind
 grind
theorem wkEs_ok{o o':List (Nat×Ob)}{e:List (Nat×Sl)}:∀{l:List (Nat×Sl)},wkEs o o' e l=some l->cvEs o o' e l
 | [],_=>trivial
 | (t,s) :: r,h=>by
   unfold wkEs at h;split at h
   ·rename_i hp hl;split at h
    ·rename_i x hx;obtain⟨z,h1,h2⟩:=optMap_some h;simp only[List.cons.injEq,pj,true_and] at h2;obtain⟨h3,rfl⟩:=h2;subst h3;exact⟨trivial,by rw[hl]; exact wkA_ok hx,wkEs_ok h1⟩
    grind
   grind
theorem wkOs_ok{o o':List (Nat×Ob)}:∀{l:List (Nat×Ob)},wkOs o o' l=some l->cvOs o o' l
 | [],_=>trivial
 | (t,s) :: r,h=>by
   unfold wkOs at h;split at h
   ·rename_i x hx;obtain⟨z,h1,h2⟩:=optMap_some h;simp only[List.cons.injEq,pj,true_and] at h2;obtain⟨rfl,rfl⟩:=h2;exact⟨wkO_ok hx,wkOs_ok h1⟩
   grind
theorem pinsB_ok{o':List (Nat×Ob)}:∀{l:List (Nat×Ob)},pinsB o' l=true->pins o' l
 | [],_=>trivial
 | (_,.arr ..) :: r,h=>pinsB_ok (l:=r) h
 | (_,.grd ..) :: r,h=>pinsB_ok (l:=r) h
 | (i,.box _ _) :: r,h=>by
   simp only[pinsB,ba] at h;refine⟨?_,pinsB_ok h.2⟩;have h1:=h.1;rw[ce] at h1 ⊢;split
   ·rename_i hi;rw[if_pos hi] at h1;split at h1
    ·rename_i hl; rw[hl]; trivial
    grind
   grind
theorem weak_ok{a b:St}(h:weak a b=some b):Into a b:=by
 unfold weak at h;split at h
 ·rename_i e he;split at h
  ·rename_i o ho;rw[ce] at h;split at h
   ·rename_i hp;cases h;exact⟨wkEs_ok he,wkOs_ok ho,pinsB_ok hp⟩
   grind
  grind
 grind
mutual
def owA(o:List (Nat×Ob)):AV->AV->Option (AV×List (Option Nat)×List Nat)
 | a,.ow T fr t _=>match a with
   | .os id ver=>match lku o id with
     | some (.arr T' fr' t' ys ver')=>bif Nat.beq ver ver'&&Nat.beq T' T&&(!fr||fr') then optMap (fun z=>(.ow T fr t z,[some id],[])) (castD (.sl t') (.sl t) ys) else none
     | _=>none
   | .v x=>match x with
     | .slice none 0 0=>some (.ow T fr t [],[none],[])
     | _=>none
   | _=>none
 | a,.d fr t _=>match datN o 24 t [a] with
   | some (y,l,fl)=>bif !fr||fl then some (.d fr t y,[],l) else none
   | none=>none
 | a,.ob T rs=>match a with
   | .ptr id 0=>match lku o id with
     | some (.box T' cs)=>bif Nat.beq T' T then(match owAs o cs rs with
       | some (x,l,m)=>some (.ob T x,some id :: l,m)
       | none=>none) else none
     | _=>none
   | _=>none
 | a,.v _=>match a with
   | .v y=>some (.v y,[],[])
   | _=>none
 | a,.agg rs=>match a with
   | .agg as'=>match owAs o as' rs with
     | some (x,l,m)=>some (.agg x,l,m)
     | none=>none
   | _=>none
 | a,.tup rs=>match a with
   | .tup as'=>match owAs o as' rs with
     | some (x,l,m)=>some (.tup x,l,m)
     | none=>none
   | _=>none
 | _,_=>none
def owAs(o:List (Nat×Ob)):List AV->List AV->Option (List AV×List (Option Nat)×List Nat)
 | as',[]=>match as' with
   | []=>some ([],[],[])
   | _=>none
 | as',r :: rs=>match as' with
   | a :: t=>match owA o a r with
     | some (x,m,f)=>match owAs o t rs with
       | some (xs,m',f')=>some (x :: xs,m++m',f++f')
       | none=>none
     | none=>none
   | []=>none
end
def owI(o:List (Nat×Ob)):Nat->(ps:List Par)->IOT ps->Option (IOT ps×List Nat×Option Nat)
 | _,[],z=>some (z,[],none)
 | i,.io T t :: _,_=>match lku o (500000+i) with
   | some (.box T' cs)=>bif Nat.beq T' T then(match datN o 24 t cs with
     | some (y,l,_)=>some (y,l,some (500000+i))
     | none=>none) else none
   | _=>none
 | i,.dat _ :: r,z=>owI o (i+1) r z
 | i,.agg _ :: r,z=>owI o (i+1) r z
 | i,.fn _ _ :: r,z=>owI o (i+1) r z
 | i,.nof _ :: r,z=>owI o (i+1) r z
 | i,.nil :: r,z=>owI o (i+1) r z
 | i,.os _ _ :: r,z=>owI o (i+1) r z
def notPelV(Γ:Tab')(st:St):ResultVar->Option AV
 | .tmp t=>match lku st.e t with
   | some ⟨[],a⟩=>some a
   | _=>none
 | .cell t ty=>match lku st.e t with
   | some ⟨[],p⟩=>bif notPel (some p) then(match derefA st.o p with
     | some (cs,_)=>match lku Γ ty with
       | some ti=>ldA ti cs
       | none=>none
     | none=>none) else none
   | _=>none
def resW(Γ:Tab')(st:St):List ResultVar->Option (List AV)
 | []=>some []
 | r :: rs=>match notPelV Γ st r with
   | some a=>optMap (a :: ·) (resW Γ st rs)
   | none=>none
def endW(Γ:Tab')(st:St)(rs:List ResultVar)(ps:List Par)(r:AV)(z:IOT ps):Option (AV×IOT ps) :=
 match resW Γ st rs with
 | some as'=>match owA st.o (oneOf as') r with
   | some (r',mv,fz)=>match owI st.o 0 ps z with
     | some (z',fz',pin)=>bif onceN mv&&apart mv (fz++fz')&&noneOr (fun i=>notIn i (fz++fz')) pin&&(!giv ps||kfR r')&&noneOr (fun i=>onceN.notInS i mv) pin then some (r',z') else none
     | none=>none
   | none=>none
 | none=>none
mutual
theorem owA_ok{o:List (Nat×Ob)}:∀{a r:AV} {mv:List (Option Nat)} {fz:List Nat},owA o a r=some (r,mv,fz)->∃q:Prop,q/\outA o a r=some (q,mv,fz)
 | a,.ow T fr t xs,mv,fz,h=>by
   unfold owA at h;unfold outA;split at h
   ·split at h
    ·rename_i T' fr' t' ys ver' ho;rw[ce] at h;split at h
     ·rename_i hb;simp only[ba] at hb;obtain⟨z,h1,h2⟩:=optMap_some h;simp only[pj,AV.ow.injEq,heq_eq_eq,true_and] at h2;obtain⟨rfl,rfl,rfl⟩:=h2;refine⟨(fr=true->fr'=true)/\castD (.sl t') (.sl t) ys=some z,⟨fl_ok hb.2,h1⟩,?_⟩
      grind
     grind
    grind
   ·split at h
    ·simp only[oi,pj,AV.ow.injEq,heq_eq_eq,true_and] at h;obtain⟨rfl,rfl,rfl⟩:=h;exact⟨_,⟨trivial,rfl⟩,rfl⟩
    grind
   grind
 | a,.d fr t x,mv,fz,h=>by
   unfold owA at h;unfold outA;split at h
   ·rename_i y l fl hd;rw[ce] at h;split at h
    ·rename_i hf;simp only[oi,pj,AV.d.injEq,heq_eq_eq,true_and] at h;obtain⟨rfl,rfl,rfl⟩:=h
     try rw[hd]
     grind
    grind
   grind
 | a,.ob T rs,mv,fz,h=>by
   unfold owA at h;unfold outA;split at h
   ·split at h
    ·rename_i T' cs ho;rw[ce] at h;split at h
     ·rename_i hT;split at h
      ·rename_i x l m hx;simp only[oi,pj,AV.ob.injEq,true_and] at h;obtain⟨rfl,rfl,rfl⟩:=h;obtain⟨q,hq,e⟩:=owAs_ok hx;refine⟨q,hq,?_⟩
       grind
      grind
     grind
    grind
   grind
 | a,.v x,mv,fz,h=>by
   unfold owA at h;unfold outA;split at h
   ·simp only[oi,pj,AV.v.injEq] at h;obtain⟨rfl,rfl,rfl⟩:=h
    grind
   grind
 | a,.agg rs,mv,fz,h=>by
   unfold owA at h;unfold outA;split at h
   ·split at h
    ·rename_i x l m hx;simp only[oi,pj,AV.agg.injEq] at h;obtain⟨rfl,rfl,rfl⟩:=h;exact owAs_ok hx
    grind
   grind
 | a,.tup rs,mv,fz,h=>by
   unfold owA at h;unfold outA;split at h
   ·split at h
    ·rename_i x l m hx;simp only[oi,pj,AV.tup.injEq] at h;obtain⟨rfl,rfl,rfl⟩:=h;exact owAs_ok hx
    grind
   grind
 | a,.ptr _ _,mv,fz,h=>by grind[owA]
 | a,.pel ..,mv,fz,h=>by grind[owA]
 | a,.os _ _,mv,fz,h=>by grind[owA]
 | a,.fn _ _,mv,fz,h=>by grind[owA]
 | a,.gel _ _,mv,fz,h=>by grind[owA]
 | a,.og _,mv,fz,h=>by grind[owA]
theorem owAs_ok{o:List (Nat×Ob)}:∀{as' rs:List AV} {mv:List (Option Nat)} {fz:List Nat},owAs o as' rs=some (rs,mv,fz)->∃q:Prop,q/\outAs o as' rs=some (q,mv,fz)
 | as',[],mv,fz,h=>by
   unfold owAs at h;unfold outAs;split at h
   ·simp only[oi,pj,true_and] at h;obtain⟨rfl,rfl⟩:=h
    grind
   grind
 | as',r :: rs,mv,fz,h=>by
   unfold owAs at h;unfold outAs;split at h
   ·split at h
    ·rename_i x m f hx;split at h
     ·rename_i xs m' f' hxs;simp only[oi,pj,List.cons.injEq] at h;obtain⟨⟨rfl,rfl⟩,rfl,rfl⟩:=h;obtain⟨q,hq,h1⟩:=owA_ok hx;obtain⟨q',hq',h2⟩:=owAs_ok hxs;refine⟨q/\q',⟨hq,hq'⟩,?_⟩
      grind
     grind
    grind
   grind
end
theorem owI_ok{o:List (Nat×Ob)}:∀{ps:List Par} {i:Nat} {z:IOT ps} {fz:List Nat} {pin:Option Nat},owI o i ps z=some (z,fz,pin)->∃q:Prop,q/\ioA o i ps z=some (q,fz,pin)
 | [],i,z,fz,pin,h=>by
   simp only[owI,oi,pj,true_and] at h;obtain⟨rfl,rfl⟩:=h;exact⟨_,trivial,rfl⟩
 | .io T t :: r,i,z',fz,pin,h=>by
   unfold owI at h;unfold ioA;split at h
   ·rename_i T' cs ho;rw[ce] at h;split at h
    ·rename_i hb;split at h
     ·rename_i y l fl hd;simp only[oi,pj] at h;obtain⟨rfl,rfl,rfl⟩:=h;refine⟨y=y,rfl,?_⟩
      grind
     grind
    grind
   grind
 | .dat _ :: r,i,z,fz,pin,h=>owI_ok (ps:=r) (i:=i+1) h
 | .agg _ :: r,i,z,fz,pin,h=>owI_ok (ps:=r) (i:=i+1) h
 | .fn _ _ :: r,i,z,fz,pin,h=>owI_ok (ps:=r) (i:=i+1) h
 | .nof _ :: r,i,z,fz,pin,h=>owI_ok (ps:=r) (i:=i+1) h
 | .nil :: r,i,z,fz,pin,h=>owI_ok (ps:=r) (i:=i+1) h
 | .os _ _ :: r,i,z,fz,pin,h=>owI_ok (ps:=r) (i:=i+1) h
theorem resW_ok{Γ:Tab'}{st:St}:∀{rs:List ResultVar} {as':List AV},resW Γ st rs=some as'->∃q:Prop,q/\resVs Γ st rs=some (q,as')
 | [],as',h=>by
   simp only[resW,oi] at h;subst h;exact⟨_,trivial,rfl⟩
 | r :: rs,as',h=>by
   unfold resW at h;unfold resVs;split at h
   ·rename_i a ha;obtain⟨l,h1,h2⟩:=optMap_some h;subst h2;obtain⟨q,hq,h3⟩:=resW_ok h1;have:∃q0:Prop,q0/\resV Γ st r=some (q0,a):=by
     unfold notPelV at ha;unfold resV;split at ha
     ·split at ha
      ·rename_i hl;cases ha;refine⟨True,trivial,?_⟩
       grind
      grind
     ·split at ha
      ·rename_i hl;rw[ce] at ha;split at ha
       ·rename_i hp;split at ha
        ·rename_i hd;split at ha
         ·rename_i hT;refine⟨derefQ st.o _,notPel_q hp,?_⟩
          grind
         grind
        grind
       grind
      grind
    obtain⟨q0,hq0,h4⟩:=this;rw[h4,h3]
    grind
   grind
theorem endW_ok{Γ:Tab'}{st:St}{rs:List ResultVar}{ps:List Par}{r:AV}{z:IOT ps}(h:endW Γ st rs ps r z=some (r,z)):endA Γ st rs r ps z:=by
 unfold endW at h;split at h
 ·rename_i as' h1;split at h
  ·rename_i r' mv fz h2;split at h
   ·rename_i z' fz' pin h3;rw[ce] at h;split at h
    ·rename_i hb;simp only[oi,pj] at h;obtain⟨rfl,rfl⟩:=h;obtain⟨q0,k0,e0⟩:=resW_ok h1;obtain⟨q1,k1,e1⟩:=owA_ok h2;obtain⟨q2,k2,e2⟩:=owI_ok h3
     grind[endA]
    grind
   grind
  grind
 grind
end Go.Proofs.Xv
end
section
namespace Go.Proofs.Xv
open Go Go.RowKit Go.Proofs.Sv Go.Proofs.Xl
def regR(b:Bool)(n:Nat)(Γ:Tab')(T:List Ct)(l:List Oper)(keep:List Nat)(st:St):Option (Prop×St):=bif b then drwR n Γ T l keep st else seqR n Γ T l keep st
def rdB(st:St)(c:Operand):Option Bool:=match rd st [] c with
 | some (.d _ .bool b)=>some b
 | _=>none
theorem rdB_ok{st:St}{c:Operand}{b:Bool}(h:rdB st c=some b):∃f,rd st [] c=some (.d f .bool b):=by
 grind[rdB]
theorem ct{X:Cx}{st:St}{Q:Exit->Act->World->Prop}{c:Operand}{a d:Code}(hc:rdB st c=some true)(h:VX X st a Q):VX X st (.cond c a d) Q:=(rdB_ok hc).elim fun _ hc=>vx_cond_t hc h
theorem cf{X:Cx}{st:St}{Q:Exit->Act->World->Prop}{c:Operand}{a d:Code}(hc:rdB st c=some false)(h:VX X st d Q):VX X st (.cond c a d) Q:=(rdB_ok hc).elim fun _ hc=>vx_cond_f hc h
section
variable {P:Program} {n:Nat} {y:World×(Nat->Prop)×(Nat->Prop)×(Nat->Value->Prop)×Nat} {st:St} {Q:Exit->Act->World->Prop} {Γ:Tab'} {T:List Ct} {ρ α:Type} {r:ρ}
theorem zreg(hΓ:TabOk P Γ)(hT:∀c∈T,Ok P c)[hm:Mixed P]{keep:List Nat}{st':St}{V:Prop}{id:Nat}{l:List Oper}{b:Bool}(h:regR b n Γ T l keep st=some (V,st'))(hV:V)(hc:FX (cx P n y) st' .normal Q):VX (cx P n y) st (.region id l.toArray b) Q:=by
 cases b with
 | true=>exact de hΓ hT keep st' V h hV hc
 | false=>exact re hΓ hT keep st' V h hV hc
theorem za(hΓ:TabOk P Γ)(hT:∀c∈T,Ok P c)[hm:Mixed P](keep:List Nat)(st':St){id:Nat}{l:List Oper}{b:Bool}(h:regR b n Γ T l keep st=some (True,st'))(hc:FX (cx P n y) st' .normal Q):VX (cx P n y) st (.region id l.toArray b) Q :=
 zreg hΓ hT h trivial hc
theorem zb(hΓ:TabOk P Γ)(hT:∀c∈T,Ok P c)[hm:Mixed P](keep:List Nat)(st':St){V:Prop}[Decidable V]{e:Option ρ}{id:Nat}{l:List Oper}{b:Bool}(H:gd V e=some r)(h:regR b n Γ T l keep st=some (V,st'))(hc:e=some r->FX (cx P n y) st' .normal Q):VX (cx P n y) st (.region id l.toArray b) Q :=
 zreg hΓ hT h (gd_some H).1 (hc (gd_some H).2)
theorem zc(hΓ:TabOk P Γ)(hT:∀c∈T,Ok P c)[hm:Mixed P](keep:List Nat)(S:α->St){x:α}{f:α->Option ρ}{id:Nat}{l:List Oper}{b:Bool}(H:lt x f=some r)(h:regR b n Γ T l keep st=some (True,S x))(hc:∀v,f v=some r->FX (cx P n y) (S v) .normal Q):VX (cx P n y) st (.region id l.toArray b) Q :=
 zreg hΓ hT h trivial (hc x H)
theorem zd(hΓ:TabOk P Γ)(hT:∀c∈T,Ok P c)[hm:Mixed P](keep:List Nat)(S:α->St){V:Prop}[Decidable V]{x:α}{f:α->Option ρ}{id:Nat}{l:List Oper}{b:Bool}(H:gd V (lt x f)=some r)(h:regR b n Γ T l keep st=some (V,S x))(hc:∀v,f v=some r->FX (cx P n y) (S v) .normal Q):VX (cx P n y) st (.region id l.toArray b) Q :=
 zreg hΓ hT h (gd_some H).1 (hc x (gd_some H).2)
theorem qa(hΓ:TabOk P Γ)(hT:∀c∈T,Ok P c)[hm:Mixed P](keep:List Nat)(st':St){id:Nat}{l:List Oper}{b:Bool}{c:Code}(h:regR b n Γ T l keep st=some (True,st'))(hc:VX (cx P n y) st' c Q):VX (cx P n y) st (.seq (.region id l.toArray b) c) Q :=
 vQ (za hΓ hT keep st' h (fQ hc))
theorem qb(hΓ:TabOk P Γ)(hT:∀c∈T,Ok P c)[hm:Mixed P](keep:List Nat)(st':St){V:Prop}[Decidable V]{e:Option ρ}{id:Nat}{l:List Oper}{b:Bool}{c:Code}(H:gd V e=some r)(h:regR b n Γ T l keep st=some (V,st'))(hc:e=some r->VX (cx P n y) st' c Q):VX (cx P n y) st (.seq (.region id l.toArray b) c) Q :=
 vQ (zb hΓ hT keep st' H h fun H=>fQ (hc H))
theorem qc(hΓ:TabOk P Γ)(hT:∀c∈T,Ok P c)[hm:Mixed P](keep:List Nat)(S:α->St){x:α}{f:α->Option ρ}{id:Nat}{l:List Oper}{b:Bool}{c:Code}(H:lt x f=some r)(h:regR b n Γ T l keep st=some (True,S x))(hc:∀v,f v=some r->VX (cx P n y) (S v) c Q):VX (cx P n y) st (.seq (.region id l.toArray b) c) Q :=
 vQ (zc hΓ hT keep S H h fun v H=>fQ (hc v H))
theorem qd(hΓ:TabOk P Γ)(hT:∀c∈T,Ok P c)[hm:Mixed P](keep:List Nat)(S:α->St){V:Prop}[Decidable V]{x:α}{f:α->Option ρ}{id:Nat}{l:List Oper}{b:Bool}{c:Code}(H:gd V (lt x f)=some r)(h:regR b n Γ T l keep st=some (V,S x))(hc:∀v,f v=some r->VX (cx P n y) (S v) c Q):VX (cx P n y) st (.seq (.region id l.toArray b) c) Q :=
 vQ (zd hΓ hT keep S H h fun v H=>fQ (hc v H))
theorem cd{X:Cx}{c:Operand}{a d:Code}{b:Bool}{e1 e2:Option ρ}(H:(if b=true then e1 else e2)=some r)(hc':rdB st c=some b)(ht:e1=some r->VX X st a Q)(hf:e2=some r->VX X st d Q):VX X st (.cond c a d) Q :=
 (rdB_ok hc').elim fun _ hc=>vx_cond hc (fun h=>ht (by grind)) (fun h=>hf (by grind))
theorem jn{X:Cx}{σ:Type}(r:ρ)(E:σ->St)(J:σ->Option ρ){a d:Code}(h:∀s,J s=some r->VX X (E s) d Q)(k:∀Q',(∀{s st'},J s=some r->weak st' (E s)=some (E s)->FX X st' .normal Q')->(∀{st' id},FX X st' (.exit id) Q->FX X st' (.exit id) Q')->(∀{st'},FX X st' .ret Q->FX X st' .ret Q')->VX X st a Q'):VX X st (.seq a d) Q :=
 vQ (k _ (fun H hw=>fQ (vx_into _ (weak_ok hw) (h _ H))) fE fR)
theorem lx{X:Cx}{σ:Type}(E:σ->St)(s0:σ){F:(σ->Option ρ)->σ->Option ρ}{body:Code}(H:lp F s0=some r)(h0:weak st (E s0)=some (E s0))
  (round:∀Q' (g:σ->Option ρ),(∀{s st'},g s=some r->weak st' (E s)=some (E s)->FX X st' .normal Q')->(∀{st' id},FX X st' (.exit id) Q->FX X st' (.exit id) Q')->(∀{st'},FX X st' .ret Q->FX X st' .ret Q')->∀s,F g s=some r->VX X (E s) body Q'):VX X st (.loop body) Q:=by
 refine vx_loop (fun z:Nat×σ=>E z.2) (fun z=>itF F z.1 z.2=some r) (fun z=>z.1) (big,s0) H (weak_ok h0) ?_;rintro⟨m,s⟩ hz;cases m with
 | zero=>cases hz
 | succ m=>exact round _ (itF F m) (fun {s' st'} H' hw=>fx_loop (m,s') H' (Nat.lt_succ_self m) (weak_ok hw)) fx_loop_exit fx_loop_ret s hz
end
def lct(f:FuncId)(ps:List Par){ρ:Type}[Inhabited ρ](F:denPs ps->Option ρ)(R:ρ->AV)(Z:ρ->IOT ps):Ct:=⟨f,ps,fun x=>⟨(F x).isSome=true,R (vl (F x)),Z (vl (F x))⟩⟩
def EndF(X:Cx)(Γ:Tab')(rs:List ResultVar)(ps:List Par){ρ:Type}(R:ρ->AV)(Z:ρ->IOT ps)(r:ρ)(x:Exit)(Q:Exit->Act->World->Prop):Prop :=
 ∀{st:St} {e:ρ},some e=some r->endW Γ st rs ps (R e) (Z e)=some (R e,Z e)->FX X st x Q
theorem okl{P:Program}{Γ:Tab'}(hΓ:TabOk P Γ){f:FuncId}{ps:List Par}{ρ:Type}[Inhabited ρ]{F:denPs ps->Option ρ}{R:ρ->AV}{Z:ρ->IOT ps}{fn:Func}{code:Code}{n:Nat}(rs:List ResultVar)
  (hf:P.funcs[f]?=some fn) (hn:fn.ntmps=n) (hb:fn.body=some code) (hr:fn.results=rs.toArray) (he:enterB P f=true) (hle:(Nat.ble ps.length n&&oneOb ps)=true)
  (h:∀y x r,F x=some r->∀Q,EndF (cx P n y) Γ rs ps R Z r .normal Q->EndF (cx P n y) Γ rs ps R Z r .ret Q->VX (cx P n y) ⟨start 0 ps x,startO 0 ps x⟩ code Q):Ok P (lct f ps F R Z):=by
 refine ok_of (c:=lct f ps F R Z) hΓ rs hf hn hb hr he hle (fun y x hq hw Q hQ=>?_);have hs:=some_vl hq;refine h y x _ hs Q ?_ ?_
 ·intro st e he hw;cases he;exact(hQ st (endW_ok hw)).1
 ·intro st e he hw;cases he;exact(hQ st (endW_ok hw)).2
mutual
def frz:AV->AV
 | .ow _ fr t xs=>.d (fr||kfree t) (.sl t) xs
 | .agg xs=>.agg (frzs xs)
 | .tup xs=>.tup (frzs xs)
 | a=>a
def frzs:List AV->List AV
 | []=>[]
 | a :: r=>frz a :: frzs r
end
mutual
def noOA:AV->Bool
 | .ob ..=>false
 | .agg xs=>noOAs xs
 | .tup xs=>noOAs xs
 | _=>true
def noOAs:List AV->Bool
 | []=>true
 | a :: r=>noOA a&&noOAs r
end
theorem own_dat{w:World}{T:TypeId}{t:Ty}{g:Option Nat}{u:Value}{xs:List (den t)}{cs:List Value}{K:Nat->Prop}(hO:Own w T (sz t) g u xs.length cs)(hA:AllR (RT K w t) cs xs)(hg:∀b,g=some b->K b):RT K w (.sl t) [u] xs:=by
 cases g with
 | none =>
   rcases hO with ⟨_,hn,_,p,hp⟩ | ⟨b,_,_,_,hb,_⟩
   ·have:xs=[]:=List.eq_nil_of_length_eq_zero hn;subst this;exact⟨p,0,by grind,Nat.le_refl _,by omega,.inl rfl⟩
   grind
 | some b =>
   obtain⟨o0,c0,e0,hat⟩:=hO.at;rcases hO with ⟨h,_⟩ | ⟨b',o1,cap,cur,hb,hv2,k1,k2,k3,k4,k5⟩
   ·cases h
   ·cases hb;rw[hv2] at e0; cases e0;exact⟨_,c0,by rw[hv2],k2,(by grind[maxLen]),.inr ⟨b,o0,cs,rfl,hg b rfl,hat,hA⟩⟩
mutual
theorem ResR.frz{K K':Bool->Nat->Prop}{w:World}(hK:∀fr k,K fr k->K' fr k):∀{a:AV} {u:Value} {gs:List (Option Nat)},noOA a=true->(∀b,some b∈gs->∀fr,K' fr b)->ResR K w a u gs->ResR K' w (Xv.frz a) u []
 | .v _,_,_,_,_,h=>⟨h.1,rfl⟩
 | .d fr t x,u,gs,_,_,⟨h,_⟩=>⟨RT.up h (hK fr),rfl⟩
 | .agg xs,u,gs,hn,hg,⟨us,e,h⟩=>⟨us,e,ResRs.frz hK (by grind[noOA]) hg h⟩
 | .ob _ _,_,_,hn,_,_=>by grind[noOA]
 | .tup xs,u,gs,hn,hg,⟨us,e,h⟩=>⟨us,e,ResRs.frz hK (by grind[noOA]) hg h⟩
 | .ow T fr t xs,u,gs,_,hg,⟨g,cs,e,_,hO,hA⟩=>by
   refine⟨own_dat hO (hA.mapR (fun c x hr=>?_)) (fun b hb=>hg b (by grind) _),rfl⟩
   grind[kfree,RT.free,RT.up]
theorem ResRs.frz{K K':Bool->Nat->Prop}{w:World}(hK:∀fr k,K fr k->K' fr k):∀{as':List AV} {us:List Value} {gs:List (Option Nat)},noOAs as'=true->(∀b,some b∈gs->∀fr,K' fr b)->ResRs K w as' us gs->ResRs K' w (Xv.frzs as') us []
 | [],us,gs,_,_,h=>⟨h.1,rfl⟩
 | a :: r,us,gs,hn,hg,⟨u,us',g1,g2,e1,e2,h1,h2⟩=>by
   simp only[noOAs,ba] at hn;exact⟨u,us',[],[],e1,rfl,ResR.frz hK hn.1 (fun b hb=>hg b (by grind)) h1,ResRs.frz hK hn.2 (fun b hb=>hg b (by grind)) h2⟩
end
theorem IOR.up{K K':Nat->Prop}{w:World}{go:Option Nat}(hK:∀k,K k->K' k):∀{ps:List Par} {z:IOT ps},IOR K w go ps z->IOR K' w go ps z
 | [],_,_=>trivial
 | .io _ _ :: _,_,⟨b,cs,h1,h2,h3⟩=>⟨b,cs,h1,h2,RT.up h3 hK⟩
 | .dat _ :: r,_z,h=>IOR.up (ps:=r) hK h
 | .agg _ :: r,_z,h=>IOR.up (ps:=r) hK h
 | .fn _ _ :: r,_z,h=>IOR.up (ps:=r) hK h
 | .nof _ :: r,_z,h=>IOR.up (ps:=r) hK h
 | .nil :: r,_z,h=>IOR.up (ps:=r) hK h
 | .os _ _ :: r,_z,h=>IOR.up (ps:=r) hK h
theorem ResR.lt{K:Bool->Nat->Prop}{w:World}:∀{a:AV} {u:Value} {gs:List (Option Nat)},ResR K w a u gs->∀b,some b∈gs->UF w b:=by
 suffices H:(∀(a:AV) {u:Value} {gs:List (Option Nat)},ResR K w a u gs->∀b,some b∈gs->UF w b) from fun {a}=>H a
 intro a;refine AV.rec (motive_1:=fun a=>∀{u:Value} {gs:List (Option Nat)},ResR K w a u gs->∀b,some b∈gs->UF w b) (motive_2:=fun l=>∀{us:List Value} {gs:List (Option Nat)},ResRs K w l us gs->∀b,some b∈gs->UF w b) ?_ ?_ ?_ ?_ ?_ ?_ ?_ ?_ ?_ ?_ ?_ ?_ ?_ ?_ a
 ·intro x u gs h b hb; rw[h.2] at hb; cases hb
 ·intro fr t x u gs h b hb; rw[h.2] at hb; cases hb
 ·intro xs ih u gs h b hb; obtain⟨us,_,h⟩:=h; grind
 ·intro xs ih u gs h b hb; obtain⟨us,_,h⟩:=h; grind
 ·intro _ _ u gs h; exact h.elim
 ·intro _ _ _ _ _ u gs h; exact h.elim
 ·intro _ _ u gs h; exact h.elim
 ·intro _ _ _ u gs h; exact h.elim
 ·intro T fr t xs u gs h b hb;obtain⟨g,cs,e,_,hO,_⟩:=h
  grind[List.mem_singleton,own_uf]
 ·intro _ _ u gs h; exact h.elim
 ·intro _ u gs h; exact h.elim
 ·intro T xs ih u gs h b hb;obtain⟨b0,us,gs',e,_,hB,h⟩:=h
  grind[blk_uf]
 ·intro us gs h b hb; rw[h.2] at hb; cases hb
 ·intro a r iha ihr us gs h b hb;obtain⟨u,us',g1,g2,_,e2,h1,h2⟩:=h
  grind
theorem ok_frz{P:Program}{f:FuncId}{ps:List Par}{ρ:Type}[Inhabited ρ]{F:denPs ps->Option ρ}{R:ρ->AV}{Z:ρ->IOT ps}(h:Ok P (lct f ps F R Z))(hv:giv ps=false:=by rfl)(hno:∀r,noOA (R r)=true:=by intro _; rfl):Ok P (lct f ps F (fun r=>frz (R r)) Z):=by
 refine⟨h.1,fun x hq w vs go K hK ha=>?_⟩;refine Calls.mono (h.2 x hq w vs go K hK ha) ?_;rintro en w' ⟨v,gs,e,hw,hN,hg,hR,hI⟩;have hlt:=ResR.lt hR;have hg:∀b,some b∈gs->w.heap.size<=b:=fun b hb=>(hg b hb).resolve_right (fun h=>by have h1:giv ps=true:=h.1; rw[hv] at h1; cases h1);refine⟨v,[],e,hw,trivial,(fun b hb=>nomatch hb),ResR.frz (fun fr k hk=>⟨hk.1,hk.2.1,by simp⟩) (hno _) (fun b hb fr=>⟨.inr (hg b hb),(hlt b hb).g,by simp⟩) hR,IOR.up (fun k hk=>⟨hk.1,hk.2.1,by simp,hk.2.2.2⟩) hI⟩
mutual
def fzA(id ver:Nat)(fr:Bool)(t:Ty)(xs:List (den t)):AV->Option AV
 | .os i v=>bif Nat.beq i id then(bif Nat.beq v ver then some (.d fr (.sl t) xs) else none) else some (.os i v)
 | .pel i v k s off=>bif Nat.beq i id then none else some (.pel i v k s off)
 | .agg l=>optMap .agg (fzAs id ver fr t xs l)
 | .tup l=>optMap .tup (fzAs id ver fr t xs l)
 | .fn f l=>optMap (.fn f) (fzAs id ver fr t xs l)
 | .ptr i off=>bif Nat.beq i id then none else some (.ptr i off)
 | .v x=>some (.v x)
 | .d fr t x=>some (.d fr t x)
 | .ow T fr t x=>some (.ow T fr t x)
 | .ob T l=>some (.ob T l)
 | .og i=>bif Nat.beq i id then some (.d fr (.sl t) xs) else some (.og i)
 | .gel i k=>bif Nat.beq i id then none else some (.gel i k)
def fzAs(id ver:Nat)(fr:Bool)(t:Ty)(xs:List (den t)):List AV->Option (List AV)
 | []=>some []
 | a :: r=>match fzA id ver fr t xs a with
   | some b=>optMap (b :: ·) (fzAs id ver fr t xs r)
   | none=>none
end
def fzE(id ver:Nat)(fr:Bool)(t:Ty)(xs:List (den t)):List (Nat×Sl)->List (Nat×Sl)
 | []=>[]
 | (k,s) :: r=>match fzA id ver fr t xs s.a with
   | some b=>(k,⟨s.p,b⟩) :: fzE id ver fr t xs r
   | none=>fzE id ver fr t xs r
def fzO(id ver:Nat)(fr:Bool)(t:Ty)(xs:List (den t)):List (Nat×Ob)->Option (List (Nat×Ob))
 | []=>some []
 | (k,o) :: r=>bif Nat.beq k id then fzO id ver fr t xs r else(match o with
   | .box T cs=>match fzAs id ver fr t xs cs with
     | some cs'=>optMap ((k,.box T cs') :: ·) (fzO id ver fr t xs r)
     | none=>none
   | o=>optMap ((k,o) :: ·) (fzO id ver fr t xs r))
def nodupK:List (Nat×Sl)->Bool
 | []=>true
 | (k,_) :: r=>(r.all fun x=>!Nat.beq x.1 k)&&nodupK r
def fzS(id:Nat)(st:St):Option St:=match lku st.o id with
 | some (.arr _ fr t xs ver)=>bif nodupK st.e then(match fzO id ver (fr||kfree t) t xs st.o with
   | some o=>some ⟨fzE id ver (fr||kfree t) t xs st.e,o⟩
   | none=>none) else none
 | some (.grd _ _ fr t xs none)=>bif nodupK st.e then(match fzO id 0 (fr||kfree t) (.sl t) xs st.o with
   | some o=>some ⟨fzE id 0 (fr||kfree t) (.sl t) xs st.e,o⟩
   | none=>none) else none
 | _=>none
section
variable {X:Cx} {G:Gh} {id ver:Nat} {fr:Bool} {t:Ty} {xs:List (den t)}
def fzG(G:Gh)(id:Nat)(o:List (Nat×Ob)):Gh:=⟨G.ρ,G.γ,fun k=>G.K k∨G.γ id=some k∨(isGrd (lku G.o id)=true/\G.δ id k),G.w,o,G.B,G.δ⟩
theorem fzO_lk{o:List (Nat×Ob)}:∀{l r:List (Nat×Ob)},fzO id ver fr t xs l=some r->∀i,(i=id->lku r i=none)/\(i≠id->match lku l i with
  | some (.box T cs)=>∃cs',fzAs id ver fr t xs cs=some cs'/\lku r i=some (.box T cs')
  | some o=>lku r i=some o
  | none=>lku r i=none)
 | [],r,h,i=>by
   simp only[fzO,oi] at h;subst h;exact⟨fun _=>rfl,fun _=>rfl⟩
 | (k,ob) :: l,r,h,i=>by
   unfold fzO at h;rw[ce] at h;split at h
   ·rename_i hk;have hk:=nb hk;obtain⟨h1,h2⟩:=fzO_lk (o:=o) h i;refine⟨h1,fun hi=>?_⟩;rw[lK,if_neg (by omega)]
    grind
   ·rename_i hk;have hk:k≠id:=fun e=>hk (by simp_all);split at h
    ·rename_i T cs;split at h
     ·rename_i cs' hcs;obtain⟨z,hz,rfl⟩:=optMap_some h;obtain⟨h1,h2⟩:=fzO_lk (o:=o) hz i;refine⟨fun hi=>?_,fun hi=>?_⟩
      ·rw[lK,if_neg (by rw[hi]; exact hk)]; exact h1 hi
      ·rw[lK,lK];by_cases e:k=i
       ·rw[if_pos e,if_pos e]; exact⟨cs',hcs,rfl⟩
       ·rw[if_neg e,if_neg e]; exact h2 hi
     ·cases h
    ·rename_i hnb;obtain⟨z,hz,rfl⟩:=optMap_some h;obtain⟨h1,h2⟩:=fzO_lk (o:=o) hz i;refine⟨fun hi=>?_,fun hi=>?_⟩
     ·rw[lK,if_neg (by rw[hi]; exact hk)]; exact h1 hi
     ·rw[lK,lK];by_cases e:k=i
      ·rw[if_pos e,if_pos e];cases ob with
       | box T cs=>exact(hnb T cs rfl).elim
       | arr T f t' x v=>rfl
       | grd T Te f t' x h=>rfl
      ·rw[if_neg e,if_neg e]; exact h2 hi
def RowD(G:Gh)(id ver:Nat)(fr:Bool)(t:Ty)(xs:List (den t))(o':List (Nat×Ob)):Prop:=∀u,AVR G (.os id ver) u∨AVR G (.og id) u->AVR (fzG G id o') (.d fr (.sl t) xs) u
mutual
theorem fzA_ok{o':List (Nat×Ob)}(hrow:RowD G id ver fr t xs o')(hz:fzO id ver fr t xs G.o=some o'):∀{a b:AV} {u:Value},fzA id ver fr t xs a=some b->AVR G a u->AVR (fzG G id o') b u
 | .os i v,b,u,h,hu=>by
   unfold fzA at h;rw[ce] at h;have hu':=hu;obtain⟨h0,T1,fr1,t1,xs1,ver1,h1,h2,h3⟩:=hu;split at h
   ·rename_i hi;have hi:=nb hi;subst hi;rw[ce] at h;split at h
    ·rename_i hv;have hv:=nb hv;subst hv;cases h;exact hrow u (.inl hu')
    grind
   ·rename_i hi;cases h;have hi:i≠id:=fun e=>hi (by simp_all);have:=(fzO_lk (o:=G.o) hz i).2 hi;rw[h1] at this;exact⟨h0,T1,fr1,t1,xs1,ver1,this,h2,h3⟩
 | .og i,b,u,h,hu=>by
   unfold fzA at h;rw[ce] at h;have hu':=hu;obtain⟨h0,⟨T1,Te1,fr1,t1,xs1,ho1,h1⟩,h2⟩:=hu;split at h
   ·rename_i hi;have hi:=nb hi;subst hi;cases h;exact hrow u (.inr hu')
   ·rename_i hi;cases h;have hi:i≠id:=fun e=>hi (by simp_all);have:=(fzO_lk (o:=G.o) hz i).2 hi;rw[h1] at this;exact⟨h0,⟨T1,Te1,fr1,t1,xs1,ho1,this⟩,h2⟩
 | .gel i k,b,u,h,hu=>by
   unfold fzA at h;rw[ce] at h;obtain⟨⟨T1,Te1,fr1,t1,xs1,ho1,h1⟩,h2⟩:=hu;split at h
   ·cases h
   ·rename_i hi;cases h;have hi:i≠id:=fun e=>hi (by simp_all);have:=(fzO_lk (o:=G.o) hz i).2 hi;rw[h1] at this;exact⟨⟨T1,Te1,fr1,t1,xs1,ho1,this⟩,h2⟩
 | .pel i v k s off,b,u,h,hu=>by
   unfold fzA at h;rw[ce] at h;obtain⟨h0,T1,fr1,t1,xs1,ver1,h1,h2,h3⟩:=hu;split at h
   ·cases h
   ·rename_i hi;cases h;have hi:i≠id:=fun e=>hi (by simp_all);have:=(fzO_lk (o:=G.o) hz i).2 hi;rw[h1] at this;exact⟨h0,T1,fr1,t1,xs1,ver1,this,h2,h3⟩
 | .ptr i off,b,u,h,hu=>by
   unfold fzA at h;rw[ce] at h;obtain⟨⟨T1,cs1,h1⟩,h2⟩:=hu;split at h
   ·cases h
   ·rename_i hi;cases h;have hi:i≠id:=fun e=>hi (by simp_all);have:=(fzO_lk (o:=G.o) hz i).2 hi;rw[h1] at this;obtain⟨cs',_,h3⟩:=this;exact⟨⟨T1,cs',h3⟩,h2⟩
 | .agg l,b,u,h,hu=>by
   unfold fzA at h;obtain⟨z,h1,rfl⟩:=optMap_some h;obtain⟨us,e,hu⟩:=hu;exact⟨us,e,fzAs_ok hrow hz h1 hu⟩
 | .tup l,b,u,h,hu=>by
   unfold fzA at h;obtain⟨z,h1,rfl⟩:=optMap_some h;obtain⟨us,e,hu⟩:=hu;exact⟨us,e,fzAs_ok hrow hz h1 hu⟩
 | .fn f l,b,u,h,hu=>by
   unfold fzA at h;obtain⟨z,h1,rfl⟩:=optMap_some h;obtain⟨us,e,hu⟩:=hu;exact⟨us,e,fzAs_ok hrow hz h1 hu⟩
 | .v x,b,u,h,hu=>by unfold fzA at h; cases h; exact hu
 | .d f t' x,b,u,h,hu=>by
   unfold fzA at h; cases h;exact RT.up hu (fun k hk=>⟨.inl hk.1,hk.2⟩)
 | .ow ..,b,u,h,hu=>hu.elim
 | .ob ..,b,u,h,hu=>hu.elim
theorem fzAs_ok{o':List (Nat×Ob)}(hrow:RowD G id ver fr t xs o')(hz:fzO id ver fr t xs G.o=some o'):∀{as' bs:List AV} {us:List Value},fzAs id ver fr t xs as'=some bs->AVRs G as' us->AVRs (fzG G id o') bs us
 | [],bs,us,h,hu=>by
   simp only[fzAs,oi] at h;subst h; exact hu
 | a :: r,bs,us,h,⟨u,us',e,h1,h2⟩=>by
   unfold fzAs at h;split at h
   ·rename_i b hb;obtain⟨z,hz',rfl⟩:=optMap_some h;exact⟨u,us',e,fzA_ok hrow hz hb h1,fzAs_ok hrow hz hz' h2⟩
   grind
end
theorem rowD_arr{T:TypeId}{f0:Bool}(S:Sat X G)(ho:lku G.o id=some (.arr T f0 t xs ver))(hf:fr=(f0||kfree t))(o':List (Nat×Ob)):RowD G id ver fr t xs o':=fun u hu=>by
 rcases hu with ⟨h0,T1,fr1,t1,xs1,ver1,h1,h2,h3⟩ | ⟨_,⟨_,_,_,_,_,_,h1⟩,_⟩
 ·rw[ho] at h1;cases h1;rw[h3 rfl];obtain⟨cs,hO,hA,hB⟩:=S.obs id _ ho;refine own_dat hO (hA.mapR (fun c x hr=>?_)) (fun b hb=>⟨.inr (.inl hb),fun _=>hB b hb⟩);subst hf;by_cases hk:kfree t=true
  ·grind[RT.free]
  ·exact RT.up hr (fun k hk'=>⟨.inl hk'.1,fun e=>hk'.2 (by grind)⟩)
 grind
theorem allR_of{α:Type}{R:List Value->α->Prop}:∀{vs:List Value} {xs:List α},vs.length=xs.length->(∀(k:Nat) v x,vs[k]?=some v->xs[k]?=some x->R [v] x)->AllR R vs xs
 | [],[],_,_=>rfl
 | v :: vs,x :: xs,hl,h=>⟨[v],vs,rfl,h 0 v x rfl rfl,allR_of (by grind) (fun k v' x' h1 h2=>h (k+1) v' x' h1 h2)⟩
 | [],_ :: _,hl,_=>by grind
 | _ :: _,[],hl,_=>by grind
theorem rowD_grd{T Te:TypeId}{f0:Bool}{xs:List (List (den t))}(S:Sat X G)(ho:lku G.o id=some (.grd T Te f0 t xs none))(hf:fr=(f0||kfree t))(o':List (Nat×Ob)):RowD G id ver fr (.sl t) xs o':=fun u hu=>by
 rcases hu with ⟨h0,T1,fr1,t1,xs1,ver1,h1,h2,h3⟩ | ⟨_,_,h3⟩
 ·grind
 ·rw[h3];obtain⟨vs,bs,hO,hR,hB⟩:=S.obs id _ ho;refine own_dat (t:=.sl t) hO (allR_of hR.len (fun k v x hv hx=>?_)) (fun b hb=>⟨.inr (.inl hb),fun _=>hB b hb⟩);have hk:k<xs.length:=by
   rcases Nat.lt_or_ge k xs.length with h | h
   ·exact h
   ·rw[List.getElem?_eq_none h] at hx; cases hx
  obtain⟨cs,r1,r2,r3⟩:=hR.row k hk (fun h=>by cases h);have ev:vs.getD k (.bool false)=v:=by rw[gq,hv]; rfl
  have ex:xs.getD k []=x:=by rw[gq,hx]; rfl
  rw[ev,ex] at r1;rw[ex] at r2;refine own_dat r1 (r2.mapR (fun c x hr=>?_)) (fun b hb=>⟨.inr (.inr ⟨by rw[ho]; rfl,(hR.blk b).2 ⟨k,hk,(fun h=>by cases h),hb⟩⟩),fun _=>r3 b hb⟩);subst hf;by_cases hk:kfree t=true
  ·grind[RT.free]
  ·exact RT.up hr (fun k hk'=>⟨.inl hk'.1,fun e=>hk'.2 (by grind)⟩)
theorem fz_sat{ob0:Ob}{o':List (Nat×Ob)}(S:Sat X G)(ho:lku G.o id=some ob0)(hγ:∀k,G.γ id=some k->UF G.w k/\G.B<=k)(hrow:RowD G id ver fr t xs o')(hz:fzO id ver fr t xs G.o=some o')(hid:Nat.blt id 500000=true):Sat X (fzG G id o'):=by
 have hlk:=fzO_lk (o:=G.o) hz;have hold:∀i ob,lku o' i=some ob->i≠id/\∃ob',lku G.o i=some ob':=fun i ob h=>by
  grind
 have hgb:∀i,isGrd (lku o' i)=true->i≠id/\isGrd (lku G.o i)=true:=fun i hg=>by
  grind[isGrd_eq,hi]
 refine⟨S.base,S.os,S.tape,S.output,S.size,S.block,?_,?_,?_,?_,?_,?_,?_,?_⟩
 ·intro i ob h;obtain⟨hi,ob',h1⟩:=hold i ob h;have:=(hlk i).2 hi;rw[h1] at this;have hob:=S.obs i ob' h1;cases ob' with
  | box T1 cs1 =>
    obtain⟨cs',e1,e2⟩:=this;have h:lku o' i=some ob:=h;rw[e2] at h;cases h;obtain⟨b,us,g1,g2,g3,g4⟩:=hob;exact⟨b,us,g1,g2,g3,fzAs_ok hrow hz e1 g4⟩
  | arr T1 fr1 t1 xs1 ver1 =>
    simp only at this;have h:lku o' i=some ob:=h;rw[this] at h;cases h;obtain⟨cs,g1,g2,g3⟩:=hob;exact⟨cs,g1,g2.mapR (fun c x hr=>RT.up hr (fun k hk=>⟨.inl hk.1,hk.2⟩)),g3⟩
  | grd T1 Te1 fr1 t1 xs1 hole1 =>
    simp only at this;have h:lku o' i=some ob:=h;rw[this] at h;cases h;obtain⟨vs,bs,g1,g2,g3⟩:=hob;refine⟨vs,bs,g1,⟨g2.len,g2.blk,g2.inj,fun k hk hh=>?_,g2.one⟩,g3⟩;obtain⟨cs,r1,r2,r3⟩:=g2.row k hk hh;exact⟨cs,r1,r2.mapR (fun c x hr=>RT.up hr (fun k hk=>⟨.inl hk.1,hk.2⟩)),r3⟩
 ·intro i i' ob ob' b h h' hb hb';obtain⟨_,o1,h1⟩:=hold i ob h;obtain⟨_,o2,h2⟩:=hold i' ob' h';exact S.inj i i' o1 o2 b h1 h2 hb hb'
 ·intro i ob b h hb hk;obtain⟨hi,o1,h1⟩:=hold i ob h;rcases hk with hk | hk | ⟨hg,hk⟩
  ·exact S.imm i o1 b h1 hb hk
  ·exact hi (S.inj i id o1 _ b h1 ho hb hk)
  ·exact(S.sep id b hk hg).2.2.1 i o1 h1 hb
 ·intro i ob b h hb;obtain⟨_,o1,h1⟩:=hold i ob h;exact S.own i o1 b h1 hb
 ·intro k hk;rcases hk with hk | hk | ⟨hg,hk⟩
  ·exact S.klt k hk
  ·exact(hγ k hk).1.g
  ·exact(S.duf hk hg).g
 ·intro k hk;rcases hk with hk | hk | ⟨hg,hk⟩
  ·exact S.kfrom k hk
  ·exact .inr (by rw[<- S.base.1]; exact(hγ k hk).2)
  ·obtain⟨T,Te,f,t,xs,hole,e⟩:=isGrd_eq hg;obtain⟨vs,bs,_,hR,_⟩:=S.obs id _ e;obtain⟨j,hj,hh,hb⟩:=(hR.blk k).1 hk;obtain⟨_,_,_,h3⟩:=hR.row j hj hh;exact .inr (by rw[<- S.base.1]; exact h3 k hb)
 ·intro i b hb hg;obtain⟨hi,hg⟩:=hgb i hg;obtain⟨s1,s2,s3,s4⟩:=S.sep i b hb hg;refine⟨s1,?_,fun j o hj hjb=>?_,fun j hj hgj=>s4 j hj (hgb j hgj).2⟩
  ·rintro(hk | hk | ⟨hg',hk⟩)
   ·grind
   ·grind
   grind
  ·obtain⟨_,o1,h1⟩:=hold j o hj;exact s3 j o1 h1 hjb
 ·intro i v hv;obtain⟨⟨T1,cs1,h1⟩,h2⟩:=S.pin i v hv;have hi:500000+i≠id:=fun e=>by
   have:id<500000:=by simpa using hid
   omega
  have:=(hlk (500000+i)).2 hi;rw[h1] at this;obtain⟨cs',_,e⟩:=this;exact⟨⟨T1,cs',e⟩,h2⟩
theorem fzE_lk:∀{e:List (Nat×Sl)},nodupK e=true->∀{k:Nat} {s:Sl},lku (fzE id ver fr t xs e) k=some s->∃a,lku e k=some ⟨s.p,a⟩/\fzA id ver fr t xs a=some s.a
 | [],_,k,s,h=>by cases h
 | (j,s0) :: r,hn,k,s,h=>by
   simp only[nodupK,ba,List.all_eq_true,Bool.not_eq_true'] at hn;unfold fzE at h;split at h
   ·rename_i b hb;rw[lK] at h ⊢;split at h
    ·rename_i e;cases h;exact⟨s0.a,by simp_all,hb⟩
    ·rename_i e;rw[if_neg e];exact fzE_lk hn.2 h
   ·obtain⟨a,h1,h2⟩:=fzE_lk hn.2 h;refine⟨a,?_,h2⟩;rw[lK];split
    ·rename_i e;exfalso;have:∀{e:List (Nat×Sl)},(∀x∈e,Nat.beq x.1 j=false)->lku e j=none:=by
      intro e
      induction e with
      | nil=>intro _; rfl
      | cons y r ih =>
        intro hy;obtain⟨d,v⟩:=y;rw[lK,if_neg]
        ·grind
        ·intro e'
         simp_all
     grind
    omega
end
theorem fz_ok{X:Cx}{st st':St}{id:Nat}(h:fzS id st=some st')(hid:Nat.blt id 500000=true){G:Gh}{a:Act}(S:Sat X G)(ho:G.o=st.o)(hE:EnvR X.n G st.e a):∃G',Sat X G'/\G'.o=st'.o/\G'.w=G.w/\EnvR X.n G' st'.e a:=by
 unfold fzS at h;split at h
 ·rename_i T f0 t xs ver hl;rw[ce] at h;split at h
  ·rename_i hn;split at h
   ·rename_i o' hz;cases h;rw[<- ho] at hl hz;have hrow:=rowD_arr S hl rfl o';obtain⟨cs0,hO0,hA0,hB0⟩:=S.obs id _ hl;refine⟨fzG G id o',fz_sat S hl (fun k hk=>⟨by grind[own_uf],hB0 k hk⟩) hrow hz hid,rfl,rfl,hE.defers,hE.size,fun k s hk=>?_⟩;obtain⟨b,h1,h2⟩:=fzE_lk hn hk;obtain⟨h3,h4⟩:=hE.val k _ h1
    grind[fzA_ok]
   grind
  grind
 ·rename_i T Te f0 t xs hl;rw[ce] at h;split at h
  ·rename_i hn;split at h
   ·rename_i o' hz;cases h;rw[<- ho] at hl hz;have hrow:=rowD_grd (ver:=0) S hl rfl o';obtain⟨vs0,bs0,hO0,hR0,hB0⟩:=S.obs id _ hl;refine⟨fzG G id o',fz_sat S hl (fun k hk=>⟨by grind[own_uf],hB0 k hk⟩) hrow hz hid,rfl,rfl,hE.defers,hE.size,fun k s hk=>?_⟩;obtain⟨b,h1,h2⟩:=fzE_lk hn hk;obtain⟨h3,h4⟩:=hE.val k _ h1
    grind[fzA_ok]
   grind
  grind
 grind
theorem fz{X:Cx}{st:St}{c:Code}{Q:Exit->Act->World->Prop}(id:Nat)(st':St)(h:fzS id st=some st')(hid:Nat.blt id 500000=true)(k:VX X st' c Q):VX X st c Q:=fun G a S ho hE=>by
 obtain⟨G',S',ho',hw',hE'⟩:=fz_ok h hid S ho hE;have:=k G' a S' ho' hE'
 grind
theorem dead{X:Cx}{st:St}{c:Code}{Q:Exit->Act->World->Prop}{ρ:Type}{r:ρ}(H:none=some r):VX X st c Q:=by cases H
def scal:List Par->Bool
 | []=>true
 | .dat (.int _) :: r=>scal r
 | .dat .bool :: r=>scal r
 | .dat .str :: r=>scal r
 | _=>false
def sc:(ps:List Par)->denPs ps->List Value
 | [],_=>[]
 | .dat (.int k) :: r,x=>.int k x.1 :: sc r x.2
 | .dat .bool :: r,x=>.bool x.1 :: sc r x.2
 | .dat .str :: r,x=>.string x.1 :: sc r x.2
 | _ :: r,x=>sc r x.2
theorem sc_of{K:Nat->Prop}{w:World}:∀{ps:List Par} {x:denPs ps} {vs:List Value} {go:Option Nat},scal ps=true->ArgsR K w go ps x vs->vs=sc ps x/\go=none
 | [],x,vs,go,_,h=>h
 | .dat (.int k) :: r,x,vs,go,hs,⟨v,us,e,h1,h⟩=>by
   obtain⟨h2,h3⟩:=sc_of (ps:=r) hs h;refine⟨?_,h3⟩;rw[e,h2];have h1:=h1.1;simp only[List.cons.injEq,and_true] at h1;rw[h1]; rfl
 | .dat .bool :: r,x,vs,go,hs,⟨v,us,e,h1,h⟩=>by
   obtain⟨h2,h3⟩:=sc_of (ps:=r) hs h;refine⟨?_,h3⟩;rw[e,h2];have h1:[v]=_:=h1;simp only[List.cons.injEq,and_true] at h1;rw[h1]; rfl
 | .dat .str :: r,x,vs,go,hs,⟨v,us,e,h1,h⟩=>by
   obtain⟨h2,h3⟩:=sc_of (ps:=r) hs h;refine⟨?_,h3⟩;rw[e,h2];have h1:=h1.1;simp only[List.cons.injEq,and_true] at h1;rw[h1]; rfl
theorem ior_none{K:Nat->Prop}{w:World}{go:Option Nat}:∀{ps:List Par} (z:IOT ps),scal ps=true->IOR K w go ps z
 | [],_,_=>trivial
 | .dat (.int _) :: r,z,h=>ior_none (ps:=r) z h
 | .dat .bool :: r,z,h=>ior_none (ps:=r) z h
 | .dat .str :: r,z,h=>ior_none (ps:=r) z h
theorem ok_ext{P:Program}{f:FuncId}{ps:List Par}{ρ:Type}[Inhabited ρ]{F:denPs ps->Option ρ}{t:Ty}{D:ρ->den t}{Z:ρ->IOT ps}(hs:scal ps=true)(he:enterB P f=true)
  (h:∀x r w,F x=some r->wfs ps x->Calls P f (sc ps x).toArray w fun en w'=>∃v,en=.returned v/\Ext w w'/\RT (fun _=>False) w' t [v] (D r)):Ok P (lct f ps F (fun r=>.d true t (D r)) Z):=by
 refine⟨he,fun x hq w vs go K hK ha=>?_⟩;obtain⟨rfl,rfl⟩:=sc_of hs ha;refine Calls.mono (h x _ w (some_vl hq) ha.wfs) ?_;rintro en w' ⟨v,e,hE,hR⟩;exact⟨v,[],e,WE.of_ext hE,trivial,(fun b hb=>nomatch hb),⟨RT.up hR (fun k hk=>hk.elim),rfl⟩,ior_none _ hs⟩
theorem rt_int{K:Nat->Prop}{w:World}{k:IntKind}{x:Int}(h:lo k<=x/\x<=hi k):RT K w (.int k) [.int k x] x:=⟨rfl,h⟩
theorem rt_str{K:Nat->Prop}{w:World}{s:ByteArray}(h:s.size<=9223372036854775807):RT K w .str [.string s] s:=⟨rfl,h⟩
end Go.Proofs.Xv
end
section
namespace Go.Proofs.Xl
instance inhabL{α β:Type}[Inhabited α]:Inhabited (α ⊕ β):=⟨.inl default⟩
def isL{α β:Type}:Option (α ⊕ β)->Bool
 | some (.inl _)=>true
 | _=>false
def isR{α β:Type}:Option (α ⊕ β)->Bool
 | some (.inr _)=>true
 | _=>false
def vL{α β:Type}[Inhabited α]:Option (α ⊕ β)->α
 | some (.inl a)=>a
 | _=>default
def vR{α β:Type}[Inhabited β]:Option (α ⊕ β)->β
 | some (.inr b)=>b
 | _=>default
def two{α β γ:Type}(f:α->γ)(g:β->γ):α ⊕ β->γ
 | .inl a=>f a
 | .inr b=>g b
end Go.Proofs.Xl
namespace Go.Proofs.Xv
open Go Go.RowKit Go.Proofs.Sv Go.Proofs.Xl
def lctL(f:FuncId)(ps:List Par){α β:Type}[Inhabited α](F:denPs ps->Option (α ⊕ β))(R:α->AV)(z:IOT ps):Ct:=⟨f,ps,fun x=>⟨isL (F x)=true,R (vL (F x)),z⟩⟩
def lctR(f:FuncId)(ps:List Par){α β:Type}[Inhabited β](F:denPs ps->Option (α ⊕ β))(R:β->AV)(z:IOT ps):Ct:=⟨f,ps,fun x=>⟨isR (F x)=true,R (vR (F x)),z⟩⟩
theorem ok_l{P:Program}{f:FuncId}{ps:List Par}{α β:Type}[Inhabited (α ⊕ β)][Inhabited α]{F:denPs ps->Option (α ⊕ β)}{RA:α->AV}{RB:β->AV}{z:IOT ps}(h:Ok P (lct f ps F (two RA RB) (fun _=>z))):Ok P (lctL f ps F RA z):=by
 refine⟨h.1,fun x hq w vs go K hK ha=>?_⟩;have hq:isL (F x)=true:=hq;cases hF:F x with
 | none=>rw[hF] at hq; cases hq
 | some s =>
   cases s with
   | inr b=>rw[hF] at hq; cases hq
   | inl a =>
     have:=h.2 x (show(F x).isSome=true by grind) w vs go K hK ha;simp only[lct,lctL] at this ⊢;rw[hF] at this ⊢;exact this
theorem ok_r{P:Program}{f:FuncId}{ps:List Par}{α β:Type}[Inhabited (α ⊕ β)][Inhabited β]{F:denPs ps->Option (α ⊕ β)}{RA:α->AV}{RB:β->AV}{z:IOT ps}(h:Ok P (lct f ps F (two RA RB) (fun _=>z))):Ok P (lctR f ps F RB z):=by
 refine⟨h.1,fun x hq w vs go K hK ha=>?_⟩;have hq:isR (F x)=true:=hq;cases hF:F x with
 | none=>rw[hF] at hq; cases hq
 | some s =>
   cases s with
   | inl b=>rw[hF] at hq; cases hq
   | inr a =>
     have:=h.2 x (show(F x).isSome=true by grind) w vs go K hK ha;simp only[lct,lctR] at this ⊢;rw[hF] at this ⊢;exact this
theorem sp{X:Cx}{st:St}{c:Code}{Q:Exit->Act->World->Prop}{ρ:Type}{r:ρ}{b:Bool}{e1 e2:Option ρ}(H:(if b=true then e1 else e2)=some r)(ht:e1=some r->VX X st c Q)(hf:e2=some r->VX X st c Q):VX X st c Q:=by
 grind
end Go.Proofs.Xv
end
section
namespace Go.Proofs.Xv
open Go Go.RowKit Go.Proofs.Sv Go.Proofs.Xl
abbrev Z(e:List (Nat×Sl))(o:List (Nat×Ob)):St:=⟨e,o⟩
abbrev R(i:Nat):AV:=.ptr i 0
abbrev O(i:Nat):AV:=.os i 0
abbrev A(T:TypeId)(t:Ty)(xs:List (den t))(v:Nat):Ob:=.arr T true t xs v
abbrev K(T:TypeId)(t:Ty)(x:den t):Ob:=.box T (cellsD false t x)
class HG(P:Program)(Γ:outParam Tab'):Prop where
 h:TabOk P Γ
class HT(P:Program)(T:outParam (List Ct)):Prop where
 h:∀c∈T,Ok P c
def keysE(st:St):List Nat:=st.e.map Prod.fst
section
variable {P:Program} {n:Nat} {y:World×(Nat->Prop)×(Nat->Prop)×(Nat->Value->Prop)×Nat} {st:St} {Q:Exit->Act->World->Prop} {Γ:Tab'} {T:List Ct} {ρ α:Type} {r:ρ}
theorem zD[hΓ:HG P Γ][hT:HT P T][hm:Mixed P](S:α->St){V:Prop}[Decidable V]{x:α}{f:α->Option ρ}{id:Nat}{l:List Oper}{b:Bool}(H:gd V (lt x f)=some r)(hc:∀v,f v=some r->FX (cx P n y) (S v) .normal Q)(h:regR b n Γ T l (keysE (S x)) st=some (V,S x):=by kernel_rfl):VX (cx P n y) st (.region id l.toArray b) Q:=zd hΓ.h hT.h _ S H h hc
theorem qC[hΓ:HG P Γ][hT:HT P T][hm:Mixed P](S:α->St){x:α}{f:α->Option ρ}{id:Nat}{l:List Oper}{b:Bool}{c:Code}(H:lt x f=some r)(hc:∀v,f v=some r->VX (cx P n y) (S v) c Q)(h:regR b n Γ T l (keysE (S x)) st=some (True,S x):=by kernel_rfl):VX (cx P n y) st (.seq (.region id l.toArray b) c) Q:=qc hΓ.h hT.h _ S H h hc
theorem qD[hΓ:HG P Γ][hT:HT P T][hm:Mixed P](S:α->St){V:Prop}[Decidable V]{x:α}{f:α->Option ρ}{id:Nat}{l:List Oper}{b:Bool}{c:Code}(H:gd V (lt x f)=some r)(hc:∀v,f v=some r->VX (cx P n y) (S v) c Q)(h:regR b n Γ T l (keysE (S x)) st=some (V,S x):=by kernel_rfl):VX (cx P n y) st (.seq (.region id l.toArray b) c) Q:=qd hΓ.h hT.h _ S H h hc
theorem cD{X:Cx}{c:Operand}{a d:Code}{b:Bool}{e1 e2:Option ρ}(H:(if b=true then e1 else e2)=some r)(ht:e1=some r->VX X st a Q)(hf:e2=some r->VX X st d Q)(h:rdB st c=some b:=by kernel_rfl):VX X st (.cond c a d) Q:=cd H h ht hf
theorem jN{X:Cx}{σ:Type}(r:ρ)(E:σ->St)(J:σ->Option ρ){a d:Code}(h:∀s,J s=some r->VX X (E s) d Q)(k:∀Q',(∀{s st'},J s=some r->(h:weak st' (E s)=some (E s):=by kernel_rfl)->FX X st' .normal Q')->(∀{st' id},FX X st' (.exit id) Q->FX X st' (.exit id) Q')->(∀{st'},FX X st' .ret Q->FX X st' .ret Q')->VX X st a Q'):VX X st (.seq a d) Q:=jn r E J h (fun Q' n e t=>k Q' (fun H h=>n H h) e t)
theorem lX{X:Cx}{σ:Type}(E:σ->St)(s0:σ){F:(σ->Option ρ)->σ->Option ρ}{body:Code}(H:lp F s0=some r)
 (round:∀Q' (g:σ->Option ρ),(∀{s st'},g s=some r->(h:weak st' (E s)=some (E s):=by kernel_rfl)->FX X st' .normal Q')->(∀{st' id},FX X st' (.exit id) Q->FX X st' (.exit id) Q')->(∀{st'},FX X st' .ret Q->FX X st' .ret Q')->∀s,F g s=some r->VX X (E s) body Q') (h0:weak st (E s0)=some (E s0):=by kernel_rfl):VX X st (.loop body) Q:=lx E s0 H h0 (fun Q' g n e t s H=>round Q' g (fun H h=>n H h) e t s H)
theorem fZ{X:Cx}{c:Code}(id:Nat)(st':St)(k:VX X st' c Q)(h:fzS id st=some st':=by kernel_rfl)(hid:Nat.blt id 500000=true:=by kernel_rfl):VX X st c Q:=fz id st' h hid k
end
def EndG(X:Cx)(Γ:Tab')(rs:List ResultVar)(ps:List Par){ρ:Type}(R:ρ->AV)(Z:ρ->IOT ps)(r:ρ)(x:Exit)(Q:Exit->Act->World->Prop):Prop :=
 ∀{st:St} {e:ρ},some e=some r->(h:endW Γ st rs ps (R e) (Z e)=some (R e,Z e):=by kernel_rfl)->FX X st x Q
theorem okL{P:Program}{Γ:Tab'}[hΓ:HG P Γ]{f:FuncId}{ps:List Par}{ρ:Type}[Inhabited ρ]{F:denPs ps->Option ρ}{R:ρ->AV}{Z:ρ->IOT ps}{fn:Func}{code:Code}{n:Nat}(rs:List ResultVar)
  (hf:P.funcs[f]?=some fn) (hn:fn.ntmps=n) (hr:fn.results=rs.toArray)
  (h:∀y x r,F x=some r->∀Q,EndG (cx P n y) Γ rs ps R Z r .normal Q->EndG (cx P n y) Γ rs ps R Z r .ret Q->VX (cx P n y) ⟨start 0 ps x,startO 0 ps x⟩ code Q)
  (hb:fn.body=some code:=by rfl) (he:enterB P f=true:=by kernel_rfl) (hle:(Nat.ble ps.length n&&oneOb ps)=true:=by rfl):Ok P (lct f ps F R Z) :=
 okl hΓ.h rs hf hn hb hr he hle (fun y x r H Q a b=>h y x r H Q (fun H h=>a H h) (fun H h=>b H h))
end Go.Proofs.Xv
end
section
namespace Go.Proofs.Xv
open Go Go.Proofs Go.Proofs.Sv
def fldL(P:Program)(T:TypeId):Nat->List (Nat×Nat)->List (Option (Nat×Bool))
 | _,[]=>[]
 | k,_ :: r=>fieldB P T k :: fldL P T (k+1) r
theorem fld_at{P:Program}{T:TypeId}:∀{l:List (Nat×Nat)} {k:Nat},fldL P T k l=l.map (fun x=>some (x.1,true))->fieldsAt P T k l
 | [],_,_=>trivial
 | _ :: _,_,h=>⟨(List.cons.inj h).1,fld_at (List.cons.inj h).2⟩
abbrev TyRow:=(Option (Nat×Nat×Option Value)×Bool×Bool×Bool)×Bool×Option (List (Nat×Nat))×Bool×List (Option (Nat×Bool))×Bool×Option (List (Bool×Bool))×Option TypeDesc
def tyL(P:Program)(x:Nat×TI):TyRow :=
 ((infoB P x.1,lenIs x.2.zero.cells.toList x.2.size,Nat.blt 0 x.2.size,ones x.2.zero.cells.toList),match x.2.kd with
 | .agg pl e _=>(aggB P x.1,placesB P x.1,fieldsOk P x.1,fldL P x.1 0 pl,(!e||eqIB P x.1),aggsB P x.1,none)
 | .arr _ _=>(aggB P x.1,none,true,[],true,none,P.underlying x.1)
 | .oth=>(notAggB P x.1,none,true,[],true,none,none)
 | _=>(notAggB P x.1,none,true,[],true,none,P.underlying x.1))
def tyR(P:Program)(x:Nat×TI):TyRow :=
 ((some (x.2.size,x.2.bytes,some x.2.zero),true,true,true),match x.2.kd with
 | .agg pl _ ag=>(true,some pl,true,pl.map (fun x=>some (x.1,true)),true,some (ag.map fun b=>(b,!b)),none)
 | .arr m E=>(true,none,true,[],true,none,some (.array m E))
 | .sl E=>(true,none,true,[],true,none,some (.slice E))
 | .str=>(true,none,true,[],true,none,some .string)
 | .bool=>(true,none,true,[],true,none,some .bool)
 | .int k=>(true,none,true,[],true,none,some (.int k))
 | .ptr=>(true,none,true,[],true,none,some (.pointer (P.pointee x.1)))
 | .oth=>(true,none,true,[],true,none,none))
theorem ty_ok{P:Program}{x:Nat×TI}(h:tyL P x=tyR P x):TIok P x.1 x.2:=by
 obtain⟨T,size,bytes,zero,kd,ty⟩:=x;unfold tyL tyR at h;simp only[pj] at h;obtain⟨⟨h1,h2,h3,h4⟩,h5⟩:=h;refine⟨h1,h2,h3,h4,?_⟩;cases kd <;> simp only[pj] at h5 <;> unfold kdOk
 ·exact⟨h5.1,h5.2.1,h5.2.2.1,fld_at h5.2.2.2.1,fun he=>by simpa [he] using h5.2.2.2.2.1,h5.2.2.2.2.2.1⟩
 ·exact⟨h5.1,h5.2.2.2.2.2.2⟩
 ·exact⟨h5.1,h5.2.2.2.2.2.2⟩
 ·exact⟨h5.1,h5.2.2.2.2.2.2⟩
 ·exact⟨h5.1,h5.2.2.2.2.2.2⟩
 ·exact⟨h5.1,h5.2.2.2.2.2.2⟩
 ·exact h5.1
 ·exact⟨h5.1,h5.2.2.2.2.2.2⟩
theorem tab_ok{P:Program}{Γ:Tab'}(h:Γ.map (tyL P)=Γ.map (tyR P)):TabOk P Γ:=by
 induction Γ with
 | nil=>exact tab_nil
 | cons x r ih =>
   simp only[List.map_cons,List.cons.injEq] at h;exact tK (ty_ok h.1) (ih h.2)
end Go.Proofs.Xv
end
