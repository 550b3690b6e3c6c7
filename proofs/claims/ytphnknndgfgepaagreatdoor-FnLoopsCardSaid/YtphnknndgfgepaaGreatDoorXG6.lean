/- Calls by contracts. Over any program. -/
import Derived.Test.YtphnknndgfgepaaGreatDoorXC6
import Derived.Test.YtphnknndgfgepaaGreatDoorXB6
section
namespace Go.Proofs.Xv
open Go Go.RowKit Go.Proofs.Sv
theorem Sat.after{X:Cx}{G:Gh}(S:Sat X G){w':World}{go:Option Nat}(hw:WE go G.w w'){K':Nat->Prop}(hK:∀k,G.K k->K' k)(hlt:∀k,K' k->UFg w' X.w0.heap.size k)(hfrom:∀k,K' k->X.K0 k∨X.base<=k)
  (hdis:∀id o b,lku G.o id=some o->G.γ id=some b->¬K' b) (hdl:∀id b,G.δ id b->H5 (lku G.o id)=true->¬K' b) {upd:List (Nat×Ob)}
  (hu:(go=none/\upd=[])∨∃id b T cs0 t,∃z:den t,go=some b/\upd=[(id,Ob.box T (u1 false t z))]/\lku G.o id=some (.box T cs0)/\G.γ id=some b/\∃us,Blk w' b us T/\RT K' w' t us z) :
  Sat X ⟨G.ρ,G.γ,K',w',upd++G.o,G.B,G.δ⟩/\GLe G ⟨G.ρ,G.γ,K',w',upd++G.o,G.B,G.δ⟩:=by
 have hgoK:∀k,G.K k->go≠some k:=fun k hk e=>by
  rcases hu with ⟨rfl,_⟩ | ⟨id,b,T,cs0,t,z,rfl,_,ho,hγ,_⟩
  ·cases e
  ·cases e; exact S.imm id _ _ ho hγ hk
 have hblk:∀k,G.K k->k<G.w.heap.size->w'.heap[k]?=G.w.heap[k]?:=fun k hk hl=>hw.block k hl (hgoK k hk)
 -- where the objects stand
 have hlk:∀i,(∃T cs0 t,∃z:den t,lku (upd++G.o) i=some (.box T (u1 false t z))/\lku G.o i=some (.box T cs0)/\go=G.γ i/\(∃b us,G.γ i=some b/\Blk w' b us T/\RT K' w' t us z))∨(lku (upd++G.o) i=lku G.o i/\∀o b,lku G.o i=some o->G.γ i=some b->go≠some b):=fun i=>by
  rcases hu with ⟨rfl,rfl⟩ | ⟨id,b,T,cs0,t,z,rfl,rfl,ho,hγ,us,hB,hR⟩
  ·exact .inr ⟨rfl,fun _ _ _ _ e=>by cases e⟩
  ·by_cases e:id=i
   ·subst e;exact .inl ⟨T,cs0,t,z,by rw[List.cons_append,lK,if_pos rfl],ho,hγ.symm,b,us,hγ,hB,hR⟩
   ·refine .inr ⟨by rw[List.cons_append,lK,if_neg e]; rfl,fun o b' ho' hb' e'=>?_⟩;cases e';exact e (S.inj id i _ _ b ho ho' hγ hb')
 have hle:GLe G ⟨G.ρ,G.γ,K',w',upd++G.o,G.B,G.δ⟩:=by
  refine⟨rfl,fun k hk hl=>⟨hK k hk,hblk k hk hl⟩,fun i T cs hi=>⟨rfl,?_⟩,fun i T Te fr t xs hole hi=>⟨rfl,?_⟩,fun i T fr t xs ver hi=>?_⟩
  ·rcases hlk i with ⟨T',_,t,z,h,_⟩ | ⟨h,_⟩
   ·exact⟨_,_,h⟩
   ·exact⟨_,_,h.trans hi⟩
  ·rcases hlk i with ⟨T',_,t,z,h,h',_⟩ | ⟨h,_⟩
   ·rw[hi] at h'; cases h'
   ·exact⟨_,_,_,_,_,_,h.trans hi⟩
  ·rcases hlk i with ⟨T',_,t,z,h,h',_⟩ | ⟨h,_⟩
   ·rw[hi] at h'; cases h'
   ·exact⟨_,_,_,_,_,h.trans hi,Nat.le_refl _,fun _=>rfl⟩
 have hback:∀i o,lku (upd++G.o) i=some o->∃o',lku G.o i=some o':=fun i o h=>by
  rcases hlk i with ⟨T',cs0,t,z,h1,h',_⟩ | ⟨h1,_⟩
  ·exact⟨_,h'⟩
  ·exact⟨o,by rw[<- h1]; exact h⟩
 have hgb:∀i,H5 (lku (upd++G.o) i)=true->H5 (lku G.o i)=true:=fun i h=>by
  rcases hlk i with ⟨T',_,t,z,h1,_⟩ | ⟨h1,_⟩
  ·rw[h1] at h; cases h
  ·rw[<- h1]; exact h
 refine⟨⟨S.base,hw.os.trans S.os,hw.tape.trans S.tape,hw.output.trans S.output,Nat.le_trans S.size hw.size,fun k hk hi=>?_,?_,?_,?_,?_,hlt,hfrom,fun i b hb hg=>?_,fun i v h=>(S.pin i v h).mono hle⟩,hle⟩
 rotate_right
 ·have hg:=hgb i hg;obtain⟨s1,s2,s3,s4⟩:=S.sep i b hb hg;refine⟨s1,hdl i b hb hg,fun j o ho hj=>?_,fun j hj hgj=>s4 j hj (hgb j hgj)⟩;obtain⟨o',ho'⟩:=hback j o ho;exact s3 j o' ho' hj
 ·refine(hw.block k (Nat.lt_of_lt_of_le hk S.size) (fun e=>?_)).trans (S.block k hk hi);rcases hu with ⟨rfl,_⟩ | ⟨id,b,T,cs0,t,z,rfl,_,ho,hγ,_⟩
  ·cases e
  ·cases e;rcases S.own id _ k ho hγ with h | h
   ·omega
   ·exact hi h
 ·intro i o ho;rcases hlk i with ⟨T,cs0,t,z,h1,h2,_,b,us,h3,h4,h5⟩ | ⟨h1,h2⟩
  ·rw[h1] at ho;cases ho;obtain⟨b',us',g1,g2,_⟩:=S.obs i _ h2;rw[h3] at g1;cases g1;exact⟨b,us,h3,g2,h4,a0Z (RT.up h5 (fun k hk=>⟨hk,(fun e=>by cases e)⟩))⟩
  ·have ho':lku G.o i=some o:=by rw[<- h1]; exact ho
   have:=S.obs i o ho';cases o with
   | box T cs =>
     obtain⟨b,us,g1,g2,g3,g4⟩:=this;exact⟨b,us,g1,g2,g3.we hw (fun j hj e=>by subst e; exact h2 _ b ho' g1 hj),g4.mono hle⟩
   | arr T fr t xs ver =>
     obtain⟨cs,g1,g2,g3⟩:=this;exact⟨cs,g1.we hw (fun j hj e=>h2 _ j ho' e hj),g2.mapR (fun c x hr=>RT.same (w:=G.w) hle.hR hr),g3⟩
   | grd T Te fr t xs hole =>
     obtain⟨vs,bs,g1,g2,g3⟩:=this;refine⟨vs,bs,g1.we hw (fun j hj e=>h2 _ j ho' e hj),g2.up hle (fun _=>Iff.rfl) hw (fun b hb hgb=>?_),g3⟩;rcases hu with ⟨rfl,_⟩ | ⟨id,b',T,cs0,t,z,rfl,_,ho2,hγ,_⟩
     ·cases hgb
     ·cases hgb;exact(S.sep i b hb (by rw[ho']; rfl)).2.2.1 id _ ho2 hγ
 ·intro i i' o o' b ho ho' hb hb';obtain⟨o1,h1⟩:=hback i o ho;obtain⟨o2,h2⟩:=hback i' o' ho';exact S.inj i i' o1 o2 b h1 h2 hb hb'
 ·intro i o b ho hb;obtain⟨o1,h1⟩:=hback i o ho;exact hdis i o1 b h1 hb
 ·intro i o b ho hb;obtain⟨o1,h1⟩:=hback i o ho;exact S.own i o1 b h1 hb
theorem Sat.add{X:Cx}{G:Gh}(S:Sat X G){id:Nat}{ob:Ob}{r:Value}{g:Option Nat}(hd:lku G.o id=none)(hg:∀b,g=some b->(X.w0.heap.size<=b∨X.io b)/\¬G.K b/\(∀i o,lku G.o i=some o->G.γ i≠some b)/\∀i,G.δ i b->H5 (lku G.o i)=true->False)
  (hob:GLe G (G.put id ob r g G.w)->ObR (G.put id ob r g G.w) id ob):Sat X (G.put id ob r g G.w)/\GLe G (G.put id ob r g G.w):=by
 have hlk:∀i,lku (G.put id ob r g G.w).o i=if id=i then some ob else lku G.o i:=fun i=>lK _ _ _ _
 have hne:∀i o,lku G.o i=some o->¬id=i:=fun i o h e=>by subst e; rw[hd] at h; cases h
 have hle:GLe G (G.put id ob r g G.w):=by
  refine⟨rfl,fun k hk _=>⟨hk,rfl⟩,fun i T cs hi=>?_,fun i T Te fr t xs hole hi=>?_,fun i T fr t xs ver hi=>?_⟩
  ·have e:=hne i _ hi;rw[hlk,if_neg e];simp only[Gh.put,if_neg (Ne.symm e)];exact⟨trivial,_,_,hi⟩
  ·have e:=hne i _ hi;rw[hlk,if_neg e];simp only[Gh.put,if_neg (Ne.symm e)];exact⟨trivial,_,_,_,_,_,_,hi⟩
  ·have e:=hne i _ hi;rw[hlk,if_neg e];simp only[Gh.put,if_neg (Ne.symm e)];exact⟨_,_,_,_,_,hi,Nat.le_refl _,fun _=>trivial⟩
 refine⟨⟨S.base,S.os,S.tape,S.output,S.size,S.block,?_,?_,?_,?_,S.klt,S.kfrom,fun i b hb hgd=>?_,fun i v h=>(S.pin i v h).mono hle⟩,hle⟩
 rotate_right
 ·obtain⟨hn,hb⟩:=hb;rw[hlk,if_neg (Ne.symm hn)] at hgd;obtain⟨s1,s2,s3,s4⟩:=S.sep i b hb hgd;refine⟨s1,s2,fun j o ho hj=>?_,fun j hj hgj=>?_⟩
  ·rw[hlk] at ho;simp only[Gh.put] at hj;by_cases e:j=id
   ·rw[if_pos e] at hj;exact(hg b hj).2.2.2 i hb hgd
   ·rw[if_neg e] at hj;rw[if_neg (Ne.symm e)] at ho;exact s3 j o ho hj
  ·obtain⟨hn',hj⟩:=hj;rw[hlk,if_neg (Ne.symm hn')] at hgj;exact s4 j hj hgj
 ·intro i o ho;rw[hlk] at ho;by_cases e:id=i
  ·subst e;rw[if_pos rfl] at ho;cases ho;exact hob hle
  ·rw[if_neg e] at ho;have:=S.obs i o ho;cases o with
   | box T cs =>
     obtain⟨b,us,h1,h2,h3,h4⟩:=this;exact⟨b,us,by simp only[Gh.put,if_neg (Ne.symm e)]; exact h1,by simp only[Gh.put,if_neg (Ne.symm e)]; exact h2,h3,h4.mono hle⟩
   | arr T fr t xs ver =>
     obtain⟨cs,h1,h2,h3⟩:=this;exact⟨cs,by simp only[Gh.put,if_neg (Ne.symm e)]; exact h1,h2,by simp only[Gh.put,if_neg (Ne.symm e)]; exact h3⟩
   | grd T Te fr t xs hole =>
     obtain⟨vs,bs,h1,h2,h3⟩:=this;exact⟨vs,bs,by simp only[Gh.put,if_neg (Ne.symm e)]; exact h1,h2.up hle (fun b=>⟨fun h=>h.2,fun h=>⟨Ne.symm e,h⟩⟩) (WE.refl (g:=none) _) (fun _ _ h=>by cases h),by simp only[Gh.put,if_neg (Ne.symm e)]; exact h3⟩
 ·intro i i' o o' b ho ho' hb hb';rw[hlk] at ho ho';simp only[Gh.put] at hb hb';by_cases e:i=id
  ·by_cases e':i'=id
   ·rw[e,e']
   ·rw[if_pos e] at hb;rw[if_neg e'] at hb';rw[if_neg (Ne.symm e')] at ho';exact((hg b hb).2.2.1 i' o' ho' hb').elim
  ·rw[if_neg e] at hb;rw[if_neg (Ne.symm e)] at ho;by_cases e':i'=id
   ·rw[if_pos e'] at hb';exact((hg b hb').2.2.1 i o ho hb).elim
   ·rw[if_neg e'] at hb';rw[if_neg (Ne.symm e')] at ho';exact S.inj i i' o o' b ho ho' hb hb'
 ·intro i o b ho hb hk;rw[hlk] at ho;simp only[Gh.put] at hb hk;by_cases e:i=id
  ·rw[if_pos e] at hb;exact(hg b hb).2.1 hk
  ·rw[if_neg e] at hb;rw[if_neg (Ne.symm e)] at ho;exact S.imm i o b ho hb hk
 ·intro i o b ho hb;rw[hlk] at ho;simp only[Gh.put] at hb;by_cases e:i=id
  ·rw[if_pos e] at hb;exact(hg b hb).1
  ·rw[if_neg e] at hb;rw[if_neg (Ne.symm e)] at ho;exact S.own i o b ho hb
mutual
def D9(d:Nat):Nat->AV->AV×List (Nat×Ob)×Nat
 | j,.ow T fr t xs=>(.os (1000*j+d) 0,[(1000*j+d,.arr T fr t xs 0)],j+1)
 | j,.ob T xs=>match K9 d j xs with | (ys,o,k)=>(.ptr (1000*k+d) 0,(1000*k+d,.box T ys) :: o,k+1)
 | j,.agg xs=>match K9 d j xs with | (ys,o,k)=>(.agg ys,o,k)
 | j,.tup xs=>match K9 d j xs with | (ys,o,k)=>(.tup ys,o,k)
 | j,.v x=>(.v x,[],j)
 | j,.d fr t x=>(.d fr t x,[],j)
 | j,a=>(a,[],j)
def K9(d:Nat):Nat->List AV->List AV×List (Nat×Ob)×Nat
 | j,[]=>([],[],j)
 | j,a :: r=>match D9 d j a with
   | (b,o,k)=>match K9 d k r with | (s,o',k')=>(b :: s,o'++o,k')
end
theorem m0p{β:Type}{l m:List (Nat×β)}{i:Nat}(h:∀x∈l,x.1≠i):lku (l++m) i=lku m i:=by
 induction l with
 | nil=>rfl
 | cons x r ih =>
   obtain⟨d,v⟩:=x;rw[List.cons_append,lK,if_neg (h (d,v) (by simp))];exact ih (fun y hy=>h y (by simp[hy]))
structure t0g(X:Cx)(d j k:Nat)(G:Gh)(obs:List (Nat×Ob))(gs:List (Option Nat))(G':Gh):Prop where
 sat:Sat X G'
 le:GLe G G'
 w:G'.w=G.w
 K:G'.K=G.K
 o:G'.o=obs++G.o
 jk:j<=k
 num:∀x∈obs,∃i,j<=i/\i<k/\x.1=1000*i+d
 far:∀b,some b ∉ gs->(∀i o,lku G.o i=some o->G.γ i≠some b)->∀i o,lku G'.o i=some o->G'.γ i≠some b
 dl:∀i b,G'.δ i b->H5 (lku G'.o i)=true->G.δ i b/\H5 (lku G.o i)=true
def v0H(X:Cx)(G:Gh)(gs:List (Option Nat)):Prop:=∀b,some b∈gs->X.w0.heap.size<=b/\¬G.K b/\(∀i o,lku G.o i=some o->G.γ i≠some b)/\∀i,G.δ i b->H5 (lku G.o i)=true->False
theorem k0X:∀{g h:List (Option Nat)},i0g (g++h)->i0g g/\i0g h/\∀b,some b∈g->some b ∉ h
 | [],h,k=>⟨trivial,k,fun _ hb=>by cases hb⟩
 | x :: r,h,⟨k1,k2⟩=>by
   obtain⟨a1,a2,a3⟩:=k0X k2;refine⟨⟨fun b hb hm=>k1 b hb (by simp[hm]),a1⟩,a2,fun b hb hm=>?_⟩;rcases List.mem_cons.1 hb with e | hb
   ·exact k1 b e.symm (by simp[hm])
   ·exact a3 b hb hm
theorem f0G{X:Cx}{d j:Nat}{G:Gh}(S:Sat X G){gs:List (Option Nat)}:t0g X d j j G [] gs G :=
 ⟨S,GLe.refl G,rfl,rfl,rfl,Nat.le_refl _,(fun _ h=>by cases h),(fun _ _ h=>h),fun _ _ h h'=>⟨h,h'⟩⟩
mutual
theorem h0a{X:Cx}{d:Nat}{K:Bool->Nat->Prop}:∀(a:AV) {j k:Nat} {b:AV} {obs:List (Nat×Ob)} {G:Gh} {u:Value} {gs:List (Option Nat)},D9 d j a=(b,obs,k)->Sat X G->(∀fr i,K fr i->rg G fr i)->ResR K G.w a u gs->i0g gs->v0H X G gs->(∀x∈obs,lku G.o x.1=none) ->
  ∃G',t0g X d j k G obs gs G'/\AVR G' b u
 | .ow T fr t xs,j,k,b,obs,G,u,gs,h,S,hK,hR,hN,hF,hfr=>by
   simp only[D9,pj] at h;obtain⟨rfl,rfl,rfl⟩:=h;obtain⟨g,cs,rfl,h1,hO,hA⟩:=hR;have hd:=hfr _ (List.mem_singleton.2 rfl);have hp:=S.add (id:=1000*j+d) (ob:=.arr T fr t xs 0) (r:=u) (g:=g) hd (fun b hb=>let h:=hF b (by simp[hb]); ⟨.inl h.1,h.2⟩) (fun hle=>⟨cs,by simp only[Gh.put,if_true]; exact hO,hA.mapR (fun c x hr=>RT.same (w:=G.w) (fun k hk _=>⟨hK fr k hk,rfl⟩) hr),fun b e=>by simp only[Gh.put,if_true] at e ⊢; subst e; exact Nat.le_trans S.le (hF b (by simp)).1⟩);refine⟨_,⟨hp.1,hp.2,rfl,rfl,rfl,Nat.le_succ _,fun x hx=>?_,fun b hb hold i o hi=>?_,fun i b hb hgd=>?_⟩,h1,T,fr,t,xs,0,?_,Nat.le_refl _,fun _=>by simp[Gh.put]⟩
   ·cases List.mem_singleton.1 hx;exact⟨j,Nat.le_refl _,Nat.lt_succ_self _,rfl⟩
   ·rw[show(Gh.put G (1000*j+d) (.arr T fr t xs 0) u g G.w).o=(1000*j+d,.arr T fr t xs 0) :: G.o from rfl,lK] at hi;simp only[Gh.put];by_cases e:i=1000*j+d
    ·rw[if_pos e];intro e';exact hb (by simp[e'])
    ·rw[if_neg e];rw[if_neg (Ne.symm e)] at hi;exact hold i o hi
   ·obtain⟨hn,hb⟩:=hb;rw[show(Gh.put G (1000*j+d) (.arr T fr t xs 0) u g G.w).o=(1000*j+d,.arr T fr t xs 0) :: G.o from rfl,lK,if_neg (Ne.symm hn)] at hgd;exact⟨hb,hgd⟩
   ·rw[show(Gh.put G (1000*j+d) (.arr T fr t xs 0) u g G.w).o=(1000*j+d,.arr T fr t xs 0) :: G.o from rfl,lK]; simp
 | .agg xs,j,k,b,obs,G,u,gs,h,S,hK,⟨us,e,hR⟩,hN,hF,hfr=>by
   simp only[D9] at h;cases hp:K9 d j xs with
   | mk ys r =>
     obtain⟨o,k'⟩:=r;rw[hp] at h;simp only[pj] at h;obtain⟨rfl,rfl,rfl⟩:=h;obtain⟨G',h1,h2⟩:=c0D xs hp S hK hR hN hF hfr;exact⟨G',h1,us,e,h2⟩
 | .tup xs,j,k,b,obs,G,u,gs,h,S,hK,⟨us,e,hR⟩,hN,hF,hfr=>by
   simp only[D9] at h;cases hp:K9 d j xs with
   | mk ys r =>
     obtain⟨o,k'⟩:=r;rw[hp] at h;simp only[pj] at h;obtain⟨rfl,rfl,rfl⟩:=h;obtain⟨G',h1,h2⟩:=c0D xs hp S hK hR hN hF hfr;exact⟨G',h1,us,e,h2⟩
 | .v x,j,k,b,obs,G,u,gs,h,S,hK,⟨hR,e⟩,hN,hF,hfr=>by
   simp only[D9,pj] at h;obtain⟨rfl,rfl,rfl⟩:=h;exact⟨G,f0G S,hR⟩
 | .d fr t x,j,k,b,obs,G,u,gs,h,S,hK,⟨hR,e⟩,hN,hF,hfr=>by
   simp only[D9,pj] at h;obtain⟨rfl,rfl,rfl⟩:=h;exact⟨G,f0G S,RT.same (w:=G.w) (fun k hk _=>⟨hK fr k hk,rfl⟩) hR⟩
 | .ptr _ _,_,_,_,_,_,_,_,_,_,_,hR,_,_,_=>hR.elim
 | .pel _ _ _ _ _,_,_,_,_,_,_,_,_,_,_,hR,_,_,_=>hR.elim
 | .os _ _,_,_,_,_,_,_,_,_,_,_,hR,_,_,_=>hR.elim
 | .fn _ _,_,_,_,_,_,_,_,_,_,_,hR,_,_,_=>hR.elim
 | .gel _ _,_,_,_,_,_,_,_,_,_,_,hR,_,_,_=>hR.elim
 | .og _,_,_,_,_,_,_,_,_,_,_,hR,_,_,_=>hR.elim
 | .ob T xs,j,k,b,obs,G,u,gs,h,S,hK,⟨b0,us,gs',eg,hu,hB,hR⟩,hN,hF,hfr=>by
   subst eg;simp only[D9] at h;cases hp:K9 d j xs with
   | mk ys r =>
     obtain⟨o,k'⟩:=r;rw[hp] at h;simp only[pj] at h;obtain⟨rfl,rfl,rfl⟩:=h;obtain⟨n1,n2⟩:=hN;have hnum:=c0n xs hp;have hle:=c0P xs hp;obtain⟨G1,P1,A1⟩:=c0D xs hp S hK hR n2 (fun b hb=>hF b (by simp[hb])) (fun x hx=>hfr x (by simp[hx]));obtain⟨f1,f2,f3,f4⟩:=hF b0 (by simp);have hd:lku G1.o (1000*k'+d)=none:=by
      rw[P1.o,m0p]
      ·exact hfr (1000*k'+d,.box T ys) (by simp)
      ·intro y hy e;obtain⟨i',hi1',hi2',hy1⟩:=hnum y hy;rw[hy1] at e;omega
     have hp:=P1.sat.add (id:=1000*k'+d) (ob:=.box T ys) (r:=u) (g:=some b0) hd (fun b hb=>by
      cases hb;exact⟨.inl f1,by rw[P1.K]; exact f2,P1.far b0 (n1 b0 rfl) f3,fun i hi hgi=>f4 i (P1.dl i b0 hi hgi).1 (P1.dl i b0 hi hgi).2⟩) (fun hle=>⟨b0,us,by simp[Gh.put],by simp[Gh.put,hu],by show Blk G1.w b0 us T; rw[P1.w]; exact hB,A1.mono hle⟩)
     have ho:(Gh.put G1 (1000*k'+d) (.box T ys) u (some b0) G1.w).o=(1000*k'+d,.box T ys) :: G1.o:=rfl;refine⟨_,⟨hp.1,GLe.trans P1.le hp.2 (by rw[P1.w]; exact Nat.le_refl _),P1.w,P1.K,by rw[ho,P1.o]; rfl,by omega,fun x hx=>?_,fun b hb hold i o hi=>?_,fun i b hb hgd=>?_⟩,⟨T,ys,by rw[ho,lK,if_pos rfl]⟩,b0,by simp[Gh.put,hu],by rw[hu]⟩
     ·rcases List.mem_cons.1 hx with rfl | hx
      ·exact⟨k',by omega,by omega,rfl⟩
      ·obtain⟨i,h1,h2,h3⟩:=P1.num x hx;exact⟨i,h1,by omega,h3⟩
     ·rw[ho,lK] at hi;simp only[Gh.put];by_cases e:i=1000*k'+d
      ·rw[if_pos e];intro e';cases e';exact hb (by simp)
      ·rw[if_neg e];rw[if_neg (Ne.symm e)] at hi;exact P1.far b (fun h=>hb (by simp[h])) hold i o hi
     ·obtain⟨hn,hb⟩:=hb;rw[ho,lK,if_neg (Ne.symm hn)] at hgd;exact P1.dl i b hb hgd
theorem c0D{X:Cx}{d:Nat}{K:Bool->Nat->Prop}:∀(as':List AV) {j k:Nat} {bs:List AV} {obs:List (Nat×Ob)} {G:Gh} {us:List Value} {gs:List (Option Nat)},K9 d j as'=(bs,obs,k)->Sat X G->(∀fr i,K fr i->rg G fr i)->ResRs K G.w as' us gs->i0g gs->v0H X G gs->(∀x∈obs,lku G.o x.1=none) ->
  ∃G',t0g X d j k G obs gs G'/\AVRs G' bs us
 | [],j,k,bs,obs,G,us,gs,h,S,hK,⟨hR,e⟩,hN,hF,hfr=>by
   simp only[K9,pj] at h;obtain⟨rfl,rfl,rfl⟩:=h;exact⟨G,f0G S,hR⟩
 | a :: r,j,k,bs,obs,G,us,gs,h,S,hK,⟨u,us',g1,g2,e1,e2,hR1,hR2⟩,hN,hF,hfr=>by
   subst e1; subst e2;simp only[K9] at h;cases hp:D9 d j a with
   | mk b q =>
     obtain⟨o,k1⟩:=q;rw[hp] at h;simp only at h;cases hp2:K9 d k1 r with
     | mk s q =>
       obtain⟨o',k2⟩:=q;rw[hp2] at h;simp only[pj] at h;obtain⟨rfl,rfl,rfl⟩:=h;obtain⟨n1,n2,n3⟩:=k0X hN;obtain⟨G1,P1,A1⟩:=h0a a hp S hK hR1 n1 (fun b hb=>hF b (by simp[hb])) (fun x hx=>hfr x (by simp[hx]));have hF2:v0H X G1 g2:=fun b hb=>by
        obtain⟨f1,f2,f3,f4⟩:=hF b (by simp[hb]);exact⟨f1,by rw[P1.K]; exact f2,P1.far b (fun h=>n3 b h hb) f3,fun i hi hgi=>f4 i (P1.dl i b hi hgi).1 (P1.dl i b hi hgi).2⟩
       have hfr2:∀x∈o',lku G1.o x.1=none:=fun x hx=>by
        obtain⟨i,hi1,hi2,hx1⟩:∃i,k1<=i/\i<k2/\x.1=1000*i+d:=by
         exact c0n r hp2 x hx
        rw[P1.o,m0p]
        ·exact hfr x (by simp[hx])
        ·intro y hy e;obtain⟨i',hi1',hi2',hy1⟩:=P1.num y hy;rw[hy1,hx1] at e;omega
       obtain⟨G2,P2,A2⟩:=c0D r hp2 P1.sat (fun fr i hi=>by obtain⟨h1,h2⟩:=hK fr i hi; exact⟨by rw[P1.K]; exact h1,fun e=>by rw[P1.le.hB]; exact h2 e⟩) (by rw[P1.w]; exact hR2) n2 hF2 hfr2;refine⟨G2,⟨P2.sat,?_,P2.w.trans P1.w,P2.K.trans P1.K,?_,Nat.le_trans P1.jk P2.jk,?_,?_,fun i b hb hgd=>P1.dl i b (P2.dl i b hb hgd).1 (P2.dl i b hb hgd).2⟩,u,us',rfl,A1.mono P2.le,A2⟩
       ·exact GLe.trans P1.le P2.le (by rw[P1.w]; exact Nat.le_refl _)
       ·rw[P2.o,P1.o,List.append_assoc]
       ·intro x hx;rcases List.mem_append.1 hx with hx | hx
        ·obtain⟨i,h1,h2,h3⟩:=P2.num x hx;exact⟨i,Nat.le_trans P1.jk h1,h2,h3⟩
        ·obtain⟨i,h1,h2,h3⟩:=P1.num x hx;exact⟨i,h1,Nat.lt_of_lt_of_le h2 P2.jk,h3⟩
       ·intro b hb hold;exact P2.far b (fun h=>hb (by simp[h])) (P1.far b (fun h=>hb (by simp[h])) hold)
theorem h0b{d:Nat}:∀(a:AV) {j k:Nat} {b:AV} {obs:List (Nat×Ob)},D9 d j a=(b,obs,k)->(∀x∈obs,∃i,j<=i/\i<k/\x.1=1000*i+d)/\j<=k
 | .ow T fr t xs,j,k,b,obs,h=>by
   simp only[D9,pj] at h;obtain⟨rfl,rfl,rfl⟩:=h;refine⟨fun x hx=>?_,Nat.le_succ _⟩;cases List.mem_singleton.1 hx;exact⟨j,Nat.le_refl _,Nat.lt_succ_self _,rfl⟩
 | .agg xs,j,k,b,obs,h=>by
   simp only[D9] at h;cases hp:K9 d j xs with
   | mk ys r =>
     obtain⟨o,k'⟩:=r;rw[hp] at h;simp only[pj] at h;obtain⟨rfl,rfl,rfl⟩:=h;exact⟨c0n xs hp,c0P xs hp⟩
 | .tup xs,j,k,b,obs,h=>by
   simp only[D9] at h;cases hp:K9 d j xs with
   | mk ys r =>
     obtain⟨o,k'⟩:=r;rw[hp] at h;simp only[pj] at h;obtain⟨rfl,rfl,rfl⟩:=h;exact⟨c0n xs hp,c0P xs hp⟩
 | .v x,j,k,b,obs,h=>by simp only[D9,pj] at h; obtain⟨rfl,rfl,rfl⟩:=h; exact⟨(fun _ h=>by cases h),Nat.le_refl _⟩
 | .d fr t x,j,k,b,obs,h=>by simp only[D9,pj] at h; obtain⟨rfl,rfl,rfl⟩:=h; exact⟨(fun _ h=>by cases h),Nat.le_refl _⟩
 | .ptr _ _,j,k,b,obs,h=>by simp only[D9,pj] at h; obtain⟨rfl,rfl,rfl⟩:=h; exact⟨(fun _ h=>by cases h),Nat.le_refl _⟩
 | .pel _ _ _ _ _,j,k,b,obs,h=>by simp only[D9,pj] at h; obtain⟨rfl,rfl,rfl⟩:=h; exact⟨(fun _ h=>by cases h),Nat.le_refl _⟩
 | .os _ _,j,k,b,obs,h=>by simp only[D9,pj] at h; obtain⟨rfl,rfl,rfl⟩:=h; exact⟨(fun _ h=>by cases h),Nat.le_refl _⟩
 | .fn _ _,j,k,b,obs,h=>by simp only[D9,pj] at h; obtain⟨rfl,rfl,rfl⟩:=h; exact⟨(fun _ h=>by cases h),Nat.le_refl _⟩
 | .gel _ _,j,k,b,obs,h=>by simp only[D9,pj] at h; obtain⟨rfl,rfl,rfl⟩:=h; exact⟨(fun _ h=>by cases h),Nat.le_refl _⟩
 | .og _,j,k,b,obs,h=>by simp only[D9,pj] at h; obtain⟨rfl,rfl,rfl⟩:=h; exact⟨(fun _ h=>by cases h),Nat.le_refl _⟩
 | .ob T xs,j,k,b,obs,h=>by
   simp only[D9] at h;cases hp:K9 d j xs with
   | mk ys r =>
     obtain⟨o,k'⟩:=r;rw[hp] at h;simp only[pj] at h;obtain⟨rfl,rfl,rfl⟩:=h;have hnum:=c0n xs hp;have hle:=c0P xs hp;refine⟨fun x hx=>?_,by omega⟩;rcases List.mem_cons.1 hx with rfl | hx
     ·exact⟨k',hle,by omega,rfl⟩
     ·obtain⟨i,h1,h2,h3⟩:=hnum x hx;exact⟨i,h1,by omega,h3⟩
theorem c0P{d:Nat}:∀(as':List AV) {j k:Nat} {bs:List AV} {obs:List (Nat×Ob)},K9 d j as'=(bs,obs,k)->j<=k
 | [],j,k,bs,obs,h=>by simp only[K9,pj] at h; obtain⟨rfl,rfl,rfl⟩:=h; exact Nat.le_refl _
 | a :: r,j,k,bs,obs,h=>by
   simp only[K9] at h;cases hp:D9 d j a with
   | mk b q =>
     obtain⟨o,k1⟩:=q;rw[hp] at h;simp only at h;cases hp2:K9 d k1 r with
     | mk s q =>
       obtain⟨o',k2⟩:=q;rw[hp2] at h;simp only[pj] at h;obtain⟨rfl,rfl,rfl⟩:=h;exact Nat.le_trans (h0b a hp).2 (c0P r hp2)
theorem c0n{d:Nat}:∀(as':List AV) {j k:Nat} {bs:List AV} {obs:List (Nat×Ob)},K9 d j as'=(bs,obs,k)->∀x∈obs,∃i,j<=i/\i<k/\x.1=1000*i+d
 | [],j,k,bs,obs,h=>by simp only[K9,pj] at h; obtain⟨rfl,rfl,rfl⟩:=h; exact fun _ h=>by cases h
 | a :: r,j,k,bs,obs,h=>by
   simp only[K9] at h;cases hp:D9 d j a with
   | mk b q =>
     obtain⟨o,k1⟩:=q;rw[hp] at h;simp only at h;cases hp2:K9 d k1 r with
     | mk s q =>
       obtain⟨o',k2⟩:=q;rw[hp2] at h;simp only[pj] at h;obtain⟨rfl,rfl,rfl⟩:=h;intro x hx;rcases List.mem_append.1 hx with hx | hx
       ·obtain⟨i,h1,h2,h3⟩:=c0n r hp2 x hx;exact⟨i,Nat.le_trans (h0b a hp).2 h1,h2,h3⟩
       ·obtain⟨i,h1,h2,h3⟩:=(h0b a hp).1 x hx;exact⟨i,h1,Nat.lt_of_lt_of_le h2 (c0P r hp2),h3⟩
end
def e0J:(ps:List Par)->IOT ps->List AV
 | [],_=>[]
 | .io _ t :: _,z=>u1 false t z
 | .dat _ :: r,z=>e0J r z
 | .agg _ :: r,z=>e0J r z
 | .fn _ _ :: r,z=>e0J r z
 | .nof _ :: r,z=>e0J r z
 | .os _ _ :: r,z=>e0J r z
def X9(o:List (Nat×Ob))(ps:List Par)(z:IOT ps):Option Nat->List (Nat×Ob)
 | none=>[]
 | some id=>match lku o id with
   | some (.box T _)=>[(id,.box T (e0J ps z))]
   | _=>[]
def h0n{α:Type}:List α->Bool
 | []=>true
 | _ :: _=>false
theorem e0g{α:Type}{l:List α}(h:h0n l=true):l=[]:=by cases l with
 | nil=>rfl
 | cons a b=>cases h
def isNone{α:Type}:Option α->Bool
 | none=>true
 | some _=>false
def b0X(o:List (Nat×Ob)):List (Nat×Ob)->Bool
 | []=>true
 | (i,_) :: r=>Z2 o i&&b0X o r
def k0U(i:Nat):List Nat->Bool
 | []=>true
 | x :: r=>!Nat.beq x i&&k0U i r
def C0z(l:List Nat):Option Nat->Bool
 | none=>true
 | some i=>k0U i l
def D0L:List Par->List AV->Bool
 | .fn f _ :: r,.fn f' _ :: s=>Nat.beq f f'&&D0L r s
 | .nof f :: r,.fn f' _ :: s=>Nat.beq f f'&&D0L r s
 | _ :: r,_ :: s=>D0L r s
 | _,_=>true
/- Data that lead V0 new memory alone, or nowhere. -/
mutual
def d0A:AV->Bool
 | .d fr t _=>fr||D8 t
 | .ow _ fr t _=>fr||D8 t
 | .ob _ xs=>f0Q xs
 | .agg xs=>f0Q xs
 | .tup xs=>f0Q xs
 | _=>true
def f0Q:List AV->Bool
 | []=>true
 | a :: r=>d0A a&&f0Q r
end
mutual
theorem ResR.fresh{K K':Bool->Nat->Prop}{w:World}(hK:∀fr k,K true k->K' fr k):∀{a:AV} {u:Value} {gs:List (Option Nat)},d0A a=true->ResR K w a u gs->ResR K' w a u gs
 | .v _,_,_,_,h=>h
 | .d fr t x,u,gs,hf,⟨h,e⟩=>by
   refine⟨?_,e⟩;simp only[d0A,Bool.or_eq_true] at hf;rcases hf with hf | hf
   ·subst hf; exact RT.up h (fun k hk=>hK _ k hk)
   ·exact RT.free hf h
 | .ow T fr t xs,u,gs,hf,⟨g,cs,h1,h2,h3,h4⟩=>by
   refine⟨g,cs,h1,h2,h3,h4.mapR (fun c x h=>?_)⟩;simp only[d0A,Bool.or_eq_true] at hf;rcases hf with hf | hf
   ·subst hf; exact RT.up h (fun k hk=>hK _ k hk)
   ·exact RT.free hf h
 | .agg xs,u,gs,hf,⟨us,e,h⟩=>⟨us,e,ResRs.fresh hK (by simpa only[d0A] using hf) h⟩
 | .ob T xs,u,gs,hf,⟨b,us,gs',e1,e2,h1,h⟩=>⟨b,us,gs',e1,e2,h1,ResRs.fresh hK (by simpa only[d0A] using hf) h⟩
 | .tup xs,u,gs,hf,⟨us,e,h⟩=>⟨us,e,ResRs.fresh hK (by simpa only[d0A] using hf) h⟩
theorem ResRs.fresh{K K':Bool->Nat->Prop}{w:World}(hK:∀fr k,K true k->K' fr k):∀{as':List AV} {us:List Value} {gs:List (Option Nat)},f0Q as'=true->ResRs K w as' us gs->ResRs K' w as' us gs
 | [],_,_,_,h=>h
 | a :: r,us,gs,hf,⟨u,us',g1,g2,e1,e2,h1,h2⟩=>by
   simp only[f0Q,ba] at hf;exact⟨u,us',g1,g2,e1,e2,ResR.fresh hK hf.1 h1,ResRs.fresh hK hf.2 h2⟩
end
def D0K(o:List (Nat×Ob))(q:Prop)(rv:AV)(l:List Nat):Option Nat->Option (Prop×AV×List (Nat×Ob)×List Nat)
 | some id=>match rv,lku o id with
   | .ow T fr t xs,some (.arr _ _ _ _ ver)=>bif D8 t&&h0n l then some (q,.os id (ver+1),[(id,.arr T fr t xs (ver+1))],[id]) else none
   | _,_=>none
 | none=>none
def m0M(o:List (Nat×Ob))(d f:Nat)(as':List AV):List Ct->Option (Prop×AV×List (Nat×Ob)×List Nat)
 | []=>none
 | c :: r=>bif Nat.beq c.f f&&D0L c.ps as' then(match O2 o c.ps as' with
   | some (x,l,io)=>match c.res x with
     | ⟨q,rv,z⟩=>bif giv c.ps then D0K o q rv l io else(match D9 d 0 rv with
       | (av,obs,_)=>bif C0z l io&&b0X o obs&&(h0n l||(d0A rv&&isNone io)) then some (q,av,obs++X9 o c.ps z io,(obs.map Prod.fst)++(l++io.toList)) else none)
   | none=>none) else m0M o d f as' r
def t0t(T:List Ct)(st:St)(p:Pa)(d:Nat):Op->Option (Prop×AV×List (Nat×Ob)×List Nat)
 | .call ⟨.value x,xs,_⟩=>match rd st p x,rds st p xs.toList with
   | some (.fn f caps),some as'=>m0M st.o d f (as'++caps) T
   | _,_=>none
 | _=>none
def Cl(X:Cx)(G:Gh)(a:Act)(op:Op)(ty:TypeId)(av:AV)(obs:List (Nat×Ob)):Prop :=
 ∃f vs,(∀dst pos after g,(execOp a.eval ⟨dst,op,ty,pos,after,g⟩).run X.P G.w=.ok (.enter f vs) G.w) /\
  Calls X.P f vs G.w fun en w'=>∃v G',en=.returned v/\G'.w=w'/\Sat X G'/\GLe G G'/\G'.o=obs++G.o/\AVR G' av v
theorem h0N{o:List (Nat×Ob)}:∀{l:List (Nat×Ob)},b0X o l=true->∀x∈l,lku o x.1=none
 | [],_,_,h=>by cases h
 | (i,b) :: r,h,x,hx=>by
   simp only[b0X,ba] at h;rcases List.mem_cons.1 hx with rfl | hx
   ·exact c0c h.1
   ·exact h0N h.2 x hx
theorem d0o{i:Nat}:∀{l:List Nat},k0U i l=true->i ∉ l
 | [],_,h=>by cases h
 | x :: r,h,hx=>by
   simp only[k0U,ba,Bool.not_eq_true'] at h;rcases List.mem_cons.1 hx with rfl | hx
   ·simp at h
   ·exact d0o h.2 hx
theorem IOR.get{K:Nat->Prop}{w:World}{b:Nat}:∀{ps:List Par} {z:IOT ps} {Ka:Nat->Prop} {wa:World} {x:w9 ps} {vs:List Value},¬giv ps=true->IOR K w (some b) ps z->ArgsR Ka wa (some b) ps x vs->∃t,∃z':den t,∃T us cs0,e0J ps z=u1 false t z'/\Blk w b us T/\RT K w t us z'/\Blk wa b cs0 T
 | [],_,_,_,_,_,_,_,h=>by cases h.2
 | .os _ _ :: r,_,_,_,_,_,hv,_,_=>(hv rfl).elim
 | .io T t :: r,z,_,_,x,vs,_,⟨b',cs,e,hB,hR⟩,⟨b2,cs2,us,_,e2,_,hB2,_⟩=>by cases e; cases e2; exact⟨t,z,T,cs,_,rfl,hB,hR,hB2⟩
 | .dat _ :: r,z,_,_,x,vs,hv,h,⟨_,_,_,_,k⟩=>IOR.get (ps:=r) hv h k
 | .agg _ :: r,z,_,_,x,vs,hv,h,⟨_,_,_,_,k⟩=>IOR.get (ps:=r) hv h k
 | .fn _ _ :: r,z,_,_,x,vs,hv,h,⟨_,_,_,_,k⟩=>IOR.get (ps:=r) hv h k
 | .nof _ :: r,z,_,_,x,vs,hv,h,⟨_,_,k⟩=>IOR.get (ps:=r) hv h k
theorem h0L{o:List (Nat×Ob)}:∀{ps:List Par} {as':List AV} {x:w9 ps} {l:List Nat} {io:Option Nat},O2 o ps as'=some (x,l,io)->∀id∈l,∃ob,lku o id=some ob
 | [],[],x,l,io,h=>by
   simp only[O2,oi,pj] at h;obtain⟨_,rfl,_⟩:=h;exact fun _ h=>by cases h
 | [],_ :: _,x,l,io,h=>by simp[O2] at h
 | _ :: _,[],x,l,io,h=>by simp[O2] at h
 | p :: r,a :: as',x,l,io,h=>by
   simp only[O2] at h;split at h
   ·rename_i x1 l1 i1 h1;split at h
    ·rename_i y m j h2;have ih:=h0L h2;have hl1:∀id∈l1,∃ob,lku o id=some ob:=by
      unfold t0r at h1;split at h1
      ·split at h1
       ·rename_i hd;simp only[oi,pj] at h1;obtain⟨_,rfl,_⟩:=h1;exact c0F 24 hd
       ·cases h1
      ·split at h1
       ·rename_i hd;simp only[oi,pj] at h1;obtain⟨_,rfl,_⟩:=h1;exact c0F 24 hd
       ·cases h1
      ·rw[ce] at h1;split at h1
       ·split at h1
        ·rename_i hd;simp only[oi,pj] at h1;obtain⟨_,rfl,_⟩:=h1;exact c0F 24 hd
        ·cases h1
       ·cases h1
      ·rw[ce] at h1;split at h1
       ·simp only[oi,pj] at h1;obtain⟨_,rfl,_⟩:=h1;exact fun _ h=>by cases h
       ·cases h1
      ·split at h1
       ·rw[ce] at h1;split at h1
        ·split at h1
         ·simp only[oi,pj] at h1;obtain⟨_,rfl,_⟩:=h1;exact fun _ h=>by cases h
         ·cases h1
        ·cases h1
       ·cases h1
      ·split at h1
       ·rw[ce] at h1;split at h1
        ·split at h1
         ·simp only[oi,pj] at h1;obtain⟨_,rfl,_⟩:=h1;exact fun _ h=>by cases h
         ·cases h1
        ·cases h1
       ·cases h1
      ·cases h1
     have hl:l=l1++m:=by
      split at h <;> simp only[oi,pj,reduceCtorEq] at h
      ·exact h.2.1.symm
      ·exact h.2.1.symm
     subst hl;intro id hid;rcases List.mem_append.1 hid with h' | h'
     ·exact hl1 id h'
     ·exact ih id h'
    ·cases h
   ·cases h
theorem o0H{X:Cx}{G:Gh}(S:Sat X G){d:Nat}{as':List AV}{us:List Value}(hA:AVRs G as' us){ps:List Par}(hgv:¬giv ps=true){x:w9 ps}{l:List Nat}{io:Option Nat}(hargs:O2 G.o ps as'=some (x,l,io))(hio:C0z l io=true) :
  (∀k,Bor G l k->k<G.w.heap.size)/\∃go,ArgsR (Bor G l) G.w go ps x us/\∀(res:w9 ps->Res ps),b0X G.o (D9 d 0 (res x).r).2.1=true/\(h0n l||(d0A (res x).r&&isNone io))=true->∀(en:Ending) (w':World),
  (∃v gs,en=.returned v/\WE go G.w w'/\i0g gs/\(∀b,some b∈gs->G.w.heap.size<=b∨(giv ps=true/\go=some b))/\ResR (fun fr=>D0e fr (Bor G l) G.w w' gs) w' (res x).r v gs /\
    IOR (fun k=>(Bor G l k∨G.w.heap.size<=k)/\UFg w' G.w.heap.size k/\some k ∉ gs/\go≠some k) w' go ps (res x).z) ->
  ∃v G',en=.returned v/\G'.w=w'/\Sat X G'/\GLe G G'/\G'.o=((D9 d 0 (res x).r).2.1++X9 G.o ps (res x).z io)++G.o/\AVR G' (D9 d 0 (res x).r).1 v:=by
 have hids:=h0L hargs;obtain⟨_,go,hAR,hgo⟩:=e0L S hids hargs (fun _ h=>h) (fun i hi=>by subst hi; exact d0o hio) hA;have hKl:∀k,Bor G l k->k<G.w.heap.size:=by
  rintro k (h | ⟨id,hid,hk⟩)
  ·exact(S.klt k h).lt
  ·obtain⟨ob,ho⟩:=hids id hid;have:=S.obs id ob ho;cases ob with
   | box T cs=>obtain⟨b,us,h1,h2,h3,h4⟩:=this; rw[hk] at h1; cases h1; exact(s0U h3).lt
   | arr T fr t xs ver=>obtain⟨cs,h1,h2,_⟩:=this; rw[hk] at h1; exact(g0f h1).lt
   | grd T Te fr t xs hole=>obtain⟨vs,bs,h1,_⟩:=this; rw[hk] at h1; exact(g0f h1).lt
 have hgK:∀k,G.K k->go≠some k:=fun k hk e=>by
  rcases hgo with ⟨_,e'⟩ | ⟨id,b,T',cs',_,e',ho',hγ'⟩ | ⟨_,_,_,_,_,_,_,_,_,e'⟩
  ·rw[e'] at e; cases e
  ·rw[e'] at e; cases e; exact S.imm id _ _ ho' hγ' hk
  ·exact hgv e'
 refine⟨hKl,go,hAR,fun res hc0 en w' hpost=>?_⟩;obtain⟨v,gs,rfl,hw,hN,hgs,hR,hIO⟩:=hpost;have hc:(C0z l io=true/\b0X G.o (D9 d 0 (res x).r).2.1=true)/\(h0n l||(d0A (res x).r&&isNone io))=true:=⟨⟨hio,hc0.1⟩,hc0.2⟩;have hgs:∀b,some b∈gs->G.w.heap.size<=b:=fun b hb=>(hgs b hb).resolve_right (fun h=>hgv h.1);have hlt:∀id o b,lku G.o id=some o->G.γ id=some b->b<G.w.heap.size:=fun id o b ho hb=>by
  have:=S.obs id o ho;cases o with
  | box T cs=>obtain⟨b',us,h1,h2,h3,h4⟩:=this; rw[hb] at h1; cases h1; exact h3.lt
  | arr T fr t xs ver=>obtain⟨cs,h1,h2,_⟩:=this; exact h1.lt b hb
  | grd T Te fr t xs hole=>obtain⟨vs,bs,h1,_⟩:=this; exact h1.lt b hb
 -- the region that data may lead to now
 let K':Nat->Prop:=fun k=>G.K k∨(G.w.heap.size<=k/\UF w' k/\some k ∉ gs)
 have hbl:l=[]->∀k,Bor G l k->G.K k:=fun hnil k hk=>by
  subst hnil;rcases hk with h | ⟨id,hid,_⟩
  ·exact h
  ·cases hid
 have hcase:l=[]∨(d0A (res x).r=true/\io=none):=by
  have:=hc.2;simp only[Bool.or_eq_true,ba] at this;rcases this with h | ⟨h1,h2⟩
  ·exact .inl (e0g h)
  ·refine .inr ⟨h1,?_⟩;cases io with
   | none=>rfl
   | some i=>cases h2
 obtain⟨KR,hKR,hR⟩:∃KR:Bool->Nat->Prop,(∀fr k,KR fr k->K' k/\(fr=true->G.B<=k))/\ResR KR w' (res x).r v gs:=by
  rcases hcase with hnil | ⟨hfr,_⟩
  ·refine⟨_,fun fr k hk=>?_,hR⟩;obtain⟨h1 | h1,h2,h3⟩:=hk
   ·exact⟨.inl (hbl hnil k h1.2),fun e=>by rw[h1.1] at e; cases e⟩
   ·exact⟨.inr ⟨h1,h2.2 h1,h3⟩,fun _=>Nat.le_trans S.le (Nat.le_trans S.size h1)⟩
  ·refine⟨fun _=>D0e true (Bor G l) G.w w' gs,fun fr k hk=>?_,ResR.fresh (fun _ _ h=>h) hfr hR⟩;obtain⟨h1 | h1,h2,h3⟩:=hk
   ·cases h1.1
   ·exact⟨.inr ⟨h1,h2.2 h1,h3⟩,fun _=>Nat.le_trans S.le (Nat.le_trans S.size h1)⟩
 have hupd:(go=none/\X9 G.o ps (res x).z io=[])∨∃id b T cs0 t,∃z:den t,go=some b/\X9 G.o ps (res x).z io=[(id,Ob.box T (u1 false t z))]/\lku G.o id=some (.box T cs0)/\G.γ id=some b/\∃us,Blk w' b us T/\RT K' w' t us z:=by
  rcases hgo with ⟨rfl,rfl⟩ | ⟨id,b,T,cs,rfl,rfl,ho,hγ⟩ | ⟨_,_,_,_,_,_,_,_,_,e⟩
  rotate_right
  ·exact(hgv e).elim
  ·exact .inl ⟨rfl,rfl⟩
  ·obtain⟨t,z',T',us',cs0,e,hB,hRT,hB0⟩:=IOR.get hgv hIO hAR;obtain⟨b',us2,h1,h2,h3,h4⟩:=S.obs id _ ho;rw[hγ] at h1;cases h1;have hTT:T=T':=by
    unfold Blk at h3 hB0;rw[h3] at hB0;simp only[oi,Obj.cells.injEq] at hB0;exact hB0.2.1
   subst hTT;refine .inr ⟨id,b,T,cs,t,z',rfl,?_,ho,hγ,us',hB,RT.same (w:=w') (fun k hk _=>⟨?_,rfl⟩) hRT⟩
   ·simp only[X9,ho,e]
   ·obtain⟨h1 | h1,h2,h3,h4⟩:=hk
    ·refine .inl (hbl ?_ k h1);rcases hcase with h | ⟨_,h⟩
     ·exact h
     ·cases h
    ·exact .inr ⟨h1,h2.2 h1,h3⟩
 obtain⟨S1,L1⟩:=Sat.after S hw (K':=K') (fun k hk=>.inl hk) (by
  rintro k (h | h)
  ·exact(S.klt k h).same hw.size (hw.block k (S.klt k h).lt (hgK k h))
  ·exact h.2.1.g) (by
  rintro k (h | h)
  ·exact S.kfrom k h
  ·exact .inr (Nat.le_trans S.base.2 (Nat.le_trans S.size h.1))) (by
  rintro id o b ho hb (h | h)
  ·exact S.imm id o b ho hb h
  ·have:=hlt id o b ho hb; omega) (by
  rintro id b hb hgd (h | h)
  ·exact(S.sep id b hb hgd).2.1 h
  ·have:=S.dlt hb hgd; omega) hupd
 have hback:∀i o,lku (X9 G.o ps (res x).z io++G.o) i=some o->∃o',lku G.o i=some o':=fun i o h=>by
  rcases hupd with ⟨_,e⟩ | ⟨id,b,T,cs0,t,z,_,e,ho,_⟩
  ·rw[e] at h; exact⟨o,h⟩
  ·rw[e,List.cons_append,lK] at h;by_cases e':id=i
   ·subst e'; exact⟨_,ho⟩
   ·rw[if_neg e'] at h; exact⟨o,h⟩
 have hgb:∀i,H5 (lku (X9 G.o ps (res x).z io++G.o) i)=true->H5 (lku G.o i)=true:=fun i h=>by
  rcases hupd with ⟨_,e⟩ | ⟨id,b,T,cs0,t,z,_,e,ho,_⟩
  ·rw[e] at h; exact h
  ·rw[e,List.cons_append,lK] at h;by_cases e':id=i
   ·rw[if_pos e'] at h; cases h
   ·rw[if_neg e'] at h; exact h
 have hF:v0H X ⟨G.ρ,G.γ,K',w',X9 G.o ps (res x).z io++G.o,G.B,G.δ⟩ gs:=fun b hb=>by
  refine⟨Nat.le_trans S.size (hgs b hb),?_,fun i o hi e=>?_,fun i hi hgd=>?_⟩
  ·rintro(h | h)
   ·have:=(S.klt b h).lt; have:=hgs b hb; omega
   ·exact h.2.2 hb
  ·obtain⟨o',ho'⟩:=hback i o hi;have:=hlt i o' b ho' e;have:=hgs b hb;omega
  ·have:=S.dlt hi (hgb i hgd);have:=hgs b hb;omega
 have hfr:∀y∈(D9 d 0 (res x).r).2.1,lku (X9 G.o ps (res x).z io++G.o) y.1=none:=fun y hy=>by
  have h0:=h0N hc.1.2 y hy;cases h1:lku (X9 G.o ps (res x).z io++G.o) y.1 with
  | none=>rfl
  | some o=>obtain⟨o',h2⟩:=hback _ o h1; rw[h0] at h2; cases h2
 obtain⟨G',P,hv⟩:=h0a (K:=KR) (res x).r (d:=d) (j:=0) rfl S1 hKR hR hN hF hfr;refine⟨v,G',rfl,P.w,P.sat,GLe.trans L1 P.le hw.size,?_,hv⟩;rw[P.o,List.append_assoc]
theorem h0G{X:Cx}{G:Gh}(S:Sat X G){d f:Nat}{as':List AV}{us:List Value}(hA:AVRs G as' us):∀{T:List Ct},(∀c∈T,Ok X.P c)->∀{q:Prop} {av:AV} {obs:List (Nat×Ob)} {fp:List Nat},m0M G.o d f as' T=some (q,av,obs,fp)->q ->
  d0Q X.P f=true/\Calls X.P f us.toArray G.w fun en w'=>∃v G',en=.returned v/\G'.w=w'/\Sat X G'/\GLe G G'/\G'.o=obs++G.o/\AVR G' av v
 | [],_,q,av,obs,fp,h,_=>by cases h
 | c :: r,hT,q,av,obs,fp,h,hq=>by
   have hr:=h0G S (d:=d) hA (T:=r) (fun c hc=>hT c (by simp[hc])) (f:=f) (q:=q) (av:=av) (obs:=obs) (fp:=fp);simp only[m0M,ce] at h;split at h
   ·rename_i hf;rw[ba] at hf;have hf:=nb hf.1;split at h
    ·rename_i x l io hargs;by_cases hgv:giv c.ps=true
     ·rw[if_pos hgv] at h;unfold D0K at h;split at h
      ·rename_i id;split at h
       ·rename_i T fr t xs E' fr' t' xs' ver hrv ho;rw[ce] at h;split at h
        ·rename_i hkf;rw[ba] at hkf;have hnil:=e0g hkf.2;subst hnil;simp only[oi,pj] at h;obtain⟨rfl,rfl,rfl,_⟩:=h;obtain⟨hent,hok⟩:=hT c (by simp);refine⟨by rw[<- hf]; exact hent,?_⟩;have hids:=h0L hargs;obtain⟨_,go,hAR,hgo⟩:=e0L S hids hargs (fun _ h=>h) (fun i hi h=>by cases h) hA;have hgo:go=G.γ id:=by
          rcases hgo with ⟨e,_⟩ | ⟨id',b,T',cs',e,_,ho',_⟩ | ⟨id',_,_,_,_,_,e,hg,_⟩
          ·cases e
          ·cases e; rw[ho] at ho'; cases ho'
          ·cases e; exact hg
         subst hgo;obtain⟨_,_,_,hBB⟩:=S.obs id _ ho;have hKl:∀k,Bor G [] k->k<G.w.heap.size:=by
          rintro k (h | ⟨id,hid,hk⟩)
          ·exact(S.klt k h).lt
          ·cases hid
         rw[<- hf];refine Calls.mono (hok x hq G.w us (G.γ id) (Bor G []) hKl hAR) ?_;rintro en w' ⟨v,gs,rfl,hw,hN,hgs,hR,hIO⟩;rw[hrv] at hR;obtain⟨g,cs,rfl,hone,hO,hA2⟩:=hR;have hgb:∀b,g=some b->G.γ id=some b∨G.w.heap.size<=b:=fun b hb=>by
          rcases hgs b (by rw[hb]; simp) with h | h
          ·exact .inr h
          ·exact .inl h.2
         have hput:=S.put (id:=id) (ob:=.arr T fr t xs (ver+1)) (r:=v) (g:=g) (w':=w') (go:=G.γ id) ⟨(fun T cs h=>by rw[ho] at h; cases h),(fun T fr' t' xs' v'' h=>by rw[ho] at h; cases h; exact⟨_,_,_,_,_,rfl,Nat.le_succ _,fun e=>by omega⟩),by rw[ho]; rfl⟩
          (fun b hb=>⟨⟨_,ho⟩,hb⟩) hw hgb
          (fun hle=>⟨cs,by simp only[Gh.put,if_true]; exact hO,hA2.mapR (fun c x h=>RT.free hkf.1 h),fun b e=>by
            simp only[Gh.put,if_true] at e ⊢;rcases hgb b e with h | h
            ·exact hBB b h
            ·exact Nat.le_trans S.le (Nat.le_trans S.size h)⟩)
         exact⟨v,_,rfl,rfl,hput.1,hput.2,rfl,hone,T,fr,t,xs,ver+1,by rw[show(Gh.put G id (.arr T fr t xs (ver+1)) v g w').o=(id,.arr T fr t xs (ver+1)) :: G.o from rfl,lK]; simp,Nat.le_refl _,fun _=>by simp[Gh.put]⟩
        ·cases h
       ·cases h
      ·cases h
     rw[if_neg hgv] at h;split at h
     ·rename_i hc;simp only[ba] at hc;simp only[oi,pj] at h;obtain⟨rfl,rfl,rfl,_⟩:=h;obtain⟨hent,hok⟩:=hT c (by simp);refine⟨by rw[<- hf]; exact hent,?_⟩;obtain⟨hKl,go,hAR,hfin⟩:=o0H S (d:=d) hA hgv hargs hc.1.1;rw[<- hf];exact Calls.mono (hok x hq G.w us go (Bor G l) hKl hAR) (fun en w' hpost=>hfin c.res ⟨hc.1.2,hc.2⟩ en w' hpost)
     ·cases h
    ·cases h
   ·exact hr h hq
theorem j0c{X:Cx}{G:Gh}{a:Act}{st:St}{p:Pa}{T:List Ct}(hT:∀c∈T,Ok X.P c)(S:Sat X G)(ho:G.o=st.o)(hE:EnvR X.n G st.e a)(hp:PathP p a){op:Op}{ty:TypeId}{d:Nat}{q:Prop}{r:AV}{obs:List (Nat×Ob)}{fp:List Nat}
  (h:t0t T st p d op=some (q,r,obs,fp)) (hq:q):Cl X G a op ty r obs:=by
 unfold t0t at h;split at h
 ·rename_i x xs Ts;split at h
  ·rename_i f caps as' h1 h2;obtain⟨cs,hv,hc⟩:=B9 hE hp h1;have hA:=b0h hE hp h2;rw[<- ho] at h;obtain⟨hent,hcall⟩:=h0G S (AVRs.app hc hA) hT h hq;refine⟨f,_,fun dst pos after g=>?_,hcall⟩
   haveI:m0V X.P f:=⟨hent⟩
   have e1:xs.map a.eval=(xs.toList.map a.eval).toArray:=by rw[<- Array.toList_map]
   simp only[execOp,resolve,e1,hv];simp[Deferred.ofValue,invoke,g0b]
  ·cases h
 ·cases h
def q0d(Γ:m9)(st:St)(p:Pa)(d:Nat):Op->Option (Prop×AV×List (Nat×Ob)×List Nat)
 | .load T x=>match rd st p x,lku Γ T with
   | some (.gel id k),some ⟨_,_,_,.sl _,_⟩=>match lku st.o id with
     | some (.grd T0 Te fr t xs none)=>bif Z2 st.o d then some (k<xs.length,.os d 0,[(d,.arr Te fr t (xs.getD k []) 0),(id,.grd T0 Te fr t xs (some k))],[d,id]) else none
     | _=>none
   | _,_=>none
 | .slice T x l h none=>match rd st p x,M5 st p l,M5 st p h,lku Γ T with
   | some (.os id ver),some lo,some none,some ⟨_,_,_,.sl E,_⟩=>match lku Γ E,lku st.o id with
     | some te,some (.arr E' fr t xs ver')=>bif Nat.beq ver ver'&&Nat.beq te.size (sz t) then some (A0M (lo.getD 0) xs.length xs.length,.os id (ver+1),[(id,.arr E' fr t (z0G xs lo none) (ver+1))],[id]) else none
     | _,_=>none
   | _,_,_,_=>none
 | _=>none
def h0O(Γ:m9)(st:St)(p:Pa):Op->Option (Prop×List (Nat×Ob)×List Nat)
 | .store T x y=>match rd st p x,rd st p y,lku Γ T with
   | some (.gel id k),some (.os d ver),some ti=>match lku st.o id,lku st.o d with
     | some (.grd T0 Te fr t xs (some k')),some (.arr Te' fr' t' l ver')=>match S8 (.sl t') (.sl t) l with
       | some l'=>bif Nat.beq ver ver'&&Nat.beq Te Te'&&Nat.beq ti.size 1 then some (k<xs.length/\k=k',[(id,.grd T0 Te (fr&&fr') t (xs.set k l') none),(d,.arr Te' fr' t' [] (ver+1))],[id,d]) else none
       | none=>none
     | _,_=>none
   | _,_,_=>none
 | _=>none
def Ml(X:Cx)(G:Gh)(a:Act)(op:Op)(ty:TypeId)(av:AV)(obs:List (Nat×Ob)):Prop :=
 ∃v G',(∀dst pos after g,(execOp a.eval ⟨dst,op,ty,pos,after,g⟩).run X.P G.w=.ok (.value v) G'.w)/\Sat X G'/\GLe G G'/\G'.o=obs++G.o/\AVR G' av v
def Ul(X:Cx)(G:Gh)(a:Act)(op:Op)(ty:TypeId)(obs:List (Nat×Ob)):Prop :=
 ∃G',(∀dst pos after g,(execOp a.eval ⟨dst,op,ty,pos,after,g⟩).run X.P G.w=.ok .skip G'.w)/\Sat X G'/\GLe G G'/\G'.o=obs++G.o
theorem s0k{α:Type}{l:List α}{k:Nat}(hk:k<l.length)(z:α):l[k]?=some (l.getD k z):=by simp[hk]
section
variable {X:Cx} {G:Gh} {a:Act} {st:St} {Γ:m9} {p:Pa}
theorem y0I(S:Sat X G){id d k:Nat}{T0 Te:TypeId}{fr:Bool}{t:Ty}{xs:List (List (den t))}(ho:lku G.o id=some (.grd T0 Te fr t xs none))(hd:lku G.o d=none)(hk:k<xs.length){vs:List Value}{bs:Nat->Option Nat}
  (hO:Own G.w T0 1 (G.γ id) (G.ρ id) xs.length vs) (hR:Rows G id Te fr t xs none vs bs) (hB:∀b,G.γ id=some b->G.B<=b) :
  ∃G',Sat X G'/\GLe G G'/\G'.w=G.w/\G'.o=[(d,.arr Te fr t (xs.getD k []) 0),(id,.grd T0 Te fr t xs (some k))]++G.o/\AVR G' (.os d 0) (vs.getD k (.bool false)):=by
 have hne:¬id=d:=fun e=>by subst e; rw[ho] at hd; cases hd
 obtain⟨cs,r1,r2,r3⟩:=hR.row k hk (fun h=>by cases h);have hsep:∀b j,j<xs.length->bs j=some b->(X.w0.heap.size<=b∨X.io b)/\¬G.K b/\(∀i o,lku G.o i=some o->G.γ i≠some b)/\∀i,G.δ i b->H5 (lku G.o i)=true->id=i:=fun b j hj hb=>S.sep id b ((hR.blk b).2 ⟨j,hj,(fun h=>by cases h),hb⟩) (by rw[ho]; rfl)
 have h1:=S.grd (id:=id) (T':=T0) (Te':=Te) (fr':=fr) (t':=t) (xs':=xs) (hole':=some k) (D:=fun b=>∃j,j<xs.length/\j≠k/\bs j=some b) (w':=G.w) (go:=none) ho (fun _ e=>by cases e) (WE.refl _)
  (fun b ⟨j,hj,_,hb⟩=>by
    obtain⟨s1,s2,s3,s4⟩:=hsep b j hj hb;exact⟨s1,s2,s3,fun i hi hd hg=>hi (s4 i hd hg).symm⟩)
  (fun hle=>⟨vs,bs,hO,⟨hR.len,fun b=>⟨fun h=>?_,fun⟨j,hj,hh,hb⟩=>.inl ⟨rfl,j,hj,(fun e=>hh (by rw[e])),hb⟩⟩,fun j j' b hj hj' _ _ hb hb'=>hR.inj j j' b hj hj' (fun h=>by cases h) (fun h=>by cases h) hb hb',fun j hj _=>hR.row j hj (fun h=>by cases h),hR.one⟩,hB⟩)
 ·obtain⟨S1,L1⟩:=h1;have hlk:∀i,lku (G.grd id (.grd T0 Te fr t xs (some k)) (fun b=>∃j,j<xs.length/\j≠k/\bs j=some b) G.w).o i=if id=i then some (.grd T0 Te fr t xs (some k)) else lku G.o i:=fun i=>lK _ _ _ _
  have h2:=S1.add (id:=d) (ob:=.arr Te fr t (xs.getD k []) 0) (r:=vs.getD k (.bool false)) (g:=bs k) (by rw[hlk,if_neg hne]; exact hd)
   (fun b hb=>by
     obtain⟨s1,s2,s3,s4⟩:=hsep b k hk hb;refine⟨s1,s2,fun i o hi=>?_,fun i hi hg=>?_⟩
     ·rw[hlk] at hi;by_cases e:id=i
      ·subst e; exact s3 _ _ ho
      ·rw[if_neg e] at hi; exact s3 i o hi
     ·rw[hlk] at hg;rcases hi with ⟨_,j,hj,hjk,hjb⟩ | ⟨hi,hib⟩
      ·exact hjk (hR.inj j k b hj hk (fun h=>by cases h) (fun h=>by cases h) hjb hb)
      ·rw[if_neg (Ne.symm hi)] at hg;exact hi (s4 i hib hg).symm)
   (fun hle=>⟨cs,by simp only[Gh.put,if_true]; exact r1,r2,fun b e=>by simp only[Gh.put,if_true] at e ⊢; exact r3 b e⟩)
  obtain⟨S2,L2⟩:=h2;refine⟨_,S2,L1.trans L2 (Nat.le_refl _),rfl,rfl,hR.one _ ?_,Te,fr,t,xs.getD k [],0,by rw[show ∀G0:Gh,(Gh.put G0 d (.arr Te fr t (xs.getD k []) 0) (vs.getD k (.bool false)) (bs k) G0.w).o=(d,.arr Te fr t (xs.getD k []) 0) :: G0.o from fun _=>rfl,lK]; simp,Nat.le_refl _,fun _=>by simp[Gh.put]⟩;exact List.mem_of_getElem? (s0k (by rw[hR.len]; exact hk) _)
 ·rcases h with ⟨_,j,hj,hjk,hb⟩ | ⟨h,_⟩
  ·exact⟨j,hj,(fun e=>hjk (Option.some.inj e).symm),hb⟩
  ·exact(h rfl).elim
theorem u0u{w:World}{E s:Nat}{g:Option Nat}{pp:Option Addr}{n cap:Nat}{cs:List Value}(h:Own w E s g (.slice pp n cap) n cs){k:Nat}(hk:k<=n):∃g',(g'=none∨g'=g)/\n<=cap/\Own w E s g' (.slice (if cap=k then pp else pp.map (·.add (k*s))) (n-k) (cap-k)) (n-k) (cs.drop (k*s)):=by
 have hcl:=h.clen;rcases h with ⟨rfl,rfl,rfl,p,hv⟩ | ⟨b,o,c,cur,rfl,hv,h1,h2,h3,h4,rfl⟩
 ·cases hv;have:k=0:=by omega
  subst this;exact⟨none,.inl rfl,Nat.le_refl _,.inl ⟨rfl,rfl,by simp,pp,by simp⟩⟩
 ·cases hv;by_cases hc:cap=k
  ·refine⟨none,.inl rfl,h2,.inl ⟨rfl,by omega,?_,some ⟨b,o,none⟩,?_⟩⟩
   ·refine List.drop_eq_nil_of_le ?_;rw[hcl];exact Nat.mul_le_mul_right s (by omega)
   ·rw[if_pos hc,show n-k=0 by omega,show cap-k=0 by omega]
  ·refine⟨some b,.inr rfl,h2,.inr ⟨b,o+k*s,cap-k,cur,rfl,?_,h1,by omega,by omega,?_,?_⟩⟩
   ·rw[if_neg hc];simp only[Option.map_some];congr 2;unfold Addr.add;split
    ·rename_i h0; rw[h0]; rfl
    ·rfl
   ·have:=Nat.mul_le_mul_right s (show k<=cap by omega);rw[Nat.sub_mul,h4]; omega
   ·rw[List.drop_take,List.drop_drop,<- Nat.sub_mul]
theorem j0u(hΓ:x6 X.P Γ)(S:Sat X G)(hE:EnvR X.n G st.e a)(hp:PathP p a){T E E' ty id ver:Nat}{s0 y0:Nat}{z0:Value}{ty0:Ty}{x:Operand}{l h:Option Operand}{lo:Option Int}{fr:Bool}{t:Ty}{xs:List (den t)}{te:TI}
  (hT:lku Γ T=some ⟨s0,y0,z0,.sl E,ty0⟩) (hte:lku Γ E=some te) (ho:lku G.o id=some (.arr E' fr t xs ver)) (hs:te.size=sz t) (hx:AVR G (.os id ver) (a.eval x)) (hl:M5 st p l=some lo) (hh:M5 st p h=some none) (hq:A0M (lo.getD 0) xs.length xs.length) :
  Ml X G a (.slice T x l h none) ty (.os id (ver+1)) [(id,.arr E' fr t (z0G xs lo none) (ver+1))]:=by
 obtain⟨_,T1,fr1,t1,xs1,ver1,g1,g2,g3⟩:=hx;rw[ho] at g1;cases g1;have hu:=g3 rfl;obtain⟨cs,hO,hA,hBB⟩:=S.obs id _ ho;obtain⟨pp,cap,hv⟩:=hO.len;rw[hv] at hO hu;have hU:=(hΓ T _ hT).2.2.2.2.2;have hI:Info X.P E te.size te.bytes te.zero:=⟨(hΓ E _ hte).1⟩;obtain⟨inf,hinfo,h2,h3,h5⟩:=hI.get;have hcut:z0G xs lo none=xs.drop (lo.getD 0).toNat:=by
  rw[s0G xs lo none hq];simp
 rw[hcut];have hh':h=none:=by
  rcases e0a hE hp hh with ⟨e1,_⟩ | ⟨y,n,k,_,e2,_⟩
  ·exact e1
  ·cases e2
 subst hh';have hl':(∃n k,l=some n/\a.eval n=.int k (lo.getD 0))∨(l=none/\lo.getD 0=0):=by
  rcases e0a hE hp hl with ⟨e1,e2⟩ | ⟨y,n,k,e1,e2,e3⟩
  ·exact .inr ⟨e1,by rw[e2]; rfl⟩
  ·exact .inl ⟨y,k,e1,by rw[e2]; exact e3⟩
 generalize lo.getD 0=l0 at *
 obtain⟨q1,q2,q3⟩:=hq;have hk:l0.toNat<=xs.length:=by omega
 obtain⟨g',hg',hcap,hO'⟩:=u0u hO hk;have hrun:∀dst pos after g,(execOp a.eval ⟨dst,.slice T x l none none,ty,pos,after,g⟩).run X.P G.w=.ok (.value (.slice (if cap=l0.toNat then pp else pp.map (·.add (l0.toNat*sz t))) (xs.length-l0.toNat) (cap-l0.toNat))) G.w:=by
  intro dst pos after g;rcases hl' with ⟨n1,k1,rfl,e1⟩ | ⟨rfl,e1⟩
  ·have r2:=run_sliceBound (P:=X.P) (w:=G.w) k1 l0 xs.length .sliceB q1 q2;simp[execOp,hu,Instr.sliceAt,Instr.slice,Instr.sliceBounds,run_underlying hU,Result.andThen,S7 G.w hinfo,h2,hs,e1,r2]
  ·simp[execOp,hu,Instr.sliceAt,Instr.slice,Instr.sliceBounds,run_underlying hU,Result.andThen,S7 G.w hinfo,h2,hs,e1]
 have h:=S.put (id:=id) (ob:=.arr E' fr t (xs.drop l0.toNat) (ver+1)) (r:=.slice (if cap=l0.toNat then pp else pp.map (·.add (l0.toNat*sz t))) (xs.length-l0.toNat) (cap-l0.toNat)) (g:=g') (w':=G.w) (go:=G.γ id) ⟨(fun T cs h=>by rw[ho] at h; cases h),(fun T fr' t' xs' v'' h=>by rw[ho] at h; cases h; exact⟨_,_,_,_,_,rfl,Nat.le_succ _,fun e=>by omega⟩),by rw[ho]; rfl⟩
  (fun b hb=>⟨⟨_,ho⟩,hb⟩) (WE.refl _) (fun b hb=>by
    rcases hg' with h | h
    ·rw[h] at hb; cases hb
    ·exact .inl (h ▸ hb))
  (fun hle=>⟨cs.drop (l0.toNat*sz t),by simp only[Gh.put,if_true,List.length_drop]; exact hO',(AllR.takeD (fun c y hy=>RT.len hy) l0.toNat hA).2.mapR (fun c x hr=>RT.same (w:=G.w) hle.hR hr),fun b e=>by
    simp only[Gh.put,if_true] at e ⊢;rcases hg' with h | h
    ·rw[h] at e; cases e
    ·exact hBB b (h ▸ e)⟩)
 exact⟨_,G.put id (.arr E' fr t (xs.drop l0.toNat) (ver+1)) (.slice (if cap=l0.toNat then pp else pp.map (·.add (l0.toNat*sz t))) (xs.length-l0.toNat) (cap-l0.toNat)) g' G.w,hrun,h.1,h.2,rfl,rfl,E',fr,t,xs.drop l0.toNat,ver+1,by rw[show(Gh.put G id (.arr E' fr t (xs.drop l0.toNat) (ver+1)) _ _ _).o=(id,.arr E' fr t (xs.drop l0.toNat) (ver+1)) :: G.o from rfl,lK]; simp,Nat.le_refl _,fun _=>by simp[Gh.put]⟩
theorem p0R(hΓ:x6 X.P Γ)(S:Sat X G)(ho:G.o=st.o)(hE:EnvR X.n G st.e a)(hp:PathP p a){op:Op}{ty:TypeId}{d:Nat}{q:Prop}{r:AV}{obs:List (Nat×Ob)}{l:List Nat}
  (h:q0d Γ st p d op=some (q,r,obs,l)) (hq:q):Ml X G a op ty r obs:=by
 unfold q0d at h;split at h
 ·rename_i T x;split at h
  ·rename_i id k s0 y0 z0 E ty0 h1 h2;split at h
   ·rename_i T0 Te fr t xs h3;rw[ce] at h;split at h
    ·rename_i hf;simp only[oi,pj] at h;obtain⟨rfl,rfl,rfl,_⟩:=h;rw[<- ho] at h3 hf;have hx:=B9 hE hp h1;obtain⟨_,b,o,n,c,hρ,hx⟩:=hx;obtain⟨vs,bs,hO,hR,hB⟩:=S.obs id _ h3;have hb:G.γ id=some b:=by
      rcases hO with ⟨_,hn,_⟩ | ⟨b',o',cap,cur,hb,hv,_⟩
      ·omega
      ·rw[hρ] at hv;simp only[Value.slice.injEq,oi,Addr.mk.injEq] at hv;rw[hb,hv.1.1]
     have hat:At G.w b o vs:=by rw[hb] at hO; obtain⟨o0,c0,e0,hat⟩:=hO.at; rw[hρ] at e0; cases e0; exact hat
     have hget:=s0k (by rw[hR.len]; exact hq:k<vs.length) (.bool false);have hat1:At G.w b (o+k) [vs.getD k (.bool false)]:=by
      intro i v hv;cases i with
      | zero =>
        simp only[List.getElem?_cons_zero,oi] at hv;subst hv;have:=hat k _ hget;simpa using this
      | succ i=>simp at hv
     obtain⟨v,hrun,hv⟩:=o0i (ty:=ty) (cs:=[.v (vs.getD k (.bool false))]) (av:=.v (vs.getD k (.bool false))) hE (hΓ _ _ h2) hx hat1 ⟨_,[],rfl,rfl,rfl⟩ rfl;have hv:v=_:=hv;subst hv;obtain⟨G',S',L',hw,hO',hr⟩:=y0I S h3 (c0c hf) hq hO hR hB;exact⟨_,G',fun dst pos after g=>by rw[hw]; exact hrun dst pos after g,S',L',hO',hr⟩
    ·cases h
   ·cases h
  ·cases h
 ·rename_i T x l0 h0;split at h
  ·rename_i id ver lo s0 y0 z0 E ty0 h1 h2 h3 h4;split at h
   ·rename_i te E' fr t xs ver' h5 h6;rw[ce] at h;split at h
    ·rename_i hf;rw[ba] at hf;simp only[oi,pj] at h;obtain⟨rfl,rfl,rfl,_⟩:=h;have e1:=nb hf.1;subst e1;exact j0u hΓ S hE hp h4 h5 (by rw[ho]; exact h6) (nb hf.2) (B9 hE hp h1) h2 h3 hq
    ·cases h
   ·cases h
  ·cases h
 ·cases h
theorem t0X{vs:List Value}{k j:Nat}{u z:Value}(hk:k<vs.length):(spl vs k [u]).getD j z=if j=k then u else vs.getD j z:=by
 have e:spl vs k [u]=vs.set k u:=by
  unfold spl;rw[List.set_eq_take_append_cons_drop,if_pos hk];simp
 rw[e];by_cases h:j=k
 ·subst h; simp[hk]
 ·rw[if_neg h]; simp[List.getElem?_set_ne (Ne.symm h)]
theorem z0S(hΓ:x6 X.P Γ)(S:Sat X G){id d k ver:Nat}{T0 Te T ty:TypeId}{fr fr':Bool}{t:Ty}{xs:List (List (den t))}{l:List (den t)}{x y:Operand}{ti:TI}(hT:lku Γ T=some ti)(hs:ti.size=1)
  (ho:lku G.o id=some (.grd T0 Te fr t xs (some k))) (hd:lku G.o d=some (.arr Te fr' t l ver)) (hk:k<xs.length) (hx:AVR G (.gel id k) (a.eval x)) (hy:AVR G (.os d ver) (a.eval y)) :
  Ul X G a (.store T x y) ty [(id,.grd T0 Te (fr&&fr') t (xs.set k l) none),(d,.arr Te fr' t [] (ver+1))]:=by
 haveI:Info X.P T ti.size ti.bytes ti.zero:=⟨(hΓ T _ hT).1⟩
 have hne:¬d=id:=fun e=>by subst e; rw[ho] at hd; cases hd
 obtain⟨_,b,o,n,c,hρ,hxe⟩:=hx;obtain⟨y0,T1,fr1,t1,xs1,ver1,g1,g2,g3⟩:=hy;rw[hd] at g1;cases g1;have hye:=g3 rfl;obtain⟨cs,hOd,hA,hBd⟩:=S.obs d _ hd;have hOd':Own G.w Te (sz t) (G.γ d) (a.eval y) l.length cs:=by rw[hye]; exact hOd
 -- the row lets go of its block
 have h1:=S.put (id:=d) (ob:=.arr Te fr' t [] (ver+1)) (r:=.slice none 0 0) (g:=none) (w':=G.w) (go:=none) ⟨(fun T cs h=>by rw[hd] at h; cases h),(fun T fr' t' xs' v'' h=>by rw[hd] at h; cases h; exact⟨_,_,_,_,_,rfl,Nat.le_succ _,fun e=>by omega⟩),by rw[hd]; rfl⟩
  (fun _ e=>by cases e) (WE.refl _) (fun _ e=>by cases e) (fun hle=>⟨[],by simp only[Gh.put,if_true]; exact Own.nil,rfl,fun b e=>by simp only[Gh.put,if_true] at e; cases e⟩)
 generalize hG1:G.put d (.arr Te fr' t [] (ver+1)) (.slice none 0 0) none G.w=G1 at h1;obtain⟨S1,L1⟩:=h1;have hw1:G1.w=G.w:=by rw[<- hG1]; rfl
 have hK1:G1.K=G.K:=by rw[<- hG1]; rfl
 have hB1:G1.B=G.B:=by rw[<- hG1]; rfl
 have hlk1:∀i,lku G1.o i=if d=i then some (.arr Te fr' t [] (ver+1)) else lku G.o i:=fun i=>by rw[<- hG1]; exact lK _ _ _ _
 have hρ1:∀i,i≠d->G1.ρ i=G.ρ i:=fun i hi=>by rw[<- hG1]; simp only[Gh.put,if_neg hi]
 have hγ1:∀i,i≠d->G1.γ i=G.γ i:=fun i hi=>by rw[<- hG1]; simp only[Gh.put,if_neg hi]
 have hγd:G1.γ d=none:=by rw[<- hG1]; simp only[Gh.put,if_true]
 have hδ1:∀i b,G1.δ i b↔i≠d/\G.δ i b:=fun i b=>by rw[<- hG1]; exact Iff.rfl
 have ho1:lku G1.o id=some (.grd T0 Te fr t xs (some k)):=by rw[hlk1,if_neg hne]; exact ho
 obtain⟨vs,bs,hO,hR,hB⟩:=S1.obs id _ ho1;have hb:G1.γ id=some b:=by
  rcases hO with ⟨_,hn,_⟩ | ⟨b',o',cap,cur,hb,hv,_⟩
  ·omega
  ·rw[hρ1 id (Ne.symm hne),hρ] at hv;simp only[Value.slice.injEq,oi,Addr.mk.injEq] at hv;rw[hb,hv.1.1]
 have hbG:G.γ id=some b:=by rw[<- hγ1 id (Ne.symm hne)]; exact hb
 -- the store
 have hO':=hO;rw[hb] at hO';rcases hO' with ⟨h,_⟩ | ⟨b',o',cap,cur,hb',hv2,k1,k2,k3,k4,k5⟩
 ·cases h
 cases hb';have hρ2:G1.ρ id=.slice (some ⟨b,o,none⟩) n c:=(hρ1 id (Ne.symm hne)).trans hρ;have hoo:o'=o:=by rw[hρ2] at hv2; cases hv2; rfl
 subst hoo;have hcur:cur.toList.length=o'+cap:=by rw[Array.length_toList,k4,Nat.mul_one]
 have hcells:(a.eval y).cells.toList=[a.eval y]:=by
  have:=y0;cases hv:a.eval y <;> rw[hv] at this <;> first | rfl | (simp[Value.oneCell'] at this)
 have hBk:Blk G.w b cur.toList T0:=by unfold Blk; rw[Array.toArray_toList]; rw[hw1] at k1; exact k1
 have hst:=c0C (P:=X.P) (T:=T) (o:=o'+k) (v:=a.eval y) hcells (by rw[hs]; rfl) (j0A (fun u hu=>by cases List.mem_singleton.1 hu; exact y0)) hBk (by simp only[List.length_singleton]; omega);have hW:=e0S G.w b (spl cur.toList (o'+k) [a.eval y]).toArray;have hlenk:k<vs.length:=by rw[hR.len]; exact hk
 have hOset:Own (G.w.setRow b (spl cur.toList (o'+k) [a.eval y]).toArray) T0 1 (G1.γ id) (G1.ρ id) xs.length (spl vs k [a.eval y]):=by
  rw[hb] at hO ⊢;have:=Own.set (w':=G.w.setRow b (spl cur.toList (o'+k) [a.eval y]).toArray) (k:=k) (vs:=[a.eval y]) hO hρ2 hk rfl (fun cur' hc'=>by
   rw[k1] at hc';cases hc';rw[Nat.mul_one];exact setRow_heap G.w b cur _ T0 (0,0) (by rw[<- hw1]; exact k1))
  rwa [Nat.mul_one] at this
 have hdb:∀b',G.γ d=some b'->(X.w0.heap.size<=b'∨X.io b')/\¬G.K b'/\(∀i o,lku G1.o i=some o->G1.γ i≠some b')/\∀i,G1.δ i b'->H5 (lku G1.o i)=true->False:=fun b' hb'=>by
  refine⟨S.own d _ b' hd hb',S.imm d _ b' hd hb',fun i o hi hg=>?_,fun i hi hg=>?_⟩
  ·by_cases e:i=d
   ·subst e; rw[hγd] at hg; cases hg
   ·rw[hlk1,if_neg (Ne.symm e)] at hi;rw[hγ1 i e] at hg;exact e (S.inj i d _ _ b' hi hd hg hb')
  ·obtain⟨e,hi⟩:=(hδ1 i b').1 hi;rw[hlk1,if_neg (Ne.symm e)] at hg;exact(S.sep i b' hi hg).2.2.1 d _ hd hb'
 have h2:=S1.grd (id:=id) (T':=T0) (Te':=Te) (fr':=fr&&fr') (t':=t) (xs':=xs.set k l) (hole':=none) (D:=fun b'=>G1.δ id b'∨G.γ d=some b') (w':=G.w.setRow b (spl cur.toList (o'+k) [a.eval y]).toArray) (go:=some b) ho1 (fun b' e=>by cases e; exact hb) (by rw[hw1]; exact WE.of_wr hW)
  (fun b' hb'=>by
    rcases hb' with hb' | hb'
    ·obtain⟨s1,s2,s3,s4⟩:=S1.sep id b' hb' (by rw[ho1]; rfl);exact⟨s1,s2,s3,fun i hi hd hg=>hi (s4 i hd hg).symm⟩
    ·obtain⟨s1,s2,s3,s4⟩:=hdb b' hb';exact⟨s1,by rw[hK1]; exact s2,s3,fun i _ hd hg=>s4 i hd hg⟩)
  (fun hle=>by
    refine⟨spl vs k [a.eval y],fun j=>if j=k then G.γ d else bs j,by rw[List.length_set]; exact hOset,⟨?_,fun b'=>⟨fun h=>?_,fun h=>?_⟩,fun j j' b' hj hj' _ _ hb1 hb2=>?_,fun j hj _=>?_,fun v hv=>?_⟩,hB⟩
    ·rw[List.length_set,<- hR.len];unfold spl;simp only[List.length_append,List.length_take,List.length_drop,List.length_singleton];omega
    ·have h':G1.δ id b'∨G.γ d=some b':=by
      rcases h with ⟨_,h⟩ | ⟨h,_⟩
      ·exact h
      ·exact(h rfl).elim
     rcases h' with h' | h'
     ·obtain⟨j,hj,hjk,hjb⟩:=(hR.blk b').1 h';have hjk:j≠k:=fun e=>hjk (by rw[e]);exact⟨j,by rw[List.length_set]; exact hj,(fun h=>by cases h),by rw[if_neg hjk]; exact hjb⟩
     ·exact⟨k,by rw[List.length_set]; exact hk,(fun h=>by cases h),by rw[if_pos rfl]; exact h'⟩
    ·obtain⟨j,hj,_,hjb⟩:=h;rw[List.length_set] at hj;refine .inl ⟨rfl,?_⟩;by_cases e:j=k
     ·rw[if_pos e] at hjb; exact .inr hjb
     ·rw[if_neg e] at hjb; exact .inl ((hR.blk b').2 ⟨j,hj,(fun h=>e (Option.some.inj h).symm),hjb⟩)
    ·rw[List.length_set] at hj hj';have mix:∀i,i<xs.length->i≠k->bs i=some b'->G.γ d=some b'->False:=fun i hi hik hib hdd=>(hdb b' hdd).2.2.2 id ((hR.blk b').2 ⟨i,hi,(fun h=>hik (Option.some.inj h).symm),hib⟩) (by rw[ho1]; rfl);by_cases e:j=k
     ·by_cases e':j'=k
      ·rw[e,e']
      ·rw[if_pos e] at hb1; rw[if_neg e'] at hb2; exact(mix j' hj' e' hb2 hb1).elim
     ·by_cases e':j'=k
      ·rw[if_neg e] at hb1; rw[if_pos e'] at hb2; exact(mix j hj e hb1 hb2).elim
      ·rw[if_neg e] at hb1; rw[if_neg e'] at hb2;exact hR.inj j j' b' hj hj' (fun h=>e (Option.some.inj h).symm) (fun h=>e' (Option.some.inj h).symm) hb1 hb2
    ·rw[List.length_set] at hj;simp only[t0X hlenk];by_cases e:j=k
     ·subst e;simp only[if_true];have eg:(xs.set j l).getD j []=l:=by simp[hj]
      rw[eg];refine⟨cs,hOd'.we (w':=G.w.setRow b (spl cur.toList (o'+j) [a.eval y]).toArray) (WE.of_wr hW) (fun i hi e=>?_),hA.mapR (fun c x hr=>?_),fun b' hb'=>show G1.B<=b' from by rw[hB1]; exact hBd b' hb'⟩
      ·cases hi;exact hne (S.inj d id _ _ b hd ho e hbG)
      ·refine RT.up (RT.same (K':=rg G fr') (w:=G.w) (fun i hi hl=>⟨hi,?_⟩) hr) (fun i hi=>⟨show G1.K i from by rw[hK1]; exact hi.1,fun e=>show G1.B<=i from ?_⟩)
       ·exact hW.block i (fun e=>S.imm id _ b ho hbG (by rw[<- e]; exact hi.1))
       ·rw[ba] at e; rw[hB1]; exact hi.2 e.2
     ·simp only[if_neg e];obtain⟨cs',r1,r2,r3⟩:=hR.row j hj (fun h=>e (Option.some.inj h).symm);have eg:(xs.set k l).getD j []=xs.getD j []:=by simp[List.getElem?_set_ne (Ne.symm e)]
      rw[eg];refine⟨cs',r1.we (WE.of_wr (by rw[hw1]; exact hW)) (fun i hi e'=>?_),r2.mapR (fun c x hr=>RT.up (RT.same (w:=G1.w) hle.hR hr) (fun i hi=>⟨hi.1,fun e=>hi.2 (by rw[ba] at e; exact e.1)⟩)),r3⟩;cases hi;exact(S1.sep id b ((hR.blk b).2 ⟨j,hj,(fun h=>e (Option.some.inj h).symm),e'⟩) (by rw[ho1]; rfl)).2.2.1 id _ ho1 hb
    ·unfold spl at hv;rcases List.mem_append.1 hv with hv | hv
     ·rcases List.mem_append.1 hv with hv | hv
      ·exact hR.one v (List.mem_of_mem_take hv)
      ·cases List.mem_singleton.1 hv; exact y0
     ·exact hR.one v (List.mem_of_mem_drop hv))
 obtain⟨S2,L2⟩:=h2;refine⟨_,d0X hxe hst,S2,L1.trans L2 (by rw[hw1]; exact Nat.le_refl _),?_⟩;rw[<- hG1];rfl
theorem m0T(hΓ:x6 X.P Γ)(S:Sat X G)(ho:G.o=st.o)(hE:EnvR X.n G st.e a)(hp:PathP p a){op:Op}{ty:TypeId}{q:Prop}{obs:List (Nat×Ob)}{l:List Nat}
  (h:h0O Γ st p op=some (q,obs,l)) (hq:q):Ul X G a op ty obs:=by
 unfold h0O at h;split at h
 ·rename_i T x y;split at h
  ·rename_i id k d ver ti h1 h2 h3;split at h
   ·rename_i T0 Te fr t xs k' Te' fr' t' l0 ver' h4 h5;split at h
    ·rename_i l' h6;rw[ce] at h;split at h
     ·rename_i hf;simp only[ba] at hf;simp only[oi,pj] at h;obtain⟨rfl,rfl,_⟩:=h;obtain⟨hq,rfl⟩:=hq;have e1:=nb hf.1.1;have e2:=nb hf.1.2;subst e1; subst e2;obtain⟨e,rfl⟩:=c0k h6;cases e;rw[<- ho] at h4 h5;exact z0S hΓ S h3 (nb hf.2) h4 h5 hq (B9 hE hp h1) (B9 hE hp h2)
     ·cases h
    ·cases h
   ·cases h
  ·cases h
 ·cases h
end
def E0P:Op->Bool
 | .move _ | .assign _ | .nilCheck _ | .pick .. | .binOp .. | .unOp .. | .convert .. | .fieldAddr .. | .field .. | .load .. | .indexAddr .. | .index .. | .extract .. | .makeFunc .. | .build .. | .slice ..=>true
 | .call ⟨.builtin .len,_,_⟩ | .call ⟨.builtin .min,_,_⟩ | .call ⟨.builtin .max,_,_⟩=>true
 | _=>false
def E0R:Op->Bool
 | .alloc _ | .box .. | .makeSlice .. | .buildSlice .. | .call ⟨.builtin .append,_,_⟩=>true
 | _=>false
def E0O:Op->Bool
 | .store ..=>true
 | _=>false
def T9(Γ:m9)(T:List Ct)(st:St)(p:Pa)(o:Oper):Option (Prop×Option AV×List (Nat×Ob)×List Nat):=match o.dst with
 | some d=>bif E0P o.op then(match H7 Γ st p o.op with
   | some (q,r,l)=>some (q,some r,[],l)
   | none=>match q0d Γ st p d o.op with
     | some (q,r,obs,l)=>some (q,some r,obs,l)
     | none=>none) else bif E0R o.op then(match Z3 Γ st p d o.op with
     | some (q,r,w,l)=>some (q,some r,[w],l)
     | none=>none) else match t0t T st p d o.op with
       | some (q,r,obs,l)=>some (q,some r,obs,l)
       | none=>none
 | none=>bif E0O o.op then(match t0d Γ st p o.op with
   | some (q,w,l)=>some (q,none,[w],l)
   | none=>match h0O Γ st p o.op with
     | some (q,obs,l)=>some (q,none,obs,l)
     | none=>none) else match t0t T st p 0 o.op with
     | some (q,_,obs,l)=>some (q,none,obs,l)
     | none=>none
def d0x(all:List Oper)(e:List (Nat×Sl))(o:Oper):Option Pa:=match o.guard with
 | none=>some []
 | some (j,b)=>match B5 all j with
   | some oj=>match oj.dst with
     | some dj=>match lku e dj with
       | some ⟨q,.d _ .bool _⟩=>some ((dj,b) :: q)
       | _=>none
     | none=>none
   | none=>none
def l0y(e:List (Nat×Sl)):Pa->Prop
 | []=>True
 | (s,b) :: r=>(match lku e s with
   | some ⟨q,.d _ .bool x⟩=>if D0B q r=true then x=b else True
   | _=>True)/\l0y e r
def t0c(dst:Option Nat)(p:Pa)(av:Option AV)(e:List (Nat×Sl)):List (Nat×Sl):=match dst,av with
 | some d,some a=>(d,⟨p,a⟩) :: e
 | _,_=>e
def N5(P:Program)(ops:Array Oper)(Q:Exit->Act->World->Prop)(o:Oper)(K:Act->World->Prop)(a:Act)(w:World):Prop :=
 if Region.wanted o (yielded ops a.tmps) then o.wp P a w K Q else K (a.put o.dst undef) w
section
variable {X:Cx} {G:Gh} {a:Act} {st:St} {Γ:m9} {T:List Ct}
theorem o0y(hE:EnvR X.n G st.e a):∀{p:Pa},PathP p a->l0y st.e p
 | [],_=>trivial
 | (s,b) :: r,h=>by
   have h1:=h (s,b) (by simp);have hr:PathP r a:=fun x hx=>h x (by simp[hx]);refine⟨?_,o0y hE hr⟩;split
   ·rename_i q f x hs;split
    ·rename_i hsub;have:=b0x ((hE.val s _ hs).1 (hr.sub hsub));rw[this] at h1;simpa using h1
    ·trivial
   ·trivial
theorem k0K{d:Nat}{v:Value}(hd:d<a.tmps.size)(t:Nat):(a.put (some d) v).tmps.getD t undef=if d=t then v else a.tmps.getD t undef:=by
 unfold Act.put;by_cases h:d=t
 ·subst h; simp[hd]
 ·simp[h]
theorem n0O{d:Option Nat}{v:Value}:(a.put d v).tmps.size=a.tmps.size/\(a.put d v).defers=a.defers:=by
 cases d <;> simp[Act.put]
theorem k0Q{d:Nat}{v:Value}(hd:d<a.tmps.size){p:Pa}(h:∀x∈p,x.1≠d):PathP p (a.put (some d) v)↔PathP p a:=by
 constructor <;> intro k x hx
 ·have:=k x hx;rw[k0K hd,if_neg (Ne.symm (h x hx))] at this; exact this
 ·rw[k0K hd,if_neg (Ne.symm (h x hx))]; exact k x hx
theorem EnvR.put{G':Gh}{d:Nat}{v:Value}{p:Pa}{r:AV}(hE:EnvR X.n G' st.e a)(hd:d<X.n)(hp:∀x∈p,x.1≠d)(hs:∀t s,lku st.e t=some s->∀x∈s.p,x.1≠d)
  (hv:(PathP p a->AVR G' r v)/\(¬PathP p a->v=undef)):EnvR X.n G' ((d,⟨p,r⟩) :: st.e) (a.put (some d) v):=by
 have hd':d<a.tmps.size:=by rw[hE.size]; exact hd
 refine⟨by rw[n0O.2]; exact hE.defers,by rw[n0O.1]; exact hE.size,fun t s ht=>?_⟩;rw[lK] at ht;rw[k0K hd'];by_cases e:d=t
 ·rw[if_pos e] at ht ⊢;cases ht;rw[k0Q hd' hp];exact hv
 ·rw[if_neg e] at ht ⊢;rw[k0Q hd' (hs t s ht)];exact hE.val t s ht
theorem d0H{ops:Array Oper}{all:List Oper}(ha:ops=all.toArray){j dj:Nat}{oj:Oper}(hj:B5 all j=some oj)(hd:oj.dst=some dj):yielded ops a.tmps j=match a.tmps.getD dj undef with
  | .bool v=>some v
  | _=>none:=by
 subst ha;rw[S9] at hj;unfold yielded;have e1:(all.toArray[j]?).bind (·.dst)=some dj:=by simp[hj,hd]
 rw[e1];simp only[Option.bind_some];rw[Array.getD_eq_getD_getElem?];cases h2:a.tmps[dj]? with
 | none=>simp[undef]
 | some x=>cases x <;> simp
theorem p0u{ops:Array Oper}{all:List Oper}(ha:ops=all.toArray)(hE:EnvR X.n G st.e a){o:Oper}{p:Pa}(hp:d0x all st.e o=some p) :
  (Region.wanted o (yielded ops a.tmps)=true/\PathP p a)∨(Region.wanted o (yielded ops a.tmps)=false/\¬PathP p a):=by
 unfold d0x at hp;split at hp
 ·rename_i hg;simp only[oi] at hp; subst hp;exact .inl ⟨by simp[Region.wanted,hg],fun x hx=>by cases hx⟩
 ·rename_i j b hg;split at hp
  ·rename_i oj hj;split at hp
   ·rename_i dj hd;split at hp
    ·rename_i q f x hs;simp only[oi] at hp; subst hp;have hy:=d0H (a:=a) ha hj hd;have hv:=hE.val dj _ hs;by_cases hq:PathP q a
     ·have e:=b0x (hv.1 hq);rw[e] at hy;simp only at hy;by_cases hb:x=b
      ·subst hb;refine .inl ⟨by simp[Region.wanted,hg,hy],fun y hy'=>?_⟩;rcases List.mem_cons.1 hy' with rfl | h
       ·exact e
       ·exact hq y h
      ·refine .inr ⟨by simp[Region.wanted,hg,hy,hb],fun h=>?_⟩;have:=h (dj,b) (by simp);simp only at this;rw[e] at this;exact hb (by simpa using this)
     ·have e:=hv.2 hq;rw[e] at hy;simp only[undef] at hy;exact .inr ⟨by simp[Region.wanted,hg,hy],fun h=>hq (fun y hy'=>h y (by simp[hy']))⟩
    ·cases hp
   ·cases hp
  ·cases hp
theorem r0C(hΓ:x6 X.P Γ)(hT:∀c∈T,Ok X.P c){ops:Array Oper}{all:List Oper}(ha:ops=all.toArray){Q:Exit->Act->World->Prop}(S:Sat X G)(ho:G.o=st.o)(hE:EnvR X.n G st.e a){o:Oper}{p:Pa}{q:Prop}{av:Option AV}{obs:List (Nat×Ob)}{fp:List Nat}
  (hp:d0x all st.e o=some p) (h:T9 Γ T st p o=some (q,av,obs,fp)) (hq:l0y st.e p->q) (hg:p=[]∨obs=[]) (hd:∀d,o.dst=some d->d<X.n/\(∀x∈p,x.1≠d)/\∀t s,lku st.e t=some s->∀x∈s.p,x.1≠d)
  {K:Act->World->Prop} (hK:∀a' G',Sat X G'->GLe G G'->G'.o=obs++st.o->EnvR X.n G' (t0c o.dst p av st.e) a'->K a' G'.w):N5 X.P ops Q o K a G.w:=by
 unfold N5;rcases p0u ha hE hp with ⟨hw,hP⟩ | ⟨hw,hP⟩
 ·rw[if_pos hw];have hq:=hq (o0y hE hP);unfold T9 at h;split at h
  ·rename_i d hdst;obtain⟨hd1,hd2,hd3⟩:=hd d hdst;rw[ce] at h;split at h
   ·split at h
    ·rename_i q' r l hh;simp only[oi,pj] at h;obtain⟨rfl,rfl,rfl,_⟩:=h;obtain⟨v,hrun,hv⟩:=p0M hΓ S ho hE hP (ty:=o.type) hh hq;unfold Oper.wp;have:=hrun o.dst o.pos o.after o.guard;rw[show(execOp a.eval o).run X.P G.w=.ok (.value v) G.w from this];show K (a.put o.dst v) G.w;rw[hdst];refine hK _ G S (GLe.refl G) (by simpa using ho) ?_;rw[hdst];exact EnvR.put hE hd1 hd2 hd3 ⟨fun _=>hv,fun h=>(h hP).elim⟩
    ·split at h
     ·rename_i q' r obs' l hh;simp only[oi,pj] at h;obtain⟨rfl,rfl,rfl,_⟩:=h;obtain⟨v,G',hrun,hS,hL,hO,hv⟩:=p0R hΓ S ho hE hP (ty:=o.type) hh hq;unfold Oper.wp;have:=hrun o.dst o.pos o.after o.guard;rw[show(execOp a.eval o).run X.P G.w=.ok (.value v) G'.w from this];show K (a.put o.dst v) G'.w;rw[hdst];refine hK _ G' hS hL (by rw[hO,ho]) ?_;rw[hdst];exact EnvR.put (hE.mono hL) hd1 hd2 hd3 ⟨fun _=>hv,fun h=>(h hP).elim⟩
     ·cases h
   ·rw[ce] at h;split at h
    ·split at h
     ·rename_i q' r w l hh;simp only[oi,pj] at h;obtain⟨rfl,rfl,rfl,_⟩:=h;obtain⟨v,G',hrun,hS,hL,hO,hv⟩:=p0O hΓ S ho hE hP (ty:=o.type) hh hq;unfold Oper.wp;have:=hrun o.dst o.pos o.after o.guard;rw[show(execOp a.eval o).run X.P G.w=.ok (.value v) G'.w from this];show K (a.put o.dst v) G'.w;rw[hdst];refine hK _ G' hS hL (by rw[hO,ho]; rfl) ?_;rw[hdst];exact EnvR.put (hE.mono hL) hd1 hd2 hd3 ⟨fun _=>hv,fun h=>(h hP).elim⟩
     ·cases h
    ·split at h
     ·rename_i q' r obs' l hh;simp only[oi,pj] at h;obtain⟨rfl,rfl,rfl,_⟩:=h;obtain⟨f,vs,hrun,hc⟩:=j0c hT S ho hE hP (ty:=o.type) hh hq;unfold Oper.wp;have:=hrun o.dst o.pos o.after o.guard;rw[show(execOp a.eval o).run X.P G.w=.ok (.enter f vs) G.w from this];refine Calls.mono hc ?_;rintro en w' ⟨v,G',rfl,rfl,hS,hL,hO,hv⟩;show K (a.put o.dst v) G'.w;rw[hdst];refine hK _ G' hS hL (by rw[hO,ho]) ?_;rw[hdst];exact EnvR.put (hE.mono hL) hd1 hd2 hd3 ⟨fun _=>hv,fun h=>(h hP).elim⟩
     ·cases h
  ·rename_i hdst;rw[ce] at h;split at h
   ·split at h
    ·rename_i q' w l hh;simp only[oi,pj] at h;obtain⟨rfl,rfl,rfl,_⟩:=h;obtain⟨G',hrun,hS,hL,hO⟩:=p0K hΓ S ho hE hP (ty:=o.type) hh hq;unfold Oper.wp;have:=hrun o.dst o.pos o.after o.guard;rw[show(execOp a.eval o).run X.P G.w=.ok .skip G'.w from this];show K (a.put o.dst undef) G'.w;rw[hdst];refine hK _ G' hS hL (by rw[hO,ho]; rfl) ?_;rw[hdst];exact hE.mono hL
    ·split at h
     ·rename_i q' obs' l hh;simp only[oi,pj] at h;obtain⟨rfl,rfl,rfl,_⟩:=h;obtain⟨G',hrun,hS,hL,hO⟩:=m0T hΓ S ho hE hP (ty:=o.type) hh hq;unfold Oper.wp;have:=hrun o.dst o.pos o.after o.guard;rw[show(execOp a.eval o).run X.P G.w=.ok .skip G'.w from this];show K (a.put o.dst undef) G'.w;rw[hdst];refine hK _ G' hS hL (by rw[hO,ho]) ?_;rw[hdst];exact hE.mono hL
     ·cases h
   ·split at h
    ·rename_i q' r obs' l hh;simp only[oi,pj] at h;obtain⟨rfl,rfl,rfl,_⟩:=h;obtain⟨f,vs,hrun,hc⟩:=j0c hT S ho hE hP (ty:=o.type) hh hq;unfold Oper.wp;have:=hrun o.dst o.pos o.after o.guard;rw[show(execOp a.eval o).run X.P G.w=.ok (.enter f vs) G.w from this];refine Calls.mono hc ?_;rintro en w' ⟨v,G',rfl,rfl,hS,hL,hO,hv⟩;show K (a.put o.dst v) G'.w;rw[hdst];refine hK _ G' hS hL (by rw[hO,ho]) ?_;rw[hdst];exact hE.mono hL
    ·cases h
 ·rw[if_neg (by rw[hw]; simp)];have hob:obs=[]:=by
   rcases hg with rfl | h
   ·exact(hP (fun x hx=>by cases hx)).elim
   ·exact h
  subst hob;refine hK _ G S (GLe.refl G) (by simpa using ho) ?_;cases hdst:o.dst with
  | none=>cases av <;> exact hE
  | some d =>
    obtain⟨hd1,hd2,hd3⟩:=hd d hdst;have:∃r,av=some r:=by
     unfold T9 at h;rw[hdst] at h;simp only[ce] at h;split at h
     ·split at h
      ·simp only[oi,pj] at h; exact⟨_,h.2.1.symm⟩
      ·split at h
       ·simp only[oi,pj] at h; exact⟨_,h.2.1.symm⟩
       ·cases h
     ·split at h
      ·split at h
       ·simp only[oi,pj] at h; exact⟨_,h.2.1.symm⟩
       ·cases h
      ·split at h
       ·simp only[oi,pj] at h; exact⟨_,h.2.1.symm⟩
       ·cases h
    obtain⟨r,rfl⟩:=this;exact EnvR.put hE hd1 hd2 hd3 ⟨fun h=>(hP h).elim,fun _=>rfl⟩
end
section
variable {e e':List (Nat×Sl)} {o o':List (Nat×Ob)}
theorem b0U{x:Operand}{p:Pa}(h:∀t,x=.tmp t->lku e t=lku e' t):rd ⟨e,o⟩ p x=rd ⟨e',o'⟩ p x:=by
 cases x with
 | tmp t=>simp only[rd,h t rfl]
 | _=>rfl
theorem c0q{p:Pa}:∀{xs:List Operand},(∀t,.tmp t∈xs->lku e t=lku e' t)->rds ⟨e,o⟩ p xs=rds ⟨e',o'⟩ p xs
 | [],_=>rfl
 | x :: r,h=>by
   unfold rds;rw[b0U (o:=o) (o':=o') (p:=p) (x:=x) (fun t ht=>h t (by simp[ht])),c0q (xs:=r) (fun t ht=>h t (by simp[ht]))]
theorem e0D{v:AV}{cs:List AV}{l:List Nat}(h:T8 o v=some (cs,l))(ho:∀id∈l,lku o id=lku o' id):T8 o' v=some (cs,l)/\d0S o' v=d0S o v:=by
 unfold T8 at h;split at h
 ·rename_i id off;split at h
  ·rename_i T cs' hx;simp only[oi,pj] at h;obtain⟨rfl,rfl⟩:=h;have e1:=ho id (by simp);rw[hx] at e1;simp only[T8,<- e1,d0S,and_self]
  ·cases h
 ·rename_i id ver k s off;split at h
  ·rename_i T fr t xs ver' hx;rw[ce] at h;split at h
   ·rename_i hv;simp only[oi,pj] at h;obtain⟨rfl,rfl⟩:=h;have e1:=ho id (by simp);rw[hx] at e1;simp only[T8,<- e1,d0S,hx,hv,cond_true,and_self]
   ·cases h
  ·cases h
 ·simp only[oi,pj] at h;obtain⟨rfl,rfl⟩:=h;exact⟨rfl,rfl⟩
 ·cases h
theorem s0g{Γ:m9}{T:TypeId}{v r:AV}{n:Int}{q:Prop}{l:List Nat}(h:A0w Γ o T v n=some (q,r,l))(ho:∀id∈l,lku o id=lku o' id):A0w Γ o' T v n=some (q,r,l):=by
 unfold A0w at h ⊢;split at h
 ·exact h
 ·split at h
  ·rename_i te T' fr t xs ver' hte hx;rw[ce] at h;split at h
   ·rename_i hv;simp only[oi,pj] at h;obtain⟨rfl,rfl,rfl⟩:=h;have e1:=ho _ (List.mem_singleton.2 rfl);rw[hx] at e1;simp only[<- e1,hte,hv,cond_true]
   ·cases h
  ·cases h
 ·exact h
 ·split at h
  ·rename_i te T' Te fr t xs hole hte hx;rw[ce] at h;split at h
   ·rename_i hv;simp only[oi,pj] at h;obtain⟨rfl,rfl,rfl⟩:=h;have e1:=ho _ (List.mem_singleton.2 rfl);rw[hx] at e1;simp only[<- e1,hte,hv,cond_true]
   ·cases h
  ·cases h
 ·cases h
theorem p0E{rec rec':(t:Ty)->List AV->Option (den t×List Nat×Bool)}(hrec:∀{t:Ty} {cs:List AV} {x:den t} {l:List Nat} {fl:Bool},rec t cs=some (x,l,fl)->(∀id∈l,lku o id=lku o' id)->rec' t cs=some (x,l,fl))
  {t:Ty} {c:AV} {x:den t} {l:List Nat} {fl:Bool} (h:Y9 o rec t c=some (x,l,fl)) (ho:∀id∈l,lku o id=lku o' id):Y9 o' rec' t c=some (x,l,fl):=by
 unfold Y9 at h;split at h
 ·split at h
  ·rename_i hy;simp only[Y9,hy]; exact h
  ·cases h
 ·exact h
 ·rename_i e id ver;split at h
  ·rename_i T fr e' xs ver' hx;rw[ce] at h;split at h
   ·rename_i hv;split at h
    ·rename_i y hy;simp only[oi,pj] at h;obtain⟨rfl,rfl,rfl⟩:=h;have e1:=ho id (by simp);rw[hx] at e1;simp only[Y9,<- e1,hv,cond_true,hy]
    ·cases h
   ·cases h
  ·cases h
 ·rename_i e id off;split at h
  ·rename_i T cs hx;split at h
   ·rename_i x1 l1 f1 h1;simp only[oi,pj] at h;obtain⟨rfl,rfl,rfl⟩:=h;have e1:=ho id (by simp);rw[hx] at e1;have h2:=hrec h1 (fun i hi=>ho i (by simp[hi]));simp only[Y9,<- e1,h2]
   ·cases h
  ·cases h
 ·cases h
theorem b0P:∀(n:Nat) {t:Ty} {cs:List AV} {x:den t} {l:List Nat} {fl:Bool},H6 o n t cs=some (x,l,fl)->(∀id∈l,lku o id=lku o' id)->H6 o' n t cs=some (x,l,fl):=by
 intro n
 induction n with
 | zero=>intro t cs x l fl h; unfold H6 at h; cases h
 | succ n ih =>
   intro t cs x l fl h ho;cases t with
   | pr a b =>
     unfold H6 at h ⊢;split at h
     ·rename_i x1 l1 f1 h1;split at h
      ·rename_i y1 m1 g1 h2;simp only[oi,pj] at h;obtain⟨rfl,rfl,rfl⟩:=h;rw[ih h1 (fun id hid=>ho id (by simp[hid]))];simp only;rw[ih h2 (fun id hid=>ho id (by simp[hid]))]
      ·cases h
     ·cases h
   | _ =>
     unfold H6 at h ⊢;split at h
     ·exact p0E (fun h1 h2=>ih h1 h2) h ho
     ·cases h
theorem i0U{v:AV}{t:Ty}{ys:List (den t)}{ids:List Nat}{fl:Bool}(h:i0d o v=some ⟨t,ys,ids,fl⟩)(ho:∀id∈ids,lku o id=lku o' id):i0d o' v=some ⟨t,ys,ids,fl⟩:=by
 unfold i0d at h;split at h
 ·exact h
 ·rename_i id ver;split at h
  ·rename_i E fr t' xs ver' hx;rw[ce] at h;split at h
   ·rename_i hv;simp only[oi] at h; cases h;have e1:=ho id (by simp);rw[hx] at e1;simp only[i0d,<- e1,hv,cond_true]
   ·cases h
  ·cases h
 ·cases h
theorem b0p{d:Nat}(h:lku o d=lku o' d):Z2 o' d=Z2 o d:=by simp only[Z2,h]
theorem e0M:∀{ps:List Par} {as':List AV} {x:w9 ps} {l:List Nat} {io:Option Nat},O2 o ps as'=some (x,l,io)->(∀id∈l,lku o id=lku o' id)->(∀i,io=some i->lku o i=lku o' i)->O2 o' ps as'=some (x,l,io)
 | [],[],x,l,io,h,_,_=>h
 | [],_ :: _,x,l,io,h,_,_=>by simp[O2] at h
 | _ :: _,[],x,l,io,h,_,_=>by simp[O2] at h
 | p :: r,a :: as',x,l,io,h,hl,hio=>by
   simp only[O2] at h ⊢;split at h
   ·rename_i x1 l1 i1 h1;split at h
    ·rename_i y m j h2;have hx:l=l1++m/\((i1=none/\io=j)∨(∃i,i1=some i/\j=none/\io=some i)):=by
      split at h
      ·simp only[oi,pj] at h;obtain⟨_,rfl,rfl⟩:=h;exact⟨rfl,.inl ⟨rfl,rfl⟩⟩
      ·simp only[oi,pj] at h;obtain⟨_,rfl,rfl⟩:=h;exact⟨rfl,.inr ⟨_,rfl,rfl,rfl⟩⟩
      ·cases h
     obtain⟨rfl,hij⟩:=hx;have hl1:∀id∈l1,lku o id=lku o' id:=fun id hid=>hl id (by simp[hid]);have h1':t0r o' p a=some (x1,l1,i1):=by
      unfold t0r at h1;split at h1
      ·split at h1
       ·rename_i hd;simp only[oi,pj] at h1;obtain⟨rfl,rfl,rfl⟩:=h1;simp only[t0r,b0P 24 hd hl1]
       ·cases h1
      ·split at h1
       ·rename_i hd;simp only[oi,pj] at h1;obtain⟨rfl,rfl,rfl⟩:=h1;simp only[t0r,b0P 24 hd hl1]
       ·cases h1
      ·rw[ce] at h1;split at h1
       ·rename_i hf;split at h1
        ·rename_i hd;simp only[oi,pj] at h1;obtain⟨rfl,rfl,rfl⟩:=h1;simp only[t0r,b0P 24 hd hl1,hf,cond_true]
        ·cases h1
       ·cases h1
      ·exact h1
      ·rename_i T t id _;split at h1
       ·rename_i T' cs ho;rw[ce] at h1;split at h1
        ·rename_i hT;split at h1
         ·rename_i x0 hd;simp only[oi,pj] at h1;obtain⟨rfl,rfl,rfl⟩:=h1;rcases hij with ⟨e,_⟩ | ⟨i',e,_,rfl⟩
          ·cases e
          cases e;have e1:=hio id rfl;rw[ho] at e1;simp only[t0r,<- e1,hT,cond_true,b0P 24 hd hl1]
         ·cases h1
        ·cases h1
       ·cases h1
      ·rename_i E t id ver _;split at h1
       ·rename_i E' fr t' xs ver' ho;rw[ce] at h1;split at h1
        ·rename_i hb;split at h1
         ·rename_i x0 hc;simp only[oi,pj] at h1;obtain⟨rfl,rfl,rfl⟩:=h1;rcases hij with ⟨e,_⟩ | ⟨i',e,_,rfl⟩
          ·cases e
          cases e;have e1:=hio id rfl;rw[ho] at e1;simp only[t0r,<- e1,hb,cond_true,hc]
         ·cases h1
        ·cases h1
       ·cases h1
      ·cases h1
     have h2':=e0M h2 (fun id hid=>hl id (by simp[hid])) (fun i hi=>by
      rcases hij with ⟨_,rfl⟩ | ⟨i',_,rfl,_⟩
      ·exact hio i hi
      ·cases hi)
     rw[h1'];simp only;rw[h2'];exact h
    ·cases h
   ·cases h
theorem e0s:∀{l:List (Nat×Ob)},(∀x∈l,lku o x.1=lku o' x.1)->b0X o' l=b0X o l
 | [],_=>rfl
 | (i,b) :: r,h=>by
   simp only[b0X];rw[b0p (h (i,b) (by simp)),e0s (fun x hx=>h x (by simp[hx]))]
theorem h0H{d f:Nat}{as':List AV}:∀{T:List Ct} {q:Prop} {av:AV} {obs:List (Nat×Ob)} {fp:List Nat},m0M o d f as' T=some (q,av,obs,fp)->(∀id∈fp,lku o id=lku o' id)->m0M o' d f as' T=some (q,av,obs,fp)
 | [],q,av,obs,fp,h,_=>by cases h
 | c :: r,q,av,obs,fp,h,ho=>by
   simp only[m0M,ce] at h ⊢;split at h
   ·rename_i hf;rw[if_pos hf];split at h
    ·rename_i x l io hargs;by_cases hgv:giv c.ps=true
     ·rw[if_pos hgv] at h;unfold D0K at h;split at h
      ·rename_i id;split at h
       ·rename_i T fr t xs E' fr' t' xs' ver hrv hoid;rw[ce] at h;split at h
        ·rename_i hk;simp only[oi,pj] at h;obtain⟨rfl,rfl,rfl,rfl⟩:=h;have hnil:=e0g (ba _ _ ▸ hk).2;subst hnil;have hio:lku o id=lku o' id:=ho id (by simp);rw[e0M hargs (fun _ h=>by cases h) (fun i hi=>by cases hi; exact hio)];simp only[hgv,if_true,D0K,hrv,<- hio,hoid,hk,cond_true]
        ·cases h
       ·cases h
      ·cases h
     rw[if_neg hgv] at h;simp only[if_neg hgv];split at h
     ·rename_i hc;have hc':=hc;simp only[oi,pj] at h;obtain⟨rfl,rfl,rfl,rfl⟩:=h;have hl:∀id∈l,lku o id=lku o' id:=fun id hid=>ho id (by simp[hid]);have hio:∀i,io=some i->lku o i=lku o' i:=fun i hi=>ho i (by simp[hi]);rw[e0M hargs hl hio];simp only;rw[e0s (o:=o) (fun x hx=>ho x.1 (List.mem_append.2 (.inl (List.mem_map_of_mem hx)))),if_pos hc'];have:X9 o' c.ps (c.res x).z io=X9 o c.ps (c.res x).z io:=by
       cases io with
       | none=>rfl
       | some i=>simp only[X9,hio i rfl]
      rw[this]
     ·cases h
    ·cases h
   ·rename_i hf;rw[if_neg hf];exact h0H h ho
def x0G(xs:List Operand):List Nat:=xs.filterMap fun | .tmp t=>some t | _=>none
theorem l0b{xs:List Operand}{t:Nat}(h:.tmp t∈xs):t∈x0G xs:=List.mem_filterMap.2 ⟨_,h,rfl⟩
theorem e0b{p:Pa}{x:Option Operand}(h:∀t,x=some (.tmp t)->lku e t=lku e' t):M5 ⟨e,o⟩ p x=M5 ⟨e',o'⟩ p x:=by
 cases x with
 | none=>rfl
 | some y =>
   simp only[M5];rw[b0U (o:=o) (o':=o') (p:=p) (x:=y) (fun t ht=>h t (by rw[ht]))]
theorem g0j{p:Pa}{pl:List (Nat×Nat)}:∀{ps:List (Nat×Operand)} {cs:List AV},(∀t,.tmp t∈ps.map (·.2)->lku e t=lku e' t)->Z1 ⟨e,o⟩ p pl cs ps=Z1 ⟨e',o'⟩ p pl cs ps
 | [],_,_=>rfl
 | (i,x) :: r,cs,h=>by
   unfold Z1;rw[b0U (o:=o) (o':=o') (p:=p) (x:=x) (fun t ht=>h t (by simp[ht]))];have ih:=fun cs=>g0j (p:=p) (pl:=pl) (ps:=r) (cs:=cs) (fun t ht=>h t (by simp at ht ⊢; exact .inr ht));simp only[ih]
theorem g0e{p:Pa}{t:Ty}:∀{ps:List (Nat×Operand)} {k:Nat} {ys:List (den t)×Bool},(∀s,.tmp s∈ps.map (·.2)->lku e s=lku e' s)->f0f ⟨e,o⟩ p t k ps=some ys->f0f ⟨e',o'⟩ p t k ps=some ys
 | [],_,_,_,h=>h
 | (i,x) :: r,k,ys,hs,h=>by
   unfold f0f at h ⊢;rw[ce] at h ⊢;split at h
   ·rename_i hi;rw[if_pos hi];rw[<- b0U (o:=o) (o':=o') (p:=p) (x:=x) (fun t ht=>hs t (by simp[ht]))];split at h
    ·rename_i v hv;split at h
     ·rename_i cs hc;simp only;split at h
      ·rename_i y f hy;rw[b0P 24 hy (fun _ h=>by cases h)];simp only;split at h
       ·rename_i ys' g hys;rw[g0e (fun s hs'=>hs s (by simp at hs' ⊢; exact .inr hs')) hys];exact h
       ·cases h
      ·cases h
     ·cases h
    ·cases h
   ·cases h
theorem p0N{Γ:m9}{p:Pa}{op:Op}{q:Prop}{r:AV}{l:List Nat}(hs:∀t,.tmp t∈op.operands.toList->lku e t=lku e' t)(h:H7 Γ ⟨e,o⟩ p op=some (q,r,l))(ho:∀id∈l,lku o id=lku o' id):H7 Γ ⟨e',o'⟩ p op=some (q,r,l):=by
 have R:∀(p:Pa) (x:Operand),x∈op.operands.toList->rd ⟨e',o'⟩ p x=rd ⟨e,o⟩ p x:=fun p x hx=>(b0U (fun t ht=>hs t (by rw[<- ht]; exact hx))).symm;unfold H7 at h;split at h
 ·rename_i x;simp only[H7,R _ x (by simp[Op.operands])]; exact h
 ·rename_i x;simp only[H7,R _ x (by simp[Op.operands])]; exact h
 ·rename_i x;simp only[H7,R _ x (by simp[Op.operands])];split at h
  ·rename_i v hv;split at h
   ·rename_i cs l' hd;simp only[oi,pj] at h;obtain⟨rfl,rfl,rfl⟩:=h;obtain⟨h1,h2⟩:=e0D hd ho;simp only[h1,h2]
   ·cases h
  ·cases h
 ·rename_i c x y;split at h
  ·rename_i s;simp only[H7,R _ (.tmp s) (by simp[Op.operands]),R _ x (by simp[Op.operands]),R _ y (by simp[Op.operands])];exact h
  ·cases h
 ·rename_i x y _;simp only[H7,R _ x (by simp[Op.operands]),R _ y (by simp[Op.operands])]; exact h
 ·rename_i x;simp only[H7,R _ x (by simp[Op.operands])]; exact h
 ·rename_i x;simp only[H7,R _ x (by simp[Op.operands])]; exact h
 ·rename_i x;simp only[H7,R _ x (by simp[Op.operands])];split at h
  ·exact h
  ·rename_i id ver _ _ _ E _ _ _ _ _ _ _ _;split at h
   ·rename_i h4 h5;rw[ce] at h;split at h
    ·rename_i hv;simp only[oi,pj] at h;obtain⟨rfl,rfl,rfl⟩:=h;have h6:=ho id (by simp);simp only[<- h6,h4,h5,hv,cond_true]
    ·cases h
   ·cases h
  ·cases h
 ·rename_i x f;simp only[H7,R _ x (by simp[Op.operands])];split at h
  ·rename_i v s0 y0 z0 pl ty0 hv hT;split at h
   ·rename_i off s1 cs l' hf hd;split at h
    ·rename_i r' hm;simp only[oi,pj] at h;obtain⟨rfl,rfl,rfl⟩:=h;simp only[hf,(e0D hd ho).1,hm]
    ·cases h
   ·cases h
  ·cases h
 ·rename_i x;simp only[H7,R _ x (by simp[Op.operands])];split at h
  ·rename_i v ti hv hT;split at h
   ·rename_i cs l' hd;split at h
    ·rename_i r' hm;simp only[oi,pj] at h;obtain⟨rfl,rfl,rfl⟩:=h;obtain⟨h1,h2⟩:=e0D hd ho;simp only[h1,h2,hm]
    ·cases h
   ·cases h
  ·cases h
 ·rename_i T x i;simp only[H7,R _ x (by simp[Op.operands]),R _ i (by simp[Op.operands])];split at h
  ·rename_i v k n hv hn;exact s0g h ho
  ·cases h
 ·rename_i T x i;simp only[H7,R _ x (by simp[Op.operands]),R _ i (by simp[Op.operands])]; exact h
 ·rename_i x i;simp only[H7,R _ x (by simp[Op.operands])]; exact h
 ·rename_i T x f;simp only[H7,R _ x (by simp[Op.operands])]; exact h
 ·rename_i f first cap;have:rds ⟨e',o'⟩ p cap.toList=rds ⟨e,o⟩ p cap.toList:=(c0q (fun t ht=>hs t (by simp[Op.operands] at ht ⊢; exact .inr ht))).symm;simp only[H7,this]; exact h
 ·rename_i T parts;have:∀pl cs,Z1 ⟨e',o'⟩ p pl cs parts.toList=Z1 ⟨e,o⟩ p pl cs parts.toList:=fun pl cs=>(g0j (fun t ht=>hs t (by simpa [Op.operands] using ht))).symm;simp only[H7,this]; exact h
 ·rename_i T x l0 h0;have e1:M5 ⟨e',o'⟩ p l0=M5 ⟨e,o⟩ p l0:=(e0b (fun t ht=>hs t (by subst ht; simp[Op.operands]))).symm;have e2:M5 ⟨e',o'⟩ p h0=M5 ⟨e,o⟩ p h0:=(e0b (fun t ht=>hs t (by subst ht; simp[Op.operands]))).symm;simp only[H7,R _ x (by simp[Op.operands]),e1,e2]; exact h
 ·rename_i xs Ts;have:rds ⟨e',o'⟩ p xs.toList=rds ⟨e,o⟩ p xs.toList:=(c0q (fun t ht=>hs t (by simp[Op.operands,Call.operands] at ht ⊢; exact ht))).symm;simp only[H7,this];split at h
  ·exact h
  ·rename_i id ver T h1 h2;split at h
   ·rename_i s0 y0 z0 E0 ty0 T' fr t l' ver' h3 h4;rw[ce] at h;split at h
    ·rename_i hv;simp only[oi,pj] at h;obtain⟨rfl,rfl,rfl⟩:=h;have e1:=ho id (by simp);simp only at h4;rw[h4] at e1;simp only[h3,<- e1,hv,cond_true]
    ·cases h
   ·cases h
  ·exact h
  ·exact h
  ·cases h
 ·rename_i xs Ts;have:rds ⟨e',o'⟩ p xs.toList=rds ⟨e,o⟩ p xs.toList:=(c0q (fun t ht=>hs t (by simp[Op.operands,Call.operands] at ht ⊢; exact ht))).symm;simp only[H7,this]; exact h
 ·rename_i xs Ts;have:rds ⟨e',o'⟩ p xs.toList=rds ⟨e,o⟩ p xs.toList:=(c0q (fun t ht=>hs t (by simp[Op.operands,Call.operands] at ht ⊢; exact ht))).symm;simp only[H7,this]; exact h
 ·cases h
end
end Go.Proofs.Xv
end
