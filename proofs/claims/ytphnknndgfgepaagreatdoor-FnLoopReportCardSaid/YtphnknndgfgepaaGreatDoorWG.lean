/- The order of the nodes of a graph: the two loops. -/
import Derived.Test.YtphnknndgfgepaaGreatDoorWF
import Derived.Test.YtphnknndgfgepaaGreatDoorWB
import Derived.Test.YtphnknndgfgepaaGreatDoorWC
section
namespace Go.Proofs.YtphnknndgfgepaaGreatDoor
open Go Go.Proofs Go.Proofs.Sv Go.Proofs.Xv Go.Proofs.Xl Go.Proofs.Xd
section
variable {b:Y34}
theorem m0u{o:List Int}{i N:Nat}{x:Int}(h:o.length=N):(o.set i x).length=N:=by rw[List.length_set,h]
theorem E0i(hb:a0e b=true){lv:List Bool}{p:Nat->Bool}:lp (y0H (a0o b,lv) (c0O p (lV b).length)) (0,List.replicate (a0k b) 0)=q0G (a0o b,lv) (((List.range (lV b).length).filter p).foldl (s0o (toN b)) (List.replicate (a0k b) 0)):=by
 have hM:=a0Q hb;obtain⟨q1,q2⟩:=c0j p (lV b).length;rw[<- e0w,<- q2];refine lF (n:=(c0O p (lV b).length).length) (by omega) (fun i (s:List Int)=>((i:Int),s)) (fun i o=>s0o (toN b) o (((List.range (lV b).length).filter p).getD i 0)) (fun i o=>o.length=a0k b/\∀v,0<=o.getD v 0/\o.getD v 0<=(i:Int)) (J:=fun s=>q0G (a0o b,lv) s) (F:=y0H (a0o b,lv) (c0O p (lV b).length)) (fun g i o hi ho=>?_) (fun i o hi ho=>?_) (fun g s _=>if_neg (by simp)) _ ⟨List.length_replicate,fun v=>?_⟩
 ·have e3:((i:Int)).toNat=i:=rfl;obtain⟨ol,ob⟩:=ho;have hk:=h0E (p:=p) (M:=(lV b).length) (i:=i) (by omega);refine(if_pos (decide_eq_true (by omega))).trans ?_;refine(gP ⟨oo,by omega,trivial⟩).trans ?_;rw[e3,j0U];generalize ((List.range (lV b).length).filter p).getD i 0=k at hk;have e4:Int.toNat ((k:Nat):Int)=k:=rfl;obtain⟨f1,f2,f3,f4⟩:=h0C b hb hk;have hx:ix ((k:Nat):Int) (a0o b).2.2.1.length:=⟨by omega,by show((k:Nat):Int) < ((lV b).length:Int); omega⟩;have hv:=ob (toN b k);have e5:((a0o b).2.2.1.getD (Int.toNat ((k:Nat):Int)) (a0a y48)).2.1=(toN b k:Int):=f2;have e6:Int.toNat ((toN b k:Nat):Int)=toN b k:=rfl;rw[e5,e6];refine(gP ⟨hx,oo,by omega,oo,oo,by omega,trivial⟩).trans ?_;rw[lE];exact gP ⟨oo,trivial⟩
 ·obtain⟨ol,ob⟩:=ho;have hk:=h0E (p:=p) (M:=(lV b).length) (i:=i) (by omega);obtain⟨f1,f2,f3,f4⟩:=h0C b hb hk;refine⟨m0u ol,fun v=>?_⟩;unfold s0o;rw[f0F _ (by omega)];have h1:=ob v;have h2:=ob (toN b (((List.range (lV b).length).filter p).getD i 0));split <;> omega
 ·have:(List.replicate (a0k b) (0:Int)).getD v 0=0:=by
   rw[gq,List.getElem?_replicate];split <;> rfl
  rw[this];omega
theorem E0h(hb:a0e b=true){lv:List Bool}{p:Nat->Bool}{n:Int}{l:List Int}{v:Int}{g3:List Int×Int×List Int->Option (List Int×Bool)}{o:List Int}{A:Int}(hA:0<=A)(hA2:A<=1000000000000)(ol:o.length=a0k b)(olo:∀w,w<a0k b -> -A<=o.getD w 0/\o.getD w 0<=A):lp (t0N (a0o b,lv) (c0O p (lV b).length) n l v g3) (0,o)=t0O n g3 (l++[v],((List.range (lV b).length).filter p).foldl (t0u (toN b)) o):=by
 have hM:=a0Q hb;obtain⟨q1,q2⟩:=c0j p (lV b).length;rw[<- e0w,<- q2];refine lF (n:=(c0O p (lV b).length).length) (by omega) (fun i (s:List Int)=>((i:Int),s)) (fun i o=>t0u (toN b) o (((List.range (lV b).length).filter p).getD i 0)) (fun i o=>o.length=a0k b/\∀w,w<a0k b -> -A-(i:Int)<=o.getD w 0/\o.getD w 0<=A) (J:=fun s=>t0O n g3 (l++[v],s)) (F:=t0N (a0o b,lv) (c0O p (lV b).length) n l v g3) (fun g i o hi ho=>?_) (fun i o hi ho=>?_) (fun g s _=>if_neg (by simp)) _ ⟨ol,fun w hw=>by have:=olo w hw; omega⟩
 ·have e3:((i:Int)).toNat=i:=rfl;obtain⟨ol,ob⟩:=ho;have hk:=h0E (p:=p) (M:=(lV b).length) (i:=i) (by omega);refine(if_pos (decide_eq_true (by omega))).trans ?_;refine(gP ⟨oo,by omega,trivial⟩).trans ?_;rw[e3,j0U];generalize ((List.range (lV b).length).filter p).getD i 0=k at hk;obtain⟨f1,f2,f3,f4⟩:=h0C b hb hk;have hx:ix ((k:Nat):Int) (a0o b).2.2.1.length:=⟨by omega,by show((k:Nat):Int) < ((lV b).length:Int); omega⟩;have hv:=ob (toN b k) f4;have e5:((a0o b).2.2.1.getD (Int.toNat ((k:Nat):Int)) (a0a y48)).2.1=(toN b k:Int):=f2;have e6:Int.toNat ((toN b k:Nat):Int)=toN b k:=rfl;rw[e5,e6];refine(gP ⟨hx,oo,by omega,oo,oo,by omega,trivial⟩).trans ?_;rw[lE];exact gP ⟨oo,trivial⟩
 ·obtain⟨ol,ob⟩:=ho;have hk:=h0E (p:=p) (M:=(lV b).length) (i:=i) (by omega);obtain⟨f1,f2,f3,f4⟩:=h0C b hb hk;refine⟨m0u ol,fun w hw=>?_⟩;unfold t0u;rw[f0F _ (by omega)];have h1:=ob w hw;have h2:=ob _ f4;split <;> omega
def A0w(b:Y34)(lv:List Bool)(out:List Nat)(k:Nat):Option (List Nat):=h0f (lV b).length (a0k b) (frN b) (toN b) (fun i=>lv.getD i false) k out
theorem p0G(M N:Nat)(fr to:Nat->Nat)(lv:Nat->Bool)(k:Nat)(out:List Nat):h0f M N fr to lv (k+1) out=match e0t M N fr to lv out with | none=>none | some v=>h0f M N fr to lv k (out++[v]):=rfl
theorem r57(hb:a0e b=true){lv:List Bool}(hlv:lv.length=(lV b).length):u57 (a0o b,lv)=some (k0Z (A0w b lv [] (a0k b))):=by
 have hM:=a0Q hb;have hN:=g0j b hb;have ht:∀i,i < (lV b).length->toN b i<a0k b:=fun i hi=>(h0C b hb hi).2.2.2;unfold u57;rw[E0s b hb,vS,gP ⟨rfl,⟨by omega,rfl,by rw[Int.toNat_natCast]; omega,by omega⟩,trivial⟩,lE,E0q hb hlv,vS,gP ⟨rfl,trivial⟩,lE,Int.toNat_natCast,E0i hb];have hO:((List.range (lV b).length).filter fun i=>lv.getD i false).foldl (s0o (toN b)) (List.replicate (a0k b) 0)=i0d (lV b).length (a0k b) (frN b) (toN b) (fun i=>lv.getD i false) []:=rfl;rw[hO];have hl0:(i0d (lV b).length (a0k b) (frN b) (toN b) (fun i=>lv.getD i false) []).length=a0k b:=(x0W (fr:=frN b) ht).len;generalize hv6:i0d (lV b).length (a0k b) (frN b) (toN b) (fun i=>lv.getD i false) []=v6 at hl0;rw[q0G];have key:=y0a (n:=a0k b) (by omega) (fun i (out:List Nat)=>(out.map (fun v:Nat=>(v:Int)),(i:Int),i0d (lV b).length (a0k b) (frN b) (toN b) (fun i=>lv.getD i false) out))
  (fun _ out=>(e0t (lV b).length (a0k b) (frN b) (toN b) (fun i=>lv.getD i false) out).map fun v=>out++[v]) (fun _ _=>some ([],false))
  (fun i out=>out.length=i/\D0e (lV b).length (a0k b) (frN b) (toN b) (fun i=>lv.getD i false) out (i0d (lV b).length (a0k b) (frN b) (toN b) (fun i=>lv.getD i false) out))
  (J:=fun out=>some (out.map (fun v:Nat=>(v:Int)),true)) (F:=B0w (a0o b,lv) v6)
  (fun g i out hi ho=>by
    obtain⟨h1,h2⟩:=ho;have e3:((i:Int)).toNat=i:=rfl;refine(if_pos (decide_eq_true (by omega))).trans ?_;rw[H0t _ (by rw[h2.len]; omega),r0M h2,vS];refine(gP ⟨rfl,trivial⟩).trans ?_;rw[lE];cases hn:e0t (lV b).length (a0k b) (frN b) (toN b) (fun i=>lv.getD i false) out with
    | none=>rfl
    | some v =>
      obtain⟨n1,n2⟩:=m0E hn;have ev:((v:Int)).toNat=v:=rfl;dsimp only;refine(if_neg (by simp)).trans ?_;refine(gP ⟨⟨by omega,by rw[h2.len]; omega⟩,by rw[h2.len]; omega,trivial⟩).trans ?_;refine(gP ⟨⟨by simp only[List.length_singleton,List.length_map]; omega,by simp only[List.length_singleton,List.length_map]; omega⟩,trivial⟩).trans ?_;show gd ((u73 (a0o b,lv) (v:Int)).isSome=true/\True) (lt (vl (u73 (a0o b,lv) (v:Int))) fun v19=>lp (t0N (a0o b,lv) v19 (i:Int) (out.map fun v:Nat=>(v:Int)) (v:Int) g) (0,(i0d (lV b).length (a0k b) (frN b) (toN b) (fun i=>lv.getD i false) out).set v (-1)))=g ((out++[v]).map (fun v:Nat=>(v:Int)),(((i+1:Nat)):Int),i0d (lV b).length (a0k b) (frN b) (toN b) (fun i=>lv.getD i false) (out++[v]));rw[r73 hb hlv,vS,gP ⟨rfl,trivial⟩,lE];have hle:(out.length:Int)*((lV b).length:Int)<=1000000*6000:=Int.mul_le_mul (by omega) (by omega) (by omega) (by decide);rw[E0h hb (A:=6000000001) (by decide) (by decide) (m0u h2.len) (fun w hw=>by
       rw[f0F _ (by rw[h2.len]; exact n1)];have a1:=h2.lo w hw;have a2:=h2.hi w hw;split <;> omega)]
      rw[l0b,List.map_append];exact gP ⟨oo,trivial⟩)
  (fun i out out' hi ho he=>by
    obtain⟨h1,h2⟩:=ho;cases hn:e0t (lV b).length (a0k b) (frN b) (toN b) (fun i=>lv.getD i false) out with
    | none=>rw[hn] at he; cases he
    | some v =>
      rw[hn] at he;cases he;obtain⟨n1,n2⟩:=m0E hn;refine⟨by simp[h1],?_⟩;rw[l0b];exact r0L ht h2 n1 n2)
  (fun g out ho=>by
    refine(if_neg ?_).trans rfl;simp[hl0])
  (fun i out=>some (k0Z (A0w b lv out (a0k b-i)))) (fun out _=>by
    rw[Nat.sub_self]; rfl)
  (fun i out hi ho=>by
    have e:a0k b-i=(a0k b-(i+1))+1:=by omega
    show some (k0Z (h0f _ _ _ _ _ (a0k b-i) out))=_;rw[e,p0G];cases e0t (lV b).length (a0k b) (frN b) (toN b) (fun i=>lv.getD i false) out <;> rfl)
  0 (Nat.zero_le _) [] ⟨rfl,x0W ht⟩
 rw[hv6] at key;exact key
end
section
variable {b:Y34}
theorem o0t(M:Nat)(br:List Int):(e0h M br).length=M:=e0e _ _
end
section
variable [Alw]
theorem v0O{s:a0u}(h:Sd s):u80 s=some ():=by
 refine h0Y ?_;obtain⟨v,s0,e0,hs0,-,-,-⟩:=a0K (n:=4) h (by omega);unfold u80;simp only[e0,vS,Option.isSome_some];refine a0b ⟨trivial,trivial⟩ (b0c ?_);dsimp only;split
 ·refine a0b ⟨trivial,hs0.1⟩ (c0I ?_);rintro⟨b,s1⟩ ⟨⟨t1,t5⟩,-,hz⟩;exact h0Y (a0b trivial (a0b ⟨t1,t5⟩ ⟨_,rfl,trivial⟩))
 ·refine a0b ⟨trivial,D0N hs0.1 (by omega) (by omega)⟩ (c0I ?_);rintro⟨b,s1⟩ ⟨⟨t1,t2,t3,t4,t5⟩,-,hz⟩;exact h0Y (a0b trivial (a0b ⟨t1,Nat.le_trans t5 (by decide)⟩ ⟨_,rfl,trivial⟩))
theorem k80:K80:=e80 E0U k54 fun x hw hp=>v0O (k0i hw.1 hp)
theorem z0D{c:List Int}(h:wf (.sl (.int .u8)) c):u36 c=some ():=by
 obtain⟨s,e,hs⟩:=z0C h;refine h0Y ?_;unfold u36;simp only[e,vS,Option.isSome_some];refine a0b ⟨trivial,trivial⟩ (b0c ?_);refine a0b ⟨trivial,hs.1⟩ (c0I ?_);intro v1 ⟨⟨t1,t2⟩,hw,hz⟩;exact h0Y (a0b trivial (a0b t2 ⟨_,rfl,trivial⟩))
theorem k36:K36:=e36 k80 fun x hw _=>z0D hw.1
end
section
variable {b:Y34}
def E0L(b:Y34)(br:List Int):Bool:=!(k0Z (A0w b (e0h (lV b).length br) [] (a0k b))).2
end
theorem o0u{M:Nat}(br:List Int){i:Nat}(h:i<M):(e0h M br).getD i false=!b0s br (i:Int):=f0s _ _ _ _ h
section
variable {b:Y34}
end
theorem k0l{e:Ty}:wf (.sl e) []:=⟨Nat.zero_le _,fun _ h=>nomatch h⟩
theorem z0j{l:List Nat}{v:Nat}(h:v∈l):∃p,p<l.length/\l.getD p 0=v:=by
 obtain⟨p,hp,e⟩:=List.getElem_of_mem h;exact⟨p,hp,by rw[gq,List.getElem?_eq_getElem hp]; exact e⟩
structure OGood(M N:Nat)(fr to:Nat->Nat)(lv:Nat->Bool)(out:List Nat):Prop where
 nd:out.Nodup
 lt:∀v∈out,v<N
 bef:∀i,i<M->lv i=true->∀q,q<out.length->out.getD q 0=to i->∃p,p<q/\out.getD p 0=fr i
theorem h0z{l:List Nat}{v q:Nat}(h:q<l.length):(l++[v]).getD q 0=l.getD q 0:=by
 rw[gq,gq,List.getElem?_append_left h]
theorem s0w{l:List Nat}{v:Nat}:(l++[v]).getD l.length 0=v:=by
 rw[gq,List.getElem?_append_right (Nat.le_refl _),Nat.sub_self];rfl
theorem OGood.snoc{M N:Nat}{fr to:Nat->Nat}{lv:Nat->Bool}{out:List Nat}(h:OGood M N fr to lv out){v:Nat}(hv:v<N)(hn:v ∉ out)(hc:m0X M fr to lv out v=0):OGood M N fr to lv (out++[v]):=by
 refine⟨?_,fun w hw=>?_,fun i hi hl q hq e=>?_⟩
 ·rw[List.nodup_append];exact⟨h.nd,by simp,fun a ha b hb=>fun e=>hn (by rw[<- List.mem_singleton.1 hb,<- e]; exact ha)⟩
 ·rcases List.mem_append.1 hw with hw | hw
  ·exact h.lt w hw
  ·rw[List.mem_singleton.1 hw]; exact hv
 ·rw[List.length_append,List.length_singleton] at hq;by_cases c:q<out.length
  ·rw[h0z c] at e;obtain⟨p,hp,e2⟩:=h.bef i hi hl q c e;exact⟨p,hp,by rw[h0z (by omega)]; exact e2⟩
  ·have c:q=out.length:=by omega
   subst c;rw[s0w] at e;unfold m0X at hc;rw[List.countP_eq_zero] at hc;have h1:=hc i (List.mem_range.2 hi);have hm:fr i∈out:=by simpa [hl,e] using h1
   obtain⟨p,hp,e2⟩:=z0j hm;exact⟨p,hp,by rw[h0z hp]; exact e2⟩
end Go.Proofs.YtphnknndgfgepaaGreatDoor
end
section
namespace Go.Proofs.Xd
open Go.Proofs.Xl
inductive Rch(M:Nat)(fr to:Nat->Nat)(lv:Nat->Bool)(s:Nat):Nat->Prop
 | refl:Rch M fr to lv s s
 | step {i:Nat}:Rch M fr to lv s (fr i)->i<M->lv i=true->Rch M fr to lv s (to i)
theorem Rch.trans{M:Nat}{fr to:Nat->Nat}{lv:Nat->Bool}{a b c:Nat}(h:Rch M fr to lv a b)(k:Rch M fr to lv b c):Rch M fr to lv a c:=by
 induction k with
 | refl=>exact h
 | step _ hi hl ih=>exact ih.step hi hl
theorem Rch.one{M:Nat}{fr to:Nat->Nat}{lv:Nat->Bool}{i:Nat}(hi:i<M)(hl:lv i=true):Rch M fr to lv (fr i) (to i):=Rch.refl.step hi hl
theorem Rch.head{M:Nat}{fr to:Nat->Nat}{lv:Nat->Bool}{i c:Nat}(hi:i<M)(hl:lv i=true)(k:Rch M fr to lv (to i) c):Rch M fr to lv (fr i) c:=(Rch.one hi hl).trans k
theorem Rch.back{M:Nat}{fr to:Nat->Nat}{lv:Nat->Bool}{a b:Nat}(h:Rch M fr to lv a b):Rch M to fr lv b a:=by
 induction h with
 | refl=>exact .refl
 | step _ hi hl ih=>exact Rch.head hi hl ih
theorem Rch.lt{M N:Nat}{fr to:Nat->Nat}{lv:Nat->Bool}(ht:∀i,i<M->to i<N){a b:Nat}(h:Rch M fr to lv a b)(ha:a<N):b<N:=by
 cases h with
 | refl=>exact ha
 | step _ hi _=>exact ht _ hi
section
variable (M N:Nat) (fr to:Nat->Nat) (lv:Nat->Bool)
def RB(s:Nat)(L:List Bool):Prop:=L.length=N/\∀v,v<N->(L.getD v false=true↔Rch M fr to lv s v)
theorem RB.uniq{M N:Nat}{fr to:Nat->Nat}{lv:Nat->Bool}{s:Nat}{L K:List Bool}(h:RB M N fr to lv s L)(k:RB M N fr to lv s K):L=K :=
 d0H false (h.1.trans k.1.symm) fun i hi=>by
  have hi':i<N:=by rw[<- h.1]; exact hi
  rw[Bool.eq_iff_iff,h.2 i hi',k.2 i hi']
structure RI(s:Nat)(r:List Bool):Prop where
 len:r.length=N
 src:r.getD s false=true
 snd:∀v,r.getD v false=true->Rch M fr to lv s v
theorem RI.done{M N:Nat}{fr to:Nat->Nat}{lv:Nat->Bool}{s:Nat}{r:List Bool}(h:RI M N fr to lv s r)(hc:∀i,i<M->lv i=true->r.getD (fr i) false=true->r.getD (to i) false=true):RB M N fr to lv s r :=
 ⟨h.len,fun v hv=>⟨h.snd v,fun hr=>by
   clear hv
   induction hr with
   | refl=>exact h.src
   | step _ hi hl ih=>exact hc _ hi hl ih⟩⟩
def c0k(r:List Bool):Nat:=r.countP id
theorem o0K{r:List Bool}{i:Nat}(hi:i<r.length)(h:r.getD i false=false):c0k (r.set i true)=c0k r+1:=by
 induction r generalizing i with
 | nil=>simp at hi
 | cons a t ih =>
   cases i with
   | zero =>
     simp only[List.getD_cons_zero] at h;subst h;simp[c0k]
   | succ i =>
     have:=ih (i:=i) (by simpa using hi) (by simpa using h);unfold c0k at this ⊢;rw[List.set_cons_succ,List.countP_cons,List.countP_cons,this];omega
theorem k0b(r:List Bool):c0k r<=r.length:=List.countP_le_length
def swS(k:Nat)(s:List Bool×Bool):List Bool×Bool:=if(lv k&&s.1.getD (fr k) false&&!s.1.getD (to k) false)=true then(s.1.set (to k) true,true) else s
theorem y0S(ht:∀i,i<M->to i<N){s:Nat}{r:List Bool}(h:RI M N fr to lv s r):∀m,m<=M->RI M N fr to lv s (fN (swS fr to lv) m (r,false)).1 /\
  ((fN (swS fr to lv) m (r,false)).2=false->(fN (swS fr to lv) m (r,false)).1=r/\∀i,i<m->lv i=true->r.getD (fr i) false=true->r.getD (to i) false=true) /\
  ((fN (swS fr to lv) m (r,false)).2=true->c0k r<c0k (fN (swS fr to lv) m (r,false)).1)/\c0k r<=c0k (fN (swS fr to lv) m (r,false)).1:=by
 intro m
 induction m with
 | zero=>intro _; exact⟨h,fun _=>⟨rfl,fun i hi=>by omega⟩,(fun h=>by cases h),Nat.le_refl _⟩
 | succ m ih =>
   intro hm;obtain⟨i1,i2,i3,i4⟩:=ih (by omega);show RI M N fr to lv s (swS fr to lv m (fN (swS fr to lv) m (r,false))).1/\((swS fr to lv m (fN (swS fr to lv) m (r,false))).2=false->(swS fr to lv m (fN (swS fr to lv) m (r,false))).1=r/\_)/\((swS fr to lv m (fN (swS fr to lv) m (r,false))).2=true->_<c0k (swS fr to lv m (fN (swS fr to lv) m (r,false))).1)/\_<=c0k (swS fr to lv m (fN (swS fr to lv) m (r,false))).1;generalize fN (swS fr to lv) m (r,false)=q at i1 i2 i3 i4 ⊢;unfold swS;split
   ·rename_i hc;simp only[ba,Bool.not_eq_true'] at hc;obtain⟨⟨c1,c2⟩,c3⟩:=hc;have hlt:to m<q.1.length:=by rw[i1.len]; exact ht m (by omega)
    have hcs:=o0K hlt c3;refine⟨⟨by rw[List.length_set,i1.len],?_,fun v hv=>?_⟩,(fun h=>by cases h),fun _=>by show c0k r<c0k (q.1.set (to m) true); omega,by show c0k r<=c0k (q.1.set (to m) true); omega⟩
    ·show(q.1.set (to m) true).getD s false=true;rw[b0z true hlt];split
     ·rfl
     ·exact i1.src
    ·rw[b0z true hlt] at hv;split at hv
     ·rename_i e;subst e;exact(i1.snd _ c2).step (by omega) c1
     ·exact i1.snd v hv
   ·rename_i hc;refine⟨i1,fun h2=>?_,i3,i4⟩;obtain⟨e,hh⟩:=i2 h2;refine⟨e,fun i hi hl hf=>?_⟩;rcases Nat.lt_or_ge i m with h' | h'
    ·exact hh i h' hl hf
    ·have:i=m:=by omega
     subst this;rw[e,hl,hf] at hc;cases ht:r.getD (to i) false with
     | true=>rfl
     | false=>rw[ht] at hc; exact absurd rfl hc
theorem n0P{ρ:Type}(ht:∀i,i<M->to i<N)(hN:N<=1000000){s:Nat}(hs:s<N){F:(List Bool×Bool->Option ρ)->List Bool×Bool->Option ρ}{J:List Bool->Option ρ}
  (hF:∀g (q:List Bool×Bool),q.1.length=N->F g q=if q.2=true then g (fN (swS fr to lv) M (q.1,false)) else J q.1):∃L,RB M N fr to lv s L/\lp F ((List.replicate N false).set s true,true)=J L:=by
 have h0:RI M N fr to lv s ((List.replicate N false).set s true):=by
  have hl:s < (List.replicate N false).length:=by rw[List.length_replicate]; exact hs
  refine⟨by rw[List.length_set,List.length_replicate],by rw[b0z true hl,if_pos rfl],fun v hv=>?_⟩;rw[b0z true hl] at hv;split at hv
  ·rename_i e; subst e; exact .refl
  ·simp[gq,List.getElem?_replicate] at hv;split at hv <;> simp at hv
 obtain⟨q,⟨_,hq⟩,hc,he⟩:=s0b (J:=fun q:List Bool×Bool=>J q.1) (fun q=>2*(N-c0k q.1)+q.2.toNat) (fun q=>RI M N fr to lv s q.1/\(q.2=false->RB M N fr to lv s q.1)) (fun q=>q.2) (fun q=>fN (swS fr to lv) M (q.1,false))
  (fun g q hq=>hF g q hq.1.len) (fun q hq hc=>by
    obtain⟨i1,i2,i3,i4⟩:=y0S M N fr to lv ht hq.1 M (Nat.le_refl _);refine⟨⟨i1,fun h=>?_⟩,?_⟩
    ·obtain⟨e,hh⟩:=i2 h;rw[e];exact hq.1.done hh
    ·have l1:=k0b (fN (swS fr to lv) M (q.1,false)).1;rw[i1.len] at l1;show 2*(N-c0k (fN (swS fr to lv) M (q.1,false)).1)+(fN (swS fr to lv) M (q.1,false)).2.toNat<2*(N-c0k q.1)+q.2.toNat;rw[hc];cases h:(fN (swS fr to lv) M (q.1,false)).2 with
     | true=>have:=i3 h; simp; omega
     | false=>simp; omega) (((List.replicate N false).set s true),true) ⟨h0,fun h=>by cases h⟩ (by show 2*(N-c0k _)+1<=_; omega)
 exact⟨q.1,hq hc,he⟩
def k0a(r:List Bool):Nat:=(List.range M).countP fun i=>lv i&&!r.getD (fr i) false
def h0h(v:Nat):List Int:=((List.range M).filter fun i=>lv i&&fr i==v).map fun i=>(to i:Int)
structure QI(s:Nat)(q:List Int×List Bool):Prop where
 len:q.2.length=N
 mem:∀x∈q.1,0<=x/\x.toNat<N/\Rch M fr to lv s x.toNat
 snd:∀v,q.2.getD v false=true->Rch M fr to lv s v
 src:q.2.getD s false=true∨(s:Int)∈q.1
 cls:∀i,i<M->lv i=true->q.2.getD (fr i) false=true->q.2.getD (to i) false=true∨(to i:Int)∈q.1
 cnt:q.1.length+k0a M fr lv q.2<=M+1
def quN(q:List Int×List Bool):List Int×List Bool:=if q.2.getD (q.1.getD 0 0).toNat false=true then(q.1.drop 1,q.2) else(q.1.drop 1++h0h M fr to lv (q.1.getD 0 0).toNat,q.2.set (q.1.getD 0 0).toNat true)
theorem v0M{r:List Bool}{x:Nat}(hx:x<r.length)(h:r.getD x false=false):k0a M fr lv r=(h0h M fr to lv x).length+k0a M fr lv (r.set x true):=by
 have e:(h0h M fr to lv x).length=(List.range M).countP fun i=>lv i&&fr i==x:=by
  unfold h0h;rw[List.length_map,List.countP_eq_length_filter]
 rw[e];unfold k0a;refine g0o _ _ _ _ fun i _=>?_;rw[b0z true hx];by_cases hf:fr i=x
 ·rw[if_pos hf,hf,h];cases lv i <;> simp
 ·rw[if_neg hf];have:(fr i==x)=false:=by simpa using hf
  rw[this];cases lv i <;> simp
theorem y0W(ht:∀i,i<M->to i<N){s:Nat}{q:List Int×List Bool}(h:QI M N fr to lv s q)(hq:0<q.1.length):QI M N fr to lv s (quN M fr to lv q)/\(quN M fr to lv q).1.length+k0a M fr lv (quN M fr to lv q).2<q.1.length+k0a M fr lv q.2:=by
 obtain⟨o,r⟩:=q;cases o with
 | nil=>simp at hq
 | cons x t =>
   obtain⟨x0,x1,x2⟩:=h.mem x (by simp);have hl:=h.len;have hx:x.toNat<r.length:=by rw[show r.length=N from hl]; exact x1
   unfold quN;simp only[List.getD_cons_zero,List.drop_succ_cons,List.drop_zero];by_cases hr:r.getD x.toNat false=true
   ·rw[if_pos hr];have hxx:(x.toNat:Int)=x:=by omega
    refine⟨⟨hl,fun y hy=>h.mem y (List.mem_cons_of_mem _ hy),h.snd,?_,fun i hi hv hf=>?_,?_⟩,?_⟩
    ·rcases h.src with h' | h'
     ·exact .inl h'
     ·rcases List.mem_cons.1 h' with e | e
      ·left; rw[show s=x.toNat by omega]; exact hr
      ·exact .inr e
    ·rcases h.cls i hi hv hf with h' | h'
     ·exact .inl h'
     ·rcases List.mem_cons.1 h' with e | e
      ·left; rw[show to i=x.toNat by omega]; exact hr
      ·exact .inr e
    ·have h9:(x :: t).length+k0a M fr lv r<=M+1:=h.cnt;rw[List.length_cons] at h9;show t.length+k0a M fr lv r<=_;omega
    ·show t.length+k0a M fr lv r < (x :: t).length+k0a M fr lv r;simp
   ·rw[if_neg hr];have hr:r.getD x.toNat false=false:=by simpa using hr
    have hcu:=v0M M fr to lv hx hr;have hget:=fun v=>b0z (v:=v) true hx;refine⟨⟨by show(r.set _ true).length=N; rw[List.length_set]; exact hl,fun y hy=>?_,fun v hv=>?_,?_,fun i hi hv hf=>?_,?_⟩,?_⟩
    ·rcases List.mem_append.1 hy with hy | hy
     ·exact h.mem y (List.mem_cons_of_mem _ hy)
     ·unfold h0h at hy;obtain⟨i,hi,rfl⟩:=List.mem_map.1 hy;rw[List.mem_filter,List.mem_range] at hi;simp only[ba,beq_iff_eq] at hi;exact⟨by omega,by simpa using ht i hi.1,by
       rw[Int.toNat_natCast];refine Rch.step ?_ hi.1 hi.2.1;rw[hi.2.2]; exact x2⟩
    ·have hv:(r.set x.toNat true).getD v false=true:=hv;rw[hget] at hv;split at hv
     ·rename_i e; subst e; exact x2
     ·exact h.snd v hv
    ·show(r.set x.toNat true).getD s false=true∨_;rw[hget];split
     ·exact .inl rfl
     ·rename_i hne;rcases h.src with h' | h'
      ·exact .inl h'
      ·rcases List.mem_cons.1 h' with e | e
       ·exact(hne (by omega)).elim
       ·exact .inr (List.mem_append_left _ e)
    ·have hf:(r.set x.toNat true).getD (fr i) false=true:=hf;show(r.set x.toNat true).getD (to i) false=true∨(to i:Int)∈t++h0h M fr to lv x.toNat;rw[hget] at hf ⊢;by_cases e:fr i=x.toNat
     ·right;refine List.mem_append_right _ ?_;unfold h0h;refine List.mem_map.2 ⟨i,?_,rfl⟩;rw[List.mem_filter,List.mem_range];exact⟨hi,by simp[hv,e]⟩
     ·rw[if_neg e] at hf;by_cases e2:to i=x.toNat
      ·left; rw[if_pos e2]
      ·rw[if_neg e2];rcases h.cls i hi hv hf with h' | h'
       ·exact .inl h'
       ·rcases List.mem_cons.1 h' with e' | e'
        ·exact(e2 (by omega)).elim
        ·exact .inr (List.mem_append_left _ e')
    ·have:=h.cnt;simp only[List.length_cons] at this;show(t++h0h M fr to lv x.toNat).length+k0a M fr lv (r.set x.toNat true)<=_;rw[List.length_append];omega
    ·show(t++h0h M fr to lv x.toNat).length+k0a M fr lv (r.set x.toNat true) < (x :: t).length+k0a M fr lv r;rw[List.length_append,List.length_cons];omega
theorem u0C{ρ:Type}(ht:∀i,i<M->to i<N)(hM:M<=2000000){s:Nat}(hs:s<N){F:(List Int×List Bool->Option ρ)->List Int×List Bool->Option ρ}{J:List Bool->Option ρ}
  (hF:∀g (q:List Int×List Bool),q.2.length=N->(∀x∈q.1,0<=x/\x.toNat<N)->q.1.length<=M+1->F g q=if decide (0<q.1.length)=true then g (quN M fr to lv q) else J q.2):∃L,RB M N fr to lv s L/\lp F ([(s:Int)],List.replicate N false)=J L:=by
 have hrep:∀v,(List.replicate N false).getD v false=false:=fun v=>by
  simp[gq,List.getElem?_replicate];split <;> rfl
 have h0:QI M N fr to lv s ([(s:Int)],List.replicate N false):=by
  refine⟨by simp,fun x hx=>?_,fun v hv=>?_,.inr (by simp),fun i _ _ hf=>?_,?_⟩
  ·rw[List.mem_singleton.1 hx];exact⟨by omega,by simpa using hs,by rw[Int.toNat_natCast]; exact .refl⟩
  ·rw[show([(s:Int)],List.replicate N false).2=List.replicate N false from rfl,hrep] at hv; cases hv
  ·rw[show([(s:Int)],List.replicate N false).2=List.replicate N false from rfl,hrep] at hf; cases hf
  ·have:k0a M fr lv (List.replicate N false)<=M:=by unfold k0a; exact f0U _
   show 1+k0a M fr lv (List.replicate N false)<=M+1;omega
 obtain⟨q,hq,hc,he⟩:=s0b (J:=fun q:List Int×List Bool=>J q.2) (fun q=>q.1.length+k0a M fr lv q.2) (QI M N fr to lv s) (fun q=>decide (0<q.1.length)) (quN M fr to lv)
  (fun g q hq=>hF g q hq.len (fun x hx=>⟨(hq.mem x hx).1,(hq.mem x hx).2.1⟩) (by have:=hq.cnt; omega)) (fun q hq hc=>y0W M N fr to lv ht hq (of_decide_eq_true hc)) _ h0 (by have h9:[(s:Int)].length+k0a M fr lv (List.replicate N false)<=M+1:=h0.cnt; show [(s:Int)].length+k0a M fr lv (List.replicate N false)<=_; omega)
 have hnil:q.1=[]:=List.eq_nil_of_length_eq_zero (by have:=of_decide_eq_false hc; omega);refine⟨q.2,RI.done ⟨hq.len,?_,hq.snd⟩ fun i hi hl hf=>?_,he⟩
 ·rcases hq.src with h | h
  ·exact h
  ·rw[hnil] at h; cases h
 ·rcases hq.cls i hi hl hf with h | h
  ·exact h
  ·rw[hnil] at h; cases h
theorem x0Q(ht:∀i,i<M->to i<N)(hN:N<=1000000){s:Nat}(hs:s<N):∃L,RB M N fr to lv s L:=by
 obtain⟨L,h,_⟩:=n0P (ρ:=Unit) M N fr to lv ht hN hs (F:=fun g q=>if q.2=true then g (fN (swS fr to lv) M (q.1,false)) else none) (J:=fun _=>none) (fun _ _ _=>rfl);exact⟨L,h⟩
end
end Go.Proofs.Xd
end
section
namespace Go.Proofs.YtphnknndgfgepaaGreatDoor
open Go Go.Proofs Go.Proofs.Sv Go.Proofs.Xv Go.Proofs.Xl Go.Proofs.Xd
theorem E0K{σ τ ρ:Type}(mk:σ->τ){F:(τ->Option ρ)->τ->Option ρ}{G:(σ->Option ρ)->σ->Option ρ}(h:∀g s,F g (mk s)=G (fun s=>g (mk s)) s)(s:σ):lp F (mk s)=lp G s:=by
 have key:∀n s,itF F n (mk s)=itF G n s:=by
  intro n
  induction n with
  | zero=>intro s; rfl
  | succ n ih =>
    intro s;show F (itF F n) (mk s)=G (itF G n) s;rw[h];congr 1;exact funext fun s=>ih s
 exact key _ s
theorem l0e(fr to:Nat->Nat)(lv:Nat->Bool)(v k:Nat):h0h (k+1) fr to lv v=if(lv k&&fr k==v)=true then h0h k fr to lv v++[(to k:Int)] else h0h k fr to lv v:=by
 unfold h0h;rw[List.range_succ,List.filter_append,List.map_append];by_cases h:(lv k&&fr k==v)=true
 ·rw[if_pos h]; simp only[List.filter_cons,h,if_true,List.filter_nil,List.map_cons,List.map_nil]
 ·rw[if_neg h]; simp only[List.filter_cons,h,Bool.false_eq_true,if_false,List.filter_nil,List.map_nil,List.append_nil]
theorem o0m(fr to:Nat->Nat)(lv:Nat->Bool)(v k:Nat):(h0h k fr to lv v).length<=k:=by
 unfold h0h;rw[List.length_map];have:=List.length_filter_le (fun i=>lv i&&fr i==v) (List.range k)
 rwa [List.length_range] at this
def grF(fr to:Nat->Nat)(lv:Nat->Bool)(k:Nat)(s:List (List Int)):List (List Int):=if lv k=true then s.set (fr k) (s.getD (fr k) []++[(to k:Int)]) else s
theorem u0g{o:List (List Int)}{i v:Nat}(x:List Int)(hi:i<o.length):(o.set i x).getD v []=if v=i then x else o.getD v []:=by
 by_cases h:v=i
 ·subst h; simp[hi]
 ·rw[if_neg h]; simp[List.getElem?_set_ne (Ne.symm h)]
theorem o0D{N:Nat}(fr to:Nat->Nat)(lv:Nat->Bool){k:Nat}{s:List (List Int)}(hf:fr k<N)(hs:s.length=N/\∀v,s.getD v []=h0h k fr to lv v):(grF fr to lv k s).length=N/\∀v,(grF fr to lv k s).getD v []=h0h (k+1) fr to lv v:=by
 obtain⟨h1,h2⟩:=hs;unfold grF;cases hl:lv k with
 | false =>
   refine⟨h1,fun v=>?_⟩;rw[l0e,hl,if_neg (by simp),if_neg (by simp)];exact h2 v
 | true =>
   rw[if_pos rfl];refine⟨by rw[List.length_set,h1],fun v=>?_⟩;rw[u0g _ (by omega),l0e,hl];by_cases e:v=fr k
   ·subst e; rw[if_pos rfl,if_pos (by simp),h2]
   ·rw[if_neg e,if_neg (by simp; exact fun h=>e h.symm),h2]
section
variable {b:Y34}
def d0g(b:Y34)(fw:Bool):Nat->Nat:=if fw=true then frN b else toN b
def f0T(b:Y34)(fw:Bool):Nat->Nat:=if fw=true then toN b else frN b
theorem f0D(hb:a0e b=true)(fw:Bool){i:Nat}(hi:i < (lV b).length):d0g b fw i<a0k b/\f0T b fw i<a0k b:=by
 obtain⟨_,_,h1,h2⟩:=h0C b hb hi;cases fw
 ·exact⟨h2,h1⟩
 ·exact⟨h1,h2⟩
theorem F0x(hb:a0e b=true){lv:List Bool}(hlv:lv.length=(lV b).length){s:Nat}(hs:s<a0k b)(fw:Bool):∃L,RB (lV b).length (a0k b) (d0g b fw) (f0T b fw) (fun i=>lv.getD i false) s L/\y0M (a0k b:Int) (lV b) lv (s:Int) fw=some L:=by
 have hM:=a0Q hb;have hN:=g0j b hb;unfold y0M;have e0:((a0k b:Int)).toNat=a0k b:=rfl;have e1:((s:Int)).toNat=s:=rfl;rw[e0,e1,gP ⟨⟨by omega,rfl,by omega,by omega⟩,trivial⟩,gP ⟨by rw[List.length_replicate]; exact oo,by rw[List.length_replicate]; exact hs,trivial⟩];obtain⟨L,h1,h2⟩:=n0P (ρ:=List Bool) (lV b).length (a0k b) (d0g b fw) (f0T b fw) (fun i=>lv.getD i false) (fun i hi=>(f0D hb fw hi).2) hN hs (F:=fun g q=>x0a lv fw (lV b) (fun t=>g (t.2,t.1)) (q.2,q.1)) (J:=fun L=>some L) (fun g q hq=>by
  obtain⟨r,c⟩:=q;cases c with
  | false=>rfl
  | true =>
    refine Eq.trans (if_pos (c:=(true:Bool)=true) (t:=lp (q0V lv fw (lV b) fun t=>g (t.2,t.1)) (false,0,r)) (e:=q0X r) rfl) ?_;show _=g (fN (swS (d0g b fw) (f0T b fw) fun i=>lv.getD i false) (lV b).length (r,false));refine lF (n:=(lV b).length) (by omega) (fun(k:Nat) (s:List Bool×Bool)=>(s.2,(k:Int),s.1)) (swS (d0g b fw) (f0T b fw) fun i=>lv.getD i false) (fun _ s=>s.1.length=a0k b) (J:=fun s=>g (s.1,s.2)) (F:=q0V lv fw (lV b) fun t=>g (t.2,t.1)) (fun g' k s hk hI=>?_) (fun k s hk hI=>?_) (fun g' s _=>aE) (r,false) hq
    ·obtain⟨a1,a2,_,_⟩:=h0C b hb hk;obtain⟨l1,l2⟩:=f0D hb fw hk;have hI:s.1.length=a0k b:=hI;have e3:((k:Int)).toNat=k:=rfl;have key:n0C (k:Int) s.1 s.2 lv g' ((d0g b fw k:Int),(f0T b fw k:Int))=g' ((swS (d0g b fw) (f0T b fw) (fun i=>lv.getD i false) k s).2,((k+1:Nat):Int),(swS (d0g b fw) (f0T b fw) (fun i=>lv.getD i false) k s).1):=by
      refine(gP ⟨oo,(fun _=>oo),(fun _=>by omega),(fun _=>oo),(fun _=>by omega),trivial⟩).trans ?_;unfold swS;by_cases h:(lv.getD k false&&s.1.getD (d0g b fw k) false&&!s.1.getD (f0T b fw k) false)=true
      ·rw[if_pos h];refine(if_pos h).trans ?_;refine(gP ⟨oo,by omega,trivial⟩).trans ?_;exact gP ⟨oo,trivial⟩
      ·rw[if_neg h];refine(if_neg h).trans ?_;exact gP ⟨oo,trivial⟩
     refine(if_pos (by simpa using hk)).trans ?_;refine(gP ⟨oo,oo,trivial⟩).trans ?_;rw[lE,e3];cases fw with
     | false =>
       refine(if_pos rfl).trans ?_;rw[a1,a2];exact key
     | true =>
       refine(if_neg (by simp)).trans ?_;rw[a1,a2];exact key
    ·have hI:s.1.length=a0k b:=hI;unfold swS;split
     ·show(s.1.set _ true).length=_;rw[List.length_set]; exact hI
     ·exact hI)
 refine⟨L,h1,Eq.trans ?_ h2⟩;exact E0K (fun q:List Bool×Bool=>(q.2,q.1)) (fun g s=>rfl) ((List.replicate (a0k b) false).set s true,true)
theorem C0b(hb:a0e b=true){lv:List Bool}(hlv:lv.length=(lV b).length){s':Nat}(hs:s'<a0k b):∃L,RB (lV b).length (a0k b) (d0g b true) (f0T b true) (fun i=>lv.getD i false) s' L/\e0j (a0o b,lv) [(s':Int)]=some L:=by
 have hM:=a0Q hb;have hN:=g0j b hb;unfold e0j;have e0:((a0k b:Int)).toNat=a0k b:=rfl;have en:c0M ((a0o b,lv):c0B×List Bool).1=some (a0k b:Int):=E0s b hb;rw[en,vS,e0,gP ⟨rfl,⟨by omega,rfl,by omega,by omega⟩,trivial⟩,lE];have hg0:(List.replicate (a0k b) ([]:List Int)).length=a0k b/\∀v,(List.replicate (a0k b) ([]:List Int)).getD v []=h0h 0 (d0g b true) (f0T b true) (fun i=>lv.getD i false) v:=⟨List.length_replicate,fun v=>by
  rw[gq,List.getElem?_replicate];split <;> rfl⟩
 obtain⟨L,h1,h2⟩:=u0C (ρ:=List Bool) (lV b).length (a0k b) (d0g b true) (f0T b true) (fun i=>lv.getD i false) (fun i hi=>(f0D hb true hi).2) (by omega) hs (F:=n0m (fN (grF (d0g b true) (f0T b true) fun i=>lv.getD i false) (lV b).length (List.replicate (a0k b) []))) (J:=fun L=>some L) (fun g q hq hm hl=>by
  obtain⟨o,r⟩:=q;have hgr:∀m,m<=(lV b).length->(fN (grF (d0g b true) (f0T b true) fun i=>lv.getD i false) m (List.replicate (a0k b) [])).length=a0k b/\∀v,(fN (grF (d0g b true) (f0T b true) fun i=>lv.getD i false) m (List.replicate (a0k b) [])).getD v []=h0h m (d0g b true) (f0T b true) (fun i=>lv.getD i false) v:=by
   intro m
   induction m with
   | zero=>intro _; exact hg0
   | succ m ih=>intro hm; exact o0D _ _ _ (f0D hb true (by omega)).1 (ih (by omega))
  obtain⟨g1,g2⟩:=hgr _ (Nat.le_refl _);generalize fN (grF (d0g b true) (f0T b true) fun i=>lv.getD i false) (lV b).length (List.replicate (a0k b) [])=gr at g1 g2;have hq:r.length=a0k b:=hq;have hl:o.length<=(lV b).length+1:=hl;by_cases h0:0<o.length
  ·refine Eq.trans ?_ (if_pos (decide_eq_true h0)).symm;obtain⟨x0,x1⟩:=hm (o.getD 0 0) (b0d h0);refine(if_pos (decide_eq_true (by omega))).trans ?_;refine(gP ⟨oo,by show 0<o.length; omega,trivial⟩).trans ?_;refine(gP ⟨⟨by omega,by omega,by omega⟩,trivial⟩).trans ?_;show gd (ix (o.getD 0 0) r.length/\(o.getD 0 0).toNat<r.length/\True) (if(!r.getD (o.getD 0 0).toNat false)=true then _ else _)=_;refine(gP ⟨oo,by omega,trivial⟩).trans ?_;unfold quN;show _=g (if r.getD (o.getD 0 0).toNat false=true then(o.drop 1,r) else(o.drop 1++h0h (lV b).length (d0g b true) (f0T b true) (fun i=>lv.getD i false) (o.getD 0 0).toNat,r.set (o.getD 0 0).toNat true));cases hr:r.getD (o.getD 0 0).toNat false with
   | true =>
     refine(if_neg (by simp)).trans ?_;rw[if_pos rfl];rfl
   | false =>
     refine(if_pos rfl).trans ?_;rw[if_neg (by simp)];refine(gP ⟨⟨by show 0<=o.getD 0 0; omega,by show o.getD 0 0<_; omega⟩,by show(o.getD 0 0).toNat<_; omega,trivial⟩).trans ?_;rw[lE];have hl':o.length<=(lV b).length+1:=hl;have hd:(o.drop 1).length<=(lV b).length:=by rw[List.length_drop]; omega
     have hnl:=o0m (d0g b true) (f0T b true) (fun i=>lv.getD i false) (o.getD 0 0).toNat (lV b).length;have e5:gr.getD (Int.toNat (o.getD (Int.toNat (0:Int)) (0:Int))) []=h0h (lV b).length (d0g b true) (f0T b true) (fun i=>lv.getD i false) (o.getD 0 0).toNat:=g2 _;rw[e5];refine(gP ⟨⟨by show 0<=o.getD 0 0; omega,by show o.getD 0 0<_; omega⟩,⟨by show(o.drop 1).length+_<=_; omega,by show((o.drop 1).length+_)*8<=_; omega⟩,trivial⟩).trans ?_;rw[lE];rfl
  ·refine Eq.trans ?_ (if_neg (by simpa using h0)).symm;exact if_neg (by show ¬decide ((0:Int) < (o.length:Int))=true; rw[dq]; omega))
 refine⟨L,h1,?_⟩;refine(lF (n:=(lV b).length) (by omega) (fun(k:Nat) (s:List (List Int))=>((k:Int),s)) (grF (d0g b true) (f0T b true) fun i=>lv.getD i false) (fun k s=>s.length=a0k b/\∀v,s.getD v []=h0h k (d0g b true) (f0T b true) (fun i=>lv.getD i false) v) (J:=fun s=>e0O [(s':Int)] (a0o b,lv) s) (F:=n0n (a0o b,lv) [(s':Int)]) (fun g k s hk hI=>?_) (fun k s hk hI=>o0D _ _ _ (f0D hb true hk).1 hI) (fun g s _=>aE) _ hg0).trans ?_
 ·obtain⟨a1,a2,_,_⟩:=h0C b hb hk;obtain⟨l1,l2⟩:=f0D hb true hk;obtain⟨i1,i2⟩:=hI;have e3:((k:Int)).toNat=k:=rfl;have hn:=o0m (d0g b true) (f0T b true) (fun i=>lv.getD i false) (d0g b true k) k;refine(if_pos (by show decide ((k:Int) < ((lV b).length:Int))=true; simpa using hk)).trans ?_;refine(gP ⟨⟨by omega,by show(k:Int) < ((lV b).length:Int); omega⟩,trivial⟩).trans ?_;rw[lE,e3];have ef:u77 ((lV b).getD k (a0a y48))=some ((d0g b true k:Int),(f0T b true k:Int)):=by
   unfold u77;rw[a1,a2];rfl
  show gd ((u77 ((lV b).getD k (a0a y48))).isSome=true/\True) (lt (vl (u77 ((lV b).getD k (a0a y48)))) fun v8=>_)=_;rw[ef,vS,gP ⟨rfl,trivial⟩,lE];refine(gP ⟨⟨by omega,by show(k:Int) < (lv.length:Int); omega⟩,trivial⟩).trans ?_;rw[show grF (d0g b true) (f0T b true) (fun i=>lv.getD i false) k s=if lv.getD k false=true then s.set (d0g b true k) (s.getD (d0g b true k) []++[(f0T b true k:Int)]) else s from rfl];cases hl:lv.getD k false with
  | false =>
    refine(if_neg Bool.false_ne_true).trans ?_;refine(gP (V:=a0f ((k:Int)+1)/\True) ⟨oo,trivial⟩).trans ?_;rfl
  | true =>
    refine(if_pos (show(true:Bool)=true from rfl)).trans ?_;have e6:s.getD ((d0g b true k:Int)).toNat []=h0h k (d0g b true) (f0T b true) (fun i=>lv.getD i false) (d0g b true k):=i2 _;refine(gP ⟨⟨by show 0<=(d0g b true k:Int); omega,by show(d0g b true k:Int)<_; omega⟩,by show d0g b true k<_; omega,⟨by show(s.getD ((d0g b true k:Int)).toNat []).length+1<=_; rw[e6]; omega,by show((s.getD ((d0g b true k:Int)).toNat []).length+1)*8<=_; rw[e6]; omega⟩,⟨by show 0<=(d0g b true k:Int); omega,by show(d0g b true k:Int)<_; omega⟩,⟨by show d0g b true k<_; omega,rfl⟩,trivial⟩).trans ?_;refine(gP (V:=a0f ((k:Int)+1)/\True) ⟨oo,trivial⟩).trans ?_;rfl
 ·show e0O [(s':Int)] (a0o b,lv) (fN _ _ _)=_;unfold e0O;rw[en,vS,e0,gP ⟨rfl,⟨by omega,rfl,by omega,by omega⟩,trivial⟩,lE,F0y _ (by show 1<=_; omega),vS,gP ⟨rfl,trivial⟩,lE];exact h2
end
section
variable {b:Y34}
end
theorem m0N{l:List Int}{x:Int}:b0s l x=true↔x∈l:=by
 unfold b0s;rw[List.any_eq_true];constructor
 ·rintro⟨j,hj,he⟩;rw[<- eq_of_beq he];exact b0d (List.mem_range.1 hj)
 ·intro h;obtain⟨j,hj,rfl⟩:=List.getElem_of_mem h;exact⟨j,List.mem_range.2 hj,by rw[gq,List.getElem?_eq_getElem hj]; exact beq_self_eq_true _⟩
theorem z0p{M:Nat}(br:List Int){k:Nat}(hk:k<M):(e0h M br).getD k false=!b0s br (k:Int):=f0s (fun k=>!b0s br (k:Int)) false _ k hk
end Go.Proofs.YtphnknndgfgepaaGreatDoor
end
