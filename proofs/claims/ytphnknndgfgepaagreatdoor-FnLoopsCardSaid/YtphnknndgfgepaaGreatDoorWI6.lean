/- Shortest x0Y paths: the reference's way; what both say. -/
import Derived.Test.YtphnknndgfgepaaGreatDoorWH6
import Derived.Test.YtphnknndgfgepaaGreatDoorWF6
import Derived.Test.YtphnknndgfgepaaGreatDoorF76d
section
namespace Go.Proofs.YtphnknndgfgepaaGreatDoor
open Go Go.Proofs Go.Proofs.Sv Go.Proofs.Xv Go.Proofs.Xl Go.Proofs.Xd
section
variable (M:Nat) (fr to:Nat->Nat) (lv:Nat->Bool) (d:List Int)
theorem Cg:∀k a,(O0 M fr to lv d k a).length<=k
 | 0,_=>Nat.le_refl _
 | k+1,a=>by
   show(match(List.range M).find? (fun i=>lv i&&fr i==a&&d.getD (to i) 0==(k:Int)) with
    | some i=>(i:Int) :: O0 M fr to lv d k (to i)
    | none=>O0 M fr to lv d k a).length<=k+1
   split
   ·rename_i i _;have:=Cg k (to i);rw[List.length_cons]; omega
   ·have:=Cg k a;omega
end
section
variable {b:Y34}
end
theorem n0R{M N:Nat}{fr to:Nat->Nat}{lv:Nat->Bool}{d:List Int}{s:Nat}(hn:0<=H3 M fr to lv d s):0 < (Jx M fr to lv d s).length:=by
 obtain⟨i,hi⟩:=Int.eq_ofNat_of_zero_le hn;obtain⟨g1,g2,g3,g4,g5,_,g7⟩:=Vj M fr to lv d hi;obtain⟨m,hm⟩:=Int.eq_ofNat_of_zero_le g4;unfold Jx;rw[g5,hm,show((m:Int)+1).toNat=m+1 from rfl];show 0 < (match(List.range M).find? (fun i=>lv i&&fr i==s&&d.getD (to i) 0==(m:Int)) with
  | some i=>(i:Int) :: O0 M fr to lv d m (to i)
  | none=>O0 M fr to lv d m s).length
 rw[hm] at g7;rw[g7];simp
def lpF(b:Y34)(br:List Int)(a:Int):List Int×Int:=if Wq b br a=0 then(if H3 (lV b).length (frN b) (toN b) (fun i=>(A0 (lV b).length br).getD i false) (Yq (lV b).length (l5 b) (frN b) (toN b) (fun i=>(A0 (lV b).length br).getD i false) a.toNat) a.toNat<0 then([],5) else
 (Jx (lV b).length (frN b) (toN b) (fun i=>(A0 (lV b).length br).getD i false) (Yq (lV b).length (l5 b) (frN b) (toN b) (fun i=>(A0 (lV b).length br).getD i false) a.toNat) a.toNat,0)) else([],Wq b br a)
theorem r0H{b:Y34}{a:Int}(hi:inB a 0 ((l5 b:Int)-1)=true):a.toNat<l5 b:=by
 unfold inB at hi;simp only[ba,dq] at hi;omega
theorem r35(b:Y34)(hw:wf y34 b)(hm:cnt y34 b<=1048576)(br:List Int)(hl:br.length<=1048576)(a:Int):u35 b br a=some (lpF b br a):=by
 have hn:=r72 b hw hm br hl a;unfold u35 lpF;rw[hn];by_cases h:Wq b br a=0
 ·obtain⟨hc,hi⟩:=Xb h;obtain⟨hb,hr⟩:=Mj hc;have ha:=C0o hi;have hlt:=r0H hi;have hp:=r83 hb (Lj _ br) hlt;rw[<- ha] at hp;rw[if_pos h,if_pos h];refine(if_neg (by simp[isL])).trans ((gP ⟨rfl,trivial⟩).trans ?_);rw[lE];refine(if_neg (by simp[vR])).trans ?_;show(if isL (u83 (r5 b,A0 (lV b).length br) a)=true then gd (isL (u83 (r5 b,A0 (lV b).length br) a)=true/\True) (some ([],5)) else gd (isR (u83 (r5 b,A0 (lV b).length br) a)=true/\True) (gd (0 < (vR (u83 (r5 b,A0 (lV b).length br) a)).length/\True) (some (vR (u83 (r5 b,A0 (lV b).length br) a),0))))=_;rw[hp];rcases Int.lt_or_le (H3 (lV b).length (frN b) (toN b) (fun i=>(A0 (lV b).length br).getD i false) (Yq (lV b).length (l5 b) (frN b) (toN b) (fun i=>(A0 (lV b).length br).getD i false) a.toNat) a.toNat) 0 with hn | hn
  ·rw[if_pos hn,if_pos hn];refine(if_pos rfl).trans ?_;exact gP ⟨rfl,trivial⟩
  ·have hpos:=n0R (N:=l5 b) hn;have hn':=Int.not_lt.2 hn;rw[if_neg hn',if_neg hn'];refine(if_neg (by simp[isL])).trans ?_;refine(gP ⟨rfl,trivial⟩).trans ?_;exact gP ⟨hpos,trivial⟩
 ·rw[if_neg h,if_neg h];refine(if_pos rfl).trans ((gP ⟨rfl,trivial⟩).trans ?_);exact if_pos (by show(Wq b br a != 0)=true; simp[h])
theorem z0i(b:Y34)(br:List Int)(a:Int):(lpF b br a).1.length<=1048576:=by
 unfold lpF;split
 ·rename_i h;obtain⟨hc,hi⟩:=Xb h;obtain⟨hb,hr⟩:=Mj hc;have hN:=Pq b hb;have hlt:=r0H hi;have hf:∀i,i < (lV b).length->frN b i<l5 b:=fun i hi=>(M4 b hb hi).2.2.1;have ht:∀i,i < (lV b).length->toN b i<l5 b:=fun i hi=>(M4 b hb hi).2.2.2;have hfar:=Yy (lV b).length (l5 b) (frN b) (toN b) (fun i=>(A0 (lV b).length br).getD i false) hf ht hlt;split
  ·exact Nat.zero_le _
  ·rename_i hn;obtain⟨i,hi⟩:=Int.eq_ofNat_of_zero_le (show 0<=H3 (lV b).length (frN b) (toN b) (fun i=>(A0 (lV b).length br).getD i false) (Yq (lV b).length (l5 b) (frN b) (toN b) (fun i=>(A0 (lV b).length br).getD i false) a.toNat) a.toNat by omega);obtain⟨g1,g2,g3,g4,g5,_⟩:=Vj (lV b).length (frN b) (toN b) (fun i=>(A0 (lV b).length br).getD i false) _ hi;have hlo:=hfar.lo (toN b i) (ht i g1);refine Nat.le_trans (Cg _ _ _ _ _ _ _) ?_;omega
 ·exact Nat.zero_le _
end Go.Proofs.YtphnknndgfgepaaGreatDoor
end
section
namespace Go.Proofs.Xd
open Go.Proofs.Xl
def Zq(M:Nat)(fr to:Nat->Nat)(lv:Nat->Bool)(Q:Nat->Prop):Nat->List Int->Nat->Prop
 | a,[],z=>a=z
 | a,x :: l,z=>∃i:Nat,x=(i:Int)/\i<M/\lv i=true/\fr i=a/\Q a/\Zq M fr to lv Q (to i) l z
section
variable {M N:Nat} {fr to:Nat->Nat} {lv:Nat->Bool} {d:List Int} {s:Nat}
theorem s0t(h:FarOk M N fr to lv s d):∀(k a:Nat),a<N->d.getD a 0=(k:Int)->(∀i,i<M->to i<N)->Rch M fr to lv a s
 | 0,a,ha,e,_=>by
   have:=h.zero a ha (by omega);rw[this];exact .refl
 | k+1,a,ha,e,ht=>by
   obtain⟨i,h1,h2,h3,h4⟩:=h.pre a ha (by omega);have:=s0t h k (to i) (ht i h1) (by omega) ht;have:=Rch.head h1 h2 this;rw[h3] at this;exact this
theorem y0R(h:FarOk M N fr to lv s d){a c:Nat}(r:Rch M fr to lv a c):0<=d.getD c 0->0<=d.getD a 0:=by
 induction r with
 | refl=>exact id
 | @step i _ hi hl ih=>exact fun hz=>ih (h.cls i hi hl hz).1
theorem x0H(h:FarOk M N fr to lv s d)(ht:∀i,i<M->to i<N):∀(k a:Nat),a<N->d.getD a 0=(k:Int)->Rch M fr to lv s a->Zq M fr to lv (fun a=>Rch M fr to lv s a/\Rch M fr to lv a s) a (O0 M fr to lv d k a) s
 | 0,a,ha,e,_=>h.zero a ha (by omega)
 | k+1,a,ha,e,r=>by
   obtain⟨i,h1,h2,h3,h4,h5,h6⟩:=h.near (k:=k) ha (by omega);rw[h6];refine⟨i,rfl,h1,h5,h4,⟨r,s0t h (k+1) a ha (by omega) ht⟩,x0H h ht k (to i) (ht i h1) h3 ?_⟩;rw[<- h4] at r;exact r.step h1 h5
theorem C0c(h:FarOk M N fr to lv s d)(ht:∀i,i<M->to i<N){i:Nat}(h1:i<M)(h2:lv i=true)(h3:fr i=s)(h4:Rch M fr to lv (to i) s):0<=H3 M fr to lv d s/\Zq M fr to lv (fun a=>Rch M fr to lv s a/\Rch M fr to lv a s) s (Jx M fr to lv d s) s:=by
 have hz:0<=d.getD (to i) 0:=y0R h h4 (by rw[h.src]; decide);have hn:0<=H3 M fr to lv d s:=by
  rcases Int.lt_or_le (H3 M fr to lv d s) 0 with hn | hn
  ·have:=(r0M M fr to lv d hn).2.2 i h1 h2 h3;omega
  ·exact hn
 refine⟨hn,?_⟩;obtain⟨k,hk⟩:=Int.eq_ofNat_of_zero_le hn;obtain⟨g1,g2,g3,g4,g5,_,g7⟩:=Vj M fr to lv d hk;obtain⟨m,hm⟩:=Int.eq_ofNat_of_zero_le g4;unfold Jx;rw[g5,hm,show((m:Int)+1).toNat=m+1 from rfl];show Zq M fr to lv _ s (match(List.range M).find? (fun i=>lv i&&fr i==s&&d.getD (to i) 0==(m:Int)) with
  | some i=>(i:Int) :: O0 M fr to lv d m (to i)
  | none=>O0 M fr to lv d m s) s
 rw[hm] at g7;rw[g7];have hr:Rch M fr to lv s (to k):=by
  have:=Rch.one (M:=M) (fr:=fr) (to:=to) (lv:=lv) g1 g2;rw[g3] at this;exact this
 exact⟨k,rfl,g1,g2,g3,⟨.refl,.refl⟩,x0H h ht m (to k) (ht k g1) hm hr⟩
end
end Go.Proofs.Xd
namespace Go.Proofs.YtphnknndgfgepaaGreatDoor
open Go Go.Proofs Go.Proofs.Sv Go.Proofs.Xv Go.Proofs.Xl Go.Proofs.Xd
section
variable {b:Y34}
def LpI(b:Y34)(lv:List Bool)(s:List Bool×List (List Int)):Prop:=s.1.length=l5 b/\(∀l∈s.2,∃v,v<l5 b/\l=clV b lv v/\U9 b lv v=true)/\(∀w l,w<l5 b->l∈s.2->(w:Int)∈l->s.1.getD w false=true)/\s.2.flatten.Nodup
theorem Wj{lv:List Bool}{v:Nat}{x:Int}:x∈clV b lv v↔∃w,w<l5 b/\clP b lv v w=true/\x=(w:Int):=v0k
theorem v0G(hb:A7 b=true){lv:List Bool}(hlv:lv.length=(lV b).length){v:Nat}(hv:v<l5 b){s:List Bool×List (List Int)}(h:LpI b lv s):LpI b lv (O7 b lv v s):=by
 obtain⟨h1,h2,h3,h4⟩:=h;unfold O7;split
 ·exact⟨h1,h2,h3,h4⟩
 ·rename_i hs;split
  ·rename_i hc;refine⟨Qj _ _ _,fun l hl=>?_,fun w l hw hl hx=>?_,?_⟩
   ·rcases List.mem_append.1 hl with hl | hl
    ·exact h2 l hl
    ·exact⟨v,hv,List.mem_singleton.1 hl,hc⟩
   ·show(orB (clP b lv v) (l5 b) s.1).getD w false=true;rw[Tw _ _ _ hw,Bool.or_eq_true];rcases List.mem_append.1 hl with hl | hl
    ·exact .inl (h3 w l hw hl hx)
    ·rw[List.mem_singleton.1 hl] at hx;obtain⟨w',_,e,e2⟩:=Wj.1 hx;have:w=w':=by omega
     rw[this];exact .inr e
   ·show(s.2++[clV b lv v]).flatten.Nodup;rw[List.flatten_append,List.nodup_append];refine⟨h4,?_,fun x hx y hy e=>?_⟩
    ·rw[List.flatten_cons,List.flatten_nil,List.append_nil];exact(v0j _ _).imp fun {x y} h=>by omega
    ·rw[List.flatten_cons,List.flatten_nil,List.append_nil] at hy;subst e;obtain⟨l,hl,hxl⟩:=List.mem_flatten.1 hx;obtain⟨u,hu,e,_⟩:=h2 l hl;have hxl':=hxl;rw[e] at hxl';obtain⟨w,hw,p1,e1⟩:=Wj.1 hxl';obtain⟨w',hw',p2,e2⟩:=Wj.1 hy;have:w'=w:=by omega
     subst this;obtain⟨r1,r2⟩:=(Qz hb hlv hu hw).1 p1;obtain⟨r3,r4⟩:=(Qz hb hlv hv hw).1 p2;have hin:(v:Int)∈l:=by
      rw[e];exact Wj.2 ⟨v,hv,(Qz hb hlv hu hv).2 ⟨r1.trans r4,r3.trans r2⟩,rfl⟩
     exact hs (h3 v l hv hl hin)
  ·exact⟨h1,h2,h3,h4⟩
theorem Dg(hb:A7 b=true){lv:List Bool}(hlv:lv.length=(lV b).length):(∀l∈J8 b lv,∃v,v<l5 b/\l=clV b lv v/\U9 b lv v=true)/\(J8 b lv).flatten.Nodup/\(J8 b lv).length<=l5 b:=by
 have key:∀m,m<=l5 b->LpI b lv (fN (O7 b lv) m (List.replicate (l5 b) false,[]))/\(fN (O7 b lv) m (List.replicate (l5 b) false,[])).2.length<=m:=by
  intro m
  induction m with
  | zero=>exact fun _=>⟨⟨List.length_replicate,fun l hl=>(by cases hl),fun w l _ hl=>(by cases hl),List.nodup_nil⟩,Nat.le_refl _⟩
  | succ m ih =>
    intro hm;have:=ih (by omega);exact⟨v0G hb hlv (by omega) this.1,(Uy b lv ⟨this.1.1,this.2⟩).2⟩
 obtain⟨⟨_,h2,_,h4⟩,h5⟩:=key (l5 b) (Nat.le_refl _);exact⟨h2,h4,h5⟩
theorem r0Y(hb:A7 b=true){br:List Int}(hr:Qq (lV b).length br=true){l:List Int}(hl:l∈J8 b (A0 (lV b).length br)){x:Int}(hx:x∈l):∃w:Nat,x=(w:Int)/\w<l5 b/\(lpF b br x).2=0/\0 < (lpF b br x).1.length /\
  Zq (lV b).length (frN b) (toN b) (fun i=>(A0 (lV b).length br).getD i false) (fun a=>(a:Int)∈l) w (lpF b br x).1 w:=by
 have hlv:(A0 (lV b).length br).length=(lV b).length:=Lj _ _;have ht:∀i,i < (lV b).length->toN b i<l5 b:=fun i hi=>(M4 b hb hi).2.2.2;have hf:∀i,i < (lV b).length->frN b i<l5 b:=fun i hi=>(M4 b hb hi).2.2.1;obtain⟨v,hv,e,hc⟩:=(Dg hb hlv).1 l hl;rw[e] at hx;obtain⟨w,hw,hp,rfl⟩:=Wj.1 hx;obtain⟨r1,r2⟩:=(Qz hb hlv hv hw).1 hp;have hcyc:∃i,i < (lV b).length/\(A0 (lV b).length br).getD i false=true/\frN b i=w/\Tj b (A0 (lV b).length br) (toN b i) w:=by
  rcases n0M r2 with e2 | ⟨i,h1,h2,h3,h4⟩
  ·subst e2;exact(z0J hb hlv hw).1 hc
  ·exact⟨i,h1,h2,h3,h4.trans r1⟩
 obtain⟨i,h1,h2,h3,h4⟩:=hcyc;have hfar:=Yy (lV b).length (l5 b) (frN b) (toN b) (fun i=>(A0 (lV b).length br).getD i false) hf ht hw;obtain⟨q1,q2⟩:=C0c hfar ht h1 h2 h3 h4;have hcn:Wq b br (w:Int)=0:=by
  unfold Wq N4;rw[if_pos hb,if_pos hr,if_pos rfl,if_pos (D1.2 oo)]
 have e4:Int.toNat (w:Int)=w:=rfl;have el:lpF b br (w:Int)=(Jx (lV b).length (frN b) (toN b) (fun i=>(A0 (lV b).length br).getD i false) (Yq (lV b).length (l5 b) (frN b) (toN b) (fun i=>(A0 (lV b).length br).getD i false) w) w,0):=by
  unfold lpF;rw[if_pos hcn,e4,if_neg (by omega)]
 refine⟨w,rfl,hw,by rw[el],by rw[el]; exact n0R (N:=l5 b) q1,?_⟩;rw[el];have mono:∀(p:List Int) (a:Nat),a<l5 b->Zq (lV b).length (frN b) (toN b) (fun i=>(A0 (lV b).length br).getD i false) (fun a=>Tj b (A0 (lV b).length br) w a/\Tj b (A0 (lV b).length br) a w) a p w->Zq (lV b).length (frN b) (toN b) (fun i=>(A0 (lV b).length br).getD i false) (fun a=>(a:Int)∈l) a p w:=by
  intro p
  induction p with
  | nil=>exact fun _ _ h=>h
  | cons y p ih =>
    rintro a ha ⟨i,g1,g2,g3,g4,⟨g5,g6⟩,g7⟩;refine⟨i,g1,g2,g3,g4,?_,ih _ (ht i g2) g7⟩;rw[e];exact Wj.2 ⟨a,ha,(Qz hb hlv hv ha).2 ⟨r1.trans g5,g6.trans r2⟩,rfl⟩
 exact mono _ w hw q2
end
end Go.Proofs.YtphnknndgfgepaaGreatDoor
end
section
namespace Go.Proofs.YtphnknndgfgepaaGreatDoor
open Go Go.Proofs Go.Proofs.Sv Go.Proofs.Xv Go.Proofs.Xl Go.Proofs.Xd
def lsF(b:Y34)(br:List Int):List (List Int)×Int:=if N4 b br=0 then(J8 b (A0 (lV b).length br),0) else([],N4 b br)
theorem r33(b:Y34)(hw:wf y34 b)(hm:cnt y34 b<=1048576)(br:List Int)(hl:br.length<=1048576):u33 b br=some (lsF b br):=by
 have hn:=r56 b hw hm br hl;unfold u33 lsF;by_cases h:N4 b br=0
 ·obtain⟨hb,hr⟩:=Mj h;rw[if_pos h] at hn ⊢;rw[hn];refine(if_neg (by simp[isL])).trans ((gP ⟨rfl,trivial⟩).trans ?_);refine(if_neg (by simp[vR])).trans ?_;show gd ((u81 (r5 b,A0 (lV b).length br)).isSome=true/\True) (lt (vl (u81 (r5 b,A0 (lV b).length br))) fun v0=>some (v0,(0:Int)))=_;rw[r81 hb (Lj _ _),vS,gP ⟨rfl,trivial⟩,lE]
 ·rw[if_neg h] at hn ⊢;rw[hn];refine(if_pos rfl).trans ((gP ⟨rfl,trivial⟩).trans ?_);exact if_pos (by show(N4 b br != 0)=true; simp[h])
theorem r34(b:Y34)(hw:wf y34 b)(hm:cnt y34 b<=1048576)(br:List Int)(hl:br.length<=1048576):u34 b br=some (lsF b br):=by
 unfold u34 lsF;rw[r58 b hw hm br hl,vS,gP ⟨rfl,trivial⟩,lE];by_cases h:N4 b br=0
 ·obtain⟨hb,hr⟩:=Mj h;have hM:=P9 hb;rw[if_pos h,h];refine(if_neg (by decide)).trans ?_;rw[r59 b hw hb,vS,gP ⟨rfl,trivial⟩,lE,r61 b hw hb,vS,r62 _ _ (by omega) hl,vS,r82 hb (Lj _ _),vS];refine(gP ⟨rfl,rfl,rfl,trivial⟩).trans ?_;rfl
 ·rw[if_neg h];exact if_pos (by simp[h])
theorem o0s{L:List (List Int)}{K:Nat}(h:∀l∈L,l.length<=K):∀i,i<=L.length->((L.take i).flatten).length<=i*K
 | 0,_=>by simp
 | i+1,hi=>by
   have ih:=o0s h i (by omega);have:=h _ (List.getElem_mem (show i<L.length by omega));rw[List.take_add_one,List.getElem?_eq_getElem (by omega),Option.toList_some,List.flatten_append,List.length_append,List.flatten_cons,List.flatten_nil,List.append_nil,Nat.add_mul];omega
theorem Qv{L:List (List Int)}{i:Nat}(h:i<L.length):L.getD i []=L[i]:=by
 rw[gq,List.getElem?_eq_getElem h]; rfl
theorem s0p{L:List (List Int)}{i:Nat}(h:i<L.length):(L.take (i+1)).flatten=(L.take i).flatten++L.getD i []:=by
 rw[List.take_add_one,List.getElem?_eq_getElem h,Option.toList_some,List.flatten_append,List.flatten_cons,List.flatten_nil,List.append_nil,Qv h]
theorem Gg{l:List Int}{j:Nat}(hj:j<l.length):l.getD j 0=l[j]:=by rw[gq,List.getElem?_eq_getElem hj]; rfl
theorem r0e{l:List Int}{k:Nat}(h:k<l.length):l.take (k+1)=l.take k++[l.getD k 0]:=by
 rw[List.take_add_one,List.getElem?_eq_getElem h,Option.toList_some,Gg h]
theorem y0O{L:List (List Int)}(hd:L.flatten.Nodup){i k:Nat}(hi:i<L.length)(hk:k < (L.getD i []).length):B6 ((L.take i).flatten++(L.getD i []).take k) ((L.getD i []).getD k 0)=false:=by
 have e:L.flatten=((L.take i).flatten++(L.getD i []).take k)++((L.getD i []).getD k 0 :: ((L.getD i []).drop (k+1)++(L.drop (i+1)).flatten)):=by
  have e1:L.flatten=(L.take i).flatten++(L.getD i []++(L.drop (i+1)).flatten):=by
   conv=>lhs; rw[<- List.take_append_drop i L,List.drop_eq_getElem_cons hi,List.flatten_append,List.flatten_cons]
   rw[Qv hi]
  have e2:L.getD i []=(L.getD i []).take k++((L.getD i []).getD k 0 :: (L.getD i []).drop (k+1)):=by
   conv=>lhs; rw[<- List.take_append_drop k (L.getD i []),List.drop_eq_getElem_cons hk]
   rw[Gg hk]
  rw[e1]
  conv=>lhs; rw[e2]
  simp only[List.append_assoc,List.cons_append]
 rw[e,List.nodup_append] at hd;cases hc:B6 ((L.take i).flatten++(L.getD i []).take k) ((L.getD i []).getD k 0) with
 | false=>rfl
 | true=>exact(hd.2.2 _ (s0j.1 hc) _ List.mem_cons_self rfl).elim
section
variable [Alw] {b:Y34} {br:List Int}
theorem C0e(hb:A7 b=true)(hl:br.length<=1048576){L:List (List Int)}{c c3 d:Int}{i k w:Nat}{seen p:List Int}{g3:Int×List Int->Option Bool}(hi:i<L.length)(hk:k < (L.getD i []).length)(hL:(L.getD i []).length<=1000000)(hx:(L.getD i []).getD k 0=(w:Int))(hp:p.length<=1048576)(hwN:w<l5 b)
  (hpth:Zq (lV b).length (frN b) (toN b) (fun i=>(A0 (lV b).length br).getD i false) (fun a=>(a:Int)∈L.getD i []) w p w)
  (h:∃r,g3 ((k:Int)+1,seen++[(L.getD i []).getD k 0])=some r/\r=true) :
  ∃r,lp (E0e (lV b,c) (p,d) (b,br) (L,c3) (i:Int) (k:Int) seen g3) ((L.getD i []).getD k 0,0)=some r/\r=true:=by
 have hM:=P9 hb;have hN:=Pq b hb;refine M8 (fun x=>p.length+1-x.2.toNat) (fun x=>0<=x.2/\x.2<=(p.length:Int)/\∃a:Nat,x.1=(a:Int)/\a<l5 b/\Zq (lV b).length (frN b) (toN b) (fun i=>(A0 (lV b).length br).getD i false) (fun a=>(a:Int)∈L.getD i []) a (p.drop x.2.toNat) w) ?_ ⟨by simp only; omega,by simp only; omega,w,hx,hwN,by show Zq _ _ _ _ _ w (p.drop 0) w; exact hpth⟩ (by simp only; omega);rintro g ⟨at',j⟩ ⟨j1,j2,a,ha,haN,hq⟩ ih;simp only at j1 j2 ha hq;subst ha;obtain⟨v,rfl⟩:∃v:Nat,j=(v:Int):=⟨j.toNat,by omega⟩;have e4:Int.toNat (v:Int)=v:=rfl;rw[e4] at hq;have ei:Int.toNat (i:Int)=i:=rfl;have ek:Int.toNat (k:Int)=k:=rfl;unfold E0e;dsimp only;by_cases cc:(v:Int) < (p.length:Int)
 ·rw[if_pos (decide_eq_true cc)];have hv:v<p.length:=by omega
  rw[List.drop_eq_getElem_cons hv] at hq;obtain⟨q,q1,q2,q3,q4,q5,q6⟩:=hq;have eq:p.getD v 0=(q:Int):=by rw[Gg hv]; exact q1
  obtain⟨f1,f2,f3,f4⟩:=M4 b hb q2;have e5:∀n:Nat,Int.toNat (n:Int)=n:=fun _=>rfl;have d1:decide ((q:Int)<0)=false:=decide_eq_false (by omega);have d2:decide (((lV b).length:Int)<=(q:Int))=false:=decide_eq_false (by omega);have d3:((frN b q:Int) != (a:Int))=false:=by rw[q4]; simp
  have d4:B6 br (q:Int)=false:=by
   have q3:(A0 (lV b).length br).getD q false=true:=q3;rw[z0l br q2] at q3;simpa using q3
  have d5:B6 (L.getD i []) (a:Int)=true:=s0j.2 q5;have ixq:ix (q:Int) (lV b).length:=oo;have ixv:ix (v:Int) p.length:=oo;have ixi:ix (i:Int) L.length:=oo;simp only[e4,eq,e5,r18 br _ (show br.length<=9223372036854775807 by omega),r18 (L.getD i []) _ (show(L.getD i []).length<=9223372036854775807 by omega),vS,Option.isSome_some,d1,d2,f1,d3,d4,d5];refine m0 ⟨ixv,fun _=>ixv,fun _=>ixv,fun _=>trivial,fun _=>ixv,fun _=>ixq,fun _=>q2,fun _=>ixi,fun _=>hi,fun _=>trivial,trivial⟩ ?_;rw[if_neg (by decide)];refine m0 ⟨ixv,ixq,q2,trivial⟩ (A8 (m0 ⟨oo,trivial⟩ (ih _ ⟨by simp only; omega,by simp only; omega,toN b q,f2,f4,?_⟩ (by simp only; omega))));show Zq _ _ _ _ _ (toN b q) (p.drop (v+1)) w;exact q6
 ·rw[if_neg (by simpa using cc)];have hv:v=p.length:=by omega
  subst hv;rw[List.drop_length] at hq;have hq:a=w:=hq;subst hq;unfold E0g;rw[ei,ek,hx];rw[if_neg (by simp)];unfold E0h;rw[ei,ek];exact m0 ⟨oo,trivial⟩ h
theorem z0k(hw:wf y34 b)(hm:cnt y34 b<=1048576)(hb:A7 b=true)(hr:Qq (lV b).length br=true)(hl:br.length<=1048576){c c3:Int}{i:Nat}(hi:i < (J8 b (A0 (lV b).length br)).length){seen:List Int}{g1:Int×List Int->Option Bool}
  (hs:seen=((J8 b (A0 (lV b).length br)).take i).flatten)
  (h:∃r,g1 ((i:Int)+1,((J8 b (A0 (lV b).length br)).take (i+1)).flatten)=some r/\r=true) :
  ∃r,lp (E0f (lV b,c) (b,br) (J8 b (A0 (lV b).length br),c3) (i:Int) g1) (0,seen)=some r/\r=true:=by
 have hN:=Pq b hb;have hlv:(A0 (lV b).length br).length=(lV b).length:=Lj _ _;obtain⟨o1,o2,o3⟩:=Dg hb hlv;have hlen:∀l∈J8 b (A0 (lV b).length br),l.length<=l5 b:=fun l hl=>by
  obtain⟨v,_,e,_⟩:=o1 l hl;rw[e]; exact Vy b _ v
 have hfl:=fun i hi=>o0s hlen i hi;have hrow:∀{x:Int},x∈(J8 b (A0 (lV b).length br)).getD i []->_:=fun {x} hx=>r0Y hb hr (l:=(J8 b (A0 (lV b).length br)).getD i []) (by rw[Qv hi]; exact List.getElem_mem hi) hx;have hrl:((J8 b (A0 (lV b).length br)).getD i []).length<=l5 b:=hlen _ (by rw[Qv hi]; exact List.getElem_mem hi);have hbd:i*l5 b<=1000000*1000000:=Nat.mul_le_mul (by omega) hN;have hsl:=hfl i (by omega);rw[<- hs] at hsl;have ei:Int.toNat (i:Int)=i:=rfl;have ixi:ix (i:Int) (J8 b (A0 (lV b).length br)).length:=oo;have hsn:=fun k hk=>y0O o2 (i:=i) (k:=k) hi hk;generalize hLL:J8 b (A0 (lV b).length br)=L at *
 refine M8 (fun x=>(L.getD i []).length+1-x.1.toNat) (fun x=>0<=x.1/\x.1<=((L.getD i []).length:Int)/\x.2=seen++(L.getD i []).take x.1.toNat) ?_ ⟨by simp only; omega,by simp only; omega,by simp⟩ (by simp only; omega);rintro g ⟨k',s⟩ ⟨k1,k2,k3⟩ ih;simp only at k1 k2 k3;obtain⟨k,rfl⟩:∃k:Nat,k'=(k:Int):=⟨k'.toNat,by omega⟩;have ek:Int.toNat (k:Int)=k:=rfl;rw[ek] at k3;subst k3;unfold E0f;dsimp only;rw[ei];refine m0 ⟨ixi,hi,trivial⟩ ?_;by_cases cc:(k:Int) < ((L.getD i []).length:Int)
 ·rw[if_pos (decide_eq_true cc)];have hk:k < (L.getD i []).length:=by omega
  refine m0 ⟨ixi,hi,⟨by omega,cc⟩,trivial⟩ ?_;obtain⟨w,hx,hwN,p1,p2,p3⟩:=hrow (X1 (d:=0) hk);have hsn:=hsn k hk;rw[<- hs] at hsn;have ht:((L.getD i []).take k).length<=k:=by rw[List.length_take]; omega
  have hsz:(seen++(L.getD i []).take k).length<=i*l5 b+k:=by rw[List.length_append]; omega
  simp only[ek,r35 b hw hm br hl,vS,Option.isSome_some];refine m0 ⟨trivial,trivial⟩ (A8 ?_);have c1:((lpF b br ((L.getD i []).getD k 0)).2 != 0)=false:=by rw[p1]; rfl
  have c2:((((lpF b br ((L.getD i []).getD k 0)).1.length:Nat):Int)==0)=false:=by rw[beq_eq_false_iff_ne]; omega
  simp only[c1,c2,r18 (seen++(L.getD i []).take k) _ (show(seen++(L.getD i []).take k).length<=9223372036854775807 by omega),hsn,vS,Option.isSome_some];refine m0 ⟨fun _=>trivial,trivial⟩ ?_;rw[if_neg (by decide)];refine m0 ⟨⟨by simp only[List.length_cons,List.length_nil]; omega,by simp only[List.length_cons,List.length_nil]; omega⟩,trivial⟩ ?_;refine C0e (L:=L) hb hl hi hk (by omega) hx (z0i b br _) hwN p3 ?_;refine ih _ ⟨by simp only; omega,by simp only; omega,?_⟩ (by simp only; omega);show seen++(L.getD i []).take k++[(L.getD i []).getD k 0]=seen++(L.getD i []).take (k+1);rw[r0e hk,List.append_assoc]
 ·rw[if_neg (by simpa using cc)];have hk:k=(L.getD i []).length:=by omega
  unfold E0i;refine m0 ⟨oo,trivial⟩ ?_;rw[s0p hi,<- hs] at h;rw[hk,List.take_length];exact h
end
theorem lw6[Alw](c:List Int)(hw0:wf (.sl (.int .u8)) c):u6 c=some true:=by
 have key2:∀e:Option Bool,(∃r,e=some r/\r=true)->e=some true:=by rintro e ⟨r,rfl,rfl⟩; rfl
 refine key2 _ ?_;unfold u6;refine m0 ⟨rfl,trivial⟩ ?_;split
 ·exact⟨_,rfl,rfl⟩
 ·refine m0 ⟨trivial,trivial⟩ ⟨true,?_,rfl⟩;refine Alw.alp_of (([],([],[],[]),[]),[]) ⟨⟨by decide,by decide⟩,⟨⟨Nj,Nj,Nj,Nj,Nj,trivial⟩,Nj,trivial⟩,trivial⟩ fun v0 hv=>?_;obtain⟨⟨t1,t2⟩,hw,-⟩:=hv;have hwb:wf y34 v0.1:=⟨hw.1.1,⟨hw.1.2.1,hw.1.2.2.1,hw.1.2.2.2.1⟩,hw.1.2.2.2.2.1⟩;obtain⟨b,br⟩:=v0;simp only at t1 t2 hwb;have hm:cnt y34 b<=1048576:=by omega
  have hl:br.length<=1048576:=by omega
  refine(gP trivial).trans (key2 _ ?_);simp only[r33 b hwb hm br hl,r34 b hwb hm br hl,vS,Option.isSome_some];refine m0 ⟨trivial,trivial⟩ (A8 (m0 ⟨trivial,trivial⟩ (A8 ?_)));rw[if_neg (by simp)];by_cases hc:N4 b br=0
  ·obtain⟨hb,hr⟩:=Mj hc;have e:lsF b br=(J8 b (A0 (lV b).length br),0):=by
    unfold lsF;rw[if_pos hc]
   rw[e,if_neg (by simp)];simp only[n19 b hwb hm hb,vS,Option.isSome_some];refine m0 ⟨trivial,trivial⟩ (A8 ?_);have hN:=Pq b hb;obtain⟨_,_,o3⟩:=Dg hb (Lj (lV b).length br);refine M8 (fun x=>(J8 b (A0 (lV b).length br)).length+1-x.1.toNat) (fun x=>0<=x.1/\x.1<=((J8 b (A0 (lV b).length br)).length:Int)/\x.2=((J8 b (A0 (lV b).length br)).take x.1.toNat).flatten) ?_ ⟨by simp only; omega,by simp only; omega,rfl⟩ (by simp only; omega);rintro g ⟨i',s⟩ ⟨i1,i2,i3⟩ ih;simp only at i1 i2 i3;obtain⟨i,rfl⟩:∃i:Nat,i'=(i:Int):=⟨i'.toNat,by omega⟩;have ei:Int.toNat (i:Int)=i:=rfl;rw[ei] at i3;unfold F0k;dsimp only;by_cases cc:(i:Int) < ((J8 b (A0 (lV b).length br)).length:Int)
   ·rw[if_pos (decide_eq_true cc)];exact z0k hwb hm hb hr hl (by omega) i3 (ih _ ⟨by simp only; omega,by simp only; omega,rfl⟩ (by simp only; omega))
   ·rw[if_neg (by simpa using cc)];exact⟨_,rfl,rfl⟩
  ·have e:(lsF b br).2=N4 b br:=by
    unfold lsF;rw[if_neg hc]
   rw[if_pos (by rw[e]; simpa using hc)];exact⟨_,rfl,rfl⟩
end Go.Proofs.YtphnknndgfgepaaGreatDoor
end
