/- Lists of sources: both ways say the same. -/
import Derived.Test.YtechodbafnmddaaGreatDoorWB
import Derived.Test.YtechodbafnmddaaGreatDoorXK
import Derived.Test.YtechodbafnmddaaGreatDoorXF
import Derived.Test.YtechodbafnmddaaGreatDoorG94
import Derived.Test.YtechodbafnmddaaGreatDoorWA
set_option maxHeartbeats 0
section
namespace Go.Proofs.YtechodbafnmddaaGreatDoor
open Go Go.Proofs Go.Proofs.Sv Go.Proofs.Xv Go.Proofs.Xl Go.Proofs.Xd
theorem QE(s:Int×Int):P3 s=some (N7 s)/\Aa s=some (N7 s):=by
 have e:∀x,Fw x=some (j2 x (-1000000000) 1000000000):=fun _=>rfl;refine⟨?_,?_⟩
 ·unfold P3;rw[e,e,vS,vS];exact gP ⟨rfl,fun _=>rfl,trivial⟩
 ·unfold Aa;rw[R8,R8,vS,vS];exact gP ⟨rfl,fun _=>rfl,trivial⟩
def FY(n:Int)(l:List r8)(i:Nat):Bool:=!j2 (l.getD i (a7 y75)).1 0 (n-1)||!N7 (l.getD i (a7 y75)).2.1||!K5 (l.getD i (a7 y75)).2.2||decide (0 < (i:Int))&&decide ((l.getD i (a7 y75)).1<=(l.getD ((i:Int)-1).toNat (a7 y75)).1)
def L9(b:j1):Int:=2*((o3 b.2.1).length:Int)
def Cn(b:j1)(l:List r8):Bool:=!(List.range l.length).any (FY (L9 b) l)
theorem T0b(b:j1)(c:u3 b=true)(a:Int):T4 (j9 b) a=some (j2 a 0 (L9 b-1)):=by
 have e:L9 b=(j7 b:Int):=by
  unfold L9 j7;omega
 rw[e];exact Vd c a
theorem O0b(b:j1)(c:u3 b=true)(l:List r8)(f:l.length<=9223372036854775807):MG (j9 b) l=some (Cn b l):=by
 have a:=H9 (n:=l.length) f (FY (L9 b) l) (some false) (e:=some true) (F:=A0N (j9 b) l) (fun g i hi=>by
  have d:((i:Int)).toNat=i:=rfl;refine(if_pos (by simpa using hi)).trans ?_;rw[d,gP ⟨oo,trivial⟩,lE,T0b b c,vS,(QE _).1,vS,(Qv _).1,vS,gP ⟨rfl,(fun _=>rfl),(fun _=>rfl),(fun h=>⟨by have:=of_decide_eq_true h.1; omega,by omega⟩),(fun h=>⟨by have:=of_decide_eq_true h.1; omega,by omega⟩),trivial⟩,gP ⟨oo,trivial⟩];rfl) (fun g=>aE)
 unfold MG Cn;refine a.trans ?_;cases(List.range l.length).any (FY (L9 b) l) <;> rfl
theorem N0W(b:j1)(f:wf j6 b)(k:u3 b=true)(l:List r8)(m:l.length<=9223372036854775807):Lh b l=some (Cn b l):=by
 have a:=U2 (W4 k).1;have d:(O7 b.2.1.1.length b.2.1.2.2.length (l5 b.2.1) (B1 b.2.1)).length<=78:=a.len;have e:Q2 b=some (L9 b):=by
  unfold Q2;rw[FN b.2.1 f.2.1 a.fac.ni14 a.fac.np8 a.pin,vS,gP ⟨rfl,oo,trivial⟩,lE];rfl
 have o:0<=L9 b/\L9 b<=156:=by
  have:(o3 b.2.1).length<=78:=d;unfold L9;omega
 have c:=H9 (n:=l.length) m (FY (L9 b) l) (some false) (e:=some true) (F:=Ze l (L9 b)) (fun g i hi=>by
  have j:((i:Int)).toNat=i:=rfl;refine(if_pos (by simpa using hi)).trans ?_;rw[j,R8,vS,(QE _).2,vS,(Qv _).2,vS,gP ⟨oo,oo,rfl,(fun h=>⟨by have:=of_decide_eq_true h.1; omega,by omega⟩),(fun h=>⟨by have:=of_decide_eq_true h.1; omega,by omega⟩),(fun _=>oo),(fun _=>oo),(fun _=>rfl),(fun _=>oo),(fun _=>rfl),trivial⟩,gP ⟨oo,trivial⟩];unfold FY;cases j2 (l.getD i (a7 y75)).1 0 (L9 b-1) <;> cases N7 (l.getD i (a7 y75)).2.1 <;> cases K5 (l.getD i (a7 y75)).2.2 <;> cases decide (0 < (i:Int)) <;> cases decide ((l.getD i (a7 y75)).1<=(l.getD ((i:Int)-1).toNat (a7 y75)).1) <;> rfl) (fun g=>aE)
 unfold Lh;rw[e,vS,gP ⟨rfl,trivial⟩,lE];refine c.trans ?_;unfold Cn;cases(List.range l.length).any (FY (L9 b) l) <;> rfl
def zs(s:Int×Int):Bool:=s.1==0&&(s.2==0&&true)
def Hz(t:C0)(i:Nat):Bool:=!N7 (t.2.1.getD i (a7 y73))||!K5 (t.2.2.getD i (a7 y73))||!t.1.getD i false&&(!zs (t.2.1.getD i (a7 y73))||!zs (t.2.2.getD i (a7 y73)))
def Co(n:Int)(t:C0):Bool:=(t.1.length:Int) != n||(t.2.1.length:Int) != n||(t.2.2.length:Int) != n
def CW(n:Int)(t:C0):Bool:=!Co n t&&!(List.range t.1.length).any (Hz t)
theorem m0C{n:Int}{t:C0}(h:Co n t=false):t.2.1.length=t.1.length/\t.2.2.length=t.1.length:=by
 unfold Co at h;simp only[Bool.or_eq_false_iff,bne_eq_false_iff_eq] at h;omega
theorem O0d(b:j1)(j:u3 b=true)(t:C0)(f:wf y65 t):MF (j9 b) t=some (CW (L9 b) t):=by
 have m:=(U2 (W4 j).1).len;have e:∀s:List B6,IC s=some (s.length:Int):=fun _=>rfl;have l:∀s:List Bool,IK s=some (s.length:Int):=fun _=>rfl;have d:∀s:List B0,GS s=some (s.length:Int):=fun _=>rfl;have k:Q8 (j9 b)=some (L9 b):=by
  unfold Q8;rw[e,vS,gP ⟨rfl,⟨by show _<=2*((o3 b.2.1).length:Int); omega,by show 2*((o3 b.2.1).length:Int)<=_; omega⟩,trivial⟩,lE];rfl
 have a:t.1.length<=9223372036854775807:=f.1.1;unfold MF;rw[k,vS,gP ⟨rfl,trivial⟩,lE,l,d,d,vS,vS,vS,gP ⟨rfl,(fun _=>rfl),(fun _=>rfl),trivial⟩,lE];show(if Co (L9 b) t=true then some false else _)=_;unfold CW;cases hc:Co (L9 b) t with
 | true=>rfl
 | false =>
   obtain⟨q,o⟩:=m0C hc;have c:=H9 (n:=t.1.length) a (Hz t) (some false) (e:=some true) (F:=A0P t) (fun g i hi=>by
    have h:((i:Int)).toNat=i:=rfl;refine(if_pos (by simpa using hi)).trans ?_;rw[h,gP ⟨oo,trivial⟩,(QE _).1,vS,(Qv _).1,vS,gP ⟨oo,rfl,(fun _=>oo),(fun _=>rfl),(fun _=>oo),(fun _=>oo),trivial⟩,lE,gP ⟨oo,trivial⟩];rfl) (fun g=>aE)
   refine(if_neg (by simp)).trans (c.trans ?_);cases(List.range t.1.length).any (Hz t) <;> rfl
theorem r85(n:Int)(t:C0)(c:wf y65 t):Lk n t=some (CW n t):=by
 have a:t.1.length<=9223372036854775807:=c.1.1;unfold Lk;show(if Co n t=true then some false else _)=_;unfold CW;cases hc:Co n t with
 | true=>rfl
 | false =>
   obtain⟨h,f⟩:=m0C hc;have b:=H9 (n:=t.1.length) a (Hz t) (some false) (e:=some true) (F:=Zi t) (fun g i hi=>by
    have d:((i:Int)).toNat=i:=rfl;refine(if_pos (by simpa using hi)).trans ?_;rw[d,(QE _).2,vS,(Qv _).2,vS,gP ⟨oo,rfl,(fun _=>oo),(fun _=>rfl),(fun _=>oo),(fun _=>oo),(fun _=>oo),trivial⟩,lE,gP ⟨oo,trivial⟩];rfl) (fun g=>aE)
   refine(if_neg (by simp)).trans (b.trans ?_);cases(List.range t.1.length).any (Hz t) <;> rfl
section
variable {b:j1}
theorem Vh:L9 b=(j7 b:Int):=by
 unfold L9 j7;omega
theorem k0t{n:Int}{l:List r8}{i:Nat}:FY n l i=false↔((0<=(l.getD i (a7 y75)).1/\(l.getD i (a7 y75)).1<n)/\N7 (l.getD i (a7 y75)).2.1=true/\K5 (l.getD i (a7 y75)).2.2=true)/\(0<i->(l.getD (i-1) (a7 y75)).1 < (l.getD i (a7 y75)).1):=by
 have e:((i:Int)-1).toNat=i-1:=by omega
 unfold FY;rw[e];simp only[Bool.or_eq_false_iff,Bool.not_eq_false',Bool.and_eq_false_iff,decide_eq_false_iff_not,A4];constructor
 ·rintro⟨⟨⟨a,c⟩,d⟩,f⟩;exact⟨⟨⟨a.1,by omega⟩,c,d⟩,fun b=>by rcases f with f | f <;> omega⟩
 ·rintro⟨⟨a,c,d⟩,f⟩;refine⟨⟨⟨⟨a.1,by omega⟩,c⟩,d⟩,?_⟩;by_cases b:0<i
  ·exact .inr (by have:=f b; omega)
  ·exact .inl (by omega)
theorem x0a{l:List r8}:Cn b l=true↔∀i,i<l.length->((0<=(l.getD i (a7 y75)).1/\(l.getD i (a7 y75)).1 < (j7 b:Int))/\N7 (l.getD i (a7 y75)).2.1=true/\K5 (l.getD i (a7 y75)).2.2=true)/\(0<i->(l.getD (i-1) (a7 y75)).1 < (l.getD i (a7 y75)).1):=by
 unfold Cn;rw[Cf,Vh];exact⟨fun h i hi=>k0t.1 (h i hi),fun h i hi=>k0t.2 (h i hi)⟩
theorem t0U{l:List r8}(h:Cn b l=true):Jr l/\∀s∈l,(0<=s.1/\s.1 < (j7 b:Int))/\N7 s.2.1=true/\K5 s.2.2=true:=by
 have f:=x0a.1 h;constructor
 ·refine List.pairwise_iff_getElem.2 fun i j hi d c=>?_;have a:∀k,i<k->k<l.length->(l.getD i (a7 y75)).1 < (l.getD k (a7 y75)).1:=by
   intro k
   induction k with
   | zero=>intro q; omega
   | succ k g =>
     intro o m;have s:=(f (k+1) m).2 (by omega);rw[Nat.add_sub_cancel] at s;by_cases e:i=k
     ·subst e; exact s
     ·exact Int.lt_trans (g (by omega) (by omega)) s
  have:=a j c d
  rwa [gq,List.getElem?_eq_getElem hi,gq,List.getElem?_eq_getElem d] at this
 ·intro s n;obtain⟨i,hi,rfl⟩:=List.mem_iff_getElem.1 n;have:=(f i hi).1
  rwa [gq,List.getElem?_eq_getElem hi] at this
theorem y0G{s:Int×Int}:zs s=true↔s=(0,0):=by
 obtain⟨x,y⟩:=s;unfold zs;simp
theorem p0T{t:C0}:CW (L9 b) t=true↔Ny (j7 b) t:=by
 have g:a7 y73=((0:Int),(0:Int)):=rfl;unfold CW;rw[ba,Cf,Vh];have e:∀i,Hz t i=false↔(N7 (t.2.1.getD i (0,0))=true/\K5 (t.2.2.getD i (0,0))=true/\(t.1.getD i false=false->t.2.1.getD i (0,0)=(0,0)/\t.2.2.getD i (0,0)=(0,0))):=fun i=>by
  unfold Hz;rw[g,<- y0G,<- y0G];generalize zs (t.2.1.getD i (0,0))=z1;generalize zs (t.2.2.getD i (0,0))=z2;generalize N7 (t.2.1.getD i (0,0))=s1;generalize K5 (t.2.2.getD i (0,0))=s2;generalize t.1.getD i false=r;cases z1 <;> cases z2 <;> cases s1 <;> cases s2 <;> cases r <;> simp
 constructor
 ·rintro⟨f,j⟩;have f:Co (j7 b:Int) t=false:=by simpa using f
  unfold Co at f;simp only[Bool.or_eq_false_iff,bne_eq_false_iff_eq] at f;obtain⟨⟨a,c⟩,d⟩:=f;exact⟨by omega,by omega,by omega,fun v k=>(e v).1 (j v (by omega))⟩
 ·rintro⟨a,c,d,h⟩;refine⟨?_,fun i hi=>(e i).2 (h i (by omega))⟩;have:Co (j7 b:Int) t=false:=by
   unfold Co;rw[a,c,d];simp
  rw[this];rfl
end
theorem v0m{a:Type}(q:a->Bool)(d:a)(l:List a):l.find? q=((List.range l.length).find? fun i=>q (l.getD i d)).map fun i=>l.getD i d:=by
 cases h:(List.range l.length).find? fun i=>q (l.getD i d) with
 | none =>
   rw[List.find?_eq_none] at h;refine List.find?_eq_none.2 fun x b=>?_;obtain⟨i,hi,rfl⟩:=List.mem_iff_getElem.1 b
   simp_all
 | some i =>
   grind[List.find?_range_eq_some,hi,List.find?_eq_some_iff_getElem,List.getElem?_eq_getElem]
theorem x0u(l:List r8)(v:Nat)(c:l.length<=9223372036854775807):Pb l (v:Int)=some (match(List.range l.length).find? (fun i=>(l.getD i (a7 y75)).1==(v:Int)) with | some i=>(i:Int) | none => -1):=by
 have a:=FW c (fun i=>(l.getD i (a7 y75)).1==(v:Int)) (fun i=>some (i:Int)) (e:=some (-1)) (F:=k0i l (v:Int)) 0 (Nat.zero_le _) (fun g i _ hi=>by
  have d:((i:Int)).toNat=i:=rfl;refine(if_pos (decide_eq_true (by omega))).trans ?_;rw[d];refine(gP ⟨oo,rfl,trivial⟩).trans ?_;show(if((l.getD i (a7 y75)).1==(v:Int))=true then _ else _)=_;by_cases b:((l.getD i (a7 y75)).1==(v:Int))=true
  ·simp_all
  ·rw[if_neg b,if_neg b];exact gP ⟨oo,trivial⟩) (fun g=>if_neg (by simp))
 rw[Nat.sub_zero,<- List.range_eq_range'] at a;refine Eq.trans a ?_
 grind
def K0Y(v:Nat)(o:Option D8):r8×Bool:=match o with
 | some x=>(((v:Int),x.1,x.2),true)
 | none=>((0,(0,0),0,0),false)
theorem N0Y(l:List r8)(v:Nat)(d:l.length<=9223372036854775807):LZ l (v:Int)=some (K0Y v (AK l v)):=by
 unfold LZ;rw[x0u l v d,vS,gP ⟨rfl,trivial⟩,lE];unfold AK;rw[v0m _ (a7 y75)];cases h:(List.range l.length).find? fun i=>(l.getD i (a7 y75)).1==(v:Int) with
 | none=>rfl
 | some i =>
   rw[List.find?_range_eq_some] at h;obtain⟨a,b,-⟩:=h;have hi:=List.mem_range.1 b;have c:((i:Int)).toNat=i:=rfl;have a:(l.getD i (a7 y75)).1=(v:Int):=by simpa using a
   show(if decide ((0:Int)<=(i:Int))=true then _ else _)=_;refine(if_pos (decide_eq_true (by omega))).trans ?_;show gd (ix (i:Int) l.length/\True) _=_;rw[c];refine(gP ⟨oo,trivial⟩).trans ?_;rw[lE];show some (l.getD i (a7 y75),true)=some (((v:Int),(l.getD i (a7 y75)).2.1,(l.getD i (a7 y75)).2.2),true)
   grind
section
variable {b:j1}
theorem Nz{t:Qz}{v:Nat}:AJ t v=if t.1.getD v false=true then some (t.2.1.getD v (0,0),t.2.2.getD v (0,0)) else none:=rfl
end
section
variable {b:j1}
theorem w0Z(d:wf j6 b)(j:h9 j6 b<=1048576)(f:u3 b=true){c:r5}(g:wf A0 c)(e:J1 c=true){k:Nat}(a:k < (lV b).length){sp:Sp}(h:K5 sp=true):Im b c ((lV b).getD k (a7 y138)) sp=some (N8 b c k sp):=by
 obtain⟨v,i,l⟩:=s0h d f e (Vf a) sp h
 grind[Vg]
end
section
variable {b:j1}
structure Way(b:j1)(out:List Nat)(i:Nat)(T:Nat->Option D8):Prop where
 ok:∀v x,T v=some x->N7 x.1=true/\K5 x.2=true
 no:∀j,i<=j->j<out.length->T (out.getD j 0)=none
end
def Al(b:j1)(c:r5)(br:List Int)(ss:List r8):Int:=if(u3 b&&J1 c)=true then(if(BA (lV b).length br&&Cn b ss)=true then(if(Y9 (S0 b (C2 (lV b).length br) [] (j7 b))).2=true then 0 else 7) else 2) else 1
structure TG(b:j1)(c:r5)(br:List Int)(ss:List r8)(out:List Nat):Prop where
 hb:u3 b=true
 hc:J1 c=true
 hbr:BA (lV b).length br=true
 hs:Cn b ss=true
 ho:S0 b (C2 (lV b).length br) [] (j7 b)=some out
section
variable {b:j1} {c:r5} {br:List Int} {ss:List r8} {out:List Nat}
theorem w0T(h:Al b c br ss=0):∃out,TG b c br ss out:=by
 unfold Al at h;split at h
 ·rename_i d;split at h
  ·rename_i a;split at h
   ·rename_i e;rw[ba] at d a;cases ho:S0 b (C2 (lV b).length br) [] (j7 b) with
    | none=>rw[ho] at e; cases e
    | some out=>exact⟨out,d.1,d.2,a.1,a.2,ho⟩
   omega
  omega
 omega
theorem TG.code(h:TG b c br ss out):Al b c br ss=0:=by
 unfold Al;rw[h.hb,h.hc,h.hbr,h.hs,h.ho];rfl
theorem TG.ord(h:TG b c br ss out):OrdOk b br out:=H0p h.hb h.ho
theorem TG.len(h:TG b c br ss out):out.length<=1000000:=Nat.le_trans (QD _ _ h.ord.nd h.ord.lt) (Js b h.hb)
theorem TG.src(h:TG b c br ss out):Jr ss/\∀s∈ss,N7 s.2.1=true/\K5 s.2.2=true:=⟨(t0U h.hs).1,fun s hs=>((t0U h.hs).2 s hs).2⟩
theorem C0z(d:wf j6 b)(e:h9 j6 b<=1048576)(f:wf A0 c)(a:br.length<=1048576)(g:ss.length<=9223372036854775807):Lj b c br ss=some (if Al b c br ss=0 then((Y9 (S0 b (C2 (lV b).length br) [] (j7 b))).1,0) else([],Al b c br ss)):=by
 unfold Lj Al;rw[UA b d e,r84 c f,vS,vS];refine(gP ⟨rfl,fun _=>rfl,trivial⟩).trans ?_;cases hb:u3 b with
 | false=>rfl
 | true =>
   cases hc:J1 c with
   | false=>rfl
   | true =>
     refine(if_neg (by simp)).trans ?_;rw[L0p b d e br a,N0W b d hb ss g,vS,vS];refine(gP ⟨rfl,fun _=>rfl,trivial⟩).trans ?_;rw[lE,N0V b d e br a];unfold DQ Vc DQ;rw[hb];cases hk:BA (lV b).length br with
     | false=>rfl
     | true =>
       cases hs:Cn b ss with
       | false=>rfl
       | true =>
         refine(if_neg (by simp)).trans ?_;rw[vS];refine(gP ⟨rfl,trivial⟩).trans ?_
         grind[lE,Y9,S0,C2,lV,j7]
def ptF(b:j1)(c:r5)(br:List Int)(ss:List r8):C0×Int:=if Al b c br ss=0 then(match K0Z b c br ss ((S0 b (C2 (lV b).length br) [] (j7 b)).getD []) with
 | some T=>(M0C (j7 b) T,0)
 | none=>(([],[],[]),3)) else(([],[],[]),Al b c br ss)
theorem TG.pt(h:TG b c br ss out):ptF b c br ss=match K0Z b c br ss out with
 | some T=>(M0C (j7 b) T,0)
 | none=>(([],[],[]),3):=by
 unfold ptF;rw[if_pos h.code,h.ho];rfl
theorem TG.res(h:TG b c br ss out):(Y9 (S0 b (C2 (lV b).length br) [] (j7 b))).1=out.map fun v:Nat=>(v:Int):=by
 rw[h.ho];rfl
end
def AL(b:j1)(c:r5)(br:List Int)(ss:List r8)(t:C0):Int:=if(u3 b&&J1 c&&!CW (L9 b) t)=true then 1 else Al b c br ss
def Vi(b:j1)(c:r5)(br:List Int)(ss:List r8)(t:C0):Int ⊕ (I6×List Int×Int):=if AL b c br ss t=0 then .inr ((j9 b,C2 (lV b).length br),(Y9 (S0 b (C2 (lV b).length br) [] (j7 b))).1,0) else .inl (AL b c br ss t)
section
variable {b:j1} {c:r5} {br:List Int} {ss:List r8} {out:List Nat} {t:C0}
theorem Vj(h:AL b c br ss t=0):CW (L9 b) t=true/\∃out,TG b c br ss out:=by
 unfold AL at h;split at h
 ·cases h
 ·rename_i d;obtain⟨out,a⟩:=w0T h;refine⟨?_,out,a⟩;rw[a.hb,a.hc] at d
  grind
theorem J0I(f:wf j6 b)(g:h9 j6 b<=1048576)(e:wf A0 c)(a:br.length<=1048576)(h:ss.length<=9223372036854775807)(d:wf y65 t):T5 b c br ss t=some (Vi b c br ss t):=by
 unfold T5 Vi AL Al;rw[O0g b f g,O0f c e,vS,vS];refine(gP ⟨rfl,fun _=>rfl,trivial⟩).trans ?_;cases hb:u3 b with
 | false=>rfl
 | true =>
   cases hc:J1 c with
   | false=>rfl
   | true =>
     refine(if_neg (by simp)).trans ?_;rw[O0e b f hb,vS];refine(gP ⟨rfl,trivial⟩).trans ?_;rw[lE,O0d b hb t d,vS];refine(gP ⟨fun _=>rfl,trivial⟩).trans ?_;cases htm:CW (L9 b) t with
     | false=>rfl
     | true =>
       refine(if_neg (by simp)).trans ?_;rw[O0c hb br a,O0b b hb ss h,vS,vS];refine(gP ⟨rfl,fun _=>rfl,trivial⟩).trans ?_;cases hk:BA (lV b).length br with
       | false=>rfl
       | true =>
         cases hs:Cn b ss with
         | false=>rfl
         | true =>
           refine(if_neg (by simp)).trans ?_;rw[O0a hb hk a,vS];refine(gP ⟨rfl,trivial⟩).trans ?_;rw[lE,N0Z hb (QC _ _),vS];refine(gP ⟨rfl,trivial⟩).trans ?_
           grind[lE,Y9,S0,C2,lV,j7]
end
theorem NA(s:Int×Int)(md:Int):Dy s md=some (u5 s md):=by
 grind[Dy,u5]
theorem Vk(s:Int×Int)(md:Int):Ar s md=some (u5 s md):=by
 grind[Ar,u5]
theorem D0o(s d:Int×Int)(md:Int):u5 (Qy s d) md=u5 s md+u5 d md:=by
 grind[u5,Qy]
theorem H0n{s d:Int×Int}(a:N7 s=true)(b:0<=d.1/\d.1<=d.2/\d.2<=5000000):Ix s d=some (Qy s d):=by
 have a:=p0Y.1 a;unfold Ix;exact(gP ⟨oo,oo,trivial⟩).trans rfl
theorem H0I{s:Int×Int}(md:Int)(a:N7 s=true) : -1000000000<=u5 s md/\u5 s md<=1000000000:=by
 grind[p0Y,u5]
theorem D0n{d:Int×Int}(md:Int)(a:0<=d.1/\d.1<=d.2/\d.2<=5000000):0<=u5 d md/\u5 d md<=5000000:=by
 grind[u5]
section
variable {b:j1} {c:r5} {br:List Int} {ss:List r8} {t:C0} {md:Int}
def Jt(b:j1)(c:r5)(br:List Int)(ss:List r8)(t:C0)(md:Int)(v:Nat):Option (Option Nat):=Jp (lV b).length (o4 b) (q8 b) (N4 b br) (N8 b c) (AK ss) (AJ t) md v
def Vl:Option (Option Nat)->Int×Int
 | none=>(0,5)
 | some none=>(-1,0)
 | some (some k)=>((k:Int),0)
def wF(b:j1)(c:r5)(br:List Int)(ss:List r8)(t:C0)(md:Int)(v:Nat):Int×Int:=if(decide (v<j7 b)&&t.1.getD v false)=true then Vl (Jt b c br ss t md v) else(0,4)
theorem v0l{p q:Nat->Bool}{M:Nat}:((List.range M).filter p).find? q=(List.range M).find? fun k=>p k&&q k:=by
 grind
theorem E0A(d:u3 b=true){v:Int}(a:j2 v 0 ((j7 b:Int)-1)=false):DA (j9 b,C2 (lV b).length br) c ss t v md=some (0,4):=by
 unfold DA;show gd ((T4 (j9 b) v).isSome=true/\_) (if(!vl (T4 (j9 b) v)||_)=true then _ else _)=_;rw[Vd d,vS,a];exact(gP ⟨rfl,fun h=>(by grind),trivial⟩).trans (if_pos rfl)
theorem M0V(z:wf j6 b)(G:h9 j6 b<=1048576)(f:u3 b=true)(l:wf A0 c)(E:J1 c=true)(hl:ss.length<=9223372036854775807)(q:Ny (j7 b) t){v:Nat}(j:v<j7 b) :
  DA (j9 b,C2 (lV b).length br) c ss t (v:Int) md=some (wF b c br ss t md v):=by
 have hM:=W6 f;have s:=QC (lV b).length br;have n1:=q.l1;have n2:=q.l2;have n3:=q.l3;have w:((v:Int)).toNat=v:=rfl;unfold DA wF;show gd ((T4 (j9 b) (v:Int)).isSome=true/\_) (if(!vl (T4 (j9 b) (v:Int))||_)=true then _ else _)=_;rw[Vd f,vS,A4.2 (oo:(0:Int)<=(v:Int)/\(v:Int)<=(j7 b:Int)-1),w,decide_eq_true j];refine(gP ⟨rfl,fun _=>oo,trivial⟩).trans ?_;cases h:t.1.getD v false with
 | false=>rfl
 | true =>
   refine(if_neg (by simp)).trans ?_;rw[if_pos (by rfl)];have hd:AJ t v=some (t.2.1.getD v (0,0),t.2.2.getD v (0,0)):=by rw[Nz,if_pos h]
   unfold Jt;rw[UX hd];refine(gP ⟨oo,by rw[NA]; rfl,trivial⟩).trans ?_;rw[NA,vS,lE,show t.2.1.getD v (a7 y73)=t.2.1.getD v (0,0) from rfl,N0Y ss v hl,vS];refine(gP ⟨rfl,trivial⟩).trans ?_;rw[lE];refine(gP ⟨fun _=>by grind[NA],trivial⟩).trans ?_;rw[NA,vS,lE];have r:gd ((GK (j9 b,C2 (lV b).length br) (v:Int)).isSome=true/\True) (lt (vl (GK (j9 b,C2 (lV b).length br) (v:Int))) fun W=>lp (Mb W (u5 (t.2.1.getD v (0,0)) md) t md (j9 b,C2 (lV b).length br) c) 0)=some (Vl (match(List.range (lV b).length).find? (Ak (o4 b) (q8 b) (N4 b br) (N8 b c) (AJ t) md (u5 (t.2.1.getD v (0,0)) md) v) with
    | some k=>some (some k)
    | none=>none)):=by
    rw[N0X f s v,vS];refine(gP ⟨rfl,trivial⟩).trans ?_;rw[lE];obtain⟨q1,V⟩:=UY (fun i=>N4 b br i&&q8 b i==v) (lV b).length;have m:=FW (n:=(P8 (fun i=>N4 b br i&&q8 b i==v) (lV b).length).length) (by omega) (fun i=>(fun k=>match AJ t (o4 b k) with
     | none=>false
     | some x=>u5 x.1 md+u5 (N8 b c k x.2).1 md==u5 (t.2.1.getD v (0,0)) md) (((List.range (lV b).length).filter fun i=>N4 b br i&&q8 b i==v).getD i 0)) (fun i=>some (((((List.range (lV b).length).filter fun i=>N4 b br i&&q8 b i==v).getD i 0:Nat):Int),0)) (e:=some (0,5)) (F:=Mb (P8 (fun i=>N4 b br i&&q8 b i==v) (lV b).length) (u5 (t.2.1.getD v (0,0)) md) t md (j9 b,C2 (lV b).length br) c) 0 (Nat.zero_le _) (fun g i _ hi=>by
     have w:((i:Int)).toNat=i:=rfl;have o:=Nx (p:=fun i=>N4 b br i&&q8 b i==v) (M:=(lV b).length) (i:=i) (by omega);unfold Mb;refine(if_pos (decide_eq_true (by omega))).trans ?_;rw[w];refine(gP ⟨oo,by omega,trivial⟩).trans ?_;rw[UZ];generalize ((List.range (lV b).length).filter fun i=>N4 b br i&&q8 b i==v).getD i 0=k at o;have X:Int.toNat ((k:Nat):Int)=k:=rfl;obtain⟨f1,f2,H,f4⟩:=Bz b f o;refine(gP ⟨(⟨by omega,by show((k:Nat):Int) < ((lV b).length:Int); omega⟩:ix ((k:Nat):Int) (j9 b).2.2.1.length),trivial⟩).trans ?_;rw[lE,X];have P:((j9 b).2.2.1.getD k (a7 y138)).1=(o4 b k:Int):=f1;have T:Int.toNat ((o4 b k:Nat):Int)=o4 b k:=rfl;have j:=q.vals _ H;rw[P];refine(gP ⟨oo,trivial⟩).trans ?_;rw[T];simp only[Nz];by_cases h:t.1.getD (o4 b k) false=true
     ·obtain⟨_,_,_,e⟩:=Vg z G f l E o;have Y:=(e _ j.2.1).2;have y:=A0Y z G f l E o j.2.1;have Q:=H0n j.1 ⟨y.1,y.2.1,y.2.2.1⟩;simp only[h,show t.2.2.getD (o4 b k) (a7 y73)=t.2.2.getD (o4 b k) (0,0) from rfl,show t.2.1.getD (o4 b k) (a7 y73)=t.2.1.getD (o4 b k) (0,0) from rfl,Y,vS,Option.isSome_some,if_true];refine(if_neg (by simp)).trans ?_;refine(gP ⟨oo,trivial,trivial⟩).trans ?_;rw[lE];simp only[Q,NA,D0o,vS,Option.isSome_some];refine(gP ⟨oo,trivial,trivial,trivial⟩).trans ?_;rw[lE];by_cases d:(u5 (t.2.1.getD (o4 b k) (0,0)) md+u5 (N8 b c k (t.2.2.getD (o4 b k) (0,0))).1 md==u5 (t.2.1.getD v (0,0)) md)=true
      ·rw[if_pos d,if_pos d]
      ·rw[if_neg d,if_neg d];exact gP ⟨oo,trivial⟩
     ·have h:t.1.getD (o4 b k) false=false:=by simpa using h
      simp only[h];refine(if_pos (by simp)).trans ?_;exact(gP ⟨oo,trivial⟩).trans (by simp)) (fun g=>by
     unfold Mb;exact if_neg (by simp))
    rw[Nat.sub_zero,<- List.range_eq_range',V] at m;refine Eq.trans m ?_;have a:=v0m (fun k=>match AJ t (o4 b k) with
     | none=>false
     | some x=>u5 x.1 md+u5 (N8 b c k x.2).1 md==u5 (t.2.1.getD v (0,0)) md) 0 ((List.range (lV b).length).filter fun i=>N4 b br i&&q8 b i==v)
    rw[v0l] at a;have u:(fun k=>(N4 b br k&&q8 b k==v)&&match AJ t (o4 b k) with
     | none=>false
     | some x=>u5 x.1 md+u5 (N8 b c k x.2).1 md==u5 (t.2.1.getD v (0,0)) md)=Ak (o4 b) (q8 b) (N4 b br) (N8 b c) (AJ t) md (u5 (t.2.1.getD v (0,0)) md) v:=rfl
    rw[u] at a;rw[a];cases(List.range ((List.range (lV b).length).filter fun i=>N4 b br i&&q8 b i==v).length).find? _ <;> rfl
   cases hs:AK ss v with
   | none=>exact(if_neg (by simp[K0Y])).trans r
   | some x =>
     show(if(true&&u5 x.1 md==u5 (t.2.1.getD v (0,0)) md)=true then _ else _)=some (Vl (if(u5 x.1 md==u5 (t.2.1.getD v (0,0)) md)=true then _ else _));rw[Bool.true_and];by_cases d:(u5 x.1 md==u5 (t.2.1.getD v (0,0)) md)=true
     ·rw[if_pos d,if_pos d]; rfl
     grind
theorem C0u(hi:Jr ss)(v:Nat)(y:D8):((List.range ss.length).any fun i=>(ss.getD i (a7 y75)).1==(v:Int)&&u5 (ss.getD i (a7 y75)).2.1 md==u5 y.1 md)=Jo (AK ss v) md y:=by
 cases hs:AK ss v with
 | none =>
   refine List.any_eq_false.2 fun i a=>?_;have d:=List.mem_range.1 a;intro h;rw[ba,beq_iff_eq] at h
   grind[t0V,K7]
 | some x =>
   obtain⟨s,g,f,rfl⟩:=x0b hs;obtain⟨j,e,c⟩:=List.mem_iff_getElem.1 g;have c:ss.getD j (a7 y75)=s:=by rw[gq,List.getElem?_eq_getElem e]; exact c
   show _=(u5 s.2.1 md==u5 y.1 md);by_cases b:(u5 s.2.1 md==u5 y.1 md)=true
   ·rw[b];exact List.any_eq_true.2 ⟨j,List.mem_range.2 e,by rw[c,f,b]; simp⟩
   ·rw[Bool.not_eq_true] at b;rw[b];refine List.any_eq_false.2 fun i a=>?_;have d:=List.mem_range.1 a;intro h;rw[ba,beq_iff_eq] at h
    grind[t0V,K7,Option.some.inj]
theorem C0q(e:wf j6 b)(a:u3 b=true){v:Int}(d:j2 v 0 ((j7 b:Int)-1)=false):Dt b c (lV b) (C2 (lV b).length br) ss t v md=some (0,4):=by
 have g:=Js b a;have f:o6 v 0 ((j7 b:Int)-1)=some (j2 v 0 ((j7 b:Int)-1)):=rfl;unfold Dt;simp only[QA b e a,vS,Option.isSome_some,f,d];exact(gP ⟨trivial,oo,trivial,fun h=>(by grind),trivial⟩).trans (if_pos rfl)
theorem J0M(q:wf j6 b)(G:h9 j6 b<=1048576)(d:u3 b=true)(l:wf A0 c)(E:J1 c=true)(hl:ss.length<=9223372036854775807)(hi:Jr ss)(o:Ny (j7 b) t){v:Nat}(j:v<j7 b) :
  Dt b c (lV b) (C2 (lV b).length br) ss t (v:Int) md=some (wF b c br ss t md v):=by
 have hM:=W6 d;have Q:=QC (lV b).length br;have hN:=Js b d;have n1:=o.l1;have n2:=o.l2;have n3:=o.l3;have w:((v:Int)).toNat=v:=rfl;have H:o6 (v:Int) 0 ((j7 b:Int)-1)=some true:=congrArg some (A4.2 (oo:(0:Int)<=(v:Int)/\(v:Int)<=(j7 b:Int)-1));unfold Dt wF;simp only[QA b q d,vS,Option.isSome_some,H,w,decide_eq_true j];refine(gP ⟨trivial,oo,trivial,fun _=>oo,trivial⟩).trans ?_;cases hr:t.1.getD v false with
 | false=>rfl
 | true =>
   refine(if_neg (by simp)).trans ?_;rw[if_pos (by rfl)];have hd:AJ t v=some (t.2.1.getD v (0,0),t.2.2.getD v (0,0)):=by rw[Nz,if_pos hr]
   unfold Jt;rw[UX hd];simp only[Vk,vS,Option.isSome_some];refine(gP ⟨oo,trivial,trivial⟩).trans ?_;rw[lE,show t.2.1.getD v (a7 y73)=t.2.1.getD v (0,0) from rfl];have a:=H9 (n:=ss.length) hl (fun i=>(ss.getD i (a7 y75)).1==(v:Int)&&u5 (ss.getD i (a7 y75)).2.1 md==u5 (t.2.1.getD v (0,0)) md) (some (-1,0)) (e:=Oy (u5 (t.2.1.getD v (0,0)) md) t md b c (C2 (lV b).length br) (v:Int) (lV b) ()) (F:=Oz ss (v:Int) (u5 (t.2.1.getD v (0,0)) md) md t b c (C2 (lV b).length br) (lV b)) (fun g i hi=>by
    have w:((i:Int)).toNat=i:=rfl;unfold Oz;refine(if_pos (decide_eq_true (by omega))).trans ?_;simp only[w,Vk,vS,Option.isSome_some];refine(gP ⟨oo,fun _=>oo,fun _=>trivial,trivial⟩).trans ?_;rw[lE];split
    ·rfl
    ·exact gP ⟨oo,trivial⟩) (fun g=>by
    grind[Oz])
   refine a.trans ?_;have V:=C0u (md:=md) hi v (t.2.1.getD v (0,0),t.2.2.getD v (0,0));have x:((List.range ss.length).any fun i=>(ss.getD i (a7 y75)).1==(v:Int)&&u5 (ss.getD i (a7 y75)).2.1 md==u5 (t.2.1.getD v (0,0)) md)=Jo (AK ss v) md (t.2.1.getD v (0,0),t.2.2.getD v (0,0)):=V;rw[x];by_cases m:Jo (AK ss v) md (t.2.1.getD v (0,0),t.2.2.getD v (0,0))=true
   ·rw[if_pos m,if_pos m]; rfl
   ·rw[if_neg m,if_neg m];unfold Oy;have a:=FW (n:=(lV b).length) (by omega) (Ak (o4 b) (q8 b) (N4 b br) (N8 b c) (AJ t) md (u5 (t.2.1.getD v (0,0)) md) v) (fun i=>some ((i:Int),0)) (e:=some (0,5)) (F:=Ox (u5 (t.2.1.getD v (0,0)) md) t md b c (C2 (lV b).length br) (v:Int) (lV b)) 0 (Nat.zero_le _) (fun g k _ r=>by
     have e4:Int.toNat ((k:Nat):Int)=k:=rfl;obtain⟨f1,X,T,f4⟩:=Bz b d r;have W:Int.toNat ((o4 b k:Nat):Int)=o4 b k:=rfl;have j:=o.vals _ T;have P:(((q8 b k:Nat):Int) != (v:Int))=!(q8 b k==v):=by
      by_cases h:q8 b k=v
      ·rw[h,bne_self_eq_false,beq_self_eq_true];rfl
      ·have z:((q8 b k:Nat):Int)≠(v:Int):=by omega
       rw[bne_iff_ne.2 z,beq_eq_false_iff_ne.2 h];rfl
     unfold Ox;refine(if_pos (decide_eq_true (by omega))).trans ?_;refine(gP ⟨oo,trivial⟩).trans ?_;rw[lE,e4];have es:=fun h=>w0Z q G d l E r (sp:=t.2.2.getD (o4 b k) (0,0)) h;simp only[f1,X,P,W];refine(gP ⟨oo,fun _=>oo,trivial⟩).trans ?_;show(if(!N4 b br k||!(q8 b k==v)||!t.1.getD (o4 b k) false)=true then _ else _)=_;have u:Ak (o4 b) (q8 b) (N4 b br) (N8 b c) (AJ t) md (u5 (t.2.1.getD v (0,0)) md) v k=false->Ow (k:Int) g ()=if Ak (o4 b) (q8 b) (N4 b br) (N8 b c) (AJ t) md (u5 (t.2.1.getD v (0,0)) md) v k=true then some ((k:Int),0) else g ((k:Int)+1):=fun Y=>by
      rw[Y,if_neg (by simp)];exact gP ⟨oo,trivial⟩
     cases h1:N4 b br k with
     | false=>grind[trans,Ak]
     | true =>
       cases z:(q8 b k==v) with
       | false=>grind[trans,Ak]
       | true =>
         by_cases f:t.1.getD (o4 b k) false=true
         ·have s:Ak (o4 b) (q8 b) (N4 b br) (N8 b c) (AJ t) md (u5 (t.2.1.getD v (0,0)) md) v k=(u5 (t.2.1.getD (o4 b k) (0,0)) md+u5 (N8 b c k (t.2.2.getD (o4 b k) (0,0))).1 md==u5 (t.2.1.getD v (0,0)) md):=by
           unfold Ak;rw[h1,z,Nz,if_pos f];rfl
          have y:=A0Y q G d l E r j.2.1;have l1:=H0I md j.1;have l2:=D0n md ⟨y.1,y.2.1,y.2.2.1⟩;rw[s,f];refine(if_neg (by simp)).trans ?_;simp only[show t.2.2.getD (o4 b k) (a7 y73)=t.2.2.getD (o4 b k) (0,0) from rfl,show t.2.1.getD (o4 b k) (a7 y73)=t.2.1.getD (o4 b k) (0,0) from rfl,es j.2.1,Vk,vS,Option.isSome_some];refine(gP ⟨oo,trivial,trivial⟩).trans ?_;rw[lE];refine(gP ⟨oo,trivial,trivial,oo,trivial⟩).trans ?_;rw[lE];dsimp only;split
          ·rfl
          ·exact gP ⟨oo,trivial⟩
         ·have f:t.1.getD (o4 b k) false=false:=by simpa using f
          rw[f];exact(if_pos (by simp)).trans (u (by unfold Ak; rw[Nz,if_neg (by rw[f]; decide)]; exact Bool.and_false _))) (fun g=>by
     unfold Ox;exact if_neg (by simp))
    rw[Nat.sub_zero,<- List.range_eq_range'] at a;refine Eq.trans a ?_;cases(List.range (lV b).length).find? _ <;> rfl
end
theorem Vm{w:Nat->Int×Int}{fr:Nat->Nat}:∀{n v:Nat} {acc p:List Int} {e:Int},U7 w fr n v acc=(p,e)->e≠0->p=[]
 | 0,_,_,_,_,h,h0=>by cases h; rfl
 | n+1,v,acc,p,e,h,h0=>by
   unfold U7 at h;split at h
   ·split at h
    ·grind
    ·exact Vm h h0
   grind
section
variable {b:j1} {c:r5} {br:List Int} {ss:List r8} {t:C0} {md:Int} {out:List Nat}
theorem w0z{v:Nat}:(∃k:Nat,wF b c br ss t md v=((k:Int),0)/\Jt b c br ss t md v=some (some k))∨(wF b c br ss t md v=(-1,0)/\Jt b c br ss t md v=some none)∨(wF b c br ss t md v).2≠0:=by
 unfold wF;split
 ·cases Jt b c br ss t md v with
  | none=>exact .inr (.inr (by decide))
  | some o =>
    cases o with
    | none=>exact .inr (.inl ⟨rfl,rfl⟩)
    | some k=>exact .inl ⟨k,rfl,rfl⟩
 omega
theorem Vn(a:OrdOk b br out){v:Nat}(g:v<j7 b)(i:(wF b c br ss t md v).2=0)(l:0<=(wF b c br ss t md v).1):(wF b c br ss t md v).1.toNat < (lV b).length/\o4 b (wF b c br ss t md v).1.toNat<j7 b/\out.idxOf (o4 b (wF b c br ss t md v).1.toNat)<out.idxOf v:=by
 rcases w0z (b:=b) (c:=c) (br:=br) (ss:=ss) (t:=t) (md:=md) (v:=v) with ⟨k,e,h⟩ | ⟨e,h⟩ | h
 ·rw[e];obtain⟨d,f,j,-⟩:=w0x h;have:=a.pos d f (by omega)
  grind
 ·grind
 omega
def BB(b:j1)(c:r5)(br:List Int)(ss:List r8)(t:C0)(md:Int)(out:List Nat)(v:Nat):List Int×Int:=U7 (wF b c br ss t md) (o4 b) (out.idxOf v+1) v []
def PI(b:j1)(out:List Nat)(v:Nat)(acc:List Int):Prop:=v<j7 b/\acc.length+out.idxOf v<=out.length
theorem PI.step(d:OrdOk b br out){v:Nat}{acc:List Int}(h:PI b out v acc)(a:(wF b c br ss t md v).2=0)(f:0<=(wF b c br ss t md v).1):PI b out (o4 b (wF b c br ss t md v).1.toNat) ((wF b c br ss t md v).1 :: acc)/\out.idxOf (o4 b (wF b c br ss t md v).1.toNat)<out.idxOf v:=by
 obtain⟨i,g,e⟩:=Vn d h.1 a f;have:=h.2;exact⟨⟨g,by grind⟩,e⟩
def QF(r:List Int×Int):Int ⊕ List Int×Int:=if(r.2==0)=true then .inr (r.1,0) else .inl r.2
theorem M0U(r:wf j6 b)(z:h9 j6 b<=1048576)(k:u3 b=true)(m:wf A0 c)(s:J1 c=true)(P:ss.length<=9223372036854775807)(Q:Ny (j7 b) t)(q:OrdOk b br out)(x:out.length<=1000000){v:Nat}(j:v<j7 b) :
  T6 (j9 b,C2 (lV b).length br) c ss t (v:Int) md=some (QF (BB b c br ss t md out v)):=by
 have u:=List.idxOf_le_length (a:=v) (l:=out);unfold T6;refine(u0P (w:=wF b c br ss t md) (fr:=o4 b) (fun v=>out.idxOf v) (PI b out) (fun v d h n i=>h.step q n i) (fun v d=>((v:Int),d.reverse)) (fun d=>some (.inr (d,0))) (fun e=>some (.inl e)) (F:=ML (j9 b,C2 (lV b).length br) c ss t md) (fun g v d y=>?_) v [] ⟨j,by grind⟩ (by omega)).trans ?_
 ·obtain⟨j,o⟩:=y;unfold ML;dsimp only;simp only[M0V r z k m s P Q j,vS,Option.isSome_some];refine(gP ⟨trivial,trivial⟩).trans ?_;rw[lE];by_cases n:(wF b c br ss t md v).2=0
  ·rw[if_neg (show ¬((wF b c br ss t md v).2 != 0)=true by grind),if_pos (show((wF b c br ss t md v).2==0)=true by grind)];by_cases i:(wF b c br ss t md v).1<0
   ·rw[if_pos (decide_eq_true i),if_pos (decide_eq_true i)];have H:IN d.reverse=some d:=by
     unfold IN;rw[if_pos (by grind),List.reverse_reverse]
    rw[H,vS];refine(gP ⟨rfl,trivial⟩).trans ?_;rw[lE]
   ·have f:¬decide ((wF b c br ss t md v).1<0)=true:=by simpa using i
    rw[if_neg f,if_neg f];obtain⟨E,k2,k3⟩:=Vn q j n (by omega);obtain⟨G,Y,T,W⟩:=Bz b k E;have X:=W6 k;refine(gP ⟨⟨by grind,by grind⟩,trivial⟩).trans ?_;refine(gP ⟨(⟨by omega,by show(wF b c br ss t md v).1 < ((lV b).length:Int); omega⟩:ix (wF b c br ss t md v).1 (j9 b).2.2.1.length),trivial⟩).trans ?_;rw[lE];have V:((j9 b).2.2.1.getD (wF b c br ss t md v).1.toNat (a7 y138)).1=(o4 b (wF b c br ss t md v).1.toNat:Int):=G
    grind
  grind
 grind[QF,BB]
theorem J0L(r:wf j6 b)(z:h9 j6 b<=1048576)(m:u3 b=true)(n:wf A0 c)(s:J1 c=true)(H:ss.length<=9223372036854775807)(hi:Jr ss)(G:Ny (j7 b) t)(q:OrdOk b br out)(x:out.length<=1000000){v:Nat}(k:v<j7 b) :
  lp (GF (lV b) b c (C2 (lV b).length br) ss t md) ([],(v:Int))=some (BB b c br ss t md out v):=by
 have u:=List.idxOf_le_length (a:=v) (l:=out);refine(u0P (w:=wF b c br ss t md) (fr:=o4 b) (fun v=>out.idxOf v) (PI b out) (fun v d h f j=>h.step q f j) (fun v d=>(d,(v:Int))) (fun d=>some (d,0)) (fun e=>some ([],e)) (F:=GF (lV b) b c (C2 (lV b).length br) ss t md) (fun g v d y=>?_) v [] ⟨k,by grind⟩ (by omega)).trans ?_
 ·obtain⟨k,o⟩:=y;unfold GF;dsimp only;simp only[J0M r z m n s H hi G k,vS,Option.isSome_some];refine(gP ⟨trivial,trivial⟩).trans ?_;rw[lE];by_cases f:(wF b c br ss t md v).2=0
  ·rw[if_neg (show ¬((wF b c br ss t md v).2 != 0)=true by simp[f]),if_pos (show((wF b c br ss t md v).2==0)=true by simp[f])];by_cases j:(wF b c br ss t md v).1<0
   ·rw[if_pos (decide_eq_true j),if_pos (decide_eq_true j)]
   ·have i:¬decide ((wF b c br ss t md v).1<0)=true:=by simpa using j
    rw[if_neg i,if_neg i];obtain⟨E,X,W⟩:=Vn q k f (by omega);obtain⟨Y,V,P,Q⟩:=Bz b m E;have T:=W6 m;refine(gP ⟨⟨by grind,by grind⟩,trivial⟩).trans ?_;refine(gP ⟨oo,by omega,trivial⟩).trans ?_
    grind[lE]
  grind
 ·rcases hr:U7 (wF b c br ss t md) (o4 b) (out.idxOf v+1) v [] with ⟨p,e⟩;unfold BB;rw[hr];dsimp only;by_cases f:e=0
  ·grind
  ·rw[if_neg (by grind),Vm hr f]
end
section
variable {b:j1} {c:r5} {br:List Int} {ss:List r8} {t:C0} {md v:Int} {out:List Nat}
def QG(b:j1)(c:r5)(br:List Int)(ss:List r8)(t:C0)(v md:Int)(out:List Nat):List Int×Int:=if(md==0||md==1)=true then(if j2 v 0 ((j7 b:Int)-1)=true then BB b c br ss t md out v.toNat else([],4)) else([],2)
def CX(b:j1)(c:r5)(br:List Int)(ss:List r8)(t:C0)(v md:Int):List Int×Int:=if AL b c br ss t=0 then QG b c br ss t v md ((S0 b (C2 (lV b).length br) [] (j7 b)).getD []) else([],AL b c br ss t)
theorem C0r(f:wf j6 b)(i:h9 j6 b<=1048576)(a:wf A0 c)(g:br.length<=1048576)(j:ss.length<=9223372036854775807)(d:wf y65 t):Gz b c br ss t=some (AL b c br ss t):=by
 unfold Gz AL;rw[UA b f i,r84 c a,vS,vS,r85 _ t d,vS,C0z f i a g j,vS];cases hb:u3 b with
 | false =>
   refine(gP ⟨rfl,fun h=>(by grind),fun h=>(by grind),fun h=>(by grind),trivial⟩).trans ?_
   grind[Al]
 | true =>
   have e:Q2 b=some (j7 b:Int):=QA b f hb;rw[e,vS,<- Vh];refine(gP ⟨rfl,fun _=>rfl,fun _=>rfl,fun _=>rfl,trivial⟩).trans ?_;cases hc:J1 c with
   | false =>
     grind[Al]
   | true =>
     cases ht:CW (L9 b) t with
     | false=>rfl
     | true =>
       refine(if_neg (by simp)).trans ((gP ⟨rfl,trivial⟩).trans ?_)
       grind[lE,Al]
theorem J0N(f:wf j6 b)(m:h9 j6 b<=1048576)(e:wf A0 c)(d:br.length<=1048576)(o:ss.length<=9223372036854775807)(i:wf y65 t):u32 b c br ss t v md=some (CX b c br ss t v md):=by
 unfold u32 CX;rw[C0r f m e d o i,vS];refine(gP ⟨rfl,trivial⟩).trans ?_;rw[lE];by_cases h:AL b c br ss t=0
 ·obtain⟨l,g,a⟩:=Vj h;have j:=a.len;have r:=W6 a.hb;rw[if_pos h,h,a.ho];refine(if_neg (by decide)).trans ((gP ⟨rfl,trivial⟩).trans ?_);unfold QG;show(if(!(md==0||md==1))=true then some ([],2) else _)=_;cases hmd:(md==0||md==1) with
  | false=>rfl
  | true =>
    refine(if_neg (by simp)).trans ?_;rw[if_pos rfl,UJ b f a.hb,vS];refine(gP ⟨rfl,trivial⟩).trans ?_;rw[lE,r44 _ _ (by omega) d,vS];refine(gP ⟨rfl,trivial⟩).trans ?_;rw[lE];show lp (GF (lV b) b c (C2 (lV b).length br) ss t md) ([],v)=some (if j2 v 0 ((j7 b:Int)-1)=true then BB b c br ss t md g v.toNat else([],4));cases hi:j2 v 0 ((j7 b:Int)-1) with
    | true =>
      have q:=A4.1 hi;obtain⟨k,rfl⟩:∃k:Nat,v=(k:Int):=⟨v.toNat,by omega⟩;exact J0L f m a.hb e a.hc o a.src.1 (p0T.1 l) a.ord j (by omega)
    | false =>
      refine Ck 1 (by omega) fun n=>?_;show GF (lV b) b c (C2 (lV b).length br) ss t md _ ([],v)=_;unfold GF;dsimp only;simp only[C0q f a.hb hi,vS,Option.isSome_some];rfl
 grind
end
section
variable {b:j1} {c:r5} {br:List Int} {ss:List r8} {t:C0} {md v:Int} {out:List Nat}
theorem T0r(s:wf j6 b)(u:h9 j6 b<=1048576)(i:wf A0 c)(l:br.length<=1048576)(w:ss.length<=9223372036854775807)(j:wf y65 t):PO b c br ss t v md=some (CX b c br ss t v md):=by
 unfold PO CX;rw[J0I s u i l w j];unfold Vi;by_cases h:AL b c br ss t=0
 ·obtain⟨q,a,f⟩:=Vj h;have o:=f.len;rw[if_pos h,if_pos h,f.ho];refine(if_neg (by simp[BY])).trans ((gP ⟨rfl,trivial⟩).trans ?_);show(if((0:Int) != 0)=true then(some ([],0):Option (List Int×Int)) else gd ((BS md).isSome=true/\True) (if(!vl (BS md))=true then some ([],2) else(if BY (T6 (j9 b,C2 (lV b).length br) c ss t v md)=true then gd (BY (T6 (j9 b,C2 (lV b).length br) c ss t v md)=true/\True) (some ([],vL (T6 (j9 b,C2 (lV b).length br) c ss t v md))) else gd (IM (T6 (j9 b,C2 (lV b).length br) c ss t v md)=true/\True) (lt (vR (T6 (j9 b,C2 (lV b).length br) c ss t v md)) fun y=>some y))))=_;rw[if_neg (by decide),gP ⟨rfl,trivial⟩];unfold QG;show(if(!(md==0||md==1))=true then some ([],2) else _)=_;cases hmd:(md==0||md==1) with
  | false=>rfl
  | true =>
    refine(if_neg (by simp)).trans ?_;rw[if_pos rfl];have m:T6 (j9 b,C2 (lV b).length br) c ss t v md=some (QF (if j2 v 0 ((j7 b:Int)-1)=true then BB b c br ss t md a v.toNat else([],4))):=by
     cases hi:j2 v 0 ((j7 b:Int)-1) with
     | true =>
       have z:=A4.1 hi;obtain⟨k,rfl⟩:∃k:Nat,v=(k:Int):=⟨v.toNat,by omega⟩;exact M0U s u f.hb i f.hc w (p0T.1 q) f.ord o (by omega)
     | false =>
       unfold T6;refine Ck 1 (by omega) fun n=>?_;show ML (j9 b,C2 (lV b).length br) c ss t md _ (v,[])=_;unfold ML;dsimp only;simp only[E0A f.hb hi,vS,Option.isSome_some];rfl
    have d:((if j2 v 0 ((j7 b:Int)-1)=true then BB b c br ss t md a v.toNat else([],4)):List Int×Int).2≠0->((if j2 v 0 ((j7 b:Int)-1)=true then BB b c br ss t md a v.toNat else([],4)):List Int×Int).1=[]:=by
     split
     ·unfold BB;cases hq:U7 (wF b c br ss t md) (o4 b) (a.idxOf v.toNat+1) v.toNat [] with
      | mk p e=>exact Vm hq
     ·exact fun _=>rfl
    rw[m];show _=some (if j2 v 0 ((j7 b:Int)-1)=true then BB b c br ss t md a v.toNat else([],4));generalize (if j2 v 0 ((j7 b:Int)-1)=true then BB b c br ss t md a v.toNat else([],4))=r at d;obtain⟨p,e⟩:=r;unfold QF;by_cases g:(e==0)=true
    ·rw[if_pos g];have g:e=0:=by simpa using g
     subst g;rfl
    ·rw[if_neg g];have x:p=[]:=d (by simpa using g);subst x;rfl
 ·rw[if_neg h,if_neg h];refine(if_pos rfl).trans ((gP ⟨rfl,trivial⟩).trans ?_);exact if_pos (by show(AL b c br ss t != 0)=true; simp[h])
end
end Go.Proofs.YtechodbafnmddaaGreatDoor
end
section
namespace Go.Proofs.Xd
open Go Go.Proofs.Xl Go.Proofs.Xv
def wd:Ty->Nat
 | .pr a b=>wd a+wd b
 | .sl e=>wd e
 | .pt _=>0
 | _=>1
theorem QH:∀(t:Ty) (x:c9 t),l7 t x<=wd t*(1+h9 t x)
 | .int _,_=>by simp[l7,wd]
 | .bool,_=>by simp[l7,wd]
 | .str,_=>by simp[l7,wd]
 | .pt _,_=>by simp[l7]
 | .sl e,xs=>by
   have c:∀l:List (c9 e),(l.map (l7 e)).sum<=wd e*(l.length+(l.map (h9 e)).sum):=by
    intro l
    induction l with
    | nil=>exact Nat.zero_le _
    | cons a r h =>
      have d:=QH e a;rw[List.map_cons,List.sum_cons,List.map_cons,List.sum_cons,List.length_cons];have f:wd e*(r.length+1+(h9 e a+(r.map (h9 e)).sum))=wd e*(1+h9 e a)+wd e*(r.length+(r.map (h9 e)).sum):=by
       rw[<- Nat.mul_add]; congr 1; omega
      omega
   refine Nat.le_trans (c xs) ?_;show _<=wd e*(1+(xs.length+(xs.map (h9 e)).sum));exact Nat.mul_le_mul_left _ (by omega)
 | .pr a b,x=>by
   have d:=QH a x.1;have j:=QH b x.2;show l7 a x.1+l7 b x.2<=(wd a+wd b)*(1+(h9 a x.1+h9 b x.2));have i:wd a*(1+h9 a x.1)<=wd a*(1+(h9 a x.1+h9 b x.2)):=Nat.mul_le_mul_left _ (by omega);have g:wd b*(1+h9 b x.2)<=wd b*(1+(h9 a x.1+h9 b x.2)):=Nat.mul_le_mul_left _ (by omega);rw[Nat.add_mul];omega
theorem QJ{t:Ty}{x:c9 t}{k:Nat}(h:h9 t x<=1048576)(a:wd t<=k):(l7 t x:Int)<=(k*1048577:Nat):=by
 have c:=QH t x;have b:wd t*(1+h9 t x)<=k*1048577:=Nat.mul_le_mul a (by omega);omega
theorem u0F:∀(m:Nat) (k:Int) (i:Nat),i<m->(AB k m).getD i 0=k+(i:Int)
 | m+1,k,0,_=>by simp[AB]
 | m+1,k,i+1,h=>by
   rw[AB,List.getD_cons_succ,u0F m (k+1) i (by omega)];omega
theorem q0Q:∀n:Nat,fN (fun _ (v:Int)=>v+1) n 1=1+((1*n:Nat):Int)
 | 0=>rfl
 | n+1=>by rw[fN,q0Q n]; omega
end Go.Proofs.Xd
end
section
namespace Go.Proofs.YtechodbafnmddaaGreatDoor
open Go Go.Proofs Go.Proofs.Sv Go.Proofs.Xv Go.Proofs.Xl Go.Proofs.Xd
theorem r0h{w:Nat->Int×Int}{fr:Nat->Nat}:∀(n v:Nat) (acc:List Int),(U7 w fr n v acc).1.length<=n+acc.length
 | 0,_,_=>by grind[U7]
 | n+1,v,acc=>by
   unfold U7;split
   ·split
    ·grind
    ·have:=r0h (w:=w) (fr:=fr) n (fr (w v).1.toNat) ((w v).1 :: acc);rw[List.length_cons] at this;omega
   grind
section
variable {b:j1} {c:r5} {br:List Int} {ss:List r8} {t:C0} {md v:Int}
theorem B0D:(CX b c br ss t v md).1.length<=1000001:=by
 by_cases h:AL b c br ss t=0
 ·obtain⟨i,d,e⟩:=Vj h;have g:=e.len;unfold CX QG;rw[if_pos h,e.ho];split
  ·split
   ·have f:=r0h (w:=wF b c br ss t md) (fr:=o4 b) (d.idxOf v.toNat+1) v.toNat [];have j:=List.idxOf_le_length (a:=v.toNat) (l:=d);rw[List.length_nil] at f;refine Nat.le_trans f ?_;omega
   grind
  grind
 grind[CX]
end
theorem r34(n:Nat)(c:n<=4611686018427387904):TJ (AB 1 n) (1:Int)=some (1+((1*n:Nat):Int)):=by
 have b:=TU n 1;rw[<- q0Q n];refine lF (n:=n) (by omega) (fun i (s:Int)=>(s,(i:Int))) (fun _ s=>s+1) (fun i s=>s=1+(i:Int)) (J:=TH) (F:=F0s (AB 1 n)) (fun g i s hi a=>?_) (fun i s hi a=>by subst a; omega) (fun g s _=>if_neg (by rw[b]; simp)) _ rfl;subst a;refine(if_pos (decide_eq_true (by rw[b]; omega))).trans ?_;refine(gP ⟨⟨by omega,by rw[b]; omega⟩,trivial⟩).trans ?_;have e:(i:Int).toNat=i:=rfl;rw[e,u0F n 1 i hi];refine(if_neg (by simp)).trans ?_;refine(gP ⟨oo,trivial⟩).trans ?_;exact gP ⟨oo,trivial⟩
theorem QK{br:List Int}(h:br.length<=1048576):h9 (.sl (.int .i64)) br<=1048576:=by
 have e:h9 (.sl (.int .i64)) br=br.length+0:=q0Y;omega
theorem HA{n:Nat}{l:Int}(a:l<=1048576):r7 n l<=1048576:=by
 unfold r7;split <;> omega
theorem DR{n:Nat}{l:Int}(a:l<=1048576)(h:0<=r7 n l):n<=1048576:=by
 unfold r7 at h;split at h <;> omega
theorem r6(b:Dm)(c:Dn)(br:List Int)(ss:List BN)(t:Dp)(v md:Int)(o:wf Z7 b)(e:wf Z8 c)(_:wf (.sl (.int .i64)) br)(h:wf (.sl y106) ss)(f:wf AY t)(_:K1 v)(_:K1 md):GL6 b c br ss t v md:=by
 refine⟨_,z7 b 1048576 o (by decide) (by decide),HA (by decide),fun s=>?_⟩;have i:=DR (by decide) s;have j:=HA (n:=h9 Z7 b) (l:=1048576) (by decide);generalize r7 (h9 Z7 b) 1048576=l0 at s j;refine⟨_,z8 c _ e s (by omega),HA j,fun u=>?_⟩;have r:=DR j u;have m:=HA (n:=h9 Z8 c) j;generalize r7 (h9 Z8 c) l0=l1 at u m;refine⟨_,z9 ss _ h u (by omega),HA m,fun w=>?_⟩;have d:=DR m w;have q:=HA (n:=h9 (.sl y106) ss) m;generalize r7 (h9 (.sl y106) ss) l1=l2 at w q;refine⟨_,z10 t _ f w (by omega),HA q,fun z a=>?_⟩;have g:=DR q z;have y:ss.length<=9223372036854775807:=h.1;have P:(CX b c br ss t v md).1.length<=1000001:=B0D;have H:=QJ (t:=j6) (x:=b) (k:=64) i (by decide);have G:=QJ (t:=.sl (.int .i64)) (x:=br) (k:=64) (QK a) (by decide);have F:=QJ (t:=.sl y106) (x:=ss) (k:=64) d (by decide);have E:=QJ (t:=y65) (x:=t) (k:=64) g (by decide);exact⟨(CX b c br ss t v md).1,(CX b c br ss t v md).2,⟨w12 b i,w13 c r,w14 br (QK a),w15 ss d,w16 t g,J0N o i e a y f,T0r o i e a y f,Ca _ (QK (by omega)),e18 b i,Ca br (QK a),e20 ss d,e21 t g,by omega,by omega,by omega,by omega,by omega,r34 _ (by omega)⟩⟩
end Go.Proofs.YtechodbafnmddaaGreatDoor
end
