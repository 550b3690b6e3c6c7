/- Plain words on names: no program in sight. -/
import Derived.Test.YtekfdfcnjlfgiaaGreatDoorXA
import Derived.Lib.SlTrimSet
import Derived.Lib.Bytealg
import Derived.Test.YtekfdfcnjlfgiaaGreatDoorXF
import Derived.Test.YtekfdfcnjlfgiaaGreatDoorFA4b
import Derived.Test.YtekfdfcnjlfgiaaGreatDoorGA4
set_option maxHeartbeats 0
section
namespace Go.Proofs.Sv
open Go
def lowB(c:Int):Bool:=decide (c≥97)&&decide (c<=122)
def digB(c:Int):Bool:=decide (c≥48)&&decide (c<=57)
def chB(c:Int)(i:Nat):Bool:=lowB c||(digB c&&decide (0<i))
def nmTo(s:ByteArray):Nat->Bool
 | 0=>true
 | k+1=>nmTo s k&&chB (byteAt s k) k
def nmB(s:ByteArray):Bool:=nmTo s s.size&&decide ((s.size:Int)≥1)&&decide ((s.size:Int)<=8)
theorem nmTo_mono(s:ByteArray)(k:Nat):∀j,k<=j->nmTo s j=true->nmTo s k=true:=by
 intro j hj h
 induction j with
 | zero=>have:k=0:=by omega
         subst this; rfl
 | succ j ih =>
   by_cases hk:k=j+1
   ·subst hk; exact h
   ·simp only[nmTo,ba] at h;exact ih (by omega) h.1
def low26:List UInt8:=[97,98,99,100,101,102,103,104,105,106,107,108,109,110,111,112,113,114,115,116,117,118,119,120,121,122]
def low36:List UInt8:=[97,98,99,100,101,102,103,104,105,106,107,108,109,110,111,112,113,114,115,116,117,118,119,120,121,122,48,49,50,51,52,53,54,55,56,57]
theorem low26_fin:∀n:Fin 256,low26.contains (UInt8.ofNat n.val)=lowB (n.val:Int):=by decide +kernel
theorem low36_fin:∀n:Fin 256,low36.contains (UInt8.ofNat n.val)=(lowB (n.val:Int)||digB (n.val:Int)):=by decide +kernel
theorem low26_mem(b:UInt8):low26.contains b=lowB (b.toNat:Int):=by
 have:=low26_fin ⟨b.toNat,b.toNat_lt⟩;simpa using this
theorem low36_mem(b:UInt8):low36.contains b=(lowB (b.toNat:Int)||digB (b.toNat:Int)):=by
 have:=low36_fin ⟨b.toNat,b.toNat_lt⟩;simpa using this
theorem indexByte_mem(c:UInt8):∀l:List UInt8,decide (0<=Lib.indexByte l c)=l.contains c
 | []=>by simp[Lib.indexByte]
 | b :: l=>by
   have ih:=indexByte_mem c l;have hg:=Lib.indexByte_ge l c;unfold Lib.indexByte;by_cases hb:b=c
   ·subst hb; simp
   ·have hb':¬c=b:=fun h=>hb h.symm;have e1:(b==c)=false:=by simpa using hb
    rw[e1,List.contains_cons,show(c==b)=false by simpa using hb',<- ih];by_cases h1:Lib.indexByte l c = -1
    ·simp[h1]
    ·have:(Lib.indexByte l c == -1)=false:=by simpa using h1
     rw[this];simp only[Bool.false_eq_true,if_false,Bool.false_or];rw[Bool.eq_iff_iff]; simp only[dq]; omega
theorem dropWhile_nil{α:Type}(p:α->Bool):∀l:List α,l.dropWhile p=[]↔∀x∈l,p x=true
 | []=>by simp
 | x :: r=>by
   rw[List.dropWhile_cons];by_cases h:p x=true
   ·simp[h,dropWhile_nil p r]
   ·simp[h]
theorem mem_takeWhile{α:Type}(p:α->Bool)(x:α):∀l:List α,x∈l.takeWhile p->p x=true
 | [],h=>by cases h
 | y :: r,h=>by
   rw[List.takeWhile_cons] at h;by_cases hy:p y=true
   ·rw[if_pos hy] at h;rcases List.mem_cons.1 h with rfl | h
    ·exact hy
    ·exact mem_takeWhile p x r h
   ·rw[if_neg hy] at h; cases h
theorem trimS_nil(l cs:List UInt8):Lib.trimS l cs=[]↔∀b∈l,cs.contains b=true:=by
 unfold Lib.trimS Lib.trimLeftS Lib.trimRightS;rw[dropWhile_nil];constructor
 ·intro h b hb;have e:l=(l.reverse.dropWhile (cs.contains ·)).reverse++(l.reverse.takeWhile (cs.contains ·)).reverse:=by
   rw[<- List.reverse_append,List.takeWhile_append_dropWhile,List.reverse_reverse]
  rw[e] at hb;rcases List.mem_append.1 hb with hb | hb
  ·exact h b hb
  ·have:=List.mem_reverse.1 hb;exact mem_takeWhile (cs.contains ·) b _ this
 ·intro h b hb;exact h b (by have:=(List.dropWhile_sublist _).mem (List.mem_reverse.1 hb); exact List.mem_reverse.1 this)
theorem nmTo_all(s:ByteArray)(h0:lowB (byteAt s 0)=true):∀k,k<=s.size->(nmTo s k=true↔∀i,i<k->(lowB (byteAt s i)||digB (byteAt s i))=true)
 | 0,_=>by simp[nmTo]
 | k+1,hk=>by
   have ih:=nmTo_all s h0 k (by omega);simp only[nmTo,ba,ih];constructor
   ·rintro⟨h1,h2⟩ i hi;by_cases hik:i=k
    ·subst hik;unfold chB at h2;cases hl:lowB (byteAt s i) with
     | true=>simp
     | false=>rw[hl] at h2; simp only[Bool.false_or,ba] at h2; simp[h2.1]
    ·exact h1 i (by omega)
   ·intro h;refine⟨fun i hi=>h i (by omega),?_⟩;have:=h k (by omega);unfold chB;by_cases hk0:k=0
    ·subst hk0; simp[h0]
    ·have hp:decide (0<k)=true:=by simp; omega
     rw[hp]; simpa using this
theorem trim_all(s:ByteArray):Lib.trimS s.data.toList low36=[]↔∀i,i<s.size->(lowB (byteAt s i)||digB (byteAt s i))=true:=by
 rw[trimS_nil];have hl:s.data.toList.length=s.size:=by simp
 constructor
 ·intro h i hi;have hi':i<s.data.toList.length:=by rw[hl]; exact hi
  have:=h s.data.toList[i] (List.getElem_mem hi');rw[low36_mem] at this;unfold byteAt;rw[gq,List.getElem?_eq_getElem hi'];exact this
 ·intro h b hb;obtain⟨i,hi,rfl⟩:=List.getElem_of_mem hb;have:=h i (by rw[<- hl]; exact hi);unfold byteAt at this;rw[gq,List.getElem?_eq_getElem hi] at this;rw[low36_mem]; exact this
theorem nmB_trim(s:ByteArray)(h1:1<=s.size)(h8:s.size<=8):nmB s=((Lib.trimS s.data.toList low36==[])&&decide (0<=Lib.indexByte low26 (byteAt s 0).toNat.toUInt8)):=by
 have e0:(byteAt s 0).toNat.toUInt8=s.data.toList.getD 0 0:=by unfold byteAt; simp
 rw[e0,indexByte_mem,low26_mem];show nmB s=(_&&lowB (byteAt s 0));have g1:decide ((s.size:Int)≥1)=true:=by simp; omega
 have g2:decide ((s.size:Int)<=8)=true:=by simp; omega
 unfold nmB;rw[g1,g2,Bool.and_true,Bool.and_true];cases h0:lowB (byteAt s 0) with
 | false =>
   rw[Bool.and_false];cases hn:nmTo s s.size with
   | false=>rfl
   | true =>
     have:=nmTo_mono s 1 s.size h1 hn;simp[nmTo,chB,h0] at this
 | true =>
   rw[Bool.and_true,Bool.eq_iff_iff,nmTo_all s h0 s.size (Nat.le_refl _),beq_iff_eq,trim_all]
end Go.Proofs.Sv
end
section
namespace Go.Proofs.Xd
open Go Go.Proofs.Xv Go.Proofs.Xl Go.Proofs.Sv
def catN(s:ByteArray)(p:Nat->ByteArray):Nat->ByteArray
 | 0=>s
 | n+1=>catN s p n++p n
theorem catN_size{s:ByteArray}{p:Nat->ByteArray}{M:Nat}:∀n,(∀i,i<n->(p i).size<=M)->(catN s p n).size<=s.size+n*M
 | 0,_=>by simp[catN]
 | n+1,h=>by
   have h1:=catN_size (s:=s) n fun i hi=>h i (by omega);have h2:=h n (by omega);rw[catN,ByteArray.size_append,Nat.add_mul];omega
theorem lp_cat{τ ρ:Type}{n:Nat}(hn:n<=9223372036854775807)(mk:Nat->ByteArray->τ)(p:Nat->ByteArray)(s0:ByteArray){J:ByteArray->Option ρ}{F:(τ->Option ρ)->τ->Option ρ}
  (hF:∀g i s,i<n->s=catN s0 p i->F g (mk i s)=g (mk (i+1) (s++p i))) (hE:∀g s,s=catN s0 p n->F g (mk n s)=J s):lp F (mk 0 s0)=J (catN s0 p n) :=
 lp_run hn mk (fun i s=>some (s++p i)) (fun _ _=>none) (fun i s=>s=catN s0 p i) (J:=J) (F:=F) hF (fun i s s' _ hs h=>by cases h; rw[hs]; rfl) hE (fun _ _=>J (catN s0 p n)) (fun s hs=>by rw[hs]) (fun _ _ _ _=>rfl) 0 (Nat.zero_le _) s0 rfl
def fillN{α:Type}(z:α)(p:Nat->α)(n i:Nat):List α:=(List.range i).map p++List.replicate (n-i) z
theorem fillN_zero{α:Type}(z:α)(p:Nat->α)(n:Nat):fillN z p n 0=List.replicate n z:=by simp[fillN]
theorem fillN_full{α:Type}(z:α)(p:Nat->α)(n:Nat):fillN z p n n=(List.range n).map p:=by simp[fillN]
theorem fillN_len{α:Type}(z:α)(p:Nat->α){n i:Nat}(h:i<=n):(fillN z p n i).length=n:=by simp[fillN]; omega
theorem fillN_set{α:Type}(z:α)(p:Nat->α){n i:Nat}(h:i<n):(fillN z p n i).set i (p i)=fillN z p n (i+1):=by
 unfold fillN;rw[List.set_append_right _ _ (by simp)];simp only[List.length_map,List.length_range,Nat.sub_self,List.range_succ,List.map_append,List.map_cons,List.map_nil,List.append_assoc];rw[show n-i=(n-(i+1))+1 by omega,List.replicate_succ,List.set_cons_zero];rfl
theorem lp_fill{α τ ρ:Type}{n:Nat}(hn:n<=9223372036854775807)(mk:Nat->List α->τ)(z:α)(p:Nat->α){J:List α->Option ρ}{F:(τ->Option ρ)->τ->Option ρ}
  (hF:∀g i s,i<n->s=fillN z p n i->F g (mk i s)=g (mk (i+1) (s.set i (p i)))) (hE:∀g s,s=(List.range n).map p->F g (mk n s)=J s):lp F (mk 0 (List.replicate n z))=J ((List.range n).map p) :=
 lp_run hn mk (fun i s=>some (s.set i (p i))) (fun _ _=>none) (fun i s=>s=fillN z p n i) (J:=J) (F:=F) hF (fun i s s' hi hs h=>by cases h; rw[hs,fillN_set z p hi]) (fun g s hs=>hE g s (by rw[hs,fillN_full])) (fun _ _=>J ((List.range n).map p)) (fun s hs=>by rw[hs,fillN_full]) (fun _ _ _ _=>rfl) 0 (Nat.zero_le _) _ (fillN_zero _ _ _).symm
def bs(s:ByteArray):List UInt8:=s.data.toList
theorem ba_bs(s:ByteArray):(⟨(bs s).toArray⟩:ByteArray)=s:=by simp[bs]
theorem bs_len(s:ByteArray):(bs s).length=s.size:=Array.length_toList
def joinS(l:List ByteArray)(sep:ByteArray):ByteArray:=⟨(Lib.join (l.map bs) (bs sep)).toArray⟩
theorem joinS_one(a sep:ByteArray):joinS [a] sep=a:=by
 unfold joinS;rw[List.map_singleton,Lib.join_one,ba_bs]
theorem joinS_len{l:List ByteArray}{sep:ByteArray}{M:Nat}:(∀x∈l,x.size+sep.size<=M)->(joinS l sep).size<=l.length*M:=by
 intro h
 suffices ∀k,k<=l.length->(joinS (l.take k) sep).size<=k*M by have:=this l.length (Nat.le_refl _); rwa [List.take_length] at this
 intro k
 induction k with
 | zero=>intro _; simp[joinS,Lib.join,ByteArray.size]
 | succ k ih =>
   intro hk;have ih:=ih (by omega);have hx:=h l[k] (List.getElem_mem _);rw[List.take_succ_eq_append_getElem (by omega:k<l.length)];unfold joinS at ih ⊢;rw[List.map_append,List.map_singleton,join_snoc];rw[ba_size] at ih ⊢;have e1:=bs_len l[k];have e2:=bs_len sep;rw[Nat.add_mul,Nat.one_mul];split
   ·omega
   ·rw[List.length_append,List.length_append]; omega
end Go.Proofs.Xd
end
section
namespace Go.Proofs.Xd
open Go Go.Proofs.Xv Go.Proofs.Xl
abbrev DTbl:=List Int×List Int×List Int
abbrev DArc:=Int×Int×Int×Int×List DTbl×List DTbl
abbrev DPin:=ByteArray×Int×Int×Bool
abbrev DInst:=ByteArray×Int×List Int
abbrev DPort:=ByteArray×Int×Int
abbrev DWire:=List Int×List Int×List Int×List Int
def inB(x l h:Int):Bool:=decide (l<=x)&&decide (x<=h)
theorem inB_iff{x l h:Int}:inB x l h=true↔l<=x/\x<=h:=by simp[inB]
def incB(xs:List Int):Bool:=!(List.range xs.length).any fun i=>decide (0<i)&&decide (xs.getD i 0<=xs.getD (i-1) 0)
def isAxis(xs:List Int):Bool:=decide (1<=xs.length)&&decide (xs.length<=4)&&xs.all (inB · 0 100000)&&incB xs
def isTable(t:DTbl):Bool:=isAxis t.1&&isAxis t.2.1&&decide (t.2.2.length=t.1.length*t.2.1.length)&&t.2.2.all (inB · (-1000000) 1000000)
theorem axis_len{xs:List Int}(h:isAxis xs=true):1<=xs.length/\xs.length<=4:=by
 simp only[isAxis,ba,dq] at h;exact⟨h.1.1.1,h.1.1.2⟩
theorem table_len{t:DTbl}(h:isTable t=true):1<=t.1.length/\t.1.length<=4/\1<=t.2.1.length/\t.2.1.length<=4/\t.2.2.length=t.1.length*t.2.1.length/\1<=t.2.2.length/\t.2.2.length<=16:=by
 simp only[isTable,ba,dq] at h;obtain⟨⟨⟨h1,h2⟩,h3⟩,_⟩:=h;obtain⟨a1,a2⟩:=axis_len h1;obtain⟨b1,b2⟩:=axis_len h2;have c1:1*1<=t.1.length*t.2.1.length:=Nat.mul_le_mul a1 b1;have c2:t.1.length*t.2.1.length<=4*4:=Nat.mul_le_mul a2 b2;exact⟨a1,a2,b1,b2,h3,by omega,by omega⟩
def minN(xs:List Int):Int:=fN (fun i m=>min m (xs.getD (i+1) 0)) (xs.length-1) (xs.getD 0 0)
def areTables(l:List DTbl)(p:Bool):Bool:=decide (l.length=2)&&l.all fun t=>isTable t&&!(p&&decide (minN t.2.2<0))
theorem all_any{α:Type}(l:List α)(p:α->Bool):(!l.any fun x=>!p x)=l.all p:=by
 induction l with
 | nil=>rfl
 | cons a r ih=>simp only[List.any_cons,List.all_cons,Bool.not_or,Bool.not_not,ih]
end Go.Proofs.Xd
end
section
namespace Go.Proofs.YtekfdfcnjlfgiaaGreatDoor
open Go Go.Proofs Go.Proofs.Xv Go.Proofs.Xl Go.Proofs.Xd
theorem r89(a b c:Int):u89 a b c=some (inB a b c):=rfl
theorem r77(a b c:Int):u77 a b c=some (inB a b c):=rfl
theorem r119(a b c:Int):u119 a b c=some (!inB a b c):=by
 unfold u119;rw[r89,gP ⟨rfl,trivial⟩,vS]
theorem r115c119(xs:List Int)(b c:Int)(h:xs.length<=9223372036854775807):u115c119 xs (b,c)=some (xs.any fun x=>!inB x b c):=by
 have h1:u148c119 xs (b,c)=_:=idx_some h (fun i=>!inB (xs.getD i 0) b c) (fun g i hi=>idx_el hi h (r119 _ _ _)) (fun g=>aE);have:=has_some h1;rw[any_getD xs 0 (fun x=>!inB x b c)] at this;exact this
theorem r91(xs:List Int)(b c:Int)(h:xs.length<=9223372036854775807):u91 xs b c=some (xs.all (inB · b c)):=by
 unfold u91;rw[r115c119 _ _ _ h,gP ⟨rfl,trivial⟩,vS,all_any]
theorem r224(xs:List Int)(h:xs.length<=9223372036854775807)(h1:1<=xs.length):u224 xs=some (incB xs):=by
 have key:=lp_allK h (fun i=>decide (xs.getD i 0<=xs.getD (i-1) 0)) (some false) (e:=some true) (F:=u224L1 xs) 1 h1 (fun g i hk hi=>by
  have e:((i:Int)-1).toNat=i-1:=by omega
  refine(all_el hi h ⟨oo,oo,oo,trivial⟩).trans ?_;rw[e]; rfl) (fun g=>aE)
 refine key.trans ?_;unfold incB
 grind
theorem r220(xs:List Int)(h:xs.length<=9223372036854775807):u220 xs=some (isAxis xs):=by
 unfold u220;have e:u88 xs=some (xs.length:Int):=rfl;have ed:∀a:Bool,(a=true->1<=xs.length)->(a=true/\True->(u224 xs).isSome=true):=fun a ha hc=>by grind[r224]
 rw[e,vS,r89,vS,r91 xs 0 100000 h,vS,gP ⟨rfl,rfl,fun _=>rfl,ed _ (fun hc=>by
  grind[inB]),trivial⟩]
 congr 1;unfold isAxis;by_cases h1:1<=xs.length
 ·rw[r224 xs h h1,vS]
  grind[inB]
 grind[decide,inB]
theorem r218(xs:List Int)(h:xs.length<=9223372036854775807):u218 xs=some (isAxis xs):=by
 have key:=lp_all (n:=xs.length) h (fun i=>!inB (xs.getD i 0) 0 100000||decide (0<i)&&decide (xs.getD i 0<=xs.getD (i-1) 0)) (some false) (e:=u218J0 xs ()) (F:=u218L1 xs) (fun g i hi=>by
  have e:((i:Int)-1).toNat=i-1:=by omega
  have e2:decide ((0:Int) < (i:Int))=decide (0<i):=by rw[decide_eq_decide]; omega
  refine(all_el hi h ⟨oo,rfl,fun hc=>oo,fun hc=>⟨by have:=hc.1; simp at this; omega,by omega⟩,fun hc=>oo,trivial⟩).trans ?_;rw[e,r77,vS,e2]; rfl) (fun g=>aE)
 refine key.trans ?_;unfold isAxis u218J0;have e3:((List.range xs.length).any fun i=>!inB (xs.getD i 0) 0 100000||decide (0<i)&&decide (xs.getD i 0<=xs.getD (i-1) 0))=!(xs.all (inB · 0 100000)&&incB xs):=by
  rw[<- all_any,<- any_getD xs 0 (fun x=>!inB x 0 100000),incB,<- Bool.not_or,Bool.not_not];rw[Bool.eq_iff_iff,Bool.or_eq_true,List.any_eq_true,List.any_eq_true,List.any_eq_true];constructor
  ·rintro⟨i,h1,h2⟩;rcases Bool.or_eq_true _ _ ▸ h2 with h3 | h3
   ·exact .inl ⟨i,h1,h3⟩
   ·exact .inr ⟨i,h1,h3⟩
  ·rintro(⟨i,h1,h2⟩ | ⟨i,h1,h2⟩)
   ·exact⟨i,h1,by rw[h2]; rfl⟩
   ·exact⟨i,h1,by rw[h2,Bool.or_true]⟩
 rw[e3];cases hA:(xs.all (inB · 0 100000)&&incB xs) with
 | false=>grind
 | true =>
   rw[if_neg (by simp),Bool.and_assoc,hA,Bool.and_true];refine congrArg some ?_
   grind
theorem r211(t:Y247)(hw:wf y247 t):u211 t=some (isTable t):=by
 obtain⟨⟨h1,_⟩,⟨h2,_⟩,h3,_⟩:=hw;unfold u211;have hb:(isAxis t.1&&isAxis t.2.1)=true/\True->in64 ((t.1.length:Int)*(t.2.1.length:Int)):=fun hc=>by
  have hc:=hc.1;rw[ba] at hc;obtain⟨a1,a2⟩:=axis_len hc.1;obtain⟨b1,b2⟩:=axis_len hc.2;have c2:t.1.length*t.2.1.length<=4*4:=Nat.mul_le_mul a2 b2;have e:(t.1.length:Int)*(t.2.1.length:Int)=((t.1.length*t.2.1.length:Nat):Int):=by simp
  rw[e];exact oo
 rw[r220 _ h1,r220 _ h2,r91 _ _ _ h3,vS,vS,vS,gP ⟨rfl,fun _=>rfl,hb,fun _=>rfl,trivial⟩];congr 1
 grind[isTable]
theorem r208(t:Y247)(hw:wf y247 t):u208 t=some (isTable t):=by
 obtain⟨⟨h1,_⟩,⟨h2,_⟩,h3,_⟩:=hw;unfold u208;have hb:(!isAxis t.1||!isAxis t.2.1)=false/\True->in64 ((t.1.length:Int)*(t.2.1.length:Int)):=fun hc=>by
  have hc:=hc.1;simp only[Bool.or_eq_false_iff,Bool.not_eq_false'] at hc;obtain⟨a1,a2⟩:=axis_len hc.1;obtain⟨b1,b2⟩:=axis_len hc.2;have c2:t.1.length*t.2.1.length<=4*4:=Nat.mul_le_mul a2 b2;have e:(t.1.length:Int)*(t.2.1.length:Int)=((t.1.length*t.2.1.length:Nat):Int):=by simp
  rw[e];exact oo
 rw[r218 _ h1,r218 _ h2,vS,vS,gP ⟨rfl,fun _=>rfl,hb,trivial⟩];have key:=lp_all (n:=t.2.2.length) h3 (fun i=>!inB (t.2.2.getD i 0) (-1000000) 1000000) (some false) (e:=some true) (F:=u208L1 t) (fun g i hi=>all_el hi h3 ⟨oo,rfl,trivial⟩) (fun g=>aE);rw[key,any_getD t.2.2 0 (fun x=>!inB x (-1000000) 1000000)];have e:((t.2.2.length:Int) != (t.1.length:Int)*(t.2.1.length:Int))=!decide (t.2.2.length=t.1.length*t.2.1.length):=by
  rw[Bool.eq_iff_iff];simp only[bne_iff_ne,Bool.not_eq_true',decide_eq_false_iff_not,ne_eq];constructor
  ·intro h k; exact h (by exact_mod_cast k)
  ·intro h k; exact h (by exact_mod_cast k)
 grind[isTable,all_any,isAxis,decide,inB]
end Go.Proofs.YtekfdfcnjlfgiaaGreatDoor
end
section
namespace Go.Proofs.Xd
open Go Go.Proofs.Sv Go.Proofs.Xv Go.Proofs.Xl
theorem nmTo_any(s:ByteArray):∀n,nmTo s n=!(List.range n).any fun i=>!chB (byteAt s i) i
 | 0=>rfl
 | n+1=>by
   rw[nmTo,nmTo_any s n,List.range_succ,List.any_append,Bool.not_or];simp
def dupB(f:Nat->ByteArray)(i:Nat):Bool:=(List.range i).any fun k=>decide (f k=f i)
def namesB(n:Nat)(f:Nat->ByteArray):Bool:=!(List.range n).any fun i=>!nmB (f i)||dupB f i
theorem namesB_congr{n:Nat}{f g:Nat->ByteArray}(h:∀i,i<n->f i=g i):namesB n f=namesB n g:=by
 unfold namesB;congr 1;refine any_congr' fun i hi=>?_;rw[h i hi];congr 1;unfold dupB;refine any_congr' fun k hk=>?_;rw[h i hi,h k (by omega)]
theorem take_any(l:List ByteArray)(d:ByteArray)(i:Nat)(h:i<l.length):((l.take i).any fun y=>decide (l.getD i d=y))=dupB (fun k=>l.getD k d) i:=by
 have hl:(l.take i).length=i:=by rw[List.length_take]; omega
 rw[<- any_getD (l.take i) d (fun y=>decide (l.getD i d=y)),hl];unfold dupB;refine any_congr' fun k hk=>?_;have:(l.take i).getD k d=l.getD k d:=by
  rw[gq,gq,List.getElem?_take_of_lt hk]
 rw[this,decide_eq_decide];exact eq_comm
theorem namesB_iff{n:Nat}{f:Nat->ByteArray}:namesB n f=true↔∀i,i<n->nmB (f i)=true/\dupB f i=false:=by
 unfold namesB;rw[Bool.not_eq_true',<- Bool.not_eq_true,List.any_eq_true];constructor
 ·intro h i hi;have:¬(!nmB (f i)||dupB f i)=true:=fun hc=>h ⟨i,List.mem_range.2 hi,hc⟩;simpa using this
 ·rintro h ⟨i,h1,h2⟩;obtain⟨h3,h4⟩:=h i (List.mem_range.1 h1);rw[h3,h4] at h2;cases h2
theorem getD_map'{α β:Type}(f:α->β)(l:List α)(i:Nat)(d:α)(e:β)(h:i<l.length):(l.map f).getD i e=f (l.getD i d):=by
 rw[gq,gq,List.getElem?_map,List.getElem?_eq_getElem h]; rfl
theorem range_map{α β:Type}(l:List α)(d:α)(f:α->β):(List.range l.length).map (fun i=>f (l.getD i d))=l.map f:=by
 apply List.ext_getElem?;intro i;rw[List.getElem?_map,List.getElem?_map];by_cases h:i<l.length
 ·rw[List.getElem?_range h,List.getElem?_eq_getElem h];show some (f (l.getD i d))=some (f l[i]);rw[gq,List.getElem?_eq_getElem h]; rfl
 ·rw[List.getElem?_eq_none (by simpa using h),List.getElem?_eq_none (by omega)]; rfl
end Go.Proofs.Xd
end
section
namespace Go.Proofs.YtekfdfcnjlfgiaaGreatDoor
open Go Go.Proofs Go.Proofs.Sv Go.Proofs.Xv Go.Proofs.Xl Go.Proofs.Xd
theorem r100(s:ByteArray)(h:s.size<=9223372036854775807):u100 s=some (nmB s):=by
 have key:=lp_all (n:=s.size) h (fun i=>!chB (byteAt s i) i) (some false) (e:=u100J0 s ()) (F:=u100L1 s) (fun g i hi=>by
  refine(all_el2 hi h ⟨oo,fun _=>oo,trivial⟩ ⟨oo,fun _=>oo,trivial⟩).trans ?_;have e2:decide ((0:Int) < (i:Int))=decide (0<i):=by rw[decide_eq_decide]; omega
  have e3:((i:Int)).toNat=i:=rfl;rw[e2,e3];unfold chB lowB digB;rw[Bool.not_or]) (fun g=>aE)
 refine key.trans ?_;unfold nmB u100J0;rw[nmTo_any];cases(List.range s.size).any fun i=>!chB (byteAt s i) i
 ·rfl
 ·rfl
theorem r132(s:ByteArray)(h:s.size<=9223372036854775807):u132 s=some (nmB s):=by
 unfold u132;have t1:u156 s ⟨#[97,98,99,100,101,102,103,104,105,106,107,108,109,110,111,112,113,114,115,116,117,118,119,120,121,122,48,49,50,51,52,53,54,55,56,57]⟩=some ⟨(Lib.trimS s.data.toList low36).toArray⟩:=if_pos ⟨by decide,by decide⟩;have t2:∀c,u157 ⟨#[97,98,99,100,101,102,103,104,105,106,107,108,109,110,111,112,113,114,115,116,117,118,119,120,121,122]⟩ c=some (Lib.indexByte low26 c.toNat.toUInt8):=fun _=>rfl;rw[t1,t2,r89,vS,vS,vS,gP ⟨rfl,fun _=>rfl,fun hc=>⟨by decide,by
  have:=hc.1;rw[ba,inB_iff] at this;omega⟩,fun _=>rfl,trivial⟩,lE]
 refine congrArg some ?_;show(inB (s.size:Int) 1 8&&decide ((⟨(Lib.trimS s.data.toList low36).toArray⟩:ByteArray)=⟨#[]⟩)&&decide (0<=Lib.indexByte low26 (byteAt s (Int.toNat 0)).toNat.toUInt8))=nmB s;by_cases hb:1<=s.size/\s.size<=8
 ·rw[nmB_trim s hb.1 hb.2];have e1:inB (s.size:Int) 1 8=true:=by rw[inB_iff]; omega
  have e2:decide ((⟨(Lib.trimS s.data.toList low36).toArray⟩:ByteArray)=⟨#[]⟩)=(Lib.trimS s.data.toList low36==[]):=by
   rw[Bool.eq_iff_iff,dq,beq_iff_eq];constructor
   ·intro h;injection h with h;have:=congrArg Array.toList h;simpa using this
   ·intro h; rw[h]
  rw[e1,e2,Bool.true_and];rfl
 ·have e1:inB (s.size:Int) 1 8=false:=by rw[<- Bool.not_eq_true,inB_iff]; omega
  have e2:nmB s=false:=by
   rw[<- Bool.not_eq_true];intro hc;simp only[nmB,ba,dq] at hc;omega
  rw[e1,e2]; rfl
theorem r147(xs:List ByteArray)(x:ByteArray)(h:xs.length<=9223372036854775807):u147 xs x=some (xs.any fun y=>decide (x=y)):=by
 have h1:u160 xs x=_:=idx_some h (fun i=>decide (x=xs.getD i (dflt .str))) (fun g i hi=>by
  refine(if_pos (by simpa using hi)).trans ?_;rw[gP ⟨oo,trivial⟩,gP ⟨oo,trivial⟩];rfl) (fun g=>aE)
 have:=has_some h1;rw[any_getD xs (dflt .str) (fun y=>decide (x=y))] at this;exact this
theorem r113(xs:List ByteArray)(hw:wf (.sl .str) xs):u113 xs=some (namesB xs.length fun i=>xs.getD i (dflt .str)):=by
 have h:=hw.1;have key:=lp_all (n:=xs.length) h (fun i=>!nmB (xs.getD i (dflt .str))||dupB (fun i=>xs.getD i (dflt .str)) i) (some false) (e:=some true) (F:=u113L1 xs) (fun g i hi=>by
  have hs:=wf_el (d:=dflt .str) hi hw;have hl:(xs.take i).length<=9223372036854775807:=by rw[List.length_take]; omega
  have e1:=r132 _ hs;have e2:=r147 (xs.take i) (xs.getD i (dflt .str)) hl;rw[take_any xs (dflt .str) i hi] at e2;have e3:((i:Int)).toNat=i:=rfl;refine(if_pos (by simpa using hi)).trans ?_;rw[e3,e1,e2,vS,vS,gP ⟨oo,trivial⟩,gP ⟨rfl,fun _=>⟨by omega,by omega,by omega⟩,fun _=>rfl,trivial⟩,gP ⟨oo,trivial⟩]) (fun g=>aE)
 refine key.trans ?_;unfold namesB;cases(List.range xs.length).any fun i=>!nmB (xs.getD i (dflt .str))||dupB (fun i=>xs.getD i (dflt .str)) i <;> rfl
theorem r76(xs:List ByteArray)(hw:wf (.sl .str) xs):u76 xs=some (namesB xs.length fun i=>xs.getD i (dflt .str)):=by
 have h:=hw.1;have key:=lp_all (n:=xs.length) h (fun i=>!nmB (xs.getD i (dflt .str))||dupB (fun i=>xs.getD i (dflt .str)) i) (some false) (e:=some true) (F:=u76L1 xs) (fun g i hi=>by
  have hs:=wf_el (d:=dflt .str) hi hw;have e1:=r100 _ hs;have e3:((i:Int)).toNat=i:=rfl;have inner:=lp_all (n:=i) (by omega) (fun k=>decide (xs.getD k (dflt .str)=xs.getD i (dflt .str))) (some false) (e:=g ((i:Int)+1)) (F:=u76L3 xs (i:Int) g) (fun g3 k hk=>by
   refine(all_el hk (by omega) ⟨oo,oo,trivial⟩).trans ?_;rfl) (fun g3=>by
   refine aE.trans ?_;unfold u76J2;exact gP ⟨oo,trivial⟩)
  refine(if_pos (by simpa using hi)).trans ?_;rw[e3,e1,vS,gP ⟨oo,rfl,trivial⟩,inner];unfold dupB;cases nmB (xs.getD i (dflt .str)) <;> cases(List.range i).any fun k=>decide (xs.getD k (dflt .str)=xs.getD i (dflt .str)) <;> rfl) (fun g=>aE)
 refine key.trans ?_;unfold namesB;cases(List.range xs.length).any fun i=>!nmB (xs.getD i (dflt .str))||dupB (fun i=>xs.getD i (dflt .str)) i <;> rfl
theorem r212(xs:List Int)(h:xs.length<=9223372036854775807)(h1:1<=xs.length):u212 xs=some (minN xs):=by
 unfold u212;rw[if_neg (by simp; omega)];unfold u212J0;rw[gP ⟨oo,trivial⟩];have key:=lF (n:=xs.length-1) (by omega) (fun i (m:Int)=>(m,((i+1:Nat):Int))) (fun i m=>min m (xs.getD (i+1) 0)) (fun _ _=>True) (J:=fun m=>some m) (F:=u212L2 xs) (fun g i s hi _=>by
  refine(if_pos (by simp; omega)).trans ?_;rw[gP ⟨oo,trivial⟩,gP ⟨oo,trivial⟩];rfl) (fun _ _ _ _=>trivial) (fun g s _=>by
  have e:xs.length-1+1=xs.length:=by omega
  show u212L2 xs g (s,((xs.length-1+1:Nat):Int))=some s;rw[e];exact aE) (xs.getD 0 0) trivial
 exact key
theorem r210(t:Y247)(p:Bool)(hw:wf y247 t):u210 t p=some (!isTable t||p&&decide (minN t.2.2<0)):=by
 unfold u210;have hv:p=true/\(!isTable t)=false/\True->(u212 t.2.2).isSome=true:=fun hc=>by
  have h2:isTable t=true:=by simpa using hc.2.1
  rw[r212 _ hw.2.2.1 (table_len h2).2.2.2.2.2.1]; rfl
 rw[r211 t hw,vS,gP ⟨rfl,hv,trivial⟩,lE];refine congrArg some ?_;cases hT:isTable t with
 | false=>rfl
 | true=>rw[r212 _ hw.2.2.1 (table_len hT).2.2.2.2.2.1,vS]
theorem r195(l:List Y247)(p:Bool)(hw:wf (.sl y247) l):u195 l p=some (areTables l p):=by
 have h:=hw.1;have h1:u219c210 l p=_:=idx_some h (fun i=>!isTable (l.getD i (dflt y247))||p&&decide (minN (l.getD i (dflt y247)).2.2<0)) (fun g i hi=>idx_el hi h (r210 _ _ (wf_el hi hw))) (fun g=>aE);have h2:u209c210 l p=_:=has_some h1;rw[any_getD l (dflt y247) (fun t=>!isTable t||p&&decide (minN t.2.2<0))] at h2;unfold u195;rw[h2,vS,gP ⟨fun _=>rfl,trivial⟩];refine congrArg some ?_;unfold areTables;have e:((l.length:Int)==2)=decide (l.length=2):=by
  rw[Bool.eq_iff_iff,beq_iff_eq,dq]; omega
 rw[e,<- all_any];congr 3;funext t;rw[Bool.not_and,Bool.not_not]
theorem fst_fold(xs:List Int):∀n,(fN (fun i (s:Int×Int)=>(min s.1 (xs.getD (i+1) 0),max s.2 (xs.getD (i+1) 0))) n (xs.getD 0 0,xs.getD 0 0)).1=fN (fun i m=>min m (xs.getD (i+1) 0)) n (xs.getD 0 0)
 | 0=>rfl
 | n+1=>by rw[fN,fN,fst_fold xs n]
theorem r192(t:Y247)(hw:wf y247 t):∃l,u192 t=some (if isTable t=true then((minN t.2.2,l),0) else((0,0),1)):=by
 unfold u192;rw[r208 t hw,vS,gP ⟨rfl,trivial⟩];cases hT:isTable t with
 | false=>exact⟨0,rfl⟩
 | true =>
   have h1:=(table_len hT).2.2.2.2.2.1;have h:=hw.2.2.1;have key:=lF (n:=t.2.2.length-1) (by omega) (fun i (s:Int×Int)=>(((i+1:Nat):Int),s.1,s.2)) (fun i s=>(min s.1 (t.2.2.getD (i+1) 0),max s.2 (t.2.2.getD (i+1) 0))) (fun _ _=>True) (J:=fun s=>some ((s.1,s.2),(0:Int))) (F:=u192L1 t) (fun g i s hi _=>by
    refine(if_pos (by simp; omega)).trans ?_;rw[gP ⟨oo,trivial⟩,gP ⟨oo,trivial⟩,gP ⟨oo,trivial⟩];rfl) (fun _ _ _ _=>trivial) (fun g s _=>by
    have e:t.2.2.length-1+1=t.2.2.length:=by omega
    show u192L1 t g (((t.2.2.length-1+1:Nat):Int),s.1,s.2)=_;rw[e];exact aE) (t.2.2.getD 0 0,t.2.2.getD 0 0) trivial
   rw[if_neg (by simp),gP ⟨oo,oo,trivial⟩];rw[fst_fold] at key;exact⟨_,key⟩
theorem r166(l:List Y247)(p:Bool)(hw:wf (.sl y247) l):u166 l p=some (areTables l p):=by
 unfold u166;have e:((l.length:Int) != 2)=!decide (l.length=2):=by
  rw[Bool.eq_iff_iff]; simp; omega
 rw[e];unfold areTables;by_cases h2:l.length=2
 ·have key:=lp_all (n:=2) (by decide) (fun i=>!isTable (l.getD i (dflt y247))||p&&decide (minN (l.getD i (dflt y247)).2.2<0)) (some false) (e:=some true) (F:=u166L1 p l) (fun g i hi=>by
   obtain⟨m,hm⟩:=r192 (l.getD i (dflt y247)) (wf_el (by omega) hw);have e3:((i:Int)).toNat=i:=rfl;refine(if_pos (by simp; omega)).trans ?_;rw[e3,hm,vS,gP ⟨oo,rfl,trivial⟩,lE,gP ⟨oo,trivial⟩];cases isTable (l.getD i (dflt y247)) <;> rfl) (fun g=>by
   unfold u166L1;exact if_neg (by decide))
  rw[decide_eq_true h2,if_neg (by simp)];refine key.trans ?_;have:=any_getD l (dflt y247) (fun t=>!isTable t||p&&decide (minN t.2.2<0));rw[h2] at this;rw[this,<- all_any,Bool.true_and];have e5:(fun t:Y247=>!(isTable t&&!(p&&decide (minN t.2.2<0))))=fun t=>!isTable t||p&&decide (minN t.2.2<0):=by
   funext t; rw[Bool.not_and,Bool.not_not]
  rw[e5];cases l.any fun t=>!isTable t||p&&decide (minN t.2.2<0) <;> rfl
 ·rw[decide_eq_false h2]; rfl
end Go.Proofs.YtekfdfcnjlfgiaaGreatDoor
end
section
namespace Go.Proofs.Xd
open Go Go.Proofs.Sv Go.Proofs.Xv Go.Proofs.Xl
def pinB(n:Nat)(q:DPin)(i:Nat):Bool:=inB q.2.2.1 0 500&&(if i+1=n then q.2.1==2&&q.2.2.1==0&&!q.2.2.2 else q.2.1==1)
def pinsOk(n:Nat)(p:Nat->DPin):Bool:=decide (2<=n)&&decide (n<=5)&&namesB n (fun i=>(p i).1)&&!(List.range n).any fun i=>!pinB n (p i) i
def clkN(n:Nat)(p:Nat->DPin):Int:=fN (fun i s=>if(p i).2.2.2=true then s+1 else s) n 0
def clkI(n:Nat)(p:Nat->DPin):Int:=match(List.range n).find? (fun i=>(p i).2.2.2) with | some i=>(i:Int) | none => -1
def dupA(a:Nat->DArc)(i:Nat):Bool:=(List.range i).any fun k=>(a k).1==(a i).1&&(a k).2.1==(a i).2.1&&(a k).2.2.1==(a i).2.2.1
def isArcS(n:Nat)(p:Nat->DPin)(a:DArc):Bool :=
 inB a.2.1 0 ((n:Int)-1-1)&&inB a.2.2.1 0 ((n:Int)-1) &&
 if a.1=1 then !(p a.2.1.toNat).2.2.2&&a.2.2.1==(n:Int)-1&&inB a.2.2.2.1 1 3&&areTables a.2.2.2.2.1 true&&areTables a.2.2.2.2.2 true
 else if a.1=2∨a.1=3 then(p a.2.1.toNat).2.2.2&&a.2.2.1==(n:Int)-1&&a.2.2.2.1==0&&areTables a.2.2.2.2.1 true&&areTables a.2.2.2.2.2 true
 else if a.1=4∨a.1=5 then(p a.2.1.toNat).2.2.2&&decide (a.2.2.1 < (n:Int)-1)&&!(p a.2.2.1.toNat).2.2.2&&a.2.2.2.1==0&&areTables a.2.2.2.2.1 false&&(a.2.2.2.2.2.length:Int)==0
 else false
def isArcI(n:Nat)(p:Nat->DPin)(a:DArc):Bool :=
 if a.1=4∨a.1=5 then a.2.2.2.1==0&&(a.2.2.2.2.2.length:Int)==0&&areTables a.2.2.2.2.1 false&&a.2.1==clkI n p&&decide (0<=a.2.1)&&inB a.2.2.1 0 ((n:Int)-1-1)&&a.2.2.1 != a.2.1
 else areTables a.2.2.2.2.1 true&&areTables a.2.2.2.2.2 true&&a.2.2.1==(n:Int)-1&&inB a.2.1 0 ((n:Int)-1-1) &&
  if a.1=1 then !(p a.2.1.toNat).2.2.2&&inB a.2.2.2.1 1 3
  else if a.1=2∨a.1=3 then(p a.2.1.toNat).2.2.2&&a.2.2.2.1==0
  else false
theorem clkN_le(p:Nat->DPin):∀n,0<=clkN n p/\clkN n p<=n
 | 0=>⟨Int.le_refl _,Int.le_refl _⟩
 | n+1=>by
   have:=clkN_le p n
   grind[clkN,fN]
theorem clkN_one{p:Nat->DPin}:∀{n i:Nat},i<n->(p i).2.2.2=true->1<=clkN n p
 | n+1,i,hi,h=>by
   have h0:=(clkN_le p n).1;have ih:i<n->1<=clkN n p:=fun h'=>clkN_one h' h;unfold clkN at *
   rw[fN]
   grind
theorem clkN_two{p:Nat->DPin}:∀{n i j:Nat},i<j->j<n->(p i).2.2.2=true->(p j).2.2.2=true->2<=clkN n p
 | n+1,i,j,hij,hj,h,k=>by
   have ih:j<n->2<=clkN n p:=fun h'=>clkN_two hij h' h k;have h1:i<n->1<=clkN n p:=fun h'=>clkN_one h' h;unfold clkN at *
   rw[fN]
   grind
theorem clkI_eq{p:Nat->DPin}{n i:Nat}(hn:clkN n p<=1)(hi:i<n):(p i).2.2.2=decide (clkI n p=(i:Int)):=by
 unfold clkI;cases h:(List.range n).find? (fun i=>(p i).2.2.2) with
 | none =>
   grind
 | some j =>
   have h1:=List.find?_some h;have h2:=List.mem_range.1 (List.mem_of_find?_eq_some h);show _=decide ((j:Int)=(i:Int));by_cases e:j=i
   ·grind
   ·rw[decide_eq_false (by omega),<- Bool.not_eq_true];intro hc;rcases Nat.lt_or_gt_of_ne e with h' | h'
    ·have:=clkN_two (p:=p) h' hi h1 hc; omega
    simp_all
theorem clkI_lt{p:Nat->DPin}{n:Nat}:clkI n p<n:=by
 grind[clkI,List.range,List.mem_of_find?_eq_some]
theorem pins_last{p:Nat->DPin}{n:Nat}(h:pinsOk n p=true):2<=n/\n<=5/\(p (n-1)).2.2.2=false:=by
 grind[pinsOk,pinB]
theorem arc_eq{p:Nat->DPin}{n:Nat}(h:pinsOk n p=true)(hc:clkN n p<=1)(a:DArc):isArcI n p a=isArcS n p a:=by
 obtain⟨h2,h5,hl⟩:=pins_last h;obtain⟨kd,fr,to,se,de,sl⟩:=a;rw[Bool.eq_iff_iff];unfold isArcI isArcS;dsimp only;have hcl:∀x:Int,0<=x->x<=(n:Int)-1->(p x.toNat).2.2.2=decide (clkI n p=x):=fun x h0 h1=>by
  rw[clkI_eq hc (by omega)];rw[decide_eq_decide]; omega
 have hlast:clkI n p≠(n:Int)-1:=fun e=>by
  have:=hcl ((n:Int)-1) (by omega) (by omega);have e2:((n:Int)-1).toNat=n-1:=by omega
  rw[e2,hl,decide_eq_true e] at this;cases this
 have hlt:=clkI_lt (p:=p) (n:=n);by_cases k45:kd=4∨kd=5
 ·rw[if_pos k45,if_neg (by omega),if_neg (by omega),if_pos k45];simp only[ba,inB_iff,dq,beq_iff_eq,bne_iff_ne,Bool.not_eq_true']
  grind
 ·rw[if_neg k45];by_cases k1:kd=1
  ·rw[if_pos k1,if_pos k1];simp only[ba,inB_iff,beq_iff_eq]
   grind
  ·rw[if_neg k1,if_neg k1];by_cases k23:kd=2∨kd=3
   ·rw[if_pos k23,if_pos k23];simp only[ba,inB_iff,beq_iff_eq]
    grind
   grind
def hasB(m:Nat)(a:Nat->DArc)(k:Int):Bool:=(List.range m).any fun i=>(a i).1==k
def kindB(k:Int)(n:Nat)(p:Nat->DPin)(m:Nat)(a:Nat->DArc)(tr:List Int):Bool :=
 if k=1 then clkN n p==0&&(tr.length:Int)==1*2 ^ (n-1)&&tr.all (inB · 0 1)
 else if k=2 then clkN n p==1&&(tr.length:Int)==0&&!hasB m a 1&&!(hasB m a 2==hasB m a 3)
 else if k=3 then clkN n p==1&&(tr.length:Int)==0&&hasB m a 1&&hasB m a 2&&!hasB m a 3
 else false
theorem kind_clk{k:Int}{n:Nat}{p:Nat->DPin}{m:Nat}{a:Nat->DArc}{tr:List Int}(h:kindB k n p m a tr=true):clkN n p<=1:=by
 grind[kindB]
def arcsB(q:DArc->Bool)(m:Nat)(a:Nat->DArc):Bool:=decide (m<=8)&&!(List.range m).any fun i=>!q (a i)||dupA a i
def cellB(q:Nat->(Nat->DPin)->DArc->Bool)(nm:ByteArray)(k:Int)(n:Nat)(p:Nat->DPin)(m:Nat)(a:Nat->DArc)(tr:List Int)(lk en:Int):Bool :=
 nmB nm&&pinsOk n p&&arcsB (q n p) m a&&inB lk 0 100000&&inB en 0 100000&&kindB k n p m a tr
theorem cell_eq(nm:ByteArray)(k:Int)(n:Nat)(p:Nat->DPin)(m:Nat)(a:Nat->DArc)(tr:List Int)(lk en:Int):cellB isArcI nm k n p m a tr lk en=cellB isArcS nm k n p m a tr lk en:=by
 unfold cellB;cases hp:pinsOk n p with
 | false=>simp
 | true =>
   cases hk:kindB k n p m a tr with
   | false=>simp
   | true =>
     have:isArcI n p=isArcS n p:=funext fun x=>arc_eq hp (kind_clk hk) x;rw[this]
theorem take_anyG{α:Type}(l:List α)(d:α)(q:α->Bool)(i:Nat)(h:i<=l.length):(l.take i).any q=(List.range i).any fun k=>q (l.getD k d):=by
 have hl:(l.take i).length=i:=by rw[List.length_take]; omega
 rw[<- any_getD (l.take i) d q,hl];refine any_congr' fun k hk=>?_;rw[gq,gq,List.getElem?_take_of_lt hk]
theorem arcS_kind{n:Nat}{p:Nat->DPin}{a:DArc}(h:isArcS n p a=true):1<=a.1/\a.1<=5:=by
 grind[isArcS]
theorem pow_in{n:Nat}(h:n<=5) : -9223372036854775808<=(1:Int)*2 ^ (n-1)/\(1:Int)*2 ^ (n-1)<=9223372036854775807:=by
 have:∀k:Fin 6,-9223372036854775808<=(1:Int)*2 ^ (k.val-1)/\(1:Int)*2 ^ (k.val-1)<=9223372036854775807:=by decide
 exact this ⟨n,by omega⟩
def cntK(a:Nat->DArc)(k:Int)(m:Nat):Int:=fN (fun i s=>if(a i).1=k then s+1 else s) m 0
theorem cntK_le(a:Nat->DArc)(k:Int):∀m,0<=cntK a k m/\cntK a k m<=m
 | 0=>⟨Int.le_refl _,Int.le_refl _⟩
 | m+1=>by
   have:=cntK_le a k m
   grind[cntK,fN]
theorem cntK_has(a:Nat->DArc)(k:Int):∀m,hasB m a k=decide (0<cntK a k m)
 | 0=>rfl
 | m+1=>by
   have ih:=cntK_has a k m;have h0:=(cntK_le a k m).1
   grind[hasB,cntK,fN]
def kindsF(a:Nat->DArc)(i:Nat)(v:List Int):List Int:=v.set (a i).1.toNat (v.getD (a i).1.toNat 0+1)
theorem kinds_fold(a:Nat->DArc):∀m,(∀i,i<m->1<=(a i).1/\(a i).1<=5)->(fN (kindsF a) m (List.replicate 6 0)).length=6/\∀k:Nat,k<6->(fN (kindsF a) m (List.replicate 6 0)).getD k 0=cntK a k m
 | 0,_=>⟨by simp[fN],fun k hk=>by
   have:∀k:Fin 6,(List.replicate 6 (0:Int)).getD k.val 0=0:=by decide
   exact this ⟨k,hk⟩⟩
 | m+1,h=>by
   obtain⟨h1,h2⟩:=kinds_fold a m (fun i hi=>h i (by omega))
   grind[fN,kindsF,cntK]
end Go.Proofs.Xd
end
section
namespace Go.Proofs.YtekfdfcnjlfgiaaGreatDoor
open Go Go.Proofs Go.Proofs.Sv Go.Proofs.Xv Go.Proofs.Xl Go.Proofs.Xd
abbrev pinOf(c:Y82)(i:Nat):Y116:=c.2.2.1.getD i (dflt y116)
abbrev arcOf(c:Y82)(i:Nat):Y191:=c.2.2.2.1.getD i (dflt y191)
theorem r172(c:Y82)(hw:wf y82 c):u172 c=some ((c.2.2.1.length:Int)-1):=by
 have h:=hw.2.2.1.1;have e:u168 c.2.2.1=some (c.2.2.1.length:Int):=rfl;unfold u172;rw[e,vS,gP ⟨rfl,oo,trivial⟩,lE]
theorem r197(c:Y82)(hw:wf y82 c)(x:Int):u197 c x=some (inB x 0 ((c.2.2.1.length:Int)-1-1)):=by
 have h:=hw.2.2.1.1;unfold u197;rw[r172 c hw,vS,r89,vS,gP ⟨rfl,oo,rfl,trivial⟩]
theorem r196(c:Y82)(hw:wf y82 c):u196 c=some (clkI c.2.2.1.length (pinOf c)):=by
 have h:=hw.2.2.1.1;have h1:u213c214 c.2.2.1=_:=idx_some h (fun i=>(pinOf c i).2.2.2) (fun g i hi=>idx_el hi h rfl) (fun g=>aE);unfold u196;rw[h1,vS,gP ⟨rfl,trivial⟩,lE];rfl
theorem r173(c:Y82)(hw:wf y82 c)(k:Int):u173 c k=some (hasB c.2.2.2.1.length (arcOf c) k):=by
 have h:=hw.2.2.2.1.1;have h1:u198c199 c.2.2.2.1 k=_:=idx_some h (fun i=>(arcOf c i).1==k) (fun g i hi=>idx_el hi h rfl) (fun g=>aE);have h2:u170c199 c.2.2.2.1 k=_:=has_some h1;unfold u173;rw[h2,vS,gP ⟨rfl,trivial⟩];rfl
theorem r169(c:Y82)(a:Y191)(hc:wf y82 c)(ha:wf y191 a):u169 c a=some (isArcI c.2.2.1.length (pinOf c) a):=by
 obtain⟨_,_,_,_,hd,hs⟩:=ha;have ek:u194 a.1=some (a.1==4||a.1==5):=rfl;have hg:inB a.2.1 0 ((c.2.2.1.length:Int)-1-1)=true->ix a.2.1 c.2.2.1.length:=fun h=>by
  rw[inB_iff] at h; exact oo
 unfold u169;rw[ek,r195 _ _ hd,r195 _ _ hd,r195 _ _ hs,r196 c hc,r197 c hc,r197 c hc,r172 c hc]
 repeat rw[vS]
 rw[gP ⟨rfl,trivial⟩];unfold isArcI;by_cases k45:a.1=4∨a.1=5
 ·have e1:(a.1==4||a.1==5)=true:=by simpa using k45
  rw[if_pos e1,if_pos k45,gP ⟨fun _=>rfl,fun _=>rfl,fun _=>rfl,trivial⟩,lE]
 ·have e1:(a.1==4||a.1==5)=false:=by
   rw[<- Bool.not_eq_true]; simpa using k45
  rw[e1,if_neg (by simp),if_neg k45,gP ⟨rfl,fun _=>rfl,fun _=>rfl,fun _=>rfl,trivial⟩,lE];by_cases hgo:areTables a.2.2.2.2.1 true=true/\areTables a.2.2.2.2.2 true=true/\a.2.2.1=(c.2.2.1.length:Int)-1/\inB a.2.1 0 ((c.2.2.1.length:Int)-1-1)=true
  ·obtain⟨g1,g2,g3,g4⟩:=hgo;have e3:(areTables a.2.2.2.2.1 true&&areTables a.2.2.2.2.2 true&&a.2.2.1==(c.2.2.1.length:Int)-1&&inB a.2.1 0 ((c.2.2.1.length:Int)-1-1))=true:=by
    rw[g1,g2,g4,g3]; simp
   have e2:(!areTables a.2.2.2.2.1 true||!areTables a.2.2.2.2.2 true||a.2.2.1 != (c.2.2.1.length:Int)-1||!inB a.2.1 0 ((c.2.2.1.length:Int)-1-1))=false:=by
    rw[g1,g2,g4,g3]; simp
   rw[e3,Bool.true_and];refine(if_neg (by rw[e2]; simp)).trans ?_;by_cases k1:a.1=1
   ·rw[if_pos (beq_iff_eq.2 k1),if_pos k1,r89,gP ⟨hg g4,fun _=>rfl,trivial⟩];rfl
   ·rw[if_neg (by grind),if_neg k1];have j:∀b,u169J0 c a b=some (if b=true then(pinOf c a.2.1.toNat).2.2.2&&a.2.2.2.1==0 else false):=fun b=>by
     unfold u169J0;cases b with
     | false=>rfl
     | true=>rw[if_pos rfl,if_pos rfl,gP ⟨hg g4,trivial⟩]
    grind
  grind
theorem r140(c:Y82)(a:Y191)(hc:wf y82 c)(ha:wf y191 a):u140 c a=some (isArcS c.2.2.1.length (pinOf c) a):=by
 obtain⟨_,_,_,_,hd,hs⟩:=ha;have h:=hc.2.2.1.1;unfold u140;rw[gP ⟨oo,trivial⟩,r77,r77]
 repeat rw[vS]
 rw[gP ⟨oo,rfl,fun _=>rfl,trivial⟩];unfold isArcS;by_cases hgo:inB a.2.1 0 ((c.2.2.1.length:Int)-1-1)=true/\inB a.2.2.1 0 ((c.2.2.1.length:Int)-1)=true
 ·obtain⟨g1,g2⟩:=hgo;have b1:=inB_iff.1 g1;have b2:=inB_iff.1 g2;rw[g1,g2,if_neg (by simp),gP ⟨oo,trivial⟩,lE,Bool.true_and,Bool.true_and];by_cases k1:a.1=1
  ·rw[if_pos (beq_iff_eq.2 k1),if_pos k1,r77,r166 _ _ hd,r166 _ _ hs,gP ⟨fun _=>rfl,fun _=>rfl,fun _=>rfl,trivial⟩];rfl
  ·rw[if_neg (by grind),if_neg k1];have j1:∀b,u140J1 (pinOf c a.2.1.toNat) a c b=some (if b=true then(pinOf c a.2.1.toNat).2.2.2&&decide (a.2.2.1 < (c.2.2.1.length:Int)-1)&&!(pinOf c a.2.2.1.toNat).2.2.2&&a.2.2.2.1==0&&areTables a.2.2.2.2.1 false&&(a.2.2.2.2.2.length:Int)==0 else false):=fun b=>by
    unfold u140J1;cases b with
    | false=>rfl
    | true =>
      rw[if_pos rfl,if_pos rfl,r166 _ _ hd,gP ⟨fun _=>oo,fun _=>rfl,trivial⟩];rfl
   have j0:∀b,u140J0 (pinOf c a.2.1.toNat) a c b=some (if b=true then(pinOf c a.2.1.toNat).2.2.2&&a.2.2.1==(c.2.2.1.length:Int)-1&&a.2.2.2.1==0&&areTables a.2.2.2.2.1 true&&areTables a.2.2.2.2.2 true else if a.1=4∨a.1=5 then(pinOf c a.2.1.toNat).2.2.2&&decide (a.2.2.1 < (c.2.2.1.length:Int)-1)&&!(pinOf c a.2.2.1.toNat).2.2.2&&a.2.2.2.1==0&&areTables a.2.2.2.2.1 false&&(a.2.2.2.2.2.length:Int)==0 else false):=fun b=>by
    unfold u140J0;cases b with
    | true =>
      rw[if_pos rfl,if_pos rfl,r166 _ _ hd,r166 _ _ hs,gP ⟨fun _=>rfl,fun _=>rfl,trivial⟩];rfl
    | false =>
      grind
   grind
 grind
theorem wf_pins{c:Y82}(hw:wf y82 c):wf (.sl y116) c.2.2.1:=hw.2.2.1
theorem wf_arcs{c:Y82}(hw:wf y82 c):wf (.sl y191) c.2.2.2.1:=hw.2.2.2.1
theorem names_map{α:Type}(l:List α)(f:α->ByteArray)(d:α)(e:ByteArray):namesB (l.map f).length (fun i=>(l.map f).getD i e)=namesB l.length fun i=>f (l.getD i d):=by
 grind[List.length_map,namesB_congr,hi,getD_map']
theorem wf_map{α:Type}{l:List α}{f:α->ByteArray}(h:l.length<=9223372036854775807)(hf:∀x∈l,(f x).size<=9223372036854775807):wf (.sl .str) (l.map f):=by
 refine⟨by grind,fun x hx=>?_⟩;obtain⟨y,hy,rfl⟩:=List.mem_map.1 hx;exact hf y hy
def gath(f:Nat->ByteArray)(i:Nat)(s:List ByteArray):List ByteArray:=s++[f i]
theorem gath_eq(f:Nat->ByteArray):∀n,fN (gath f) n []=(List.range n).map f
 | 0=>rfl
 | n+1=>by
   rw[fN,gath_eq f n,List.range_succ,List.map_append]; rfl
theorem gath_row{α:Type}(l:List α)(d:α)(f:α->ByteArray):fN (gath fun i=>f (l.getD i d)) l.length []=l.map f:=by
 rw[gath_eq,range_map]
theorem app_ok{n i b:Nat}(h:i<n)(hn:n<=1048576)(hb:b<=4096):i+1<=9223372036854775807/\(i+1)*b<=140737488355328:=by
 have:(i+1)*b<=1048576*4096:=Nat.mul_le_mul (by omega) hb;exact oo
theorem r144(l:List Y116)(hw:wf (.sl y116) l)(hm:l.length<=1048576):u144 l=some (pinsOk l.length fun i=>l.getD i (dflt y116)):=by
 have h:=hw.1;have key:=lp_foldE (n:=l.length) h (fun i (s:List ByteArray)=>(s,(i:Int))) (gath fun i=>(l.getD i (dflt y116)).1) (fun i=>!pinB l.length (l.getD i (dflt y116)) i) (some false) (fun i s=>s.length=i) (J:=u144J0 l) (F:=u144L1 l) (fun g i s hi hI=>by
  refine(if_pos (by simpa using hi)).trans ?_;have e3:((i:Int)).toNat=i:=rfl;have hs:(s++[(l.getD i (dflt y116)).1]).length<=9223372036854775807:=by rw[List.length_append]; show s.length+1<=_; omega
  have ha:=app_ok (b:=16) hi hm (by decide);have j2:∀s',u144J2 (i:Int) g s'=g (s',((i+1:Nat):Int)):=fun s'=>gP ⟨oo,trivial⟩;rw[e3,gP ⟨oo,trivial⟩,lE,gP ⟨⟨by show s.length+1<=_; omega,by show(s.length+1)*16<=_; omega⟩,trivial⟩,gP ⟨oo,trivial⟩,j2,r89,gP ⟨fun _=>rfl,trivial⟩,vS];unfold pinB gath;dsimp only;by_cases hl:i+1=l.length
  ·have e1:((i:Int)==(l.length:Int)-1)=true:=by rw[beq_iff_eq]; omega
   rw[if_pos e1,if_pos hl];generalize l.getD i (dflt y116)=q;have n1:(q.2.1 != 2)=!(q.2.1==2):=rfl;have n2:(q.2.2.1 != 0)=!(q.2.2.1==0):=rfl
   grind[inB]
  grind) (fun i s hi hI _=>by grind[gath,List.length_append]) (fun g s _=>aE) [] rfl
 refine key.trans ?_;rw[gath_row];have hn:wf (.sl .str) (l.map fun q:Y116=>q.1):=wf_map h fun x hx=>(hw.2 x hx).1;have e5:u168 l=some (l.length:Int):=rfl;have e7:∀v:List ByteArray,wf (.sl .str) v->u144J0 l v=some (inB (l.length:Int) 2 5&&namesB v.length fun i=>v.getD i (dflt .str)):=fun v hv=>by
  rw[u144J0];rw[e5,r113 _ hv]
  repeat rw[vS]
  rw[r89,vS,gP ⟨rfl,rfl,fun _=>rfl,trivial⟩]
 rw[e7 _ hn,names_map l (fun q:Y116=>q.1) (dflt y116)];unfold pinsOk;have e6:inB (l.length:Int) 2 5=(decide (2<=l.length)&&decide (l.length<=5)):=by
  rw[Bool.eq_iff_iff,inB_iff]; simp; omega
 rw[e6];cases(List.range l.length).any fun i=>!pinB l.length (l.getD i (dflt y116)) i
 ·simp
 ·simp
theorem r139(c:Y82)(hw:wf y82 c):u139 c=some (if pinsOk c.2.2.1.length (pinOf c)=true then(clkN c.2.2.1.length (pinOf c),true) else(0,false)):=by
 have hp:=wf_pins hw;have h:=hp.1;unfold u139;by_cases hr:2<=c.2.2.1.length/\c.2.2.1.length<=5
 ·have e0:(decide ((c.2.2.1.length:Int)<2)||decide (5 < (c.2.2.1.length:Int)))=false:=by
   rw[<- Bool.not_eq_true]; simp; omega
  rw[e0,if_neg (by simp)];have key:=lp_foldE (n:=c.2.2.1.length) h (fun i (s:Int)=>(s,(i:Int))) (fun i s=>if(pinOf c i).2.2.2=true then s+1 else s) (fun i=>(!nmB (pinOf c i).1||dupB (fun i=>(pinOf c i).1) i)||!pinB c.2.2.1.length (pinOf c i) i) (some ((0:Int),false)) (fun i s=>0<=s/\s<=i) (J:=u139J0) (F:=u139L1 c) (fun g i s hi hI=>by
   refine(if_pos (by simpa using hi)).trans ?_;have e3:((i:Int)).toNat=i:=rfl;have hs:(pinOf c i).1.size<=9223372036854775807:=(wf_el (d:=dflt y116) hi hp).1;rw[e3,gP ⟨oo,trivial⟩,lE];have inner:=lp_all (n:=i) (by omega) (fun k=>decide ((pinOf c k).1=(pinOf c i).1)) (some ((0:Int),false)) (e:=u139J3 (i:Int) s (pinOf c i) c g ()) (F:=u139L4 c (pinOf c i) (i:Int) s g) (fun g3 k hk=>all_el hk (by omega) ⟨oo,trivial⟩) (fun g3=>aE);refine inner.trans ?_;have j3:u139J3 (i:Int) s (pinOf c i) c g ()=if(!nmB (pinOf c i).1||!pinB c.2.2.1.length (pinOf c i) i)=true then some ((0:Int),false) else g (if(pinOf c i).2.2.2=true then s+1 else s,((i+1:Nat):Int)):=by
    have j2:∀s',u139J2 (i:Int) g s'=g (s',((i+1:Nat):Int)):=fun s'=>gP ⟨oo,trivial⟩;show gd _ (if(!vl (u100 (pinOf c i).1)||!vl (u77 (pinOf c i).2.2.1 0 500))=true then _ else gd _ (if _=true then _ else if _=true then gd _ _ else _))=_;rw[r100 _ hs,r77,vS,vS,gP ⟨rfl,fun _=>rfl,trivial⟩,gP ⟨oo,fun _=>oo,trivial⟩,gP ⟨oo,trivial⟩,j2,j2];generalize pinOf c i=q;have hx:((i:Int)==(c.2.2.1.length:Int)-1)=decide (i+1=c.2.2.1.length):=by
     rw[Bool.eq_iff_iff,beq_iff_eq,dq]; omega
    have hy:decide ((i:Int) < (c.2.2.1.length:Int)-1)=!decide (i+1=c.2.2.1.length):=by
     rw[Bool.eq_iff_iff]; simp; omega
    rw[hx,hy];have hz:pinB c.2.2.1.length q i=(inB q.2.2.1 0 500&&(if decide (i+1=c.2.2.1.length)=true then q.2.1==2&&q.2.2.1==0&&!q.2.2.2 else q.2.1==1)):=by
     unfold pinB;by_cases hq:i+1=c.2.2.1.length
     ·grind
     ·grind
    rw[hz];have n1:(q.2.1 != 2)=!(q.2.1==2):=rfl;have n2:(q.2.2.1 != 0)=!(q.2.2.1==0):=rfl;have n3:(q.2.1 != 1)=!(q.2.1==1):=rfl;rw[n1,n2,n3];cases nmB q.1 <;> cases inB q.2.2.1 0 500 <;> cases decide (i+1=c.2.2.1.length) <;> cases q.2.1==2 <;> cases q.2.2.1==0 <;> cases q.2.1==1 <;> cases q.2.2.2 <;> rfl
   rw[j3];have hd:dupB (fun i=>(pinOf c i).1) i=(List.range i).any fun k=>decide ((pinOf c k).1=(pinOf c i).1):=rfl
   grind) (fun i s hi hI _=>by
   omega) (fun g s _=>aE) 0 oo
  refine key.trans ?_;rw[any_or];unfold pinsOk namesB;rw[decide_eq_true hr.1,decide_eq_true hr.2];cases(List.range c.2.2.1.length).any (fun i=>!nmB (pinOf c i).1||dupB (fun i=>(pinOf c i).1) i) <;> cases(List.range c.2.2.1.length).any (fun i=>!pinB c.2.2.1.length (pinOf c i) i) <;> rfl
 ·have e0:(decide ((c.2.2.1.length:Int)<2)||decide (5 < (c.2.2.1.length:Int)))=true:=by
   simp; omega
  have e1:¬pinsOk c.2.2.1.length (pinOf c)=true:=fun hc=>by
   obtain⟨h1,h2,_⟩:=pins_last hc;exact hr ⟨h1,h2⟩
  grind
theorem r145(c:Y82)(hw:wf y82 c):u145 c=some (arcsB (isArcI c.2.2.1.length (pinOf c)) c.2.2.2.1.length (arcOf c)):=by
 have ha:=wf_arcs hw;have h:=ha.1;have hA:∀(xs:List Y191) (o:Y191),xs.length<=9223372036854775807->u170c171 xs o=some (xs.any fun x=>x.1==o.1&&x.2.1==o.2.1&&x.2.2.1==o.2.2.1):=fun xs o hx=>by
  have h1:u198c171 xs o=_:=idx_some hx (fun i=>(xs.getD i (dflt y191)).1==o.1&&(xs.getD i (dflt y191)).2.1==o.2.1&&(xs.getD i (dflt y191)).2.2.1==o.2.2.1) (fun g i hi=>idx_el hi hx rfl) (fun g=>aE);have h2:u170c171 xs o=_:=has_some h1;rw[any_getD xs (dflt y191) (fun x=>x.1==o.1&&x.2.1==o.2.1&&x.2.2.1==o.2.2.1)] at h2;exact h2
 have key:=lp_all (n:=c.2.2.2.1.length) h (fun i=>!isArcI c.2.2.1.length (pinOf c) (arcOf c i)||dupA (arcOf c) i) (some false) (e:=u145J0 c ()) (F:=u145L1 c) (fun g i hi=>by
  have e3:((i:Int)).toNat=i:=rfl;have hl:(c.2.2.2.1.take i).length<=9223372036854775807:=by rw[List.length_take]; omega
  have e1:=r169 c (arcOf c i) hw (wf_el hi ha);have e2:=hA (c.2.2.2.1.take i) (arcOf c i) hl;rw[take_anyG c.2.2.2.1 (dflt y191) _ i (by omega)] at e2;refine(if_pos (by grind)).trans ?_;rw[e3,gP ⟨oo,trivial⟩,lE,e1,e2,vS,vS,gP ⟨rfl,fun _=>⟨by omega,by omega,by omega⟩,fun _=>rfl,trivial⟩,gP ⟨oo,trivial⟩];rfl) (fun g=>aE)
 refine key.trans ?_;unfold arcsB u145J0;have e:decide ((c.2.2.2.1.length:Int)<=8)=decide (c.2.2.2.1.length<=8):=by rw[decide_eq_decide]; omega
 rw[e];cases(List.range c.2.2.2.1.length).any fun i=>!isArcI c.2.2.1.length (pinOf c) (arcOf c i)||dupA (arcOf c) i
 ·simp
 ·simp
theorem toNat_pred{n:Nat}(h:1<=n):((n:Int)-1).toNat=n-1:=by omega
theorem r146(c:Y82)(hw:wf y82 c)(h2:2<=c.2.2.1.length)(h5:c.2.2.1.length<=5):u146 c=some (kindB c.2.1 c.2.2.1.length (pinOf c) c.2.2.2.1.length (arcOf c) c.2.2.2.2.1):=by
 have hp:=wf_pins hw;have h:=hp.1;have ht:=hw.2.2.2.2.1.1;have key:=lF (n:=c.2.2.1.length) h (fun i (s:Int)=>(s,(i:Int))) (fun i s=>if(pinOf c i).2.2.2=true then s+1 else s) (fun i s=>0<=s/\s<=i) (J:=u146J0 c) (F:=u146L1 c) (fun g i s hi hI=>by
  have j2:∀s',u146J2 (i:Int) g s'=g (s',((i+1:Nat):Int)):=fun s'=>gP ⟨oo,trivial⟩;have e3:((i:Int)).toNat=i:=rfl;refine(if_pos (by grind)).trans ?_;rw[e3,gP ⟨oo,trivial⟩,lE,gP ⟨oo,trivial⟩,j2,j2]
  grind) (fun i s hi hI=>by
  omega) (fun g s _=>aE) 0 oo
 refine key.trans ?_;show u146J0 c (clkN c.2.2.1.length (pinOf c))=_;have hk:∀k0:Int,u146J0 c k0=some (if c.2.1=1 then k0==0&&(c.2.2.2.2.1.length:Int)==1*2 ^ (c.2.2.1.length-1)&&c.2.2.2.2.1.all (inB · 0 1)
  else if c.2.1=2 then k0==1&&(c.2.2.2.2.1.length:Int)==0&&!hasB c.2.2.2.1.length (arcOf c) 1&&!(hasB c.2.2.2.1.length (arcOf c) 2==hasB c.2.2.2.1.length (arcOf c) 3)
  else if c.2.1=3 then k0==1&&(c.2.2.2.2.1.length:Int)==0&&hasB c.2.2.2.1.length (arcOf c) 1&&hasB c.2.2.2.1.length (arcOf c) 2&&!hasB c.2.2.2.1.length (arcOf c) 3
  else false):=fun k0=>by
  rw[u146J0,r172 c hw,r91 _ _ _ ht,r173 c hw,r173 c hw,r173 c hw]
  repeat rw[vS]
  rw[toNat_pred (by omega)];by_cases k1:c.2.1=1
  ·rw[if_pos (beq_iff_eq.2 k1),if_pos k1,gP ⟨fun _=>rfl,fun _=>⟨by omega,pow_in h5⟩,fun _=>rfl,trivial⟩,lE,toNat_pred (by omega)]
  ·rw[if_neg (by grind),if_neg k1];by_cases k2:c.2.1=2
   ·rw[if_pos (beq_iff_eq.2 k2),if_pos k2,gP ⟨fun _=>rfl,fun _=>rfl,fun _=>rfl,trivial⟩]
   ·rw[if_neg (by grind),if_neg k2];by_cases k3:c.2.1=3
    ·rw[if_pos (beq_iff_eq.2 k3),if_pos k3,gP ⟨fun _=>rfl,fun _=>rfl,fun _=>rfl,trivial⟩]
    grind
 exact hk (clkN c.2.2.1.length (pinOf c))
abbrev cellOk(q:Nat->(Nat->DPin)->DArc->Bool)(c:Y82):Bool:=cellB q c.1 c.2.1 c.2.2.1.length (pinOf c) c.2.2.2.1.length (arcOf c) c.2.2.2.2.1 c.2.2.2.2.2.1 c.2.2.2.2.2.2
theorem r112(c:Y82)(hw:wf y82 c)(hm:c.2.2.1.length<=1048576):u112 c=some (cellOk isArcS c):=by
 have hp:=wf_pins hw;show _=some (cellB isArcS _ _ _ _ _ _ _ _ _);rw[<- cell_eq];unfold u112 cellB;rw[r132 c.1 hw.1,r144 _ hp hm,r145 c hw,r89,r89]
 repeat rw[vS]
 cases hpo:pinsOk c.2.2.1.length (pinOf c) with
 | false =>
   rw[gP ⟨rfl,fun _=>rfl,fun hc=>by simp at hc,fun hc=>by simp at hc,fun hc=>by simp at hc,fun hc=>by simp at hc,trivial⟩];simp
 | true =>
   obtain⟨h2,h5,_⟩:=pins_last hpo;rw[r146 c hw h2 h5,vS,gP ⟨rfl,fun _=>rfl,fun _=>rfl,fun _=>rfl,fun _=>rfl,fun _=>rfl,trivial⟩]
theorem r141(c:Y82)(hw:wf y82 c)(h8:c.2.2.2.1.length<=8)(hk:∀i,i<c.2.2.2.1.length->1<=(arcOf c i).1/\(arcOf c i).1<=5):u141 c=some (fN (kindsF (arcOf c)) c.2.2.2.1.length (List.replicate 6 0)):=by
 have h:=(wf_arcs hw).1;unfold u141;rw[gP ⟨⟨by omega,rfl,by decide,by omega⟩,trivial⟩];have key:=lF (n:=c.2.2.2.1.length) h (fun i (v:List Int)=>((i:Int),v)) (kindsF (arcOf c)) (fun i v=>i<=c.2.2.2.1.length/\v=fN (kindsF (arcOf c)) i (List.replicate 6 0)) (J:=fun v=>some v) (F:=u141L1 c) (fun g i v hi hI=>by
  obtain⟨h1,h2⟩:=kinds_fold (arcOf c) i (fun j hj=>hk j (by omega));obtain⟨k1,k2⟩:=hk i hi;have hlen:v.length=6:=by rw[hI.2]; exact h1
  have hcnt:=h2 (arcOf c i).1.toNat (by omega);have hle:=cntK_le (arcOf c) ((arcOf c i).1.toNat:Int) i;rw[<- hI.2] at hcnt;have e3:((i:Int)).toNat=i:=rfl;refine(if_pos (by grind)).trans ?_;have hin:in64 (v.getD (arcOf c i).1.toNat 0+1):=by rw[hcnt]; exact oo
  have hix:ix (arcOf c i).1 v.length:=oo;have hlt:(arcOf c i).1.toNat<v.length:=by omega
  rw[e3,gP ⟨oo,hix,hlt,hin,hix,hlt,trivial⟩,lE,gP ⟨oo,trivial⟩];rfl) (fun i v hi hI=>⟨by omega,by rw[hI.2]; rfl⟩) (fun g s _=>aE) (List.replicate 6 0) ⟨by omega,rfl⟩
 grind
theorem r109(c:Y82)(hw:wf y82 c):u109 c=some (cellOk isArcS c):=by
 have ha:=wf_arcs hw;have h:=ha.1;show _=some (cellB isArcS _ _ _ _ _ _ _ _ _);unfold u109 cellB;rw[r139 c hw,r100 c.1 hw.1,r77,r77]
 repeat rw[vS]
 rw[gP ⟨rfl,trivial⟩,lE,gP ⟨fun _=>rfl,fun _=>rfl,fun _=>rfl,trivial⟩];cases hpo:pinsOk c.2.2.1.length (pinOf c) with
 | false =>
   grind
 | true =>
   obtain⟨h2,h5,_⟩:=pins_last hpo;have e9:(if true=true then(clkN c.2.2.1.length (pinOf c),true) else((0:Int),false))=(clkN c.2.2.1.length (pinOf c),true):=rfl;rw[e9];by_cases hgo:nmB c.1=true/\c.2.2.2.1.length<=8/\inB c.2.2.2.2.2.1 0 100000=true/\inB c.2.2.2.2.2.2 0 100000=true
   ·obtain⟨g1,g2,g3,g4⟩:=hgo;have e0:decide (8 < (c.2.2.2.1.length:Int))=false:=decide_eq_false (by omega);rw[g1,e0,g3,g4];refine(if_neg (by simp)).trans ?_;have key:=lp_all (n:=c.2.2.2.1.length) h (fun i=>!isArcS c.2.2.1.length (pinOf c) (arcOf c i)||dupA (arcOf c) i) (some false) (e:=u109J0 c (clkN c.2.2.1.length (pinOf c),true) ()) (F:=u109L1 c (clkN c.2.2.1.length (pinOf c),true)) (fun g i hi=>by
     have e3:((i:Int)).toNat=i:=rfl;have e1:=r140 c (arcOf c i) hw (wf_el hi ha);have inner:=lp_all (n:=i) (by omega) (fun k=>(arcOf c k).1==(arcOf c i).1&&(arcOf c k).2.1==(arcOf c i).2.1&&(arcOf c k).2.2.1==(arcOf c i).2.2.1) (some false) (e:=g ((i:Int)+1)) (F:=u109L3 c (arcOf c i) (i:Int) g) (fun g3 k hk=>all_el hk (by omega) ⟨oo,fun _=>oo,fun _=>oo,trivial⟩) (fun g3=>by
      refine aE.trans ?_;exact gP ⟨oo,trivial⟩)
     refine(if_pos (by grind)).trans ?_;rw[e3,gP ⟨oo,trivial⟩,lE,e1,vS,gP ⟨rfl,trivial⟩,inner];unfold dupA
     grind) (fun g=>aE)
    refine key.trans ?_;unfold arcsB;rw[decide_eq_true g2];cases hany:(List.range c.2.2.2.1.length).any fun i=>!isArcS c.2.2.1.length (pinOf c) (arcOf c i)||dupA (arcOf c) i with
    | true=>simp
    | false =>
      rw[if_neg (by simp)];have hall:∀i,i<c.2.2.2.1.length->isArcS c.2.2.1.length (pinOf c) (arcOf c i)=true:=fun i hi=>by
       grind
      have hkin:=r141 c hw g2 (fun i hi=>arcS_kind (hall i hi));obtain⟨n6,ncnt⟩:=kinds_fold (arcOf c) c.2.2.2.1.length (fun i hi=>arcS_kind (hall i hi));have c1:=ncnt 1 (by omega);have c2:=ncnt 2 (by omega);have c3:=ncnt 3 (by omega);rw[u109J0,hkin,vS,gP ⟨rfl,trivial⟩,lE];generalize fN (kindsF (arcOf c)) c.2.2.2.1.length (List.replicate 6 0)=v at *
      have q1:((v.getD 1 0)==(0:Int))=!hasB c.2.2.2.1.length (arcOf c) 1:=by
       rw[c1,cntK_has];have:=(cntK_le (arcOf c) 1 c.2.2.2.1.length).1;rw[Bool.eq_iff_iff]; simp; omega
      have q1':decide (0<v.getD 1 0)=hasB c.2.2.2.1.length (arcOf c) 1:=by rw[c1,cntK_has]; rfl
      have q2:decide (0<v.getD 2 0)=hasB c.2.2.2.1.length (arcOf c) 2:=by rw[c2,cntK_has]; rfl
      have q3:decide (0<v.getD 3 0)=hasB c.2.2.2.1.length (arcOf c) 3:=by rw[c3,cntK_has]; rfl
      have q3':((v.getD 3 0)==(0:Int))=!hasB c.2.2.2.1.length (arcOf c) 3:=by
       rw[c3,cntK_has];have:=(cntK_le (arcOf c) 3 c.2.2.2.1.length).1;rw[Bool.eq_iff_iff]; simp; omega
      have i1:ix (1:Int) v.length:=oo;have i2:ix (2:Int) v.length:=oo;have i3:ix (3:Int) v.length:=oo;have n1:Int.toNat (1:Int)<v.length:=by rw[n6]; decide
      have n2:Int.toNat (2:Int)<v.length:=by rw[n6]; decide
      have n3:Int.toNat (3:Int)<v.length:=by rw[n6]; decide
      unfold kindB;by_cases k1:c.2.1=1
      ·rw[if_pos (beq_iff_eq.2 k1),if_pos k1];have ht:=hw.2.2.2.2.1.1;have key2:=lp_all (n:=c.2.2.2.2.1.length) ht (fun i=>!inB (c.2.2.2.2.1.getD i 0) 0 1) (some false) (e:=u109J5 (clkN c.2.2.1.length (pinOf c),true) c ()) (F:=u109L6 c (clkN c.2.2.1.length (pinOf c),true)) (fun g i hi=>all_el hi ht ⟨oo,rfl,trivial⟩) (fun g=>aE);refine key2.trans ?_;rw[any_getD c.2.2.2.2.1 0 (fun x=>!inB x 0 1),<- all_any];have e5:u109J5 (clkN c.2.2.1.length (pinOf c),true) c ()=some (clkN c.2.2.1.length (pinOf c)==0&&(c.2.2.2.2.1.length:Int)==1*2 ^ (c.2.2.1.length-1)):=by
        rw[u109J5,toNat_pred (by omega),gP ⟨fun _=>oo,fun _=>oo,fun _=>⟨by omega,pow_in h5⟩,trivial⟩]
       rw[e5];cases c.2.2.2.2.1.any fun x=>!inB x 0 1 <;> simp
      ·rw[if_neg (by simpa using k1),if_neg k1];by_cases k2:c.2.1=2
       ·rw[if_pos (beq_iff_eq.2 k2),if_pos k2,gP ⟨fun _=>i1,fun _=>n1,fun _=>i2,fun _=>n2,fun _=>i3,fun _=>n3,trivial⟩];have w1:Int.toNat (1:Int)=1:=rfl;have w2:Int.toNat (2:Int)=2:=rfl;have w3:Int.toNat (3:Int)=3:=rfl;rw[w1,w2,w3,q1,q2,q3];cases clkN c.2.2.1.length (pinOf c)==1 <;> cases(c.2.2.2.2.1.length:Int)==0 <;> cases hasB c.2.2.2.1.length (arcOf c) 1 <;> cases hasB c.2.2.2.1.length (arcOf c) 2 <;> cases hasB c.2.2.2.1.length (arcOf c) 3 <;> rfl
       ·rw[if_neg (by simpa using k2),if_neg k2];by_cases k3:c.2.1=3
        ·rw[if_pos (beq_iff_eq.2 k3),if_pos k3,gP ⟨fun _=>i1,fun _=>n1,fun _=>i2,fun _=>n2,fun _=>i3,fun _=>n3,trivial⟩];have w1:Int.toNat (1:Int)=1:=rfl;have w2:Int.toNat (2:Int)=2:=rfl;have w3:Int.toNat (3:Int)=3:=rfl;rw[w1,w2,w3,q1',q2,q3'];cases clkN c.2.2.1.length (pinOf c)==1 <;> cases(c.2.2.2.2.1.length:Int)==0 <;> cases hasB c.2.2.2.1.length (arcOf c) 1 <;> cases hasB c.2.2.2.1.length (arcOf c) 2 <;> cases hasB c.2.2.2.1.length (arcOf c) 3 <;> rfl
        ·rw[if_neg (by grind),if_neg k3];rfl
   grind[nmB,decide,inB,trans,arcsB]
end Go.Proofs.YtekfdfcnjlfgiaaGreatDoor
end
section
namespace Go.Proofs.Xd
open Go Go.Proofs.Sv Go.Proofs.Xv Go.Proofs.Xl
def incAt(v:List Int)(x:Int):List Int:=v.set x.toNat (v.getD x.toNat 0+1)
def lowAt(v:List Int)(n b:Nat):Prop:=v.length=n/\∀k:Nat,0<=v.getD k 0/\v.getD k 0<=(b:Int)
theorem lowAt_rep(n b:Nat):lowAt (List.replicate n 0) n b:=by
 refine⟨List.length_replicate,fun k=>?_⟩;rw[gq,List.getElem?_replicate];split <;> (show(0:Int)<=0/\(0:Int)<=b; omega)
theorem lowAt_inc{v:List Int}{n b:Nat}(h:lowAt v n b)(x:Int):lowAt (incAt v x) n (b+1):=by
 refine⟨by unfold incAt; rw[List.length_set]; exact h.1,fun k=>?_⟩;have hx:=h.2 x.toNat;have hk:=h.2 k;unfold incAt;rw[gq,List.getElem?_set];by_cases e:x.toNat=k
 ·rw[if_pos e];split
  ·rw[Option.getD_some]; omega
  ·show(0:Int)<=0/\(0:Int)<=_; omega
 ·rw[if_neg e,<- gq]; omega
theorem lowAt_up{v:List Int}{n b b':Nat}(h:lowAt v n b)(hb:b<=b'):lowAt v n b':=⟨h.1,fun k=>by have:=h.2 k; omega⟩
theorem lowAt_ix{v:List Int}{n b:Nat}(h:lowAt v n b){x:Int}(hx:inB x 0 ((n:Int)-1)=true):ix x v.length/\x.toNat<v.length:=by
 rw[inB_iff] at hx;rw[ix,h.1];omega
def libB(n:Nat)(ok:Nat->Bool)(nm:Nat->ByteArray):Bool:=!((List.range n).any fun i=>!ok i||dupB nm i)&&decide (n<=8)
theorem lib_eq{n:Nat}{ok:Nat->Bool}{nm:Nat->ByteArray}(h:∀i,i<n->ok i=true->nmB (nm i)=true):(if((List.range n).any fun i=>!ok i)=true then false else decide (n<=8)&&namesB n nm)=libB n ok nm:=by
 unfold libB namesB;have e:((List.range n).any fun i=>!ok i||dupB nm i)=(((List.range n).any fun i=>!ok i)||(List.range n).any fun i=>dupB nm i):=any_or _ _;rw[e];cases ha:(List.range n).any fun i=>!ok i with
 | true=>rfl
 | false =>
   have hall:=(not_any (n:=n) (c:=fun i=>!ok i)).1 (by rw[ha]; rfl);have:((List.range n).any fun i=>!nmB (nm i)||dupB nm i)=(List.range n).any fun i=>dupB nm i:=any_congr' fun i hi=>by
    have:=hall i hi;rw[Bool.not_eq_false'] at this;rw[h i hi this]; rfl
   rw[this,if_neg (by simp),Bool.false_or,Bool.and_comm]
def instB(nc:Nat)(pins:Int->Nat)(nn:Nat)(x:DInst):Bool:=inB x.2.1 0 ((nc:Int)-1)&&(x.2.2.length:Int)==(pins x.2.1:Int)&&x.2.2.all fun y=>inB y 0 ((nn:Int)-1)
def portB(nn:Nat)(x:DPort):Bool:=inB x.2.1 1 2&&inB x.2.2 0 ((nn:Int)-1)
def instF(x:Nat->DInst)(i:Nat)(v:List Int):List Int:=incAt v ((x i).2.2.getD ((x i).2.2.length-1) 0)
def portF(x:Nat->DPort)(i:Nat)(v:List Int):List Int:=if(x i).2.1=1 then incAt v (x i).2.2 else v
def driveN(ni np nn:Nat)(x:Nat->DInst)(y:Nat->DPort):List Int:=fN (portF y) np (fN (instF x) ni (List.replicate nn 0))
theorem instF_low(x:Nat->DInst)(nn:Nat):∀i,lowAt (fN (instF x) i (List.replicate nn 0)) nn i
 | 0=>lowAt_rep nn 0
 | i+1=>lowAt_inc (instF_low x nn i) _
def designB(lib:Bool)(nc:Nat)(pins:Int->Nat)(ni np nn:Nat)(x:Nat->DInst)(y:Nat->DPort)(nets:Nat->ByteArray):Bool :=
 lib&&decide (ni<=14)&&decide (nn<=30)&&decide (np<=8)&&namesB ni (fun i=>(x i).1)&&namesB nn nets&&namesB np (fun i=>(y i).1) &&
  !((List.range ni).any fun i=>!instB nc pins nn (x i))&&!((List.range np).any fun i=>!portB nn (y i))&&(driveN ni np nn x y).all (·==1)
def wireB(w:DWire)(n:Int):Bool :=
 decide (1<=w.1.length)&&decide (w.1.length<=8)&&decide (w.2.1.length=w.1.length)&&decide (w.2.2.1.length=w.1.length)&&(w.2.2.2.length:Int)==n &&
  w.2.1.all (inB · 0 1000)&&w.2.2.1.all (inB · 0 500)&&w.2.2.2.all (inB · 0 ((w.1.length:Int)-1)) &&
  !(List.range w.1.length).any fun i=>(i==0&&(w.1.getD i 0 != -1||w.2.1.getD 0 0 != 0))||(decide (0<i)&&!inB (w.1.getD i 0) 0 ((i:Int)-1))
abbrev DPlace:=Int×Int×Int×Bool
def instP(x:DInst)(i:Int)(k:Nat)(s:List DPlace):List DPlace:=s++[(i,(k:Int),x.2.2.getD k 0,(k:Int)==(x.2.2.length:Int)-1)]
def portP(y:Nat->DPort)(i:Nat)(s:List DPlace):List DPlace:=s++[(-1,(i:Int),(y i).2.2,(y i).2.1==1)]
def placesF(x:Nat->DInst)(i:Nat)(s:List DPlace):List DPlace:=fN (instP (x i) i) (x i).2.2.length s
def placesN(ni np:Nat)(x:Nat->DInst)(y:Nat->DPort):List DPlace:=fN (portP y) np (fN (placesF x) ni [])
theorem instP_len(x:DInst)(i:Int)(s:List DPlace):∀k,(fN (instP x i) k s).length=s.length+k
 | 0=>rfl
 | k+1=>by
   rw[fN,instP,List.length_append,instP_len x i s k]; rfl
theorem portP_len(y:Nat->DPort)(s:List DPlace):∀k,(fN (portP y) k s).length=s.length+k
 | 0=>rfl
 | k+1=>by
   rw[fN,portP,List.length_append,portP_len y s k]; rfl
end Go.Proofs.Xd
end
section
namespace Go.Proofs.YtekfdfcnjlfgiaaGreatDoor
open Go Go.Proofs Go.Proofs.Sv Go.Proofs.Xv Go.Proofs.Xl Go.Proofs.Xd
abbrev celOf(l:List Y82)(i:Nat):Y82:=l.getD i (dflt y82)
abbrev libOk(l:List Y82):Bool:=libB l.length (fun i=>cellOk isArcS (celOf l i)) (fun i=>(celOf l i).1)
theorem cell_name{c:Y82}(h:cellOk isArcS c=true):nmB c.1=true:=by
 grind[cellB,isArcS]
theorem r82(l:List Y82)(hw:wf (.sl y82) l)(hm:cnt (.sl y82) l<=1048576):u82 l=some (libOk l):=by
 have h:=hw.1;have hl:=cnt_len hm;have key:=lp_foldE (n:=l.length) h (fun i (s:List ByteArray)=>(s,(i:Int))) (gath fun i=>(celOf l i).1) (fun i=>!cellOk isArcS (celOf l i)) (some false) (fun i s=>s.length=i) (J:=u82J0 l) (F:=u82L1 l) (fun g i s hi hI=>by
  have e3:((i:Int)).toNat=i:=rfl;have hc:cnt y82 (celOf l i)<=1048576:=cnt_el hi hm;have hp:(celOf l i).2.2.1.length<=1048576:=cnt_len (cF (cS (cS hc)));have e1:=r112 (celOf l i) (wf_el hi hw) hp;have ha:=app_ok (b:=16) hi hl (by decide);refine(if_pos (by grind)).trans ?_;rw[e3,gP ⟨oo,trivial⟩,lE,e1,vS,gP ⟨rfl,trivial⟩,gP ⟨⟨by grind,by grind⟩,trivial⟩,gP ⟨oo,trivial⟩];rfl) (fun i s hi hI _=>by grind[gath,List.length_append]) (fun g s _=>aE) [] rfl
 refine key.trans ?_;rw[gath_row l (dflt y82) (fun c:Y82=>c.1)];have hn:wf (.sl .str) (l.map fun c:Y82=>c.1):=wf_map h fun x hx=>(hw.2 x hx).1;have e7:∀v:List ByteArray,wf (.sl .str) v->u82J0 l v=some (decide (l.length<=8)&&namesB v.length fun i=>v.getD i (dflt .str)):=fun v hv=>by
  have e8:decide ((l.length:Int)<=8)=decide (l.length<=8):=by rw[decide_eq_decide]; omega
  rw[u82J0,r113 _ hv,vS,gP ⟨fun _=>rfl,trivial⟩,e8]
 rw[e7 _ hn,names_map l (fun c:Y82=>c.1) (dflt y82)];show _=some (libB _ _ _);rw[<- lib_eq (fun i _ hc=>cell_name hc)];split <;> rfl
theorem r74(l:List Y82)(hw:wf (.sl y82) l):u74 l=some (libOk l):=by
 have h:=hw.1;have key:=lp_all (n:=l.length) h (fun i=>!cellOk isArcS (celOf l i)||dupB (fun i=>(celOf l i).1) i) (some false) (e:=u74J0 l ()) (F:=u74L1 l) (fun g i hi=>by
  have e3:((i:Int)).toNat=i:=rfl;have e1:=r109 (celOf l i) (wf_el hi hw);have inner:=lp_all (n:=i) (by omega) (fun k=>decide ((celOf l k).1=(celOf l i).1)) (some false) (e:=g ((i:Int)+1)) (F:=u74L3 l (i:Int) g) (fun g3 k hk=>all_el hk (by omega) ⟨oo,oo,trivial⟩) (fun g3=>by
   refine aE.trans ?_;exact gP ⟨oo,trivial⟩)
  refine(if_pos (by grind)).trans ?_;rw[e3,e1,vS,gP ⟨oo,rfl,trivial⟩,inner];unfold dupB
  grind) (fun g=>aE)
 refine key.trans ?_;show _=some (libB _ _ _);unfold libB u74J0;have e8:decide ((l.length:Int)<=8)=decide (l.length<=8):=by rw[decide_eq_decide]; omega
 rw[e8];cases(List.range l.length).any (fun i=>!cellOk isArcS (celOf l i)||dupB (fun i=>(celOf l i).1) i) <;> rfl
abbrev insOf(d:Y41)(i:Nat):Y112:=d.1.getD i (dflt y112)
abbrev prtOf(d:Y41)(i:Nat):Y114:=d.2.2.getD i (dflt y114)
abbrev pinsAt(l:List Y82)(x:Int):Nat:=(l.getD x.toNat (dflt y82)).2.2.1.length
abbrev designOk(l:List Y82)(d:Y41):Bool:=designB (libOk l) l.length (pinsAt l) d.1.length d.2.2.length d.2.1.length (insOf d) (prtOf d) (fun i=>d.2.1.getD i (dflt .str))
theorem r85(d:Y41)(hw:wf y41 d)(x:Int):u85 d x=some (inB x 0 ((d.2.1.length:Int)-1)):=by
 have h:=hw.2.1.1;have e:u117 d.2.1=some (d.2.1.length:Int):=rfl;unfold u85;rw[e]
 repeat rw[vS]
 rw[r89,vS,gP ⟨rfl,oo,rfl,trivial⟩]
theorem r84(d:Y41)(l:List Y82)(x:Y112)(hd:wf y41 d)(hl:wf (.sl y82) l)(hx:wf y112 x):u84 d l x=some (instB l.length (pinsAt l) d.2.1.length x):=by
 have h:=hl.1;have hn:=hx.2.2.1;have e:u114 l=some (l.length:Int):=rfl;have e1:∀y,u116 y d=some (!inB y 0 ((d.2.1.length:Int)-1)):=fun y=>by
  unfold u116;rw[r85 d hd,gP ⟨rfl,trivial⟩,vS]
 have h1:u148c116 x.2.2 d=_:=idx_some hn (fun i=>!inB (x.2.2.getD i 0) 0 ((d.2.1.length:Int)-1)) (fun g i hi=>idx_el hi hn (e1 _)) (fun g=>aE);have h2:u115c116 x.2.2 d=_:=has_some h1;rw[any_getD x.2.2 0 (fun y=>!inB y 0 ((d.2.1.length:Int)-1))] at h2;unfold u84;rw[e,h2]
 repeat rw[vS]
 rw[r89,vS,gP ⟨rfl,oo,rfl,fun hc=>by
  have:=inB_iff.1 hc.1;exact oo,fun _=>rfl,trivial⟩,all_any]
 rfl
theorem r83(d:Y41)(hw:wf y41 d)(hm:cnt y41 d<=1048576):u83 d=some (decide (d.1.length<=14)&&decide (d.2.1.length<=30)&&decide (d.2.2.length<=8)&&namesB d.1.length (fun i=>(insOf d i).1)&&namesB d.2.1.length (fun i=>d.2.1.getD i (dflt .str))&&namesB d.2.2.length (fun i=>(prtOf d i).1)):=by
 have hi0:=hw.1.1;have hp0:=hw.2.2.1;have hil:d.1.length<=1048576:=cnt_len (cF hm);have hpl:d.2.2.length<=1048576:=cnt_len (cS (cS hm));have key:=lF (n:=d.1.length) hi0 (fun i (s:List ByteArray)=>(s,(i:Int))) (gath fun i=>(insOf d i).1) (fun i s=>s.length=i) (J:=u83J0 d) (F:=u83L1 d) (fun g i s hi hI=>by
  have e3:((i:Int)).toNat=i:=rfl;have ha:=app_ok (b:=16) hi hil (by decide);refine(if_pos (by grind)).trans ?_;rw[e3,gP ⟨oo,trivial⟩,lE,gP ⟨⟨by grind,by grind⟩,trivial⟩,gP ⟨oo,trivial⟩];rfl) (fun i s hi hI=>by grind[gath,List.length_append]) (fun g s _=>aE) [] rfl
 refine key.trans ?_;rw[gath_row d.1 (dflt y112) (fun c:Y112=>c.1)];have hn1:wf (.sl .str) (d.1.map fun c:Y112=>c.1):=wf_map hi0 fun x hx=>(hw.1.2 x hx).1;have hn2:wf (.sl .str) (d.2.2.map fun c:Y114=>c.1):=wf_map hp0 fun x hx=>(hw.2.2.2 x hx).1;have e7:∀v:List ByteArray,wf (.sl .str) v->v.length=d.1.length->u83J0 d v=some (decide (d.1.length<=14)&&decide (d.2.1.length<=30)&&decide (d.2.2.length<=8)&&(namesB v.length fun i=>v.getD i (dflt .str))&&namesB d.2.1.length (fun i=>d.2.1.getD i (dflt .str))&&namesB d.2.2.length (fun i=>(prtOf d i).1)):=fun v hv hvl=>by
  rw[u83J0];have key2:=lF (n:=d.2.2.length) hp0 (fun i (s:List ByteArray)=>(s,(i:Int))) (gath fun i=>(prtOf d i).1) (fun i s=>s.length=i) (J:=u83J2 v d) (F:=u83L3 d v) (fun g i s hi hI=>by
   have e3:((i:Int)).toNat=i:=rfl;have ha:=app_ok (b:=16) hi hpl (by decide);refine(if_pos (by grind)).trans ?_;rw[e3,gP ⟨oo,trivial⟩,lE,gP ⟨⟨by grind,by grind⟩,trivial⟩,gP ⟨oo,trivial⟩];rfl) (fun i s hi hI=>by grind[gath,List.length_append]) (fun g s _=>aE) [] rfl
  refine key2.trans ?_;rw[gath_row d.2.2 (dflt y114) (fun c:Y114=>c.1)];have e9:∀z:List ByteArray,wf (.sl .str) z->z.length=d.2.2.length->u83J2 v d z=some (decide (d.1.length<=14)&&decide (d.2.1.length<=30)&&decide (d.2.2.length<=8)&&(namesB v.length fun i=>v.getD i (dflt .str))&&namesB d.2.1.length (fun i=>d.2.1.getD i (dflt .str))&&namesB z.length (fun i=>z.getD i (dflt .str))):=fun z hz hzl=>by
   have a1:decide ((v.length:Int)<=14)=decide (d.1.length<=14):=by rw[decide_eq_decide]; omega
   have a2:decide ((d.2.1.length:Int)<=30)=decide (d.2.1.length<=30):=by rw[decide_eq_decide]; omega
   have a3:decide ((z.length:Int)<=8)=decide (d.2.2.length<=8):=by rw[decide_eq_decide]; omega
   rw[u83J2,r113 _ hv,r113 _ hz,r113 _ hw.2.1,vS,vS,vS,gP ⟨fun _=>rfl,fun _=>rfl,fun _=>rfl,trivial⟩,a1,a2,a3]
  rw[e9 _ hn2 (List.length_map _),names_map d.2.2 (fun c:Y114=>c.1) (dflt y114)]
 rw[e7 _ hn1 (List.length_map _),names_map d.1 (fun c:Y112=>c.1) (dflt y112)]
theorem lib_pins{l:List Y82}(h:libOk l=true){x:Int}(hx:inB x 0 ((l.length:Int)-1)=true):2<=pinsAt l x/\pinsAt l x<=5:=by
 have h:libB _ _ _=true:=h;unfold libB at h;rw[ba] at h;rw[inB_iff] at hx;have:=not_any.1 h.1 x.toNat (by omega);rw[Bool.or_eq_false_iff,Bool.not_eq_false'] at this;have hc:cellB isArcS _ _ _ _ _ _ _ _ _=true:=this.1;unfold cellB at hc;simp only[ba] at hc;have:=pins_last hc.1.1.1.1.2
 grind
theorem inst_nets{nc nn:Nat}{pins:Int->Nat}{x:DInst}(h:instB nc pins nn x=true)(hp:∀y,inB y 0 ((nc:Int)-1)=true->2<=pins y):1<=x.2.2.length/\inB (x.2.2.getD (x.2.2.length-1) 0) 0 ((nn:Int)-1)=true:=by
 grind[instB]
theorem r75(l:List Y82)(d:Y41)(hl:wf (.sl y82) l)(hd:wf y41 d):u75 l d=some (!((List.range d.1.length).any fun i=>!instB l.length (pinsAt l) d.2.1.length (insOf d i))&&!((List.range d.2.2.length).any fun i=>!portB d.2.1.length (prtOf d i))):=by
 have h:=hl.1;have hi0:=hd.1.1;have hp0:=hd.2.2.1;have hn0:=hd.2.1.1;have kj:u75J0 d ()=some (!((List.range d.2.2.length).any fun i=>!portB d.2.1.length (prtOf d i))):=by
  have key:=lp_all (n:=d.2.2.length) hp0 (fun i=>!portB d.2.1.length (prtOf d i)) (some false) (e:=some true) (F:=u75L5 d) (fun g i hi=>by
   have e3:((i:Int)).toNat=i:=rfl;refine(if_pos (by grind)).trans ?_;rw[e3,r77,r77,vS,vS,gP ⟨oo,rfl,fun _=>oo,fun _=>oo,fun _=>rfl,trivial⟩,gP ⟨oo,trivial⟩]
   grind[portB,Bool.not_and]) (fun g=>aE)
  refine key.trans ?_;cases(List.range d.2.2.length).any fun i=>!portB d.2.1.length (prtOf d i) <;> rfl
 have key:=lp_all (n:=d.1.length) hi0 (fun i=>!instB l.length (pinsAt l) d.2.1.length (insOf d i)) (some false) (e:=u75J0 d ()) (F:=u75L1 d l) (fun g i hi=>by
  have e3:((i:Int)).toNat=i:=rfl;have hx:=wf_el (d:=dflt y112) hi hd.1;have hn:=hx.2.2.1;refine(if_pos (by grind)).trans ?_;rw[e3,gP ⟨oo,trivial⟩,lE,r77,vS,gP ⟨oo,rfl,fun hc=>by
   have:=hc.1;rw[Bool.not_eq_false'] at this;have:=inB_iff.1 this;exact oo,trivial⟩]
  have inner:=lp_all (n:=(insOf d i).2.2.length) hn (fun k=>!inB ((insOf d i).2.2.getD k 0) 0 ((d.2.1.length:Int)-1)) (some false) (e:=g ((i:Int)+1)) (F:=u75L3 (insOf d i) d (i:Int) g) (fun g3 k hk=>by
   refine(all_el hk hn ⟨oo,oo,rfl,trivial⟩).trans ?_;rfl) (fun g3=>by
   refine aE.trans ?_;exact gP ⟨oo,trivial⟩)
  rw[any_getD (insOf d i).2.2 0 (fun y=>!inB y 0 ((d.2.1.length:Int)-1))] at inner;rw[inner];unfold instB
  grind[all_any]) (fun g=>aE)
 refine key.trans ?_
 grind
theorem ones_any(v:List Int):(!v.any fun x=>x != 1)=v.all (·==1):=all_any v (fun x=>x==1)
theorem rep_ok{n b:Nat}(h:n<=1048576)(hb:b<=4096):(0<=(n:Int)/\(n:Int)=(n:Int)/\(n:Int).toNat*b<=281474976710656/\(n:Int)<=9223372036854775807)/\True:=by
 have hm:n*b<=1048576*4096:=Nat.mul_le_mul h hb;exact⟨⟨by omega,rfl,by rw[Int.toNat_natCast]; omega,by omega⟩,trivial⟩
theorem inc_ok{v:List Int}{n b:Nat}{x:Int}(h:lowAt v n b)(hb:b<=2097152)(hx:inB x 0 ((n:Int)-1)=true):ix x v.length/\x.toNat<v.length/\in64 (v.getD x.toNat 0+1)/\ix x v.length/\x.toNat<v.length/\True:=by
 obtain⟨h1,h2⟩:=lowAt_ix h hx;have:=h.2 x.toNat;exact⟨h1,h2,oo,h1,h2,trivial⟩
theorem pred_ok{n:Nat}(h1:1<=n)(h:n<=9223372036854775807):in64 ((n:Int)-1)/\ix ((n:Int)-1) n:=⟨oo,oo⟩
theorem r51(l:List Y82)(d:Y41)(hl:wf (.sl y82) l)(hd:wf y41 d)(ml:cnt (.sl y82) l<=1048576)(md:cnt y41 d<=1048576):u51 l d=some (designOk l d):=by
 have hi0:=hd.1.1;have hp0:=hd.2.2.1;have mi:d.1.length<=1048576:=cnt_len (cF md);have mn:d.2.1.length<=1048576:=cnt_len (cF (cS md));have mp:d.2.2.length<=1048576:=cnt_len (cS (cS md));show _=some (designB _ _ _ _ _ _ _ _ _);unfold u51 designB;rw[r82 l hl ml,r83 d hd md,vS,vS,gP ⟨rfl,fun _=>rfl,trivial⟩];cases hlo:libOk l with
 | false=>grind
 | true =>
   rw[Bool.true_and];cases hno:(decide (d.1.length<=14)&&decide (d.2.1.length<=30)&&decide (d.2.2.length<=8)&&namesB d.1.length (fun i=>(insOf d i).1)&&namesB d.2.1.length (fun i=>d.2.1.getD i (dflt .str))&&namesB d.2.2.length (fun i=>(prtOf d i).1)) with
   | false=>grind
   | true =>
     refine(if_neg (by simp)).trans ?_;rw[gP (rep_ok mn (by decide)),Int.toNat_natCast];have hpin:∀y,inB y 0 ((l.length:Int)-1)=true->2<=pinsAt l y:=fun y hy=>(lib_pins hlo hy).1;have key:=lp_foldE (n:=d.1.length) hi0 (fun i (v:List Int)=>((i:Int),v)) (instF (insOf d)) (fun i=>!instB l.length (pinsAt l) d.2.1.length (insOf d i)) (some false) (fun i v=>i<=d.1.length/\lowAt v d.2.1.length i) (J:=u51J0 d) (F:=u51L1 d l) (fun g i v hi hI=>by
      have e3:((i:Int)).toNat=i:=rfl;have hx:=wf_el (d:=dflt y112) hi hd.1;refine(if_pos (by grind)).trans ?_;rw[e3,gP ⟨oo,trivial⟩,lE,r84 d l _ hd hl hx,vS,gP ⟨rfl,trivial⟩];cases hin:instB l.length (pinsAt l) d.2.1.length (insOf d i) with
      | false=>rfl
      | true =>
        obtain⟨g1,g2⟩:=inst_nets hin hpin;have hlen:(insOf d i).2.2.length<=9223372036854775807:=hx.2.2.1;refine(if_neg (by simp)).trans ?_;rw[toNat_pred g1,gP ⟨(pred_ok g1 hlen).1,(pred_ok g1 hlen).2,inc_ok hI.2 (by omega) g2⟩,lE,gP ⟨oo,trivial⟩];rfl) (fun i v hi hI _=>⟨by omega,lowAt_inc hI.2 _⟩) (fun g v _=>aE) (List.replicate d.2.1.length 0) ⟨by omega,lowAt_rep _ _⟩
     refine key.trans ?_;cases hia:(List.range d.1.length).any fun i=>!instB l.length (pinsAt l) d.2.1.length (insOf d i) with
     | true=>simp
     | false =>
       refine(if_neg (by simp)).trans ?_;have hlow:=instF_low (insOf d) d.2.1.length d.1.length;unfold driveN;generalize fN (instF (insOf d)) d.1.length (List.replicate d.2.1.length 0)=v0 at *
       rw[u51J0];have key2:=lp_foldE (n:=d.2.2.length) hp0 (fun i (v:List Int)=>((i:Int),v)) (portF (prtOf d)) (fun i=>!portB d.2.1.length (prtOf d i)) (some false) (fun i v=>i<=d.2.2.length/\lowAt v d.2.1.length (d.1.length+i)) (J:=u51J2) (F:=u51L3 d) (fun g i v hi hI=>by
        have e3:((i:Int)).toNat=i:=rfl;have j4:∀v',u51J4 (i:Int) g v'=g (((i+1:Nat):Int),v'):=fun v'=>gP ⟨oo,trivial⟩;refine(if_pos (by grind)).trans ?_;rw[e3,gP ⟨oo,trivial⟩,lE,r85 d hd,vS,gP ⟨fun _=>rfl,trivial⟩,j4,j4];have e5:((prtOf d i).2.1 != 1&&(prtOf d i).2.1 != 2||!inB (prtOf d i).2.2 0 ((d.2.1.length:Int)-1))=!portB d.2.1.length (prtOf d i):=by
         unfold portB;rw[Bool.not_and];congr 1;rw[Bool.eq_iff_iff];simp only[ba,bne_iff_ne,Bool.not_eq_true',<- Bool.not_eq_true,inB_iff];omega
        show(if((prtOf d i).2.1 != 1&&(prtOf d i).2.1 != 2||!inB (prtOf d i).2.2 0 ((d.2.1.length:Int)-1))=true then some false else _)=_;rw[e5];cases hpo:portB d.2.1.length (prtOf d i) with
        | false=>rfl
        | true =>
          have hnet:inB (prtOf d i).2.2 0 ((d.2.1.length:Int)-1)=true:=by
           unfold portB at hpo;rw[ba] at hpo;exact hpo.2
          refine(if_neg (by simp)).trans ?_;show _=g (_,portF (prtOf d) i v);unfold portF;by_cases k1:(prtOf d i).2.1=1
          ·rw[if_pos (beq_iff_eq.2 k1),if_pos k1];exact gP (inc_ok hI.2 (by omega) hnet)
          grind) (fun i v hi hI _=>⟨by omega,by
          grind[portF,lowAt_inc,lowAt_up]⟩) (fun g v _=>aE) v0 ⟨by omega,hlow⟩
       refine key2.trans ?_;cases hpa:(List.range d.2.2.length).any fun i=>!portB d.2.1.length (prtOf d i) with
       | true=>simp
       | false =>
         refine(if_neg (by simp)).trans ?_;have hv:∀v:List Int,v.length<=9223372036854775807->u51J2 v=some (v.all (·==1)):=fun v hv=>by
          have h1:u118c87 v=_:=idx_some hv (fun i=>v.getD i 0 != 1) (fun g i hi=>idx_el hi hv rfl) (fun g=>aE);have h2:u86c87 v=_:=has_some h1;rw[any_getD v 0 (fun x=>x != 1)] at h2;rw[u51J2,h2,vS,gP ⟨rfl,trivial⟩,ones_any]
         have hlen:(fN (portF (prtOf d)) d.2.2.length v0).length<=9223372036854775807:=by
          have:∀n,(fN (portF (prtOf d)) n v0).length=v0.length:=by
           intro n
           induction n with
           | zero=>rfl
           | succ n ih =>
             grind[fN,portF,incAt,List.length_set]
          rw[this,hlow.1]; omega
         grind
theorem r43(l:List Y82)(d:Y41)(hl:wf (.sl y82) l)(hd:wf y41 d)(md:cnt y41 d<=1048576):u43 l d=some (designOk l d):=by
 have hi0:=hd.1.1;have hp0:=hd.2.2.1;have mi:d.1.length<=1048576:=cnt_len (cF md);have mn:d.2.1.length<=1048576:=cnt_len (cF (cS md));have mp:d.2.2.length<=1048576:=cnt_len (cS (cS md));show _=some (designB _ _ _ _ _ _ _ _ _);unfold u43;rw[r74 l hl,r75 l d hl hd,vS,vS,gP ⟨rfl,fun _=>rfl,trivial⟩];by_cases hgo:libOk l=true/\d.1.length<=14/\d.2.1.length<=30/\d.2.2.length<=8/\((List.range d.1.length).any fun i=>!instB l.length (pinsAt l) d.2.1.length (insOf d i))=false/\((List.range d.2.2.length).any fun i=>!portB d.2.1.length (prtOf d i))=false
 ·obtain⟨hlo,h14,h30,h8,hia,hpa⟩:=hgo;have a1:decide (14 < (d.1.length:Int))=false:=decide_eq_false (by omega);have a2:decide (30 < (d.2.1.length:Int))=false:=decide_eq_false (by omega);have a3:decide (8 < (d.2.2.length:Int))=false:=decide_eq_false (by omega);rw[hlo,a1,a2,a3,hia,hpa];refine(if_neg (by simp)).trans ?_;have hpin:∀y,inB y 0 ((l.length:Int)-1)=true->2<=pinsAt l y:=fun y hy=>(lib_pins hlo hy).1;have hall:∀i,i<d.1.length->instB l.length (pinsAt l) d.2.1.length (insOf d i)=true:=fun i hi=>by
   grind
  have hpall:∀i,i<d.2.2.length->portB d.2.1.length (prtOf d i)=true:=fun i hi=>by
   grind
  have k10:∀v:List Int,v.length<=9223372036854775807->u43J6 v=some (v.all (·==1)):=fun v hv=>by
   rw[u43J6];have key:=lp_all (n:=v.length) hv (fun i=>v.getD i 0 != 1) (some false) (e:=some true) (F:=u43L10 v) (fun g i hi=>by
    refine(all_el hi hv ⟨oo,by omega,trivial⟩).trans ?_;rfl) (fun g=>aE)
   refine key.trans ?_;rw[any_getD v 0 (fun x=>x != 1),<- ones_any]
   grind
  have k7:∀v:List Int,lowAt v d.2.1.length d.1.length->u43J4 d v=some ((fN (portF (prtOf d)) d.2.2.length v).all (·==1)):=fun v0 hlow=>by
   rw[u43J4];have key:=lF (n:=d.2.2.length) hp0 (fun i (v:List Int)=>((i:Int),v)) (portF (prtOf d)) (fun i v=>i<=d.2.2.length/\lowAt v d.2.1.length (d.1.length+i)) (J:=u43J6) (F:=u43L7 d) (fun g i v hi hI=>by
    have e3:((i:Int)).toNat=i:=rfl;have j8:∀v',u43J8 (i:Int) g v'=g (((i+1:Nat):Int),v'):=fun v'=>gP ⟨oo,trivial⟩;have hnet:inB (prtOf d i).2.2 0 ((d.2.1.length:Int)-1)=true:=by
     have:=hpall i hi;unfold portB at this;rw[ba] at this;exact this.2
    refine(if_pos (by grind)).trans ?_;rw[e3,gP ⟨oo,trivial⟩,j8];show(if((prtOf d i).2.1==1)=true then _ else _)=g (_,portF (prtOf d) i v);unfold portF;by_cases k1:(prtOf d i).2.1=1
    ·rw[if_pos (beq_iff_eq.2 k1),if_pos k1];refine(gP ⟨oo,inc_ok hI.2 (by omega) hnet⟩).trans ?_;rw[lE];exact j8 _
    grind) (fun i v hi hI=>⟨by omega,by
    grind[portF,lowAt_inc,lowAt_up]⟩) (fun g v _=>aE) v0 ⟨by omega,hlow⟩
   refine key.trans (k10 _ ?_);have:∀n,(fN (portF (prtOf d)) n v0).length=v0.length:=by
    intro n
    induction n with
    | zero=>rfl
    | succ n ih =>
      grind[fN,portF,incAt,List.length_set]
   rw[this,hlow.1]; omega
  have k5:lp (u43L5 d) ((0:Int),List.replicate d.2.1.length 0)=some ((driveN d.1.length d.2.2.length d.2.1.length (insOf d) (prtOf d)).all (·==1)):=by
   have key:=lF (n:=d.1.length) hi0 (fun i (v:List Int)=>((i:Int),v)) (instF (insOf d)) (fun i v=>i<=d.1.length/\lowAt v d.2.1.length i) (J:=u43J4 d) (F:=u43L5 d) (fun g i v hi hI=>by
    have e3:((i:Int)).toNat=i:=rfl;have hx:=wf_el (d:=dflt y112) hi hd.1;obtain⟨g1,g2⟩:=inst_nets (hall i hi) hpin;have hlen:(insOf d i).2.2.length<=9223372036854775807:=hx.2.2.1;refine(if_pos (by grind)).trans ?_;rw[e3,gP ⟨oo,trivial⟩,lE,toNat_pred g1,gP ⟨(pred_ok g1 hlen).1,(pred_ok g1 hlen).2,inc_ok hI.2 (by omega) g2⟩,lE,gP ⟨oo,trivial⟩];rfl) (fun i v hi hI=>⟨by omega,lowAt_inc hI.2 _⟩) (fun g v _=>aE) (List.replicate d.2.1.length 0) ⟨by omega,lowAt_rep _ _⟩
   refine key.trans (k7 _ (instF_low _ _ _))
  have hn1:wf (.sl .str) (d.1.map fun c:Y112=>c.1):=wf_map hi0 fun x hx=>(hd.1.2 x hx).1;have hn2:wf (.sl .str) (d.2.2.map fun c:Y114=>c.1):=wf_map hp0 fun x hx=>(hd.2.2.2 x hx).1;have k2:∀v z:List ByteArray,wf (.sl .str) v->wf (.sl .str) z->u43J2 d v z=some ((namesB v.length fun i=>v.getD i (dflt .str))&&(namesB z.length fun i=>z.getD i (dflt .str))&&namesB d.2.1.length (fun i=>d.2.1.getD i (dflt .str))&&(driveN d.1.length d.2.2.length d.2.1.length (insOf d) (prtOf d)).all (·==1)):=fun v z hv hz=>by
   rw[u43J2,r76 _ hv,r76 _ hz,r76 _ hd.2.1,vS,vS,vS,gP ⟨rfl,fun _=>rfl,fun _=>rfl,trivial⟩,gP (rep_ok mn (by decide)),Int.toNat_natCast,k5];cases(namesB v.length fun i=>v.getD i (dflt .str)) <;> cases(namesB z.length fun i=>z.getD i (dflt .str)) <;> cases namesB d.2.1.length (fun i=>d.2.1.getD i (dflt .str)) <;> rfl
  have k3:∀v:List ByteArray,wf (.sl .str) v->u43J0 d v=some ((namesB v.length fun i=>v.getD i (dflt .str))&&namesB d.2.2.length (fun i=>(prtOf d i).1)&&namesB d.2.1.length (fun i=>d.2.1.getD i (dflt .str))&&(driveN d.1.length d.2.2.length d.2.1.length (insOf d) (prtOf d)).all (·==1)):=fun v hv=>by
   rw[u43J0];have key:=lF (n:=d.2.2.length) hp0 (fun i (s:List ByteArray)=>((i:Int),s)) (gath fun i=>(prtOf d i).1) (fun i s=>s.length=i) (J:=u43J2 d v) (F:=u43L3 d v) (fun g i s hi hI=>by
    have e3:((i:Int)).toNat=i:=rfl;refine(if_pos (by grind)).trans ?_;rw[e3,gP ⟨oo,⟨by grind,by grind⟩,trivial⟩,gP ⟨oo,trivial⟩];rfl) (fun i s hi hI=>by grind[gath,List.length_append]) (fun g s _=>aE) [] rfl
   refine key.trans ?_;rw[gath_row d.2.2 (dflt y114) (fun c:Y114=>c.1),k2 _ _ hv hn2,names_map d.2.2 (fun c:Y114=>c.1) (dflt y114)]
  have key:=lF (n:=d.1.length) hi0 (fun i (s:List ByteArray)=>((i:Int),s)) (gath fun i=>(insOf d i).1) (fun i s=>s.length=i) (J:=u43J0 d) (F:=u43L1 d) (fun g i s hi hI=>by
   have e3:((i:Int)).toNat=i:=rfl;refine(if_pos (by grind)).trans ?_;rw[e3,gP ⟨oo,⟨by grind,by grind⟩,trivial⟩,gP ⟨oo,trivial⟩];rfl) (fun i s hi hI=>by grind[gath,List.length_append]) (fun g s _=>aE) [] rfl
  refine key.trans ?_;rw[gath_row d.1 (dflt y112) (fun c:Y112=>c.1),k3 _ hn1,names_map d.1 (fun c:Y112=>c.1) (dflt y112)];unfold designB;rw[hia,hpa,decide_eq_true h14,decide_eq_true h30,decide_eq_true h8];cases namesB d.1.length (fun i=>(insOf d i).1) <;> cases namesB d.2.1.length (fun i=>d.2.1.getD i (dflt .str)) <;> cases namesB d.2.2.length (fun i=>(prtOf d i).1) <;> rfl
 ·have e0:(!libOk l||decide (14 < (d.1.length:Int))||decide (30 < (d.2.1.length:Int))||decide (8 < (d.2.2.length:Int))||!(!((List.range d.1.length).any fun i=>!instB l.length (pinsAt l) d.2.1.length (insOf d i))&&!((List.range d.2.2.length).any fun i=>!portB d.2.1.length (prtOf d i))))=true:=by
   rw[<- Bool.not_eq_false];intro hc;simp only[Bool.or_eq_false_iff,Bool.not_eq_false',decide_eq_false_iff_not,ba,Bool.not_eq_true'] at hc;exact hgo ⟨hc.1.1.1.1,by omega,by omega,by omega,hc.2.1,hc.2.2⟩
  refine(if_pos e0).trans ?_;refine congrArg some ?_
  symm
  rw[<- Bool.not_eq_true];intro hc;unfold designB at hc;simp only[ba,dq,Bool.not_eq_true'] at hc;obtain⟨⟨⟨⟨⟨⟨⟨⟨⟨c1,c2⟩,c3⟩,c4⟩,_⟩,_⟩,_⟩,c5⟩,c6⟩,_⟩:=hc;exact hgo ⟨c1,c2,c3,c4,c5,c6⟩
end Go.Proofs.YtekfdfcnjlfgiaaGreatDoor
end
section
namespace Go.Proofs.Xd
open Go Go.Proofs.Sv Go.Proofs.Xv Go.Proofs.Xl
def sinkF(pl:Nat->DPlace)(i:Nat)(v:List Int):List Int:=if(pl i).2.2.2=false then incAt v (pl i).2.2.1 else v
def cntP(pl:Nat->DPlace)(t:Int)(m:Nat):Int:=fN (fun i s=>if((pl i).2.2.1==t&&!(pl i).2.2.2)=true then s+1 else s) m 0
theorem cntP_le(pl:Nat->DPlace)(t:Int):∀m,0<=cntP pl t m/\cntP pl t m<=m
 | 0=>⟨Int.le_refl _,Int.le_refl _⟩
 | m+1=>by
   have:=cntP_le pl t m;unfold cntP at *
   rw[fN];split <;> omega
theorem sink_fold(pl:Nat->DPlace)(n:Nat):∀m,(∀i,i<m->inB (pl i).2.2.1 0 ((n:Int)-1)=true)->(fN (sinkF pl) m (List.replicate n 0)).length=n/\∀k:Nat,k<n->(fN (sinkF pl) m (List.replicate n 0)).getD k 0=cntP pl k m
 | 0,_=>⟨by simp[fN],fun k hk=>by
   show(List.replicate n (0:Int)).getD k 0=0;rw[gq,List.getElem?_replicate,if_pos hk]; rfl⟩
 | m+1,h=>by
   obtain⟨h1,h2⟩:=sink_fold pl n m (fun i hi=>h i (by omega));have h3:=inB_iff.1 (h m (by omega));rw[fN];generalize fN (sinkF pl) m (List.replicate n 0)=v at *
   unfold sinkF;have e:∀k:Nat,cntP pl k (m+1)=if((pl m).2.2.1==(k:Int)&&!(pl m).2.2.2)=true then cntP pl k m+1 else cntP pl k m:=fun k=>by unfold cntP; rw[fN]
   cases hd:(pl m).2.2.2 with
   | true =>
     refine⟨by rw[if_neg (by simp)]; exact h1,fun k hk=>?_⟩;rw[if_neg (by simp),h2 k hk,e,hd,if_neg (by simp)]
   | false =>
     rw[if_pos rfl];unfold incAt;refine⟨by rw[List.length_set]; exact h1,fun k hk=>?_⟩;rw[e,hd,gq,List.getElem?_set];by_cases hk':(pl m).2.2.1.toNat=k
     ·rw[if_pos hk',if_pos (by rw[h1]; omega),if_pos (by simp; omega),Option.getD_some,hk',h2 k hk]
     ·rw[if_neg hk',if_neg (by simp; omega),<- gq,h2 k hk]
def sinkL(pl:Nat->DPlace)(t:Int)(i:Nat)(s:List Int):List Int:=if((pl i).2.2.1==t&&!(pl i).2.2.2)=true then s++[(i:Int)] else s
theorem sinkL_len(pl:Nat->DPlace)(t:Int):∀m,((fN (sinkL pl t) m []).length:Int)=cntP pl t m
 | 0=>rfl
 | m+1=>by
   have:=sinkL_len pl t m;rw[fN];unfold cntP at *
   rw[fN];unfold sinkL at *
   split
   ·rw[List.length_append];show((_+1:Nat):Int)=_;omega
   ·exact this
def netsIn(n:Nat)(s:List DPlace):Prop:=∀p∈s,inB p.2.2.1 0 ((n:Int)-1)=true
theorem instP_in{n:Nat}{x:DInst}{i:Int}(hx:∀k,k<x.2.2.length->inB (x.2.2.getD k 0) 0 ((n:Int)-1)=true){s:List DPlace}(hs:netsIn n s):∀k,k<=x.2.2.length->netsIn n (fN (instP x i) k s)
 | 0,_=>hs
 | k+1,hk=>by
   rw[fN,instP];intro p hp;rcases List.mem_append.1 hp with h | h
   ·exact instP_in hx hs k (by omega) p h
   ·cases List.mem_singleton.1 h;exact hx k (by omega)
theorem placesF_in{n:Nat}{x:Nat->DInst}{ni:Nat}(hx:∀i,i<ni->∀k,k < (x i).2.2.length->inB ((x i).2.2.getD k 0) 0 ((n:Int)-1)=true):∀i,i<=ni->netsIn n (fN (placesF x) i [])
 | 0,_=>fun p hp=>by cases hp
 | i+1,hi=>by
   rw[fN,placesF];exact instP_in (hx i (by omega)) (placesF_in hx i (by omega)) _ (Nat.le_refl _)
theorem portP_in{n:Nat}{y:Nat->DPort}{np:Nat}(hy:∀i,i<np->inB (y i).2.2 0 ((n:Int)-1)=true){s:List DPlace}(hs:netsIn n s):∀k,k<=np->netsIn n (fN (portP y) k s)
 | 0,_=>hs
 | k+1,hk=>by
   rw[fN,portP];intro p hp;rcases List.mem_append.1 hp with h | h
   ·exact portP_in hy hs k (by omega) p h
   ·cases List.mem_singleton.1 h;exact hy k (by omega)
theorem placesF_len{x:Nat->DInst}{ni:Nat}(hx:∀i,i<ni->(x i).2.2.length<=5):∀i,i<=ni->(fN (placesF x) i []).length<=5*i
 | 0,_=>Nat.le_refl _
 | i+1,hi=>by
   rw[fN,placesF,instP_len];have:=placesF_len hx i (by omega);have:=hx i (by omega);omega
theorem getD_mem{α:Type}{l:List α}{i:Nat}{d:α}(h:i<l.length):l.getD i d∈l:=by
 rw[gq,List.getElem?_eq_getElem h];exact List.getElem_mem h
theorem all_getD{l:List Int}{p:Int->Bool}(h:l.all p=true){i:Nat}(hi:i<l.length):p (l.getD i 0)=true:=List.all_eq_true.1 h _ (getD_mem hi)
structure DesignFacts(nc:Nat)(pins:Int->Nat)(ni np nn:Nat)(x:Nat->DInst)(y:Nat->DPort):Prop where
 ni14:ni<=14
 np8:np<=8
 nn30:nn<=30
 inst:∀i,i<ni->instB nc pins nn (x i)=true
 port:∀i,i<np->portB nn (y i)=true
theorem design_facts{lib:Bool}{nc:Nat}{pins:Int->Nat}{ni np nn:Nat}{x:Nat->DInst}{y:Nat->DPort}{nets:Nat->ByteArray}(h:designB lib nc pins ni np nn x y nets=true):lib=true/\DesignFacts nc pins ni np nn x y:=by
 unfold designB at h;simp only[ba,dq] at h;obtain⟨⟨⟨⟨⟨⟨⟨⟨⟨c1,c2⟩,c3⟩,c4⟩,_⟩,_⟩,_⟩,c5⟩,c6⟩,_⟩:=h;refine⟨c1,c2,c4,c3,fun i hi=>?_,fun i hi=>?_⟩
 ·have:=not_any.1 c5 i hi
  rwa [Bool.not_eq_false'] at this
 ·have:=not_any.1 c6 i hi
  rwa [Bool.not_eq_false'] at this
theorem DesignFacts.net{nc:Nat}{pins:Int->Nat}{ni np nn:Nat}{x:Nat->DInst}{y:Nat->DPort}(h:DesignFacts nc pins ni np nn x y):(∀i,i<ni->∀k,k < (x i).2.2.length->inB ((x i).2.2.getD k 0) 0 ((nn:Int)-1)=true)/\∀i,i<np->inB (y i).2.2 0 ((nn:Int)-1)=true:=by
 refine⟨fun i hi k hk=>?_,fun i hi=>?_⟩
 ·have:=h.inst i hi;unfold instB at this;rw[ba] at this;exact all_getD (p:=fun y=>inB y 0 ((nn:Int)-1)) this.2 hk
 ·have:=h.port i hi;unfold portB at this;rw[ba] at this;exact this.2
end Go.Proofs.Xd
end
section
namespace Go.Proofs.YtekfdfcnjlfgiaaGreatDoor
open Go Go.Proofs Go.Proofs.Sv Go.Proofs.Xv Go.Proofs.Xl Go.Proofs.Xd
abbrev treeBad(w:Y55)(i:Nat):Bool:=(i==0&&(w.1.getD i 0 != -1||w.2.1.getD 0 0 != 0))||(decide (0<i)&&!inB (w.1.getD i 0) 0 ((i:Int)-1))
theorem r90(w:Y55)(hw:wf y55 w)(hl:w.2.1.length=w.1.length):u90 w=some (!(List.range w.1.length).any (treeBad w)):=by
 have h:=hw.1.1;have key:=lp_all (n:=w.1.length) h (treeBad w) (some false) (e:=some true) (F:=u90L1 w) (fun g i hi=>by
  have e3:((i:Int)).toNat=i:=rfl;have e0:((i:Int)==0)=(i==0):=by rw[Bool.eq_iff_iff,beq_iff_eq,beq_iff_eq]; omega
  have e2:decide ((0:Int) < (i:Int))=decide (0<i):=by rw[decide_eq_decide]; omega
  refine(if_pos (by simpa using hi)).trans ?_;rw[e3,e0,e2,r89,vS,gP ⟨oo,trivial⟩,gP ⟨fun _=>oo,fun _=>oo,fun _=>rfl,trivial⟩,gP ⟨oo,trivial⟩];rfl) (fun g=>aE)
 refine key.trans ?_
 grind
theorem r53(w:Y55)(n:Int)(hw:wf y55 w):u53 w n=some (wireB w n):=by
 obtain⟨⟨h1,_⟩,⟨h2,_⟩,⟨h3,_⟩,h4,_⟩:=id hw;have e:∀xs:List Int,u88 xs=some (xs.length:Int):=fun _=>rfl;unfold u53;rw[e,e,e,e]
 repeat rw[vS]
 rw[gP ⟨rfl,trivial⟩,lE,r89,r91 _ _ _ h2,r91 _ _ _ h3,r91 _ _ _ h4]
 repeat rw[vS]
 by_cases hgo:(inB (w.1.length:Int) 1 8&&(w.2.1.length:Int)==(w.1.length:Int)&&(w.2.2.1.length:Int)==(w.1.length:Int))=true
 ·have hg:=hgo;simp only[ba,beq_iff_eq,inB_iff] at hg;rw[r90 w hw (by omega),vS,gP ⟨rfl,fun _=>rfl,fun _=>rfl,fun _=>rfl,fun _=>rfl,fun _=>rfl,fun _=>rfl,fun _=>oo,fun _=>rfl,trivial⟩,lE];refine congrArg some ?_;rw[hgo];unfold wireB;rw[decide_eq_true (show 1<=w.1.length by omega),decide_eq_true (show w.1.length<=8 by omega),decide_eq_true (show w.2.1.length=w.1.length by omega),decide_eq_true (show w.2.2.1.length=w.1.length by omega)];cases(List.range w.1.length).any (treeBad w) <;> cases w.2.1.all (inB · 0 1000) <;> cases w.2.2.1.all (inB · 0 500) <;> cases(w.2.2.2.length:Int)==n <;> cases w.2.2.2.all (inB · 0 ((w.1.length:Int)-1)) <;> rfl
 ·have hg:(inB (w.1.length:Int) 1 8&&(w.2.1.length:Int)==(w.1.length:Int)&&(w.2.2.1.length:Int)==(w.1.length:Int))=false:=by simpa using hgo
  rw[hg,gP ⟨rfl,fun _=>rfl,fun _=>rfl,fun hc=>by simp at hc,fun hc=>by simp at hc,fun hc=>by simp at hc,fun hc=>by simp at hc,fun hc=>by simp at hc,fun hc=>by simp at hc,trivial⟩,lE];refine congrArg some ?_;rw[hg];simp only[Bool.false_and]
  symm
  rw[<- Bool.not_eq_true];intro hc;unfold wireB at hc;simp only[ba,dq] at hc;refine hgo ?_;simp only[ba,beq_iff_eq,inB_iff];omega
theorem r44(w:Y55)(n:Int)(hw:wf y55 w):u44 w n=some (wireB w n):=by
 obtain⟨⟨h1,_⟩,⟨h2,_⟩,⟨h3,_⟩,h4,_⟩:=id hw;unfold u44;by_cases hgo:1<=w.1.length/\w.1.length<=8/\w.2.1.length=w.1.length/\w.2.2.1.length=w.1.length/\(w.2.2.2.length:Int)=n
 ·obtain⟨g1,g2,g3,g4,g5⟩:=hgo;have e0:(decide ((w.1.length:Int)<1)||decide (8 < (w.1.length:Int))||(w.2.1.length:Int) != (w.1.length:Int)||(w.2.2.1.length:Int) != (w.1.length:Int)||(w.2.2.2.length:Int) != n)=false:=by
   rw[<- Bool.not_eq_true]; simp; omega
  refine(if_neg (by rw[e0]; simp)).trans ?_;have k3:=lp_all (n:=w.2.2.2.length) h4 (fun i=>!inB (w.2.2.2.getD i 0) 0 ((w.1.length:Int)-1)) (some false) (e:=some true) (F:=u44L3 w) (fun g i hi=>all_el hi h4 ⟨oo,oo,rfl,trivial⟩) (fun g=>aE);rw[any_getD w.2.2.2 0 (fun x=>!inB x 0 ((w.1.length:Int)-1))] at k3;have k1:=lp_all (n:=w.1.length) h1 (fun i=>(!inB (w.2.2.1.getD i 0) 0 500||!inB (w.2.1.getD i 0) 0 1000)||treeBad w i) (some false) (e:=u44J0 w ()) (F:=u44L1 w) (fun g i hi=>by
   have e3:((i:Int)).toNat=i:=rfl;have e0:((i:Int)==0)=(i==0):=by rw[Bool.eq_iff_iff,beq_iff_eq,beq_iff_eq]; omega
   have e2:decide ((0:Int) < (i:Int))=decide (0<i):=by rw[decide_eq_decide]; omega
   refine(if_pos (by simpa using hi)).trans ?_;rw[e3,e0,e2,r77,r77,r77]
   repeat rw[vS]
   rw[gP ⟨oo,rfl,fun _=>oo,fun _=>rfl,trivial⟩,gP ⟨fun _=>oo,fun _=>oo,fun _=>oo,fun _=>oo,fun _=>rfl,trivial⟩,gP ⟨oo,trivial⟩]
   grind) (fun g=>aE)
  refine k1.trans ?_;rw[any_or,any_or];have a1:=any_getD w.2.2.1 0 (fun x=>!inB x 0 500);have a2:=any_getD w.2.1 0 (fun x=>!inB x 0 1000);rw[g4] at a1;rw[g3] at a2;rw[a1,a2];unfold u44J0;rw[k3];unfold wireB;rw[decide_eq_true g1,decide_eq_true g2,decide_eq_true g3,decide_eq_true g4,beq_iff_eq.2 g5,<- all_any,<- all_any,<- all_any];cases(List.range w.1.length).any (treeBad w) <;> cases w.2.1.any (fun x=>!inB x 0 1000) <;> cases w.2.2.1.any (fun x=>!inB x 0 500) <;> cases w.2.2.2.any (fun x=>!inB x 0 ((w.1.length:Int)-1)) <;> rfl
 grind[decide,trans,wireB]
theorem r52(d:Y41)(hd:wf y41 d)(h14:d.1.length<=14)(h8:d.2.2.length<=8)(h5:∀i,i<d.1.length->1<=(insOf d i).2.2.length/\(insOf d i).2.2.length<=5):u52 d=some (placesN d.1.length d.2.2.length (insOf d) (prtOf d)):=by
 have hi0:=hd.1.1;have hp0:=hd.2.2.1;unfold u52;have k5:∀s:List Y102,s.length<=70->u52J0 d s=some (fN (portP (prtOf d)) d.2.2.length s):=fun s0 hs=>by
  rw[u52J0];exact lF (n:=d.2.2.length) hp0 (fun i (s:List Y102)=>((i:Int),s)) (portP (prtOf d)) (fun i s=>s.length=s0.length+i) (J:=fun s=>some s) (F:=u52L5 d) (fun g i s hi hI=>by
   have e3:((i:Int)).toNat=i:=rfl;refine(if_pos (by grind)).trans ?_;rw[e3,gP ⟨oo,trivial⟩,lE,gP ⟨⟨by grind,by grind⟩,trivial⟩,gP ⟨oo,trivial⟩];rfl) (fun i s hi hI=>by grind[portP,List.length_append]) (fun g s _=>aE) s0 rfl
 have key:=lF (n:=d.1.length) hi0 (fun i (s:List Y102)=>(s,(i:Int))) (placesF (insOf d)) (fun i s=>s.length<=5*i) (J:=u52J0 d) (F:=u52L1 d) (fun g i s hi hI=>by
  have e3:((i:Int)).toNat=i:=rfl;have hx:=(h5 i hi).2;have hn:(insOf d i).2.2.length<=9223372036854775807:=by omega
  refine(if_pos (by grind)).trans ?_;rw[e3,gP ⟨oo,trivial⟩,lE];have inner:=lF (n:=(insOf d i).2.2.length) hn (fun k (s:List Y102)=>((k:Int),s)) (instP (insOf d i) i) (fun k z=>z.length=s.length+k) (J:=u52J2 (i:Int) g) (F:=u52L3 (i:Int) (insOf d i) g) (fun g3 k z hk hz=>by
   have e4:((k:Int)).toNat=k:=rfl;refine(if_pos (by grind)).trans ?_;rw[e4,gP ⟨oo,trivial⟩,gP ⟨oo,⟨by grind,by grind⟩,trivial⟩,lE];exact gP ⟨oo,trivial⟩) (fun k z hk hz=>by grind[instP,List.length_append]) (fun g3 z _=>aE) s rfl
  refine inner.trans ?_;exact gP ⟨oo,trivial⟩) (fun i s hi hI=>by
  grind[placesF,instP_len]) (fun g s _=>aE) [] (Nat.zero_le _)
 refine key.trans (k5 _ ?_);have:=placesF_len (x:=insOf d) (ni:=d.1.length) (fun i hi=>(h5 i hi).2) d.1.length (Nat.le_refl _);omega
theorem r30(d:Y41)(hd:wf y41 d)(h14:d.1.length<=14)(h8:d.2.2.length<=8)(h5:∀i,i<d.1.length->1<=(insOf d i).2.2.length/\(insOf d i).2.2.length<=5):u30 d=some (placesN d.1.length d.2.2.length (insOf d) (prtOf d)):=by
 have hi0:=hd.1.1;have hp0:=hd.2.2.1;unfold u30;have k5:∀s:List Y78,s.length<=70->u30J0 d s=some (fN (portP (prtOf d)) d.2.2.length s):=fun s0 hs=>by
  rw[u30J0];exact lF (n:=d.2.2.length) hp0 (fun i (s:List Y78)=>((i:Int),s)) (portP (prtOf d)) (fun i s=>s.length=s0.length+i) (J:=fun s=>some s) (F:=u30L5 d) (fun g i s hi hI=>by
   have e3:((i:Int)).toNat=i:=rfl;refine(if_pos (by grind)).trans ?_;rw[e3,gP ⟨oo,oo,⟨by grind,by grind⟩,trivial⟩,lE];exact gP ⟨oo,trivial⟩) (fun i s hi hI=>by grind[portP,List.length_append]) (fun g s _=>aE) s0 rfl
 have key:=lF (n:=d.1.length) hi0 (fun i (s:List Y78)=>((i:Int),s)) (placesF (insOf d)) (fun i s=>s.length<=5*i) (J:=u30J0 d) (F:=u30L1 d) (fun g i s hi hI=>by
  have e3:((i:Int)).toNat=i:=rfl;have hx:=(h5 i hi).2;have hn:(insOf d i).2.2.length<=9223372036854775807:=by omega
  refine(if_pos (by grind)).trans ?_;rw[e3,gP ⟨oo,trivial⟩,lE];have inner:=lF (n:=(insOf d i).2.2.length) hn (fun k (s:List Y78)=>((k:Int),s)) (instP (insOf d i) i) (fun k z=>z.length=s.length+k) (J:=u30J2 (i:Int) g) (F:=u30L3 (i:Int) (insOf d i) g) (fun g3 k z hk hz=>by
   have e4:((k:Int)).toNat=k:=rfl;refine(if_pos (by grind)).trans ?_;rw[e4,gP ⟨oo,oo,⟨by grind,by grind⟩,trivial⟩,lE];exact gP ⟨oo,trivial⟩) (fun k z hk hz=>by grind[instP,List.length_append]) (fun g3 z _=>aE) s rfl
  refine inner.trans ?_;exact gP ⟨oo,trivial⟩) (fun i s hi hI=>by
  grind[placesF,instP_len]) (fun g s _=>aE) [] (Nat.zero_le _)
 refine key.trans (k5 _ ?_);have:=placesF_len (x:=insOf d) (ni:=d.1.length) (fun i hi=>(h5 i hi).2) d.1.length (Nat.le_refl _);omega
abbrev plcs(d:Y41):List DPlace:=placesN d.1.length d.2.2.length (insOf d) (prtOf d)
abbrev plcOf(d:Y41)(i:Nat):DPlace:=(plcs d).getD i (dflt y102)
abbrev wirOf(b:Y44)(i:Nat):Y55:=b.2.2.getD i (dflt y55)
def blockOk(b:Y44):Bool:=designOk b.1 b.2.1&&decide (b.2.2.length=b.2.1.2.1.length)&&!(List.range b.2.2.length).any fun i=>!wireB (wirOf b i) (cntP (plcOf b.2.1) i (plcs b.2.1).length)
structure DF(l:List Y82)(d:Y41):Prop where
 lib:libOk l=true
 fac:DesignFacts l.length (pinsAt l) d.1.length d.2.2.length d.2.1.length (insOf d) (prtOf d)
 pin:∀i,i<d.1.length->1<=(insOf d i).2.2.length/\(insOf d i).2.2.length<=5
 plc:netsIn d.2.1.length (plcs d)
 len:(plcs d).length<=78
theorem df_of{l:List Y82}{d:Y41}(h:designOk l d=true):DF l d:=by
 obtain⟨h1,h2⟩:=design_facts h;have hp:∀i,i<d.1.length->1<=(insOf d i).2.2.length/\(insOf d i).2.2.length<=5:=fun i hi=>by
  have hin:=h2.inst i hi;have g1:=(inst_nets hin (fun y hy=>(lib_pins h1 hy).1)).1;unfold instB at hin;simp only[ba,beq_iff_eq] at hin
  grind[lib_pins]
 have hn:=h2.net;refine⟨h1,h2,hp,portP_in hn.2 (placesF_in hn.1 d.1.length (Nat.le_refl _)) d.2.2.length (Nat.le_refl _),?_⟩;have:=placesF_len (x:=insOf d) (ni:=d.1.length) (fun i hi=>(hp i hi).2) d.1.length (Nat.le_refl _);have h14:=h2.ni14;have h8:=h2.np8;unfold plcs placesN
 grind[portP_len]
theorem r23(b:Y44)(hw:wf y44 b)(hm:cnt y44 b<=1048576):u23 b=some (blockOk b):=by
 have hl:=hw.1;have hd:=hw.2.1;have h0:=hw.2.2.1;have mw:b.2.2.length<=1048576:=cnt_len (cS (cS hm));unfold u23 blockOk;rw[r51 b.1 b.2.1 hl hd (cF hm) (cF (cS hm)),vS,gP ⟨rfl,trivial⟩];cases hdo:designOk b.1 b.2.1 with
 | false=>grind
 | true =>
   have df:=df_of hdo;by_cases hlen:b.2.2.length=b.2.1.2.1.length
   ·have e0:((b.2.2.length:Int) != (b.2.1.2.1.length:Int))=false:=by rw[hlen]; simp
    rw[e0,decide_eq_true hlen];refine(if_neg (by simp)).trans ?_;rw[gP (rep_ok mw (by decide)),Int.toNat_natCast,r52 b.2.1 hd df.fac.ni14 df.fac.np8 df.pin,vS,gP ⟨rfl,trivial⟩,lE];have hpl:(plcs b.2.1).length<=9223372036854775807:=by have:=df.len; omega
    have hin:∀i,i < (plcs b.2.1).length->inB (plcOf b.2.1 i).2.2.1 0 ((b.2.2.length:Int)-1)=true:=fun i hi=>by
     rw[hlen]; exact df.plc _ (getD_mem hi)
    have key:=lF (n:=(plcs b.2.1).length) hpl (fun i (v:List Int)=>((i:Int),v)) (sinkF (plcOf b.2.1)) (fun i v=>i<=(plcs b.2.1).length/\lowAt v b.2.2.length i) (J:=u23J0 b) (F:=u23L1 (plcs b.2.1) b) (fun g i v hi hI=>by
     have e3:((i:Int)).toNat=i:=rfl;have j2:∀v',u23J2 (i:Int) g v'=g (((i+1:Nat):Int),v'):=fun v'=>gP ⟨oo,trivial⟩;refine(if_pos (by grind)).trans ?_;rw[e3,gP ⟨oo,hi,trivial⟩,lE,j2];show(if(!(plcOf b.2.1 i).2.2.2)=true then _ else _)=g (_,sinkF (plcOf b.2.1) i v);unfold sinkF;cases hdr:(plcOf b.2.1 i).2.2.2 with
     | true=>rfl
     | false =>
       refine(if_pos rfl).trans ?_;refine(gP (inc_ok hI.2 (by have:=df.len; omega) (hin i hi))).trans ?_;rw[lE];exact j2 _) (fun i v hi hI=>⟨by omega,by
     grind[sinkF,lowAt_inc,lowAt_up]⟩) (fun g v _=>aE) (List.replicate b.2.2.length 0) ⟨by omega,lowAt_rep _ _⟩
    refine key.trans ?_;obtain⟨s1,s2⟩:=sink_fold (plcOf b.2.1) b.2.2.length (plcs b.2.1).length hin;generalize fN (sinkF (plcOf b.2.1)) (plcs b.2.1).length (List.replicate b.2.2.length 0)=v at *
    rw[u23J0];have key2:=lp_all (n:=b.2.2.length) h0 (fun i=>!wireB (wirOf b i) (cntP (plcOf b.2.1) i (plcs b.2.1).length)) (some false) (e:=some true) (F:=u23L4 v b) (fun g i hi=>by
     have e3:((i:Int)).toNat=i:=rfl;refine(if_pos (by grind)).trans ?_;rw[e3,gP ⟨oo,trivial⟩,lE,s2 i hi,r53 _ _ (wf_el hi hw.2.2),vS,gP ⟨oo,by omega,rfl,trivial⟩,gP ⟨oo,trivial⟩]) (fun g=>aE)
    grind
   grind
theorem r45(d:Y41)(hd:wf y41 d){l:List Y82}(df:DF l d)(t:Int):u45 d t=some (fN (sinkL (plcOf d) t) (plcs d).length []):=by
 have hl:=df.len;unfold u45;rw[r30 d hd df.fac.ni14 df.fac.np8 df.pin,vS,gP ⟨rfl,trivial⟩,lE];exact lF (n:=(plcs d).length) (by omega) (fun i (s:List Int)=>((i:Int),s)) (sinkL (plcOf d) t) (fun i s=>s.length<=i) (J:=fun s=>some s) (F:=u45L1 (plcs d) t) (fun g i s hi hI=>by
  have e3:((i:Int)).toNat=i:=rfl;have j2:∀s',u45J2 (i:Int) g s'=g (((i+1:Nat):Int),s'):=fun v'=>gP ⟨oo,trivial⟩;refine(if_pos (by grind)).trans ?_;have hI':s.length<=i:=hI;rw[e3,gP ⟨oo,hi,fun _=>oo,fun _=>hi,trivial⟩,gP ⟨⟨by grind,by grind⟩,trivial⟩,j2,j2];show _=g (_,sinkL (plcOf d) t i s);unfold sinkL
  grind) (fun i s hi hI=>by
  grind[sinkL,List.length_append]) (fun g s _=>aE) [] (Nat.le_refl _)
theorem r18(b:Y44)(hw:wf y44 b)(hm:cnt y44 b<=1048576):u18 b=some (blockOk b):=by
 have hl:=hw.1;have hd:=hw.2.1;have h0:=hw.2.2.1;unfold u18 blockOk;rw[r43 b.1 b.2.1 hl hd (cF (cS hm)),vS,gP ⟨rfl,trivial⟩];cases hdo:designOk b.1 b.2.1 with
 | false=>grind
 | true =>
   have df:=df_of hdo;by_cases hlen:b.2.2.length=b.2.1.2.1.length
   ·have e0:((b.2.2.length:Int) != (b.2.1.2.1.length:Int))=false:=by rw[hlen]; simp
    rw[e0,decide_eq_true hlen];refine(if_neg (by simp)).trans ?_;have key2:=lp_all (n:=b.2.2.length) h0 (fun i=>!wireB (wirOf b i) (cntP (plcOf b.2.1) i (plcs b.2.1).length)) (some false) (e:=some true) (F:=u18L1 b) (fun g i hi=>by
     have e3:((i:Int)).toNat=i:=rfl;refine(if_pos (by grind)).trans ?_;rw[e3,r45 b.2.1 hd df,vS,sinkL_len,r44 _ _ (wf_el hi hw.2.2),gP ⟨oo,rfl,rfl,trivial⟩,lE,sinkL_len,r44 _ _ (wf_el hi hw.2.2),vS,gP ⟨oo,trivial⟩]) (fun g=>aE)
    grind
   grind
theorem block_design{b:Y44}(h:blockOk b=true):designOk b.1 b.2.1=true/\b.2.2.length=b.2.1.2.1.length/\∀i,i<b.2.2.length->wireB (wirOf b i) (cntP (plcOf b.2.1) i (plcs b.2.1).length)=true:=by
 grind[blockOk,hi]
abbrev cma:ByteArray:=ByteArray.mk #[44]
abbrev bar:ByteArray:=ByteArray.mk #[124]
theorem joinS_snoc(l:List ByteArray)(x sep:ByteArray):joinS (l++[x]) sep=if l.length=0 then x else joinS l sep++sep++x:=by
 unfold joinS;rw[List.map_append,List.map_singleton,join_snoc,List.length_map];split
 ·exact ba_bs x
 ·rw[<- ba_app,<- ba_app,ba_bs,ba_bs]
theorem joinS_four(a b c d sep:ByteArray):joinS [a,b,c,d] sep=a++sep++b++sep++c++sep++d:=by
 rw[show [a,b,c,d]=([a,b,c]:List ByteArray)++[d] from rfl,joinS_snoc,if_neg (by simp),show [a,b,c]=([a,b]:List ByteArray)++[c] from rfl,joinS_snoc,if_neg (by simp),show [a,b]=([a]:List ByteArray)++[b] from rfl,joinS_snoc,if_neg (by simp),joinS_one]
theorem map_range_getD{α β:Type}(f:α->β)(d:α)(xs:List α):((List.range xs.length).map fun i=>f (xs.getD i d))=xs.map f:=by
 refine List.ext_getElem (by simp) fun i h1 h2=>?_;have hi:i<xs.length:=by simpa using h2
 simp[gq,List.getElem?_eq_getElem hi]
theorem numS_size{n:Int}(h:InI n):(numS n).size<=21:=by
 show(⟨(Lib.itoa n).toArray⟩:ByteArray).size<=21;rw[ba_size];exact itoa_len h
theorem r69(n:Int):u69 n=some (numS n):=by
 have e:u106 n 10=some (numS n):=if_pos rfl;unfold u69;rw[e,vS,gP ⟨rfl,trivial⟩];rfl
theorem r33{n:Int}(h : -1<=n):u33 n=some (numS n):=if_pos (by omega)
theorem r93(xs:List ByteArray)(sep:ByteArray)(h1:xs.length<=1000000)(h2:(joinS xs sep).size<=1000000000):u93 xs sep=some (joinS xs sep):=by
 refine if_pos ⟨by omega,?_⟩;have e:(joinS xs sep).size=(Lib.join (xs.map (·.data.toList)) sep.data.toList).length:=by
  show(⟨(Lib.join (xs.map bs) (bs sep)).toArray⟩:ByteArray).size=_;rw[ba_size]; rfl
 omega
def numL(xs:List Int):ByteArray:=joinS (xs.map numS) cma
theorem numL_size{xs:List Int}(hI:∀x∈xs,InI x):(numL xs).size<=xs.length*22:=by
 have:=joinS_len (l:=xs.map numS) (sep:=cma) (M:=22) (fun y hy=>by
  obtain⟨x,hx,rfl⟩:=List.mem_map.1 hy;have:=numS_size (hI x hx);have e:cma.size=1:=rfl;omega)
 rwa [List.length_map] at this
theorem r94(xs:List Int)(hl:xs.length<=1000)(hI:∀x∈xs,InI x):u94 xs cma=some (numL xs):=by
 unfold u94;rw[gP ⟨⟨by omega,rfl,by omega,by omega⟩,trivial⟩,Int.toNat_natCast];have key:=lp_fill (n:=xs.length) (by omega) (fun i (s:List ByteArray)=>((i:Int),s)) (ByteArray.mk #[]) (fun i=>numS (xs.getD i 0)) (J:=u94J0 cma) (F:=u94L1 xs cma) (fun g i s hi hs=>by
  have hsl:s.length=xs.length:=by rw[hs]; exact fillN_len _ _ (by omega)
  refine(if_pos (by simpa using hi)).trans ?_;have e3:((i:Int)).toNat=i:=rfl;rw[e3,r69,vS];refine(gP ⟨oo,trivial⟩).trans ?_;refine(gP ⟨rfl,oo,by omega,trivial⟩).trans ?_;rw[lE];exact gP ⟨oo,trivial⟩) (fun g s _=>if_neg (by simp))
 refine key.trans ?_;rw[map_range_getD numS 0 xs];have hz:=numL_size hI;have e:=r93 (xs.map numS) cma (by rw[List.length_map]; omega) (by unfold numL at hz; omega);show gd _ _=_;rw[e,vS];exact gP ⟨rfl,trivial⟩
theorem cat_numL(xs:List Int):∀n,n<=xs.length->catN (ByteArray.mk #[]) (fun i=>if i=0 then numS (xs.getD i 0) else cma++numS (xs.getD i 0)) n=numL (xs.take n)
 | 0,_=>rfl
 | n+1,h=>by
   have hn:n<xs.length:=by omega
   have hg:xs.getD n 0=xs[n]:=by rw[gq,List.getElem?_eq_getElem hn]; rfl
   rw[catN,cat_numL xs n (by omega),List.take_succ_eq_append_getElem hn];unfold numL;rw[List.map_append,List.map_singleton,joinS_snoc,List.length_map,List.length_take,hg];by_cases h0:n=0
   ·subst h0; rfl
   ·rw[if_neg h0,if_neg (by omega),ByteArray.append_assoc]
theorem r64(xs:List Int)(hl:xs.length<=1000)(hI:∀x∈xs,InI x)(h0:∀x∈xs,-1<=x):u64 xs=some (numL xs):=by
 unfold u64;have hp:∀i,i<xs.length->((fun i=>if i=0 then numS (xs.getD i 0) else cma++numS (xs.getD i 0)) i).size<=22:=fun i hi=>by
  have hz:=numS_size (hI (xs.getD i 0) (getD_mem hi));have e:cma.size=1:=rfl;dsimp only;split
  ·omega
  ·rw[ByteArray.size_append]; omega
 have key:=lp_cat (n:=xs.length) (by omega) (fun i (s:ByteArray)=>(s,(i:Int))) (fun i=>if i=0 then numS (xs.getD i 0) else cma++numS (xs.getD i 0)) (ByteArray.mk #[]) (J:=u64J0) (F:=u64L1 xs) (fun g i s hi hs=>by
  have hsz:s.size<=0+i*22:=by rw[hs]; exact catN_size i fun j hj=>hp j (by omega)
  have hx:=h0 (xs.getD i 0) (getD_mem hi);have hz:=numS_size (hI (xs.getD i 0) (getD_mem hi));have e3:((i:Int)).toNat=i:=rfl;have j2:∀s':ByteArray,s'.size<=100000->u64J2 (i:Int) xs g s'=g (s'++numS (xs.getD i 0),((i+1:Nat):Int)):=fun s' hs'=>by
   show gd _ _=_;rw[e3,r33 hx,vS];refine(gP ⟨oo,rfl,by omega,trivial⟩).trans ?_;rw[lE];exact gP ⟨oo,trivial⟩
  refine(if_pos (by simpa using hi)).trans ?_;have ec:(ByteArray.mk #[44]).size=1:=rfl;by_cases hi0:i=0
  ·refine(if_neg (by simp; omega)).trans ?_;rw[j2 s (by omega),if_pos hi0]
  ·refine(if_pos (by simp; omega)).trans ?_;refine(gP ⟨by omega,trivial⟩).trans ?_;rw[j2 _ (by rw[ByteArray.size_append]; omega),if_neg hi0,ByteArray.append_assoc]) (fun g s _=>if_neg (by simp))
 refine key.trans ?_;rw[cat_numL xs _ (Nat.le_refl _),List.take_length];rfl
def wireT(w:Y55):ByteArray:=joinS [numL w.1,numL w.2.1,numL w.2.2.1,numL w.2.2.2] bar
structure WSmall(w:Y55):Prop where
 l1:w.1.length<=1000
 l2:w.2.1.length<=1000
 l3:w.2.2.1.length<=1000
 l4:w.2.2.2.length<=1000
 g1:∀x∈w.1,InI x /\ -1<=x
 g2:∀x∈w.2.1,InI x /\ -1<=x
 g3:∀x∈w.2.2.1,InI x /\ -1<=x
 g4:∀x∈w.2.2.2,InI x /\ -1<=x
theorem all_lo{xs:List Int}{lo hi:Int}(h:xs.all (inB · lo hi)=true)(h0:0<=lo)(h1:hi<=100000):∀x∈xs,InI x /\ -1<=x:=fun x hx=>by
 have:=inB_iff.1 (List.all_eq_true.1 h x hx);exact⟨oo,by omega⟩
theorem wire_small{w:Y55}{n:Int}(hn:n<=1000)(h:wireB w n=true):WSmall w:=by
 unfold wireB at h;simp only[ba,dq,beq_iff_eq] at h;obtain⟨⟨⟨⟨⟨⟨⟨⟨h1,h2⟩,h3⟩,h4⟩,h5⟩,h6⟩,h7⟩,h8⟩,h9⟩:=h;refine⟨by omega,by omega,by omega,by omega,fun x hx=>?_,all_lo h6 (by omega) (by omega),all_lo h7 (by omega) (by omega),all_lo h8 (by omega) (by omega)⟩;obtain⟨i,hi,rfl⟩:=List.getElem_of_mem hx;have hg:w.1.getD i 0=w.1[i]:=by rw[gq,List.getElem?_eq_getElem hi]; rfl
 have h10:=not_any.1 h9 i hi;rw[hg] at h10;by_cases h0:i=0
 ·subst h0;simp at h10;exact⟨oo,by omega⟩
 ·have:inB w.1[i] 0 ((i:Int)-1)=true:=by
   have e1:decide (0<i)=true:=by simp; omega
   have e2:(i==0)=false:=by simp[h0]
   rw[e1,e2] at h10;simpa using h10
  have:=inB_iff.1 this;exact⟨oo,by omega⟩
theorem wireT_size{w:Y55}(h:WSmall w):(wireT w).size<=90000:=by
 have a1:=numL_size fun x hx=>(h.g1 x hx).1;have a2:=numL_size fun x hx=>(h.g2 x hx).1;have a3:=numL_size fun x hx=>(h.g3 x hx).1;have a4:=numL_size fun x hx=>(h.g4 x hx).1;have e:bar.size=1:=rfl;obtain⟨l1,l2,l3,l4,-,-,-,-⟩:=h;unfold wireT;rw[joinS_four];simp only[ByteArray.size_append];omega
theorem r55(w:Y55)(h:WSmall w):u55 w=some (wireT w):=by
 have hz:=wireT_size h;have e:=r93 [numL w.1,numL w.2.1,numL w.2.2.1,numL w.2.2.2] bar (by simp) (by unfold wireT at hz; omega);unfold u55;rw[r94 w.1 h.l1 fun x hx=>(h.g1 x hx).1,r94 w.2.1 h.l2 fun x hx=>(h.g2 x hx).1,r94 w.2.2.1 h.l3 fun x hx=>(h.g3 x hx).1,r94 w.2.2.2 h.l4 fun x hx=>(h.g4 x hx).1]
 repeat rw[vS]
 rw[e,vS];exact gP ⟨rfl,rfl,rfl,rfl,rfl,trivial⟩
theorem r34(w:Y55)(n:Int)(hw:wf y55 w)(hn:n<=1000)(hb:wireB w n=true):u34 w n=some (wireT w):=by
 have h:=wire_small hn hb;have a1:=numL_size fun x hx=>(h.g1 x hx).1;have a2:=numL_size fun x hx=>(h.g2 x hx).1;have a3:=numL_size fun x hx=>(h.g3 x hx).1;have a4:=numL_size fun x hx=>(h.g4 x hx).1;have e:(ByteArray.mk #[124]).size=1:=rfl;have l1:=h.l1;have l2:=h.l2;have l3:=h.l3;have l4:=h.l4;unfold u34;rw[r44 w n hw,vS,hb];refine(gP ⟨rfl,trivial⟩).trans ?_;refine(if_neg (by simp)).trans ?_;rw[r64 w.1 h.l1 (fun x hx=>(h.g1 x hx).1) (fun x hx=>(h.g1 x hx).2),r64 w.2.1 h.l2 (fun x hx=>(h.g2 x hx).1) (fun x hx=>(h.g2 x hx).2),r64 w.2.2.1 h.l3 (fun x hx=>(h.g3 x hx).1) (fun x hx=>(h.g3 x hx).2),r64 w.2.2.2 h.l4 (fun x hx=>(h.g4 x hx).1) (fun x hx=>(h.g4 x hx).2)]
 repeat rw[vS]
 refine(gP ⟨rfl,?_,rfl,?_,?_,rfl,?_,?_,rfl,?_,trivial⟩).trans ?_
 ·rw[lE];unfold wireT;rw[joinS_four]
 ·omega
 ·simp only[ByteArray.size_append]; omega
 ·simp only[ByteArray.size_append]; omega
 ·simp only[ByteArray.size_append]; omega
 ·simp only[ByteArray.size_append]; omega
 ·simp only[ByteArray.size_append]; omega
end Go.Proofs.YtekfdfcnjlfgiaaGreatDoor
end
section
namespace Go.Proofs.Xd
open Go Go.Proofs Go.Proofs.Xl
def addAt(v:List Int)(i:Nat)(x:Int):List Int:=v.set i (v.getD i 0+x)
theorem addAt_len{v:List Int}{i:Nat}{x:Int}:(addAt v i x).length=v.length:=by grind[addAt]
theorem addAt_get{v:List Int}{i j:Nat}{x:Int}(hi:i<v.length):(addAt v i x).getD j 0=if j=i then v.getD i 0+x else v.getD j 0:=by
 grind[addAt]
def sumTo(v:List Int)(k:Nat):Int:=fN (fun i s=>s+v.getD i 0) k 0
theorem sumTo_succ(v:List Int)(k:Nat):sumTo v (k+1)=sumTo v k+v.getD k 0:=rfl
theorem sumTo_addAt{v:List Int}{i:Nat}{x:Int}(hi:i<v.length):∀k,sumTo (addAt v i x) k=sumTo v k+if i<k then x else 0
 | 0=>by simp[sumTo,fN]
 | k+1=>by
   rw[sumTo_succ,sumTo_succ,sumTo_addAt hi k,addAt_get hi];by_cases h:k=i
   ·subst h; simp; omega
   ·rw[if_neg h];by_cases h2:i<k
    ·rw[if_pos h2,if_pos (by omega)]; omega
    ·rw[if_neg h2,if_neg (by omega)]; omega
theorem sumTo_pos{v:List Int}(hp:∀j,0<=v.getD j 0):∀k,0<=sumTo v k
 | 0=>by simp[sumTo,fN]
 | k+1=>by have:=sumTo_pos hp k; grind[sumTo_succ]
theorem le_sumTo{v:List Int}(hp:∀j,0<=v.getD j 0):∀{k j:Nat},j<k->v.getD j 0<=sumTo v k
 | k+1,j,h=>by
   rw[sumTo_succ];have h1:=sumTo_pos hp k;have h2:=hp k;by_cases e:j=k
   ·grind
   ·have:=le_sumTo hp (k:=k) (j:=j) (by omega); omega
structure Low(v:List Int)(n:Nat)(S:Int):Prop where
 len:v.length=n
 pos:∀j,0<=v.getD j 0
 sum:sumTo v n<=S
theorem sumTo_bd{v:List Int}{c:Int}(hp:∀j,v.getD j 0<=c):∀k:Nat,sumTo v k<=c*(k:Int)
 | 0=>by simp[sumTo,fN]
 | k+1=>by
   have:=sumTo_bd hp k
   grind[sumTo_succ,Int.natCast_add,Int.mul_add]
theorem low_all{v:List Int}{n:Nat}(hn:v.length=n)(h:v.all (inB · 0 500)=true):Low v n (500*(n:Int)):=by
 have hj:∀j,0<=v.getD j 0/\v.getD j 0<=500:=fun j=>by
  grind[Nat.lt_or_ge,inB_iff,all_getD,inB,List.getElem?_eq_none]
 exact⟨hn,fun j=>(hj j).1,sumTo_bd (fun j=>(hj j).2) n⟩
theorem Low.bd{v:List Int}{n:Nat}{S:Int}(h:Low v n S)(hS:0<=S)(j:Nat):0<=v.getD j 0/\v.getD j 0<=S:=by
 refine⟨h.pos j,?_⟩;rcases Nat.lt_or_ge j n with hj | hj
 ·exact Int.le_trans (le_sumTo h.pos hj) h.sum
 ·rw[gq,List.getElem?_eq_none (by rw[h.len]; exact hj)]; exact hS
theorem Low.add{v:List Int}{n:Nat}{S:Int}(h:Low v n S){i:Nat}(hi:i<n){x:Int}(hx:0<=x):Low (addAt v i x) n (S+x):=by
 have hi':i<v.length:=by rw[h.len]; exact hi
 refine⟨by rw[addAt_len]; exact h.len,fun j=>?_,?_⟩
 ·rw[addAt_get hi'];have:=h.pos i;have:=h.pos j;omega
 ·rw[sumTo_addAt hi',if_pos hi]; have:=h.sum; omega
def capF(s c:Nat->Int)(i:Nat)(v:List Int):List Int:=addAt v (s i).toNat (c i)
theorem capF_low{s c:Nat->Int}{v:List Int}{n:Nat}{S:Int}(h:Low v n S):∀m,(∀i,i<m->0<=s i/\(s i).toNat<n/\0<=c i/\c i<=500)->Low (fN (capF s c) m v) n (S+500*(m:Int))
 | 0,_=>⟨h.len,h.pos,by have:=h.sum; show sumTo v n<=_; omega⟩
 | m+1,hm=>by
   have ih:=capF_low h m (fun i hi=>hm i (by omega));obtain⟨h1,h2,h3,h4⟩:=hm m (by omega);have:=ih.add h2 h3;refine⟨this.len,this.pos,?_⟩;have:=this.sum;rw[Int.natCast_add,Int.mul_add];refine Int.le_trans this ?_;omega
structure Pull(v:List Int)(n k:Nat)(S:Int):Prop where
 len:v.length=n
 pos:∀j,0<=v.getD j 0
 bd:∀j,v.getD j 0<=S
 sum:sumTo v (n-k)<=S
def plcIn(ni np:Nat)(x:Nat->DInst)(p:DPlace):Prop:=(p.1 = -1/\0<=p.2.1/\p.2.1.toNat<np)∨(0<=p.1/\p.1.toNat<ni/\0<=p.2.1/\p.2.1.toNat < (x p.1.toNat).2.2.length)
theorem instP_kind{ni np:Nat}{x:Nat->DInst}{i:Nat}(hi:i<ni){s:List DPlace}(hs:∀p∈s,plcIn ni np x p):∀k,k<=(x i).2.2.length->∀p∈fN (instP (x i) i) k s,plcIn ni np x p
 | 0,_=>hs
 | k+1,hk=>fun p hp=>by
   have hp:p∈instP (x i) i k (fN (instP (x i) i) k s):=hp;unfold instP at hp;rcases List.mem_append.1 hp with hp | hp
   ·exact instP_kind hi hs k (by omega) p hp
   ·cases List.mem_singleton.1 hp;exact .inr ⟨Int.natCast_nonneg _,by omega,Int.natCast_nonneg _,by grind⟩
theorem placesF_kind{ni np:Nat}{x:Nat->DInst}:∀i,i<=ni->∀p∈fN (placesF x) i [],plcIn ni np x p
 | 0,_=>fun p hp=>by cases hp
 | i+1,hi=>instP_kind (by omega) (placesF_kind i (by omega)) _ (Nat.le_refl _)
theorem portP_kind{ni np:Nat}{x:Nat->DInst}{y:Nat->DPort}{s:List DPlace}(hs:∀p∈s,plcIn ni np x p):∀k,k<=np->∀p∈fN (portP y) k s,plcIn ni np x p
 | 0,_=>hs
 | k+1,hk=>fun p hp=>by
   have hp:p∈portP y k (fN (portP y) k s):=hp;unfold portP at hp;rcases List.mem_append.1 hp with hp | hp
   ·exact portP_kind hs k (by omega) p hp
   ·cases List.mem_singleton.1 hp;exact .inl ⟨rfl,Int.natCast_nonneg _,by grind⟩
theorem places_kind(ni np:Nat)(x:Nat->DInst)(y:Nat->DPort):∀p∈placesN ni np x y,plcIn ni np x p:=portP_kind (placesF_kind ni (Nat.le_refl _)) np (Nat.le_refl _)
theorem sinkL_in(pl:Nat->DPlace)(t:Int):∀m,∀x∈fN (sinkL pl t) m [],∃j:Nat,x=(j:Int)/\j<m/\(pl j).2.2.1=t/\(pl j).2.2.2=false
 | 0,x,h=>by cases h
 | m+1,x,h=>by
   have ih:=sinkL_in pl t m x;have h:x∈sinkL pl t m (fN (sinkL pl t) m []):=h;generalize fN (sinkL pl t) m []=s at ih h;unfold sinkL at h;split at h
   ·rename_i hc;rw[ba,beq_iff_eq,Bool.not_eq_true'] at hc;rcases List.mem_append.1 h with h | h
    ·obtain⟨j,h1,h2,h3⟩:=ih h;exact⟨j,h1,by omega,h3⟩
    ·cases List.mem_singleton.1 h;exact⟨m,rfl,by omega,hc⟩
   ·obtain⟨j,h1,h2,h3⟩:=ih h;exact⟨j,h1,by omega,h3⟩
structure WireFacts(w:DWire)(n:Int):Prop where
 n1:1<=w.1.length
 n8:w.1.length<=8
 res:w.2.1.length=w.1.length
 cap:w.2.2.1.length=w.1.length
 snk:(w.2.2.2.length:Int)=n
 resIn:∀i,i<w.1.length->0<=w.2.1.getD i 0/\w.2.1.getD i 0<=1000
 capOk:w.2.2.1.all (inB · 0 500)=true
 snkIn:∀i,i<w.2.2.2.length->0<=w.2.2.2.getD i 0/\(w.2.2.2.getD i 0).toNat<w.1.length
 par:∀i,0<i->i<w.1.length->0<=w.1.getD i 0/\(w.1.getD i 0).toNat<i
theorem wire_facts{w:DWire}{n:Int}(h:wireB w n=true):WireFacts w n:=by
 unfold wireB at h;simp only[ba,dq,beq_iff_eq] at h;obtain⟨⟨⟨⟨⟨⟨⟨⟨c1,c2⟩,c3⟩,c4⟩,c5⟩,c6⟩,c7⟩,c8⟩,c9⟩:=h;refine⟨c1,c2,c3,c4,c5,fun i hi=>?_,c7,fun i hi=>?_,fun i h0 hi=>?_⟩
 ·exact inB_iff.1 (all_getD (p:=fun x=>inB x 0 1000) c6 (by omega))
 ·have:=inB_iff.1 (all_getD (p:=fun x=>inB x 0 ((w.1.length:Int)-1)) c8 hi);omega
 ·have:=not_any.1 c9 i hi;rw[Bool.or_eq_false_iff] at this;have h2:=this.2;rw[Bool.and_eq_false_iff,decide_eq_false_iff_not,Bool.not_eq_false',inB_iff] at h2;rcases h2 with h | h
  ·omega
  ·omega
end Go.Proofs.Xd
end
section
namespace Go.Proofs.YtekfdfcnjlfgiaaGreatDoor
open Go Go.Proofs Go.Proofs.Sv Go.Proofs.Xv Go.Proofs.Xl Go.Proofs.Xd
abbrev sinksV(d:Y41)(t:Int):List Int:=fN (sinkL (plcOf d) t) (plcs d).length []
def capV(l:List Y82)(d:Y41)(p:DPlace):Int:=if p.1<0 then 0 else((l.getD (insOf d p.1.toNat).2.1.toNat (dflt y82)).2.2.1.getD p.2.1.toNat (dflt y116)).2.2.1
theorem plc_mem{d:Y41}{i:Nat}(h:i < (plcs d).length):plcOf d i∈plcs d:=getD_mem h
theorem lib_cell'{l:List Y82}(h:libOk l=true){i:Nat}(hi:i<l.length):cellOk isArcS (celOf l i)=true:=by
 have h:libB _ _ _=true:=h;unfold libB at h;rw[ba] at h;have:=not_any.1 h.1 i hi;rw[Bool.or_eq_false_iff,Bool.not_eq_false'] at this;exact this.1
theorem plc_pin{l:List Y82}{d:Y41}(df:DF l d){p:DPlace}(hp:p∈plcs d):(p.1 = -1/\0<=p.2.1/\p.2.1.toNat<d.2.2.length) ∨
  (0<=p.1/\p.1.toNat<d.1.length/\0<=(insOf d p.1.toNat).2.1/\(insOf d p.1.toNat).2.1.toNat<l.length/\0<=p.2.1/\p.2.1.toNat < (l.getD (insOf d p.1.toNat).2.1.toNat (dflt y82)).2.2.1.length):=by
 rcases places_kind d.1.length d.2.2.length (insOf d) (prtOf d) p hp with h | ⟨h1,h2,h3,h4⟩
 ·exact .inl h
 ·have hin:=df.fac.inst p.1.toNat h2;unfold instB at hin;simp only[ba,beq_iff_eq] at hin;have h5:=inB_iff.1 hin.1.1;have h6:=hin.1.2;refine .inr ⟨h1,h2,h5.1,by omega,h3,?_⟩;have h6:((insOf d p.1.toNat).2.2.length:Int)=((l.getD (insOf d p.1.toNat).2.1.toNat (dflt y82)).2.2.1.length:Int):=h6;omega
theorem pin_cap{l:List Y82}{d:Y41}(df:DF l d){p:DPlace}(hp:p∈plcs d):0<=capV l d p/\capV l d p<=500:=by
 unfold capV;split
 ·exact⟨by decide,by decide⟩
 ·rename_i hn;rcases plc_pin df hp with h | ⟨h1,h2,h3,h4,h5,h6⟩
  ·omega
  ·have hc:cellB isArcS _ _ _ _ _ _ _ _ _=true:=lib_cell' df.lib h4;unfold cellB pinsOk at hc;simp only[ba] at hc;have:=not_any.1 hc.1.1.1.1.2.2 p.2.1.toNat h6;rw[Bool.not_eq_false'] at this;unfold pinB at this;rw[ba] at this;exact inB_iff.1 this.1
theorem sinksV_at{d:Y41}{t:Int}{k:Nat}(h:k < (sinksV d t).length):0<=(sinksV d t).getD k 0/\((sinksV d t).getD k 0).toNat < (plcs d).length:=by
 obtain⟨j,h1,h2,_⟩:=sinkL_in (plcOf d) t (plcs d).length _ (getD_mem (d:=0) h);rw[h1];exact⟨Int.natCast_nonneg _,by simpa using h2⟩
structure NetOk(b:Y44)(i:Nat):Prop where
 df:DF b.1 b.2.1
 lt:i<b.2.2.length
 wf:WireFacts (wirOf b i) ((sinksV b.2.1 i).length:Int)
theorem net_ok{b:Y44}(h:blockOk b=true){i:Nat}(hi:i<b.2.2.length):NetOk b i:=by
 obtain⟨h1,h2,h3⟩:=block_design h;refine⟨df_of h1,hi,?_⟩;rw[sinkL_len];exact wire_facts (h3 i hi)
def nodeS(b:Y44)(i k:Nat):Int:=(wirOf b i).2.2.2.getD k 0
def capS(b:Y44)(i k:Nat):Int:=capV b.1 b.2.1 (plcOf b.2.1 ((sinksV b.2.1 i).getD k 0).toNat)
theorem NetOk.sn{b:Y44}{i:Nat}(h:NetOk b i):(wirOf b i).2.2.2.length=(sinksV b.2.1 i).length:=by have:=h.wf.snk; omega
theorem NetOk.s78{b:Y44}{i:Nat}(h:NetOk b i):(sinksV b.2.1 i).length<=78:=by
 have h1:=h.df.len;have h2:=cntP_le (plcOf b.2.1) i (plcs b.2.1).length;have h3:=sinkL_len (plcOf b.2.1) i (plcs b.2.1).length;have h4:((sinksV b.2.1 i).length:Int)=cntP (plcOf b.2.1) i (plcs b.2.1).length:=h3;omega
theorem NetOk.capIn{b:Y44}{i:Nat}(h:NetOk b i){k:Nat}(hk:k < (sinksV b.2.1 i).length):0<=nodeS b i k/\(nodeS b i k).toNat < (wirOf b i).1.length/\0<=capS b i k/\capS b i k<=500:=by
 have h1:=h.wf.snkIn k (by rw[h.sn]; exact hk);have h2:=pin_cap h.df (plc_mem (sinksV_at hk).2);exact⟨h1.1,h1.2,h2.1,h2.2⟩
theorem NetOk.low{b:Y44}{i:Nat}(h:NetOk b i):∀m,m<=(sinksV b.2.1 i).length->Low (fN (capF (nodeS b i) (capS b i)) m (wirOf b i).2.2.1) (wirOf b i).1.length (500*((wirOf b i).1.length:Int)+500*(m:Int)):=fun m hm=>capF_low (low_all h.wf.cap h.wf.capOk) m (fun k hk=>h.capIn (by omega))
abbrev celI(b:Y44)(i:Nat):Y82:=b.1.getD (insOf b.2.1 i).2.1.toNat (dflt y82)
theorem inst_cell'{b:Y44}(df:DF b.1 b.2.1){i:Nat}(hi:i<b.2.1.1.length):ix (insOf b.2.1 i).2.1 b.1.length/\cellOk isArcS (celI b i)=true/\(insOf b.2.1 i).2.2.length=(celI b i).2.2.1.length:=by
 have:=df.fac.inst i hi;unfold instB at this;rw[ba,ba,beq_iff_eq] at this;have h1:=inB_iff.1 this.1.1;have h2:=this.1.2;have h3:((insOf b.2.1 i).2.2.length:Int)=((celI b i).2.2.1.length:Int):=h2;exact⟨⟨h1.1,by omega⟩,lib_cell' df.lib (by omega),by omega⟩
theorem cell_arcs{c:Y82}(h:cellOk isArcS c=true):2<=c.2.2.1.length/\c.2.2.1.length<=5/\c.2.2.2.1.length<=8/\∀j,j<c.2.2.2.1.length->0<=(arcOf c j).2.1/\(arcOf c j).2.1 < (c.2.2.1.length:Int)-1/\0<=(arcOf c j).2.2.1/\(arcOf c j).2.2.1 < (c.2.2.1.length:Int):=by
 have h:cellB isArcS _ _ _ _ _ _ _ _ _=true:=h;unfold cellB arcsB at h;simp only[ba,dq] at h;have hp:=pins_last h.1.1.1.1.2;refine⟨hp.1,hp.2.1,h.1.1.1.2.1,fun j hj=>?_⟩;have:=not_any.1 h.1.1.1.2.2 j hj;rw[Bool.or_eq_false_iff,Bool.not_eq_false'] at this;have ha:=this.1;unfold isArcS at ha;rw[ba,ba] at ha;have h1:=inB_iff.1 ha.1.1;have h2:=inB_iff.1 ha.1.2;omega
theorem nm_size{s:ByteArray}(h:nmB s=true):s.size<=8:=by
 unfold nmB at h;simp only[ba,dq] at h;omega
structure DN(l:List Y82)(d:Y41):Prop where
 df:DF l d
 ins:∀i,i<d.1.length->(insOf d i).1.size<=8
 prt:∀i,i<d.2.2.length->(prtOf d i).1.size<=8
 net:∀i,i<d.2.1.length->(d.2.1.getD i (dflt .str)).size<=8
 cel:∀i,i<l.length->(celOf l i).1.size<=8
theorem dn_of{l:List Y82}{d:Y41}(h:designOk l d=true):DN l d:=by
 have df:=df_of h;have h:designB _ _ _ _ _ _ _ _ _=true:=h;unfold designB at h;simp only[ba] at h;obtain⟨⟨⟨⟨⟨⟨_,c1⟩,c3⟩,c2⟩,_⟩,_⟩,_⟩:=h;refine⟨df,fun i hi=>nm_size (namesB_iff.1 c1 i hi).1,fun i hi=>nm_size (namesB_iff.1 c2 i hi).1,fun i hi=>nm_size (namesB_iff.1 c3 i hi).1,fun i hi=>?_⟩;have hc:cellB isArcS _ _ _ _ _ _ _ _ _=true:=lib_cell' df.lib hi;unfold cellB at hc;simp only[ba] at hc;exact nm_size hc.1.1.1.1.1
abbrev blank:ByteArray:=ByteArray.mk #[32]
abbrev nl:ByteArray:=ByteArray.mk #[10]
abbrev netS(d:Y41)(i:Int):ByteArray:=d.2.1.getD i.toNat (dflt .str)
def instP'(d:Y41)(x:Y112)(i:Nat):ByteArray:=blank++netS d (x.2.2.getD i 0)
def instT(l:List Y82)(d:Y41)(x:Y112):ByteArray:=catN (ByteArray.mk #[105,110,115,116,32]++x.1++blank++(l.getD x.2.1.toNat (dflt y82)).1) (instP' d x) x.2.2.length
structure IOk(l:List Y82)(d:Y41)(x:Y112):Prop where
 nm:x.1.size<=8
 ci:ix x.2.1 l.length
 cn:(l.getD x.2.1.toNat (dflt y82)).1.size<=8
 n5:x.2.2.length<=5
 nt:∀k,k<x.2.2.length->ix (x.2.2.getD k 0) d.2.1.length/\(netS d (x.2.2.getD k 0)).size<=8
theorem i_ok{l:List Y82}{d:Y41}(h:DN l d){i:Nat}(hi:i<d.1.length):IOk l d (insOf d i):=by
 have hin:=h.df.fac.inst i hi;unfold instB at hin;rw[ba,ba] at hin;have h1:=inB_iff.1 hin.1.1;refine⟨h.ins i hi,oo,h.cel _ (by omega),(h.df.pin i hi).2,fun k hk=>?_⟩;have h2:=inB_iff.1 (h.df.fac.net.1 i hi k hk);exact⟨oo,h.net _ (by omega)⟩
theorem instT_size{l:List Y82}{d:Y41}{x:Y112}(h:IOk l d x):(instT l d x).size<=68:=by
 have h5:=h.n5;have h1:=h.nm;have h2:=h.cn;have e1:(ByteArray.mk #[105,110,115,116,32]).size=5:=rfl;have e2:(ByteArray.mk #[32]).size=1:=rfl;have eb:blank.size=1:=rfl;have:=catN_size (s:=ByteArray.mk #[105,110,115,116,32]++x.1++blank++(l.getD x.2.1.toNat (dflt y82)).1) (p:=instP' d x) (M:=9) x.2.2.length (fun i hi=>by
  have:=(h.nt i hi).2;unfold instP';rw[ByteArray.size_append];omega)
 unfold instT;simp only[ByteArray.size_append] at this;omega
def netP(d:Y41)(i:Nat):ByteArray:=ByteArray.mk #[110,101,116,32]++d.2.1.getD i (dflt .str)++nl
def dirT(x:Y114):ByteArray:=if(x.2.1==2)=true then ByteArray.mk #[32,111,117,116,32] else ByteArray.mk #[32,105,110,32]
def prtP(d:Y41)(i:Nat):ByteArray:=ByteArray.mk #[112,111,114,116,32]++(prtOf d i).1++dirT (prtOf d i)++netS d (prtOf d i).2.2++nl
def insP(l:List Y82)(d:Y41)(i:Nat):ByteArray:=instT l d (insOf d i)++nl
def desT1(d:Y41):ByteArray:=catN (ByteArray.mk #[]) (netP d) d.2.1.length
def desT2(d:Y41):ByteArray:=catN (desT1 d) (prtP d) d.2.2.length
def desT(l:List Y82)(d:Y41):ByteArray:=catN (desT2 d) (insP l d) d.1.length
section
variable {l:List Y82} {d:Y41}
theorem netP_size(h:DN l d){i:Nat}(hi:i<d.2.1.length):(netP d i).size<=13:=by
 have h1:=h.net i hi;have e1:(ByteArray.mk #[110,101,116,32]).size=4:=rfl;have e2:nl.size=1:=rfl;unfold netP;simp only[ByteArray.size_append];omega
theorem dirT_size(x:Y114):(dirT x).size<=5:=by
 unfold dirT;split
 ·exact Nat.le_refl 5
 ·show 4<=5; omega
theorem prt_net(h:DN l d){i:Nat}(hi:i<d.2.2.length):ix (prtOf d i).2.2 d.2.1.length/\(netS d (prtOf d i).2.2).size<=8:=by
 have h2:=inB_iff.1 (h.df.fac.net.2 i hi);exact⟨oo,h.net _ (by omega)⟩
theorem prtP_size(h:DN l d){i:Nat}(hi:i<d.2.2.length):(prtP d i).size<=27:=by
 have h1:=h.prt i hi;have h2:=(prt_net h hi).2;have h3:=dirT_size (prtOf d i);have e1:(ByteArray.mk #[112,111,114,116,32]).size=5:=rfl;have e2:nl.size=1:=rfl;unfold prtP;simp only[ByteArray.size_append];omega
theorem insP_size(h:DN l d){i:Nat}(hi:i<d.1.length):(insP l d i).size<=69:=by
 have h1:=instT_size (i_ok h hi);have e2:nl.size=1:=rfl;unfold insP;rw[ByteArray.size_append];omega
theorem s1(h:DN l d)(i:Nat)(hi:i<=d.2.1.length):(catN (ByteArray.mk #[]) (netP d) i).size<=390:=by
 have h1:=catN_size (s:=ByteArray.mk #[]) (p:=netP d) (M:=13) i fun k hk=>netP_size h (by omega);have h2:=h.df.fac.nn30;have e:(ByteArray.mk #[]).size=0:=rfl;omega
theorem s2(h:DN l d)(i:Nat)(hi:i<=d.2.2.length):(catN (desT1 d) (prtP d) i).size<=606:=by
 have h1:=catN_size (s:=desT1 d) (p:=prtP d) (M:=27) i fun k hk=>prtP_size h (by omega);have h2:=h.df.fac.np8;have h3:(desT1 d).size<=390:=s1 h _ (Nat.le_refl _);omega
theorem s3(h:DN l d)(i:Nat)(hi:i<=d.1.length):(catN (desT2 d) (insP l d) i).size<=1572:=by
 have h1:=catN_size (s:=desT2 d) (p:=insP l d) (M:=69) i fun k hk=>insP_size h (by omega);have h2:=h.df.fac.ni14;have h3:(desT2 d).size<=606:=s2 h _ (Nat.le_refl _);omega
end
def wirP(b:Y44)(i:Nat):ByteArray:=ByteArray.mk #[119,105,114,101,32]++b.2.1.2.1.getD i (dflt .str)++blank++wireT (wirOf b i)++nl
section
variable {b:Y44}
theorem wir_ok(hb:blockOk b=true){i:Nat}(hi:i<b.2.2.length):((sinksV b.2.1 i).length:Int)<=78/\wireB (wirOf b i) ((sinksV b.2.1 i).length:Int)=true/\WSmall (wirOf b i)/\(b.2.1.2.1.getD i (dflt .str)).size<=8/\i<b.2.1.2.1.length:=by
 obtain⟨h1,h2,h3⟩:=block_design hb;have h78:=(net_ok hb hi).s78;have hw:=h3 i hi;rw[<- sinkL_len] at hw;exact⟨by omega,hw,wire_small (by show((sinksV b.2.1 i).length:Int)<=1000; omega) hw,(dn_of h1).net i (by omega),by omega⟩
theorem wirP_size(hb:blockOk b=true){i:Nat}(hi:i<b.2.2.length):(wirP b i).size<=90015:=by
 obtain⟨-,-,h1,h2,-⟩:=wir_ok hb hi;have h3:=wireT_size h1;have e1:(ByteArray.mk #[119,105,114,101,32]).size=5:=rfl;have e2:nl.size=1:=rfl;have e3:blank.size=1:=rfl;unfold wirP;simp only[ByteArray.size_append];omega
theorem s4(hb:blockOk b=true)(i:Nat)(hi:i<=b.2.2.length):(catN (desT b.1 b.2.1) (wirP b) i).size<=3000000:=by
 obtain⟨h1,h2,_⟩:=block_design hb;have dn:=dn_of h1;have h3:=catN_size (s:=desT b.1 b.2.1) (p:=wirP b) (M:=90015) i fun k hk=>wirP_size hb (by omega);have h4:(desT b.1 b.2.1).size<=1572:=s3 dn _ (Nat.le_refl _);have h5:=dn.df.fac.nn30;omega
end
theorem eq_any{xs ys:List Int}(h:xs.length=ys.length):(!(List.range xs.length).any fun i=>xs.getD i 0 != ys.getD i 0)=decide (xs=ys):=by
 rw[Bool.eq_iff_iff,dq];constructor
 ·intro hn;have hn:=not_any.1 hn;exact list_eq 0 h (fun i hi=>by simpa using hn i hi)
 ·rintro rfl;exact not_any.2 (fun i _=>by simp)
theorem r177(xs ys:List Int)(h:xs.length<=9223372036854775807):u177 xs ys=some (decide (xs=ys)):=by
 unfold u177;by_cases hl:xs.length=ys.length
 ·have key:=lp_all (n:=xs.length) h (fun i=>xs.getD i 0 != ys.getD i 0) (some false) (e:=some true) (F:=u177L1 xs ys) (fun g i hi=>by
   have e3:((i:Int)).toNat=i:=rfl;refine(if_pos (by simpa using hi)).trans ?_;rw[e3,gP ⟨oo,oo,trivial⟩,gP ⟨oo,trivial⟩]) (fun g=>aE)
  refine(if_neg (by simp[hl])).trans (key.trans ?_);rw[<- eq_any hl];cases(List.range xs.length).any fun i=>xs.getD i 0 != ys.getD i 0 <;> rfl
 ·rw[decide_eq_false (fun e=>hl (by rw[e]))];exact if_pos (by simp; omega)
def sameW(w v:Y55):Bool:=decide (w.1=v.1)&&decide (w.2.1=v.2.1)&&decide (w.2.2.1=v.2.2.1)&&decide (w.2.2.2=v.2.2.2)
theorem r153(w v:Y55)(hw:wf y55 w):u153 w v=some (sameW w v):=by
 unfold u153;rw[r177 _ _ hw.1.1,r177 _ _ hw.2.1.1,r177 _ _ hw.2.2.1.1,r177 _ _ hw.2.2.2.1]
 repeat rw[vS]
 exact gP ⟨rfl,fun _=>rfl,fun _=>rfl,fun _=>rfl,trivial⟩
def sameE(e f:Y57):Bool:=e.1==f.1&&e.2.1==f.2.1&&e.2.2.1==f.2.2.1&&e.2.2.2.1==f.2.2.2.1&&e.2.2.2.2.1==f.2.2.2.2.1&&decide (e.2.2.2.2.2.1=f.2.2.2.2.2.1)&&sameW e.2.2.2.2.2.2 f.2.2.2.2.2.2
theorem r127(e f:Y57)(hw:wf y57 e):u127 e f=some (sameE e f):=by
 unfold u127;rw[r153 _ _ hw.2.2.2.2.2.2,vS,gP ⟨fun _=>rfl,trivial⟩,lE];rfl
def noW(w:Y55):Bool:=(w.1.length:Int)+(w.2.1.length:Int)+(w.2.2.1.length:Int)+(w.2.2.2.length:Int)==0
def blankV(e:Y57):Bool :=
 if(e.1==1)=true then e.2.2.2.1==0&&e.2.2.2.2.1==0&&decide (e.2.2.2.2.2.1=ByteArray.mk #[])&&noW e.2.2.2.2.2.2
 else if(e.1==2)=true then e.2.2.2.1==0&&e.2.2.2.2.1==0&&noW e.2.2.2.2.2.2
 else if(e.1==3)=true then e.2.1==0&&e.2.2.1==0&&e.2.2.2.1==0&&e.2.2.2.2.1==0&&decide (e.2.2.2.2.2.1=ByteArray.mk #[])&&noW e.2.2.2.2.2.2
 else if(e.1==4)=true then e.2.2.1==0&&decide (e.2.2.2.2.2.1=ByteArray.mk #[])&&noW e.2.2.2.2.2.2
 else if(e.1==5)=true then e.2.1==0&&e.2.2.1==0&&e.2.2.2.2.1==0&&decide (e.2.2.2.2.2.1=ByteArray.mk #[])
 else false
theorem wire_cnt{w:Y55}(h:cnt y55 w<=1048576):w.1.length<=1048576/\w.2.1.length<=1048576/\w.2.2.1.length<=1048576/\w.2.2.2.length<=1048576 :=
 ⟨cnt_len (cF h),cnt_len (cF (cS h)),cnt_len (cF (cS (cS h))),cnt_len (cS (cS (cS h)))⟩
theorem r61(e:Y57)(hm:cnt y57 e<=1048576):u61 e=some (blankV e):=by
 obtain⟨c1,c2,c3,c4⟩:=wire_cnt (cS (cS (cS (cS (cS (cS hm))))));unfold u61 blankV;rw[gP ⟨oo,oo,oo,trivial⟩];by_cases h1:(e.1==1)=true
 ·rw[if_pos h1,if_pos h1]; rfl
 rw[if_neg h1,if_neg h1];by_cases h2:(e.1==2)=true
 ·rw[if_pos h2,if_pos h2]; rfl
 rw[if_neg h2,if_neg h2];by_cases h3:(e.1==3)=true
 ·rw[if_pos h3,if_pos h3]; rfl
 rw[if_neg h3,if_neg h3];by_cases h4:(e.1==4)=true
 ·rw[if_pos h4,if_pos h4]; rfl
 rw[if_neg h4,if_neg h4];by_cases h5:(e.1==5)=true
 ·rw[if_pos h5,if_pos h5]
 rw[if_neg h5,if_neg h5]
def ownV(e:Y57):Y57 :=
 if(e.1==1)=true then(e.1,e.2.1,e.2.2.1,0,0,ByteArray.mk #[],[],[],[],[])
 else if(e.1==2)=true then(e.1,e.2.1,e.2.2.1,0,0,e.2.2.2.2.2.1,[],[],[],[])
 else if(e.1==4)=true then(e.1,e.2.1,0,e.2.2.2.1,e.2.2.2.2.1,ByteArray.mk #[],[],[],[],[])
 else if(e.1==5)=true then(e.1,0,0,e.2.2.2.1,0,ByteArray.mk #[],e.2.2.2.2.2.2)
 else(e.1,0,0,0,0,ByteArray.mk #[],[],[],[],[])
theorem r128(e:Y57):u128 e=some (ownV e):=by
 unfold u128 ownV;by_cases h1:(e.1==1)=true
 ·rw[if_pos h1,if_pos h1]
 rw[if_neg h1,if_neg h1];by_cases h2:(e.1==2)=true
 ·rw[if_pos h2,if_pos h2]
 rw[if_neg h2,if_neg h2];by_cases h4:(e.1==4)=true
 ·rw[if_pos h4,if_pos h4]
 rw[if_neg h4,if_neg h4];by_cases h5:(e.1==5)=true
 ·rw[if_pos h5,if_pos h5]
 rw[if_neg h5,if_neg h5]
theorem noW_eq(a b c d:List Int):noW (a,b,c,d)=(decide (a=[])&&decide (b=[])&&decide (c=[])&&decide (d=[])):=by
 rw[Bool.eq_iff_iff];unfold noW;simp only[beq_iff_eq,ba,dq];rw[<- List.length_eq_zero_iff,<- List.length_eq_zero_iff,<- List.length_eq_zero_iff,<- List.length_eq_zero_iff];omega
theorem blank_own(e:Y57):(inB e.1 1 5&&sameE e (ownV e))=blankV e:=by
 obtain⟨k,p,c,n,d,nm,a1,a2,a3,a4⟩:=e;unfold blankV ownV sameE sameW;rw[noW_eq];show(inB k 1 5&&_)=_;by_cases h1:k=1
 ·subst h1; simp[inB,Bool.and_assoc]
 by_cases h2:k=2
 ·subst h2; simp[inB,Bool.and_assoc]
 by_cases h3:k=3
 ·subst h3; simp[inB,Bool.and_assoc]
 by_cases h4:k=4
 ·subst h4; simp[inB,Bool.and_assoc]
 by_cases h5:k=5
 ·subst h5; simp[inB,Bool.and_assoc]
 have:inB k 1 5=false:=by
  rw[<- Bool.not_eq_true];intro h;have:=inB_iff.1 h;omega
 rw[this];simp[h1,h2,h3,h4,h5]
def alikeV(c d:Y82):Bool:=!(c.2.1 != d.2.1||(c.2.2.1.length:Int) != (d.2.2.1.length:Int))&&!(List.range c.2.2.1.length).any fun i=>!((pinOf c i).2.2.2==(pinOf d i).2.2.2)
theorem r98(c d:Y82)(h:c.2.2.1.length<=9223372036854775807):u98 c d=some (alikeV c d):=by
 unfold u98 alikeV;cases hc:(c.2.1 != d.2.1||(c.2.2.1.length:Int) != (d.2.2.1.length:Int)) with
 | true=>rfl
 | false =>
   have hl:c.2.2.1.length=d.2.2.1.length:=by
    simp only[Bool.or_eq_false_iff,bne_eq_false_iff_eq] at hc;omega
   have key:=lp_all (n:=c.2.2.1.length) h (fun i=>!((pinOf c i).2.2.2==(pinOf d i).2.2.2)) (some false) (e:=some true) (F:=u98L1 c d) (fun g i hi=>by
    have e3:((i:Int)).toNat=i:=rfl;refine(if_pos (by simpa using hi)).trans ?_;rw[e3,gP ⟨oo,oo,trivial⟩,gP ⟨oo,trivial⟩]) (fun g=>aE)
   refine(if_neg (by simp)).trans (key.trans ?_);cases(List.range c.2.2.1.length).any fun i=>!((pinOf c i).2.2.2==(pinOf d i).2.2.2) <;> rfl
theorem r130(c d:Y82)(h:c.2.2.1.length<=9223372036854775807):u130 c d=some (alikeV c d):=by
 have e:u154c155 c.2.2.1 d.2.2.1=some (!((c.2.2.1.length:Int) != (d.2.2.1.length:Int))&&!(List.range c.2.2.1.length).any fun i=>!((pinOf c i).2.2.2==(pinOf d i).2.2.2)):=by
  unfold u154c155;cases hc:((c.2.2.1.length:Int) != (d.2.2.1.length:Int)) with
  | true=>rfl
  | false =>
    have hl:c.2.2.1.length=d.2.2.1.length:=by
     simp only[bne_eq_false_iff_eq] at hc;omega
    have ef:∀p q:Y116,u155 p q=some (p.2.2.2==q.2.2.2):=fun _ _=>rfl;have key:=lp_all (n:=c.2.2.1.length) h (fun i=>!((pinOf c i).2.2.2==(pinOf d i).2.2.2)) (some false) (e:=some true) (F:=u154c155L1 d.2.2.1 c.2.2.1) (fun g i hi=>by
     have e3:((i:Int)).toNat=i:=rfl;refine(if_pos (by simpa using hi)).trans ?_;rw[e3,gP ⟨oo,trivial⟩,lE,gP ⟨oo,trivial⟩,lE,ef,gP ⟨rfl,trivial⟩,gP ⟨oo,trivial⟩];rfl) (fun g=>aE)
    refine(if_neg (by simp)).trans (key.trans ?_);cases(List.range c.2.2.1.length).any fun i=>!((pinOf c i).2.2.2==(pinOf d i).2.2.2) <;> rfl
 unfold u130 alikeV;rw[e,vS,gP ⟨fun _=>rfl,trivial⟩];unfold bne;cases(c.2.1==d.2.1) <;> cases((c.2.2.1.length:Int)==(d.2.2.1.length:Int)) <;> rfl
def bufV(c:Y82):Bool:=c.2.1==1&&(c.2.2.1.length:Int)==2
theorem r99(c:Y82):u99 c=some (bufV c):=rfl
theorem r131(c:Y82):u131 c=some (bufV c):=rfl
def fiV(n:Nat)(P:Nat->Bool):Int:=match(List.range n).find? P with | some i=>(i:Int) | none => -1
def insN(d:Y41)(s:ByteArray):Int:=fiV d.1.length (fun i=>decide ((insOf d i).1=s))
def netN(d:Y41)(s:ByteArray):Int:=fiV d.2.1.length (fun i=>decide (d.2.1.getD i (dflt .str)=s))
theorem r101(d:Y41)(s:ByteArray)(h:d.1.length<=9223372036854775807):u101 d s=some (insN d s) :=
 idx_some h (fun i=>decide ((insOf d i).1=s)) (fun g i hi=>by
  refine(if_pos (by simpa using hi)).trans ?_;rw[gP ⟨oo,trivial⟩,gP ⟨oo,trivial⟩];rfl) (fun g=>aE)
theorem r133(d:Y41)(s:ByteArray)(h:d.1.length<=9223372036854775807):u133 d s=some (insN d s):=by
 have h1:u158c159 d.1 s=some (insN d s):=idx_some h (fun i=>decide ((insOf d i).1=s)) (fun g i hi=>idx_el hi h rfl) (fun g=>aE);unfold u133;rw[h1,vS,gP ⟨rfl,trivial⟩,lE]
theorem r102(d:Y41)(s:ByteArray)(h:d.2.1.length<=9223372036854775807):u102 d s=some (netN d s):=by
 have h1:u125 d.2.1 s=some (netN d s):=idx_some h (fun i=>decide (d.2.1.getD i (dflt .str)=s)) (fun g i hi=>by
  refine(if_pos (by simpa using hi)).trans ?_;rw[gP ⟨oo,trivial⟩,gP ⟨oo,trivial⟩];rfl) (fun g=>aE)
 unfold u102;rw[h1,vS,gP ⟨rfl,trivial⟩,lE]
theorem r134(d:Y41)(s:ByteArray)(h:d.2.1.length<=9223372036854775807):u134 d s=some (netN d s):=by
 have h1:u160 d.2.1 s=some (netN d s):=idx_some h (fun i=>decide (d.2.1.getD i (dflt .str)=s)) (fun g i hi=>by
  refine(if_pos (by simpa using hi)).trans ?_;rw[gP ⟨oo,trivial⟩,gP ⟨oo,trivial⟩];have:decide (s=d.2.1.getD i (dflt .str))=decide (d.2.1.getD i (dflt .str)=s):=by rw[decide_eq_decide]; exact eq_comm
  rw[<- this];rfl) (fun g=>aE)
 unfold u134;rw[h1,vS,gP ⟨rfl,trivial⟩,lE]
def plN(b:Y44):Int:=(plcs b.2.1).length
def rangeV(b:Y44)(e:Y57):Bool :=
 if(e.1==1||e.1==2)=true then inB e.2.1 0 (plN b-1)&&inB e.2.2.1 0 ((b.1.length:Int)-1)
 else if(e.1==4)=true then inB e.2.1 0 (plN b-1)&&inB e.2.2.2.1 0 ((b.2.2.length:Int)-1)&&inB e.2.2.2.2.1 0 (((wirOf b e.2.2.2.1.toNat).1.length:Int)-1)
 else if(e.1==5)=true then inB e.2.2.2.1 0 ((b.2.2.length:Int)-1)
 else true
structure BOk(b:Y44):Prop where
 df:DF b.1 b.2.1
 nets:b.2.2.length=b.2.1.2.1.length
 n30:b.2.2.length<=30
 c8:b.1.length<=8
 p78:plN b<=78
 wire:∀i,i<b.2.2.length->NetOk b i
theorem b_ok{b:Y44}(h:blockOk b=true):BOk b:=by
 obtain⟨h1,h2,_⟩:=block_design h;have df:=df_of h1;have hl:=df.len;have h30:=df.fac.nn30;have h8:b.1.length<=8:=by
  have hl:=df.lib;have hl:libB _ _ _=true:=hl;unfold libB at hl;simp only[ba,dq] at hl;exact hl.2
 exact⟨df,h2,by omega,h8,by unfold plN; omega,fun i hi=>net_ok h hi⟩
theorem r62(b:Y44)(hw:wf y44 b)(o:BOk b)(e:Y57):u62 b e=some (rangeV b e):=by
 have hp:=o.p78;have h30:=o.n30;have h8:=o.c8;have hpn:0<=plN b:=Int.natCast_nonneg _;have key:∀v,(e.1==1)=true/\v=true∨(e.1==1)=false/\v=(e.1==2)->u62J0 e (plcs b.2.1) b v=some (rangeV b e):=fun v hv=>by
  have hv':v=(e.1==1||e.1==2):=by
   rcases hv with ⟨h1,h2⟩ | ⟨h1,h2⟩
   ·rw[h1,h2]; rfl
   ·rw[h1,h2]; rfl
  unfold rangeV;rw[<- hv',u62J0,r77,r77,r77,r77]
  repeat rw[vS]
  cases v with
  | true=>exact gP ⟨⟨by show _<=plN b-1; omega,by show plN b-1<=_; omega⟩,rfl,(fun _=>oo),(fun _=>rfl),trivial⟩
  | false =>
    refine(if_neg (by simp)).trans ?_;rw[if_neg (show ¬(false=true) by simp)];by_cases h4:(e.1==4)=true
    ·rw[if_pos h4,if_pos h4];have key2:(inB e.2.1 0 (plN b-1)&&inB e.2.2.2.1 0 ((b.2.2.length:Int)-1))=true->ix e.2.2.2.1 b.2.2.length/\in64 (((wirOf b e.2.2.2.1.toNat).1.length:Int)-1):=fun h=>by
      have h2:=inB_iff.1 (ba _ _ ▸ h).2;have hw:=(o.wire e.2.2.2.1.toNat (by omega)).wf.n8;exact⟨⟨h2.1,by omega⟩,oo⟩
     exact gP ⟨⟨by show _<=plN b-1; omega,by show plN b-1<=_; omega⟩,rfl,(fun _=>oo),(fun _=>rfl),(fun h=>(key2 h.1).1),(fun h=>(key2 h.1).2),(fun _=>rfl),trivial⟩
    ·rw[if_neg h4,if_neg h4];by_cases h5:(e.1==5)=true
     ·rw[if_pos h5,if_pos h5];exact gP ⟨oo,rfl,trivial⟩
     ·rw[if_neg h5,if_neg h5]
 unfold u62;rw[r30 b.2.1 hw.2.1 o.df.fac.ni14 o.df.fac.np8 o.df.pin,vS,gP ⟨rfl,trivial⟩,lE];cases h1:(e.1==1) with
 | true=>exact(if_pos rfl).trans (key _ (.inl ⟨h1,rfl⟩))
 | false=>exact(if_neg (by simp)).trans (key _ (.inr ⟨h1,rfl⟩))
theorem r104(b:Y44)(hw:wf y44 b)(o:BOk b)(e:Y57)(he:wf y57 e):u104 e b=some (blankV e&&rangeV b e):=by
 have hp:=o.p78;have h30:=o.n30;have h8:=o.c8;have hn:=o.nets;have hpn:0<=plN b:=Int.natCast_nonneg _;have ePl:u129 (plcs b.2.1)=some (plN b):=rfl;have eC:u114 b.1=some (b.1.length:Int):=rfl;have eI:∀xs:List Int,u88 xs=some (xs.length:Int):=fun _=>rfl;have key:∀v,(e.1==1)=true/\v=true∨(e.1==1)=false/\v=(e.1==2)->u104J0 e (plcs b.2.1) b v=some (rangeV b e):=fun v hv=>by
  have hv':v=(e.1==1||e.1==2):=by
   rcases hv with ⟨h1,h2⟩ | ⟨h1,h2⟩
   ·rw[h1,h2]; rfl
   ·rw[h1,h2]; rfl
  unfold rangeV;rw[<- hv',u104J0,ePl,vS,r89,vS,eC,vS,r89,vS,r85 _ hw.2.1,vS,eI,vS,r89,vS,<- hn];cases v with
  | true=>exact gP ⟨(fun _=>rfl),(fun _=>oo),(fun _=>rfl),trivial⟩
  | false =>
    refine(if_neg (by simp)).trans ?_;rw[if_neg (show ¬(false=true) by simp)];by_cases h4:(e.1==4)=true
    ·rw[if_pos h4,if_pos h4];have key2:(inB e.2.1 0 (plN b-1)&&inB e.2.2.2.1 0 ((b.2.2.length:Int)-1))=true->ix e.2.2.2.1 b.2.2.length/\in64 (((wirOf b e.2.2.2.1.toNat).1.length:Int)-1):=fun h=>by
      have h2:=inB_iff.1 (ba _ _ ▸ h).2;have hw:=(o.wire e.2.2.2.1.toNat (by omega)).wf.n8;exact⟨⟨h2.1,by omega⟩,oo⟩
     exact gP ⟨(fun _=>rfl),(fun h=>(key2 h.1).1),(fun _=>rfl),(fun h=>(key2 h.1).2),(fun _=>rfl),trivial⟩
    ·rw[if_neg h4,if_neg h4];by_cases h5:(e.1==5)=true
     ·rw[if_pos h5,if_pos h5];exact gP ⟨rfl,trivial⟩
     ·rw[if_neg h5,if_neg h5]
 unfold u104;rw[r89,vS,r128,vS,r127 e _ he,vS,gP ⟨rfl,(fun _=>rfl),(fun _=>rfl),trivial⟩];have hb:=blank_own e;cases hbl:blankV e with
 | false =>
   rw[hbl] at hb;refine(if_pos ?_).trans rfl;cases h1:inB e.1 1 5 with
   | false=>rfl
   | true=>rw[h1,Bool.true_and] at hb; rw[hb]; rfl
 | true =>
   rw[hbl,ba] at hb;refine(if_neg (by rw[hb.1,hb.2]; simp)).trans ?_;rw[r52 b.2.1 hw.2.1 o.df.fac.ni14 o.df.fac.np8 o.df.pin,vS,ePl,vS,r89,gP ⟨rfl,rfl,oo,rfl,trivial⟩,lE];cases h1:(e.1==1) with
   | true=>exact(if_pos rfl).trans (key _ (.inl ⟨h1,rfl⟩))
   | false=>exact(if_neg (by simp)).trans (key _ (.inr ⟨h1,rfl⟩))
def lastX(b:Y44):Y112:=insOf b.2.1 (b.2.1.1.length-1)
def lastW(b:Y44):Y55:=wirOf b (b.2.2.length-1)
def lastQ(b:Y44):Bool:=bufV (celI b (b.2.1.1.length-1))&&(lastX b).2.2.getD 1 0==(b.2.2.length:Int)-1&&decide (b.2.1.2.1.getD (b.2.2.length-1) (dflt .str)=(lastX b).1)&&!((lastX b).2.2.getD 0 0==(b.2.2.length:Int)-1)
def lastV(b:Y44):Bool:=if b.2.1.1.length=0 then false else if lastQ b=true then((lastW b).2.2.2.length:Int)==1&&((lastW b).1.length:Int)==1&&(lastW b).2.2.1.getD 0 0==0 else false
theorem last_facts{b:Y44}(o:BOk b)(h0:¬b.2.1.1.length=0):ix (lastX b).2.1 b.1.length/\(bufV (celI b (b.2.1.1.length-1))=true->(lastX b).2.2.length=2/\0<=(lastX b).2.2.getD 1 0):=by
 obtain⟨x1,x2,x3⟩:=inst_cell' o.df (i:=b.2.1.1.length-1) (by omega);refine⟨x1,fun hb=>?_⟩;have h2:(celI b (b.2.1.1.length-1)).2.2.1.length=2:=by
  unfold bufV at hb;rw[ba,beq_iff_eq,beq_iff_eq] at hb;have:=hb.2;omega
 have h3:(lastX b).2.2.length=2:=x3.trans h2;exact⟨h3,(inB_iff.1 (o.df.fac.net.1 (b.2.1.1.length-1) (by omega) 1 (by show 1 < (lastX b).2.2.length; omega))).1⟩
theorem r126(w:Y55)(h:w.2.2.1.length=w.1.length):u126 w=some ((w.1.length:Int)==1&&w.2.2.1.getD 0 0==0):=by
 unfold u126;exact gP ⟨(fun h1=>⟨by omega,by have:=beq_iff_eq.1 h1.1; omega⟩),trivial⟩
theorem bool_or4(a b c d:Bool):(!a||!b||!c||d)=!(a&&b&&c&&!d):=by cases a <;> cases b <;> cases c <;> cases d <;> rfl
theorem bool_or4'(a b c d:Bool):(!a||!b||d||!c)=!(a&&b&&c&&!d):=by cases a <;> cases b <;> cases c <;> cases d <;> rfl
theorem r103(b:Y44)(hw:wf y44 b)(o:BOk b):u103 b=some (lastV b):=by
 have h30:=o.n30;have h14:=o.df.fac.ni14;have hn:=o.nets;unfold u103 lastV;rw[gP ⟨oo,trivial⟩,gP ⟨oo,trivial⟩];by_cases h0:b.2.1.1.length=0
 ·rw[if_pos h0];exact if_pos (decide_eq_true (by omega))
 ·rw[if_neg h0];obtain⟨x1,x2⟩:=last_facts o h0;refine(if_neg (by simp; omega)).trans ?_;have e1:((b.2.1.1.length:Int)-1).toNat=b.2.1.1.length-1:=by omega
  have e2:((b.2.2.length:Int)-1).toNat=b.2.2.length-1:=by omega
  rw[gP ⟨oo,trivial⟩,lE,e1,e2];show gd (ix (lastX b).2.1 b.1.length/\(u99 (celI b (b.2.1.1.length-1))).isSome=true/\((!vl (u99 (celI b (b.2.1.1.length-1))))=false/\True->ix 1 (lastX b).2.2.length)/\((!vl (u99 (celI b (b.2.1.1.length-1)))||(lastX b).2.2.getD 1 0 != (b.2.2.length:Int)-1)=false/\True->ix ((b.2.2.length:Int)-1) b.2.1.2.1.length)/\((!vl (u99 (celI b (b.2.1.1.length-1)))||(lastX b).2.2.getD 1 0 != (b.2.2.length:Int)-1||!decide (b.2.1.2.1.getD (b.2.2.length-1) (dflt .str)=(lastX b).1))=false/\True->ix 0 (lastX b).2.2.length)/\True) (lt (!vl (u99 (celI b (b.2.1.1.length-1)))||(lastX b).2.2.getD 1 0 != (b.2.2.length:Int)-1||!decide (b.2.1.2.1.getD (b.2.2.length-1) (dflt .str)=(lastX b).1)||(lastX b).2.2.getD 0 0==(b.2.2.length:Int)-1) fun v1=>_)=_;rw[r99,vS];have k1:(!bufV (celI b (b.2.1.1.length-1)))=false->(lastX b).2.2.length=2/\0<=(lastX b).2.2.getD 1 0:=fun h=>x2 (by simpa using h);rw[gP ⟨x1,rfl,(fun h=>⟨by omega,by have:=(k1 h.1).1; omega⟩),(fun h=>by
   have h2:=(Bool.or_eq_false_iff.1 h.1);have h3:=k1 h2.1;have h4:=bne_eq_false_iff_eq.1 h2.2;exact oo),(fun h=>⟨by omega,by have:=(k1 (Bool.or_eq_false_iff.1 (Bool.or_eq_false_iff.1 h.1).1).1).1; omega⟩),trivial⟩,lE]
  unfold bne;rw[bool_or4];show(if(!lastQ b)=true then some false else _)=_;cases hq:lastQ b with
  | false=>rfl
  | true =>
    refine(if_neg (by simp)).trans ?_;rw[if_pos rfl];have hq':=hq;unfold lastQ at hq';simp only[ba,beq_iff_eq] at hq';have h3:=x2 hq'.1.1.1;have h4:=hq'.1.1.2;have no:=o.wire (b.2.2.length-1) (by omega);have hsn:=no.sn;have e5:(((b.2.2.length-1:Nat)):Int)=(b.2.2.length:Int)-1:=by omega
    rw[e5] at hsn;have es:u45 b.2.1 ((b.2.2.length:Int)-1)=some (sinksV b.2.1 ((b.2.2.length:Int)-1)):=r45 b.2.1 hw.2.1 o.df _;rw[es,vS];rw[r126 (wirOf b (b.2.2.length-1)) no.wf.cap,vS,gP ⟨rfl,(fun _=>oo),(fun _=>rfl),trivial⟩,lE,<- hsn];show some (((lastW b).2.2.2.length:Int)==1&&(((lastW b).1.length:Int)==1&&(lastW b).2.2.1.getD 0 0==0))=_;rw[Bool.and_assoc]
theorem r135(b:Y44)(o:BOk b):u135 b=some (lastV b):=by
 have h30:=o.n30;have h14:=o.df.fac.ni14;have hn:=o.nets;have eS:u117 b.2.1.2.1=some (b.2.2.length:Int):=by rw[hn]; rfl
 unfold u135 lastV;by_cases h0:b.2.1.1.length=0
 ·rw[if_pos h0];exact if_pos (by simp[h0])
 ·rw[if_neg h0];obtain⟨x1,x2⟩:=last_facts o h0;refine(if_neg (by rw[beq_iff_eq]; omega)).trans ?_;have e1:((b.2.1.1.length:Int)-1).toNat=b.2.1.1.length-1:=by omega
  have e2:((b.2.2.length:Int)-1).toNat=b.2.2.length-1:=by omega
  rw[gP ⟨oo,oo,trivial⟩,lE,e1,eS,vS,gP ⟨rfl,oo,trivial⟩,lE,e2];show gd (ix (lastX b).2.1 b.1.length/\(u131 (celI b (b.2.1.1.length-1))).isSome=true/\((!vl (u131 (celI b (b.2.1.1.length-1))))=false/\True->ix 1 (lastX b).2.2.length)/\((!vl (u131 (celI b (b.2.1.1.length-1)))||(lastX b).2.2.getD 1 0 != (b.2.2.length:Int)-1)=false/\True->ix 0 (lastX b).2.2.length)/\((!vl (u131 (celI b (b.2.1.1.length-1)))||(lastX b).2.2.getD 1 0 != (b.2.2.length:Int)-1||(lastX b).2.2.getD 0 0==(b.2.2.length:Int)-1)=false/\True->ix ((b.2.2.length:Int)-1) b.2.1.2.1.length)/\True) (if(!vl (u131 (celI b (b.2.1.1.length-1)))||(lastX b).2.2.getD 1 0 != (b.2.2.length:Int)-1||(lastX b).2.2.getD 0 0==(b.2.2.length:Int)-1||!decide (b.2.1.2.1.getD (b.2.2.length-1) (dflt .str)=(lastX b).1))=true then some false else _)=_;rw[r131,vS];have k1:(!bufV (celI b (b.2.1.1.length-1)))=false->(lastX b).2.2.length=2/\0<=(lastX b).2.2.getD 1 0:=fun h=>x2 (by simpa using h);rw[gP ⟨x1,rfl,(fun h=>⟨by omega,by have:=(k1 h.1).1; omega⟩),(fun h=>⟨by omega,by have:=(k1 (Bool.or_eq_false_iff.1 h.1).1).1; omega⟩),(fun h=>by
   have h2:=(Bool.or_eq_false_iff.1 (Bool.or_eq_false_iff.1 h.1).1);have h3:=k1 h2.1;have h4:=bne_eq_false_iff_eq.1 h2.2;exact oo),trivial⟩]
  unfold bne;rw[bool_or4'];show(if(!lastQ b)=true then some false else _)=_;cases hq:lastQ b with
  | false=>rfl
  | true =>
    refine(if_neg (by simp)).trans ?_;rw[if_pos rfl];have hq':=hq;unfold lastQ at hq';simp only[ba,beq_iff_eq] at hq';have h3:=x2 hq'.1.1.1;have h4:=hq'.1.1.2;have no:=o.wire (b.2.2.length-1) (by omega);have hc:=no.wf.cap;have hc:(lastW b).2.2.1.length=(lastW b).1.length:=hc;rw[gP ⟨oo,trivial⟩,lE];show gd (((((lastW b).2.2.2.length:Int)==1&&((lastW b).1.length:Int)==1)=true/\True->ix 0 (lastW b).2.2.1.length)/\True) (some (((lastW b).2.2.2.length:Int)==1&&((lastW b).1.length:Int)==1&&(lastW b).2.2.1.getD 0 0==0))=_;exact gP ⟨(fun h=>⟨by omega,by have:=beq_iff_eq.1 (ba _ _ ▸ h.1).2; omega⟩),trivial⟩
def plE(b:Y44)(e:Y57):DPlace:=plcOf b.2.1 e.2.1.toNat
def stateV(b:Y44)(e:Y57):Bool :=
 if(e.1==1)=true then decide (0<=(plE b e).1)&&(plE b e).2.2.2&&alikeV (b.1.getD (insOf b.2.1 (plE b e).1.toNat).2.1.toNat (dflt y82)) (b.1.getD e.2.2.1.toNat (dflt y82))
 else if(e.1==2)=true then !(plE b e).2.2.2&&bufV (b.1.getD e.2.2.1.toNat (dflt y82))&&nmB e.2.2.2.2.2.1&&decide (insN b.2.1 e.2.2.2.2.2.1<0)&&decide (netN b.2.1 e.2.2.2.2.2.1<0)
 else if(e.1==3)=true then lastV b
 else if(e.1==4)=true then !(plE b e).2.2.2&&(plE b e).2.2.1 != e.2.2.2.1
 else wireB e.2.2.2.2.2.2 ((sinksV b.2.1 e.2.2.2.1).length:Int)
theorem pl_ix{b:Y44}{e:Y57}(h:inB e.2.1 0 (plN b-1)=true):ix e.2.1 (plcs b.2.1).length/\e.2.1.toNat < (plcs b.2.1).length:=by
 have:=inB_iff.1 h;unfold plN at this;exact⟨oo,by omega⟩
theorem ce_ix{b:Y44}{x:Int}(h:inB x 0 ((b.1.length:Int)-1)=true):ix x b.1.length:=by
 have:=inB_iff.1 h;exact oo
theorem ce_pin{b:Y44}(o:BOk b){x:Int}(h:ix x b.1.length):(b.1.getD x.toNat (dflt y82)).2.2.1.length<=9223372036854775807:=by
 have h1:x.toNat<b.1.length:=by have:=h.1; have:=h.2; omega
 have:=(cell_arcs (lib_cell' o.df.lib h1)).2.1;have:(b.1.getD x.toNat (dflt y82)).2.2.1.length<=5:=this;omega
theorem pl_inst{b:Y44}(o:BOk b){e:Y57}(h:e.2.1.toNat < (plcs b.2.1).length)(h0:0<=(plE b e).1):ix (plE b e).1 b.2.1.1.length/\ix (insOf b.2.1 (plE b e).1.toNat).2.1 b.1.length:=by
 rcases plc_pin o.df (plc_mem h) with h1 | ⟨h1,h2,h3,h4,_⟩
 ·have h1:(plE b e).1 = -1:=h1.1;omega
 ·have h1:0<=(plE b e).1:=h1;have h2:(plE b e).1.toNat<b.2.1.1.length:=h2;have h3:0<=(insOf b.2.1 (plE b e).1.toNat).2.1:=h3;have h4:(insOf b.2.1 (plE b e).1.toNat).2.1.toNat<b.1.length:=h4;exact⟨⟨h1,by omega⟩,⟨h3,by omega⟩⟩
theorem range_1{b:Y44}{e:Y57}(hr:rangeV b e=true)(h:(e.1==1||e.1==2)=true):inB e.2.1 0 (plN b-1)=true/\inB e.2.2.1 0 ((b.1.length:Int)-1)=true:=by
 unfold rangeV at hr;rw[if_pos h,ba] at hr;exact hr
theorem range_4{b:Y44}{e:Y57}(hr:rangeV b e=true)(h:e.1=4):inB e.2.1 0 (plN b-1)=true:=by
 unfold rangeV at hr;rw[if_neg (by rw[h]; decide),if_pos (by rw[h]; decide),ba,ba] at hr;exact hr.1.1
theorem range_5{b:Y44}{e:Y57}(hr:rangeV b e=true)(h:e.1=5):inB e.2.2.2.1 0 ((b.2.2.length:Int)-1)=true:=by
 unfold rangeV at hr;rw[if_neg (by rw[h]; decide),if_neg (by rw[h]; decide),if_pos (by rw[h]; decide)] at hr;exact hr
theorem r63(b:Y44)(hw:wf y44 b)(o:BOk b)(e:Y57)(he:wf y57 e)(hr:rangeV b e=true)(hk:inB e.1 1 5=true):u63 b e=some (stateV b e):=by
 have hk:=inB_iff.1 hk;unfold u63 stateV;rw[r30 b.2.1 hw.2.1 o.df.fac.ni14 o.df.fac.np8 o.df.pin,vS,gP ⟨rfl,trivial⟩,lE];by_cases h1:(e.1==1)=true
 ·rw[if_pos h1,if_pos h1];obtain⟨r1,r2⟩:=range_1 hr (by rw[h1]; rfl);have p1:=pl_ix r1;have c1:=ce_ix r2;rw[gP ⟨p1.1,p1.2,trivial⟩,lE];show gd (((decide (0<=(plE b e).1)&&(plE b e).2.2.2)=true/\True->ix (plE b e).1 b.2.1.1.length)/\((decide (0<=(plE b e).1)&&(plE b e).2.2.2)=true/\True->ix (insOf b.2.1 (plE b e).1.toNat).2.1 b.1.length)/\((decide (0<=(plE b e).1)&&(plE b e).2.2.2)=true/\True->ix e.2.2.1 b.1.length)/\((decide (0<=(plE b e).1)&&(plE b e).2.2.2)=true/\True->(u98 (b.1.getD (insOf b.2.1 (plE b e).1.toNat).2.1.toNat (dflt y82)) (b.1.getD e.2.2.1.toNat (dflt y82))).isSome=true)/\True) (some (decide (0<=(plE b e).1)&&(plE b e).2.2.2&&vl (u98 (b.1.getD (insOf b.2.1 (plE b e).1.toNat).2.1.toNat (dflt y82)) (b.1.getD e.2.2.1.toNat (dflt y82)))))=_;cases hc:(decide (0<=(plE b e).1)&&(plE b e).2.2.2) with
  | false=>exact gP ⟨(fun h=>by cases h.1),(fun h=>by cases h.1),(fun h=>by cases h.1),(fun h=>by cases h.1),trivial⟩
  | true =>
    rw[ba,dq] at hc;have q:=pl_inst o p1.2 hc.1;rw[r98 _ _ (ce_pin o q.2),vS];exact gP ⟨(fun _=>q.1),(fun _=>q.2),(fun _=>c1),(fun _=>rfl),trivial⟩
 rw[if_neg h1,if_neg h1];by_cases h2:(e.1==2)=true
 ·rw[if_pos h2,if_pos h2];obtain⟨r1,r2⟩:=range_1 hr (by rw[h2]; simp);have p1:=pl_ix r1;have c1:=ce_ix r2;have h14:=o.df.fac.ni14;have h30:=o.df.fac.nn30;rw[r99,vS,r100 _ he.2.2.2.2.2.1,vS,r101 _ _ (by omega),vS,r102 _ _ (by omega),vS,gP ⟨p1.1,p1.2,(fun _=>c1),(fun _=>rfl),(fun _=>rfl),(fun _=>rfl),(fun _=>rfl),trivial⟩,lE];rfl
 rw[if_neg h2,if_neg h2];by_cases h3:(e.1==3)=true
 ·rw[if_pos h3,if_pos h3,r103 b hw o,vS];exact gP ⟨rfl,trivial⟩
 rw[if_neg h3,if_neg h3];by_cases h4:(e.1==4)=true
 ·rw[if_pos h4,if_pos h4];have p1:=pl_ix (range_4 hr (beq_iff_eq.1 h4));exact gP ⟨p1.1,p1.2,(fun _=>p1.1),(fun _=>p1.2),trivial⟩
 rw[if_neg h4,if_neg h4];have es:u45 b.2.1 e.2.2.2.1=some (sinksV b.2.1 e.2.2.2.1):=r45 b.2.1 hw.2.1 o.df _;rw[es,vS,r44 _ _ he.2.2.2.2.2.2,gP ⟨rfl,rfl,trivial⟩,lE,r44 _ _ he.2.2.2.2.2.2,vS]
theorem r105(b:Y44)(hw:wf y44 b)(o:BOk b)(e:Y57)(he:wf y57 e)(hr:rangeV b e=true)(hk:inB e.1 1 5=true):u105 e b=some (stateV b e):=by
 have hk:=inB_iff.1 hk;unfold u105 stateV;rw[r52 b.2.1 hw.2.1 o.df.fac.ni14 o.df.fac.np8 o.df.pin,vS,gP ⟨rfl,trivial⟩,lE];by_cases h1:(e.1==1)=true
 ·rw[if_pos h1,if_pos h1];obtain⟨r1,r2⟩:=range_1 hr (by rw[h1]; rfl);have p1:=pl_ix r1;have c1:=ce_ix r2;rw[gP ⟨p1.1,p1.2,trivial⟩,lE];show gd (((decide (0<=(plE b e).1)&&(plE b e).2.2.2)=true/\True->ix (plE b e).1 b.2.1.1.length)/\((decide (0<=(plE b e).1)&&(plE b e).2.2.2)=true/\True->ix (insOf b.2.1 (plE b e).1.toNat).2.1 b.1.length)/\((decide (0<=(plE b e).1)&&(plE b e).2.2.2)=true/\True->ix e.2.2.1 b.1.length)/\((decide (0<=(plE b e).1)&&(plE b e).2.2.2)=true/\True->(u130 (b.1.getD (insOf b.2.1 (plE b e).1.toNat).2.1.toNat (dflt y82)) (b.1.getD e.2.2.1.toNat (dflt y82))).isSome=true)/\True) (some (decide (0<=(plE b e).1)&&(plE b e).2.2.2&&vl (u130 (b.1.getD (insOf b.2.1 (plE b e).1.toNat).2.1.toNat (dflt y82)) (b.1.getD e.2.2.1.toNat (dflt y82)))))=_;cases hc:(decide (0<=(plE b e).1)&&(plE b e).2.2.2) with
  | false=>exact gP ⟨(fun h=>by cases h.1),(fun h=>by cases h.1),(fun h=>by cases h.1),(fun h=>by cases h.1),trivial⟩
  | true =>
    rw[ba,dq] at hc;have q:=pl_inst o p1.2 hc.1;rw[r130 _ _ (ce_pin o q.2),vS];exact gP ⟨(fun _=>q.1),(fun _=>q.2),(fun _=>c1),(fun _=>rfl),trivial⟩
 rw[if_neg h1,if_neg h1];by_cases h2:(e.1==2)=true
 ·rw[if_pos h2,if_pos h2];obtain⟨r1,r2⟩:=range_1 hr (by rw[h2]; simp);have p1:=pl_ix r1;have c1:=ce_ix r2;have h14:=o.df.fac.ni14;have h30:=o.df.fac.nn30;rw[r131,vS,r132 _ he.2.2.2.2.2.1,vS,r133 _ _ (by omega),vS,r134 _ _ (by omega),vS,gP ⟨p1.1,p1.2,(fun _=>c1),(fun _=>rfl),(fun _=>rfl),(fun _=>rfl),(fun _=>rfl),trivial⟩,lE];rfl
 rw[if_neg h2,if_neg h2];by_cases h3:(e.1==3)=true
 ·rw[if_pos h3,if_pos h3,r135 b o,vS];exact gP ⟨rfl,trivial⟩
 rw[if_neg h3,if_neg h3];by_cases h4:(e.1==4)=true
 ·rw[if_pos h4,if_pos h4];have p1:=pl_ix (range_4 hr (beq_iff_eq.1 h4));exact gP ⟨p1.1,p1.2,(fun _=>p1.1),(fun _=>p1.2),trivial⟩
 rw[if_neg h4,if_neg h4];have h5:e.1=5:=by
  simp only[beq_iff_eq] at h1 h2 h3 h4;omega
 have hn:=inB_iff.1 (range_5 hr h5);have no:=o.wire e.2.2.2.1.toNat (by omega);have hsn:=no.sn;have e6:((e.2.2.2.1.toNat:Nat):Int)=e.2.2.2.1:=by omega
 rw[e6] at hsn;have eI:u88 (wirOf b e.2.2.2.1.toNat).2.2.2=some ((sinksV b.2.1 e.2.2.2.1).length:Int):=by rw[<- hsn]; rfl
 rw[eI,vS,r53 _ _ he.2.2.2.2.2.2,vS];exact gP ⟨oo,rfl,rfl,trivial⟩
def codeV(b:Y44)(e:Y57):Int :=
 if blockOk b=true then(if(blankV e&&rangeV b e)=true then(if stateV b e=true then(if(e.1==2&&((b.2.1.1.length:Int)==14||(b.2.2.length:Int)==30))=true then 3 else 0) else 5) else 2) else 1
theorem blank_in{e:Y57}(h:blankV e=true):inB e.1 1 5=true:=by
 rw[<- blank_own,ba] at h;exact h.1
theorem r29(b:Y44)(hw:wf y44 b)(hm:cnt y44 b<=1048576)(e:Y57)(he:wf y57 e)(hme:cnt y57 e<=1048576):u29 b e=some (codeV b e):=by
 unfold u29 codeV;rw[r18 b hw hm,vS,gP ⟨rfl,trivial⟩];cases hb:blockOk b with
 | false=>rfl
 | true =>
   have o:=b_ok hb;refine(if_neg (by simp)).trans ?_;rw[if_pos rfl,r61 e hme,vS,r62 b hw o e,vS,gP ⟨rfl,(fun _=>rfl),trivial⟩];cases h1:blankV e with
   | false=>rfl
   | true =>
     cases h2:rangeV b e with
     | false=>rfl
     | true =>
       refine(if_neg (by simp)).trans ?_;rw[if_pos (show(true&&true)=true from rfl),r63 b hw o e he h2 (blank_in h1),vS,gP ⟨rfl,trivial⟩];cases h3:stateV b e with
       | false=>rfl
       | true =>
         refine(if_neg (by simp)).trans ?_;rw[if_pos rfl];split <;> rfl
theorem r36(b:Y44)(hw:wf y44 b)(hm:cnt y44 b<=1048576)(e:Y57)(he:wf y57 e):u36 b e=some (codeV b e):=by
 unfold u36 codeV;rw[r23 b hw hm,vS,gP ⟨rfl,trivial⟩];cases hb:blockOk b with
 | false=>rfl
 | true =>
   have o:=b_ok hb;have hn:=o.nets;have key:u66 e b=some (if(blankV e&&rangeV b e)=true then(if stateV b e=true then(if(e.1==2&&((b.2.1.1.length:Int)==14||(b.2.2.length:Int)==30))=true then 3 else 0) else 5) else 2):=by
    unfold u66;rw[r104 b hw o e he,vS,gP ⟨rfl,trivial⟩];cases h1:blankV e with
    | false=>rfl
    | true =>
      cases h2:rangeV b e with
      | false=>rfl
      | true =>
        refine(if_neg (by simp)).trans ?_;rw[if_pos (show(true&&true)=true from rfl),r105 b hw o e he h2 (blank_in h1),vS,gP ⟨rfl,trivial⟩];cases h3:stateV b e with
        | false=>rfl
        | true =>
          refine(if_neg (by simp)).trans ?_;rw[if_pos rfl,hn];split <;> rfl
   refine(if_neg (by simp)).trans ?_;rw[if_pos rfl,key,vS,gP ⟨rfl,trivial⟩,lE]
def nameV(l:List Y82)(d:Y41)(p:DPlace):ByteArray:=if p.1<0 then(prtOf d p.2.1.toNat).1 else(insOf d p.1.toNat).1++ByteArray.mk #[47]++((l.getD (insOf d p.1.toNat).2.1.toNat (dflt y82)).2.2.1.getD p.2.1.toNat (dflt y116)).1
theorem pin_name{l:List Y82}(hl:libOk l=true){i j:Nat}(hi:i<l.length)(hj:j < (celOf l i).2.2.1.length):(pinOf (celOf l i) j).1.size<=8:=by
 have h:cellB isArcS _ _ _ _ _ _ _ _ _=true:=lib_cell' hl hi;unfold cellB pinsOk at h;simp only[ba] at h;exact nm_size (namesB_iff.1 h.1.1.1.1.2.1.2 j hj).1
theorem r68(l:List Y82)(d:Y41)(h:designOk l d=true){p:DPlace}(hp:p∈plcs d):u68 d l p=some (nameV l d p)/\u32 l d p=some (nameV l d p)/\(nameV l d p).size<=20:=by
 have dn:=dn_of h;have df:=dn.df;have n1:=dn.ins;have n2:=dn.prt;have e47:(ByteArray.mk #[47]).size=1:=rfl;unfold u68 u32 nameV;rcases plc_pin df hp with ⟨h1,h2,h3⟩ | ⟨h1,h2,h3,h4,h5,h6⟩
 ·have hs:=n2 _ h3;have hn:p.1<0:=by omega
  rw[if_pos (decide_eq_true hn),if_pos hn,gP ⟨⟨h2,by omega⟩,trivial⟩];exact⟨rfl,rfl,by omega⟩
 ·have hs:=n1 _ h2;have hq:=pin_name df.lib h4 h6;have hn:¬p.1<0:=by omega
  have hn':¬decide (p.1<0)=true:=by simpa using hn
  have hq:((l.getD (insOf d p.1.toNat).2.1.toNat (dflt y82)).2.2.1.getD p.2.1.toNat (dflt y116)).1.size<=8:=hq;rw[if_neg hn',if_neg hn,gP ⟨⟨h1,by omega⟩,trivial⟩,lE];show gd ((insOf d p.1.toNat).1.size+_<=_/\ix (insOf d p.1.toNat).2.1 _/\ix p.2.1 (l.getD (insOf d p.1.toNat).2.1.toNat (dflt y82)).2.2.1.length/\_) _=_/\gd ((insOf d p.1.toNat).1.size+_<=_/\ix (insOf d p.1.toNat).2.1 _/\ix p.2.1 (l.getD (insOf d p.1.toNat).2.1.toNat (dflt y82)).2.2.1.length/\_) _=_/\_;have ha:((insOf d p.1.toNat).1++ByteArray.mk #[47]).size=(insOf d p.1.toNat).1.size+1:=by rw[ByteArray.size_append]; rfl
  have g:(insOf d p.1.toNat).1.size+(ByteArray.mk #[47]).size<=9223372036854775807/\ix (insOf d p.1.toNat).2.1 l.length/\ix p.2.1 (l.getD (insOf d p.1.toNat).2.1.toNat (dflt y82)).2.2.1.length/\((insOf d p.1.toNat).1++ByteArray.mk #[47]).size+((l.getD (insOf d p.1.toNat).2.1.toNat (dflt y82)).2.2.1.getD p.2.1.toNat (dflt y116)).1.size<=9223372036854775807/\True :=
   ⟨by omega,⟨h3,by omega⟩,⟨h5,by omega⟩,by omega,trivial⟩
  refine⟨gP g,gP g,?_⟩;rw[ByteArray.size_append];omega
def ediT(b:Y44)(e:Y57):ByteArray :=
 if(e.1==1)=true then ByteArray.mk #[115,119,97,112,32]++nameV b.1 b.2.1 (plE b e)++blank++(b.1.getD e.2.2.1.toNat (dflt y82)).1
 else if(e.1==2)=true then ByteArray.mk #[98,117,102,102,101,114,32]++nameV b.1 b.2.1 (plE b e)++blank++(b.1.getD e.2.2.1.toNat (dflt y82)).1++blank++e.2.2.2.2.2.1
 else if(e.1==3)=true then ByteArray.mk #[117,110,98,117,102,102,101,114]
 else if(e.1==4)=true then ByteArray.mk #[109,111,118,101,32]++nameV b.1 b.2.1 (plE b e)++blank++netS b.2.1 e.2.2.2.1++blank++numS e.2.2.2.2.1
 else ByteArray.mk #[119,105,114,101,32]++netS b.2.1 e.2.2.2.1++blank++wireT e.2.2.2.2.2.2
structure EOk(b:Y44)(e:Y57):Prop where
 hb:blockOk b=true
 bl:blankV e=true
 rg:rangeV b e=true
 st:stateV b e=true
theorem e_ok{b:Y44}{e:Y57}(h:codeV b e=0):EOk b e:=by
 unfold codeV at h;split at h
 ·rename_i hb;split at h
  ·rename_i h1;rw[ba] at h1;split at h
   ·rename_i h2;exact⟨hb,h1.1,h1.2,h2⟩
   ·cases h
  ·cases h
 ·cases h
section
variable {b:Y44} {e:Y57}
theorem EOk.place(h:EOk b e)(hk:e.1=1∨e.1=2∨e.1=4):ix e.2.1 (plcs b.2.1).length/\e.2.1.toNat < (plcs b.2.1).length/\plE b e∈plcs b.2.1:=by
 have hp:inB e.2.1 0 (plN b-1)=true:=by
  rcases hk with h1 | h1 | h1
  ·exact(range_1 h.rg (by rw[h1]; rfl)).1
  ·exact(range_1 h.rg (by rw[h1]; rfl)).1
  ·exact range_4 h.rg h1
 obtain⟨h1,h2⟩:=pl_ix hp;exact⟨h1,h2,plc_mem h2⟩
theorem EOk.cell(h:EOk b e)(hk:e.1=1∨e.1=2):ix e.2.2.1 b.1.length/\(b.1.getD e.2.2.1.toNat (dflt y82)).1.size<=8:=by
 have hc:=(range_1 h.rg (by rcases hk with h1 | h1 <;> rw[h1] <;> rfl)).2;have h1:=ce_ix hc;have h2:=inB_iff.1 hc;exact⟨h1,(dn_of (block_design h.hb).1).cel _ (by omega)⟩
theorem EOk.net(h:EOk b e)(hk:e.1=4∨e.1=5):ix e.2.2.2.1 b.2.1.2.1.length/\(netS b.2.1 e.2.2.2.1).size<=8/\inB e.2.2.2.1 0 ((b.2.2.length:Int)-1)=true:=by
 have hn:inB e.2.2.2.1 0 ((b.2.2.length:Int)-1)=true:=by
  rcases hk with h1 | h1
  ·have hr:=h.rg;unfold rangeV at hr;rw[if_neg (by rw[h1]; decide),if_pos (by rw[h1]; decide),ba,ba] at hr;exact hr.1.2
  ·exact range_5 h.rg h1
 have h2:=inB_iff.1 hn;have h3:=(block_design h.hb).2.1;exact⟨oo,(dn_of (block_design h.hb).1).net _ (by omega),hn⟩
theorem EOk.kind(h:EOk b e):1<=e.1/\e.1<=5:=inB_iff.1 (blank_in h.bl)
theorem r67(hw:wf y44 b)(h:EOk b e)(hk:e.1=1∨e.1=2∨e.1=4):u67 b e=some (nameV b.1 b.2.1 (plE b e)):=by
 have df:=df_of (block_design h.hb).1;obtain⟨h1,h2,h3⟩:=h.place hk;have e1:u68 b.2.1 b.1 ((plcs b.2.1).getD e.2.1.toNat (dflt y102))=some (nameV b.1 b.2.1 (plE b e)):=(r68 b.1 b.2.1 (block_design h.hb).1 h3).1;unfold u67;rw[r52 b.2.1 hw.2.1 df.fac.ni14 df.fac.np8 df.pin,vS,e1,vS];exact gP ⟨rfl,h1,h2,rfl,trivial⟩
theorem EOk.nm8(h:EOk b e)(hk:e.1=2):e.2.2.2.2.2.1.size<=8:=by
 have hs:=h.st;unfold stateV at hs;rw[if_neg (by rw[hk]; decide),if_pos (by rw[hk]; decide)] at hs;simp only[ba] at hs;exact nm_size hs.1.1.2
theorem EOk.node(h:EOk b e)(hk:e.1=4) : -1<=e.2.2.2.2.1:=by
 have hr:=h.rg;unfold rangeV at hr;rw[if_neg (by rw[hk]; decide),if_pos (by rw[hk]; decide),ba,ba] at hr;have:=(inB_iff.1 hr.2).1;omega
theorem EOk.wire(h:EOk b e)(hk:e.1=5):WSmall e.2.2.2.2.2.2/\(e.2.2.2.2.2.2.2.2.2.length:Int)<=1000/\wireB e.2.2.2.2.2.2 (e.2.2.2.2.2.2.2.2.2.length:Int)=true:=by
 have hn:=inB_iff.1 (h.net (.inr hk)).2.2;have h78:=(net_ok h.hb (i:=e.2.2.2.1.toNat) (by omega)).s78;have e6:((e.2.2.2.1.toNat:Nat):Int)=e.2.2.2.1:=by omega
 rw[e6] at h78;have hs:=h.st;unfold stateV at hs;rw[if_neg (by rw[hk]; decide),if_neg (by rw[hk]; decide),if_neg (by rw[hk]; decide),if_neg (by rw[hk]; decide)] at hs;have hl:(e.2.2.2.2.2.2.2.2.2.length:Int)=((sinksV b.2.1 e.2.2.2.1).length:Int):=by
  have hs2:=hs;unfold wireB at hs2;simp only[ba,beq_iff_eq] at hs2;exact hs2.1.1.1.1.2
 exact⟨wire_small (by omega) hs,by omega,by rw[hl]; exact hs⟩
theorem r37(hw:wf y44 b)(he:wf y57 e)(h:EOk b e):u37 e b=some (ediT b e):=by
 have hk:=h.kind;have e32:(ByteArray.mk #[32]).size=1:=rfl;unfold u37 ediT;by_cases h1:(e.1==1)=true
 ·have k1:e.1=1:=beq_iff_eq.1 h1;have q1:=(r68 b.1 b.2.1 (block_design h.hb).1 (h.place (.inl k1)).2.2).2.2;have q2:=h.cell (.inl k1);have q3:=q2.2;have e5:(ByteArray.mk #[115,119,97,112,32]).size=5:=rfl;rw[if_pos h1,if_pos h1,r67 hw h (.inl k1),vS];exact gP ⟨rfl,by omega,by simp only[ByteArray.size_append]; omega,q2.1,by simp only[ByteArray.size_append]; omega,trivial⟩
 rw[if_neg h1,if_neg h1];by_cases h2:(e.1==2)=true
 ·have k1:e.1=2:=beq_iff_eq.1 h2;have q1:=(r68 b.1 b.2.1 (block_design h.hb).1 (h.place (.inr (.inl k1))).2.2).2.2;have q2:=h.cell (.inr k1);have q3:=q2.2;have q4:=h.nm8 k1;have e5:(ByteArray.mk #[98,117,102,102,101,114,32]).size=7:=rfl;rw[if_pos h2,if_pos h2,r67 hw h (.inr (.inl k1)),vS];exact gP ⟨rfl,by omega,by simp only[ByteArray.size_append]; omega,q2.1,by simp only[ByteArray.size_append]; omega,by simp only[ByteArray.size_append]; omega,by simp only[ByteArray.size_append]; omega,trivial⟩
 rw[if_neg h2,if_neg h2];by_cases h3:(e.1==3)=true
 ·rw[if_pos h3,if_pos h3]
 rw[if_neg h3,if_neg h3];by_cases h4:(e.1==4)=true
 ·have k1:e.1=4:=beq_iff_eq.1 h4;have q1:=(r68 b.1 b.2.1 (block_design h.hb).1 (h.place (.inr (.inr k1))).2.2).2.2;have q2:=h.net (.inl k1);have q3:=q2.2.1;have q3:ByteArray.size (b.2.1.2.1.getD e.2.2.2.1.toNat (dflt Ty.str))<=8:=q3;have q4:=numS_size (n:=e.2.2.2.2.1) he.2.2.2.2.1;have e5:(ByteArray.mk #[109,111,118,101,32]).size=5:=rfl;rw[if_pos h4,if_pos h4,r67 hw h (.inr (.inr k1)),r69]
  repeat rw[vS]
  exact gP ⟨rfl,by omega,by simp only[ByteArray.size_append]; omega,q2.1,by simp only[ByteArray.size_append]; omega,by simp only[ByteArray.size_append]; omega,rfl,by simp only[ByteArray.size_append]; omega,trivial⟩
 rw[if_neg h4,if_neg h4];have k1:e.1=5:=by
  simp only[beq_iff_eq] at h1 h2 h3 h4;omega
 have q2:=h.net (.inr k1);have q3:ByteArray.size (b.2.1.2.1.getD e.2.2.2.1.toNat (dflt Ty.str))<=8:=q2.2.1;obtain⟨q4,-,-⟩:=h.wire k1;have q5:=wireT_size q4;have e5:(ByteArray.mk #[119,105,114,101,32]).size=5:=rfl;rw[r55 _ q4,vS];exact gP ⟨q2.1,by omega,by simp only[ByteArray.size_append]; omega,rfl,by simp only[ByteArray.size_append]; omega,trivial⟩
end
def ediC(b:Y44)(e:Y57):ByteArray:=if codeV b e=0 then ediT b e else ByteArray.mk #[]
theorem r13(b:Y44)(hw:wf y44 b)(hm:cnt y44 b<=1048576)(e:Y57)(he:wf y57 e):u13 b e=some (ediC b e):=by
 unfold u13 ediC;rw[r36 b hw hm e he,vS];refine(gP ⟨rfl,trivial⟩).trans ?_;rw[lE];by_cases h:codeV b e=0
 ·rw[if_pos h];refine(if_neg (by rw[h]; simp)).trans ?_;rw[r37 hw he (e_ok h),vS];exact gP ⟨rfl,trivial⟩
 ·rw[if_neg h];exact if_pos (by simp[h])
abbrev wordsL:List ByteArray:=[ByteArray.mk #[115,119,97,112],ByteArray.mk #[98,117,102,102,101,114],ByteArray.mk #[117,110,98,117,102,102,101,114],ByteArray.mk #[109,111,118,101],ByteArray.mk #[119,105,114,101]]
theorem r11(b:Y44)(hw:wf y44 b)(hm:cnt y44 b<=1048576)(e:Y57)(he:wf y57 e)(hme:cnt y57 e<=1048576):u11 b e=some (ediC b e):=by
 unfold u11 ediC;rw[r29 b hw hm e he hme,vS];refine(gP ⟨rfl,trivial⟩).trans ?_;rw[lE];by_cases hc:codeV b e=0
 ·rw[if_pos hc];refine(if_neg (by rw[hc]; simp)).trans ?_;have h:=e_ok hc;have df:=df_of (block_design h.hb).1;have hl:=df.len;have hk:=h.kind;have e32:(ByteArray.mk #[32]).size=1:=rfl;have ew:u31=some wordsL:=rfl;have nmS:∀hk:e.1=1∨e.1=2∨e.1=4,u32 b.1 b.2.1 ((plcs b.2.1).getD e.2.1.toNat (dflt y78))=some (nameV b.1 b.2.1 (plE b e)):=fun hk=>(r68 b.1 b.2.1 (block_design h.hb).1 (h.place hk).2.2).2.1;rw[r30 b.2.1 hw.2.1 df.fac.ni14 df.fac.np8 df.pin,vS];refine(gP ⟨rfl,trivial⟩).trans ?_;rw[lE,ew,vS];refine(gP ⟨rfl,oo,⟨by omega,by show e.1-1<5; omega⟩,by show(e.1-1).toNat<5; omega,trivial⟩).trans ?_;rw[lE];unfold ediT;by_cases h1:(e.1==1)=true
  ·have k1:e.1=1:=beq_iff_eq.1 h1;have q1:=(r68 b.1 b.2.1 (block_design h.hb).1 (h.place (.inl k1)).2.2).2.2;have q0:=h.place (.inl k1);have q2:=h.cell (.inl k1);have q3:=q2.2;have eg:wordsL.getD (e.1-1).toNat (dflt Ty.str)=ByteArray.mk #[115,119,97,112]:=by rw[k1]; rfl
   have e5:(ByteArray.mk #[115,119,97,112]).size=4:=rfl;rw[if_pos h1,if_pos h1,eg,nmS (.inl k1),vS];exact gP ⟨by omega,q0.1,q0.2.1,rfl,by simp only[ByteArray.size_append]; omega,by simp only[ByteArray.size_append]; omega,q2.1,by simp only[ByteArray.size_append]; omega,trivial⟩
  rw[if_neg h1,if_neg h1];by_cases h2:(e.1==2)=true
  ·have k1:e.1=2:=beq_iff_eq.1 h2;have q1:=(r68 b.1 b.2.1 (block_design h.hb).1 (h.place (.inr (.inl k1))).2.2).2.2;have q0:=h.place (.inr (.inl k1));have q2:=h.cell (.inr k1);have q3:=q2.2;have q4:=h.nm8 k1;have eg:wordsL.getD (e.1-1).toNat (dflt Ty.str)=ByteArray.mk #[98,117,102,102,101,114]:=by rw[k1]; rfl
   have e5:(ByteArray.mk #[98,117,102,102,101,114]).size=6:=rfl;rw[if_pos h2,if_pos h2,eg,nmS (.inr (.inl k1)),vS];exact gP ⟨by omega,q0.1,q0.2.1,rfl,by simp only[ByteArray.size_append]; omega,by simp only[ByteArray.size_append]; omega,q2.1,by simp only[ByteArray.size_append]; omega,by simp only[ByteArray.size_append]; omega,by simp only[ByteArray.size_append]; omega,trivial⟩
  rw[if_neg h2,if_neg h2];by_cases h4:(e.1==4)=true
  ·have k1:e.1=4:=beq_iff_eq.1 h4;have h3:¬(e.1==3)=true:=by rw[k1]; decide
   have q1:=(r68 b.1 b.2.1 (block_design h.hb).1 (h.place (.inr (.inr k1))).2.2).2.2;have q0:=h.place (.inr (.inr k1));have q2:=h.net (.inl k1);have q3:ByteArray.size (b.2.1.2.1.getD e.2.2.2.1.toNat (dflt Ty.str))<=8:=q2.2.1;have q4:=numS_size (n:=e.2.2.2.2.1) he.2.2.2.2.1;have eg:wordsL.getD (e.1-1).toNat (dflt Ty.str)=ByteArray.mk #[109,111,118,101]:=by rw[k1]; rfl
   have e5:(ByteArray.mk #[109,111,118,101]).size=4:=rfl;rw[if_pos h4,if_neg h3,if_pos h4,eg,nmS (.inr (.inr k1)),r33 (h.node k1)]
   repeat rw[vS]
   exact gP ⟨by omega,q0.1,q0.2.1,rfl,by simp only[ByteArray.size_append]; omega,by simp only[ByteArray.size_append]; omega,q2.1,by simp only[ByteArray.size_append]; omega,by simp only[ByteArray.size_append]; omega,rfl,by simp only[ByteArray.size_append]; omega,trivial⟩
  rw[if_neg h4];by_cases h5:(e.1==5)=true
  ·have k1:e.1=5:=beq_iff_eq.1 h5;have h3:¬(e.1==3)=true:=by rw[k1]; decide
   have q2:=h.net (.inr k1);have q3:ByteArray.size (b.2.1.2.1.getD e.2.2.2.1.toNat (dflt Ty.str))<=8:=q2.2.1;obtain⟨q4,q6,q7⟩:=h.wire k1;have q5:=wireT_size q4;have eg:wordsL.getD (e.1-1).toNat (dflt Ty.str)=ByteArray.mk #[119,105,114,101]:=by rw[k1]; rfl
   have e5:(ByteArray.mk #[119,105,114,101]).size=4:=rfl;rw[if_pos h5,if_neg h3,if_neg h4,eg,r34 _ _ he.2.2.2.2.2.2 q6 q7,vS];exact gP ⟨by omega,q2.1,by simp only[ByteArray.size_append]; omega,by simp only[ByteArray.size_append]; omega,rfl,by simp only[ByteArray.size_append]; omega,trivial⟩
  ·have k1:e.1=3:=by
    simp only[beq_iff_eq] at h1 h2 h4 h5;omega
   have h3:(e.1==3)=true:=by rw[k1]; rfl
   have eg:wordsL.getD (e.1-1).toNat (dflt Ty.str)=ByteArray.mk #[117,110,98,117,102,102,101,114]:=by rw[k1]; rfl
   rw[if_neg h5,if_pos h3,eg]
 ·rw[if_neg hc];exact if_pos (by simp[hc])
theorem r4(b:Y32)(e:Y52)(hw:wf y32 b)(he:wf y52 e):u4 b e=some true:=by
 unfold u4;rw[z5 b 1048576 hw (by decide) (by decide),vS,gP ⟨rfl,trivial⟩,lE];by_cases hc:szN (cnt y32 b) 1048576<0
 ·exact if_pos (by simpa using hc)
 ·refine(if_neg (by simpa using hc)).trans ?_;have hm:cnt y32 b<=1048576:=by
   unfold szN at hc;split at hc <;> omega
  have hv:szN (cnt y32 b) 1048576<=1048576:=by
   unfold szN;split <;> omega
  generalize szN (cnt y32 b) 1048576=v at hc hv;rw[z10 e v he (by omega) (by omega),vS,gP ⟨rfl,trivial⟩,lE];by_cases hc2:szN (cnt y52 e) v<0
  ·exact if_pos (by simpa using hc2)
  ·refine(if_neg (by simpa using hc2)).trans ?_;have hm2:cnt y52 e<=1048576:=by
    unfold szN at hc2;split at hc2 <;> omega
   rw[w7 b hm,vS,w12 e hm2,vS,r11 b hw hm e he hm2,vS,gP ⟨rfl,rfl,rfl,trivial⟩,lE];show gd _ (lt b fun v5=>gd _ (lt e fun v6=>gd _ _))=_;rw[gP ⟨rfl,trivial⟩,lE,gP ⟨rfl,trivial⟩,lE,r13 b hw hm e he,vS,gP ⟨rfl,trivial⟩,lE];refine(if_neg (by simp)).trans ?_;rw[e9 b hm,gP ⟨rfl,rfl,trivial⟩,lE,e9 b hm];refine(if_neg (by simp[vS])).trans ?_;rw[e14 e hm2,gP ⟨rfl,rfl,trivial⟩,lE,e14 e hm2];rfl
end Go.Proofs.YtekfdfcnjlfgiaaGreatDoor
end
