/- The program's ReadEdit returns what the reference's returns: what the law asks of its functions. -/
import Derived.Test.YtfggbbnnalflhaaGreatDoorWB
import Derived.Test.YtfggbbnnalflhaaGreatDoorGD1
import Derived.Test.YtfggbbnnalflhaaGreatDoorWA
set_option maxHeartbeats 0
section
namespace Go.Proofs.YtfggbbnnalflhaaGreatDoor
open Go Go.Proofs Go.Proofs.Sv Go.Proofs.Xv Go.Proofs.Xl Go.Proofs.Xd
theorem r32{b:Y50}(g:BK b)(e:Y38)(he:wf y38 e):u32 e b=some (codeV b e):=by
 have h:=r45 b g.hw g.hm e he;unfold u45 at h;rw[r29 b g.hw g.hm,vS,g.hb] at h;rw[gP ⟨rfl,trivial⟩,if_neg (by decide)] at h;cases hc:u32 e b with
 | none=>rw[hc] at h; cases h
 | some v =>
   rw[hc,vS,gP ⟨rfl,trivial⟩] at h;exact h
abbrev zeroE:Y38:=(0,0,0,0,0,ByteArray.mk #[],[],[],[],[])
theorem read_same(b:Y50)(hw:wf y50 b)(hm:cnt y50 b<=1048576)(s:ByteArray)(hs:s.size<=1048576):∃(l:Y38) (c:Int),u6 b s=some (l,c)/\u8 b s=some (l,c)/\cnt y38 l<=1048576:=by
 have cz:cnt y38 zeroE<=1048576:=by decide
 cases hb:blockOk b with
 | false =>
   refine⟨zeroE,1,?_,?_,cz⟩
   ·unfold u6;rw[r22 b hw hm,vS,hb,gP ⟨rfl,trivial⟩];rfl
   ·unfold u8;rw[r29 b hw hm,vS,hb,gP ⟨rfl,trivial⟩];rfl
 | true =>
   have g:BK b:=⟨hw,hm,hb⟩;have hwl:=wdB_len 32 s;have hwz:∀w∈wdB 32 s,w.size<=1048576:=fun w h=>Nat.le_trans (wdB_size h) hs;obtain⟨e1,he1,hw1⟩:=red_any g hwl.1 (by omega) hwz;obtain⟨e2,he2,hw2,hc2⟩:=guess_any g hwl.1 (by omega) hwz;have hsp:u31 s (ByteArray.mk #[32])=some (wdB 32 s):=sp31 32 s hs;have hsp2:u24 s 32=some (wdB 32 s):=r24 s 32 hs;have hset:=r25 b hw hm e2 hw2 hc2;have hec:=r32 g e1 hw1;have ire:u8 b s=gd (((codeV b e1 != 0)=false/\True->(u33 e1 b).isSome=true)/\True) (if(codeV b e1 != 0||!decide (vl (u33 e1 b)=s))=true then some (zeroE,6) else some (e1,0)):=by
    unfold u8;rw[r29 b hw hm,vS,hb,gP ⟨rfl,trivial⟩];refine(if_neg (by decide)).trans ?_;rw[hsp,vS,he1,vS,gP ⟨rfl,rfl,trivial⟩,lE];dsimp only;rw[hec,vS];by_cases hq:(codeV b e1 != 0)=false/\True->(u33 e1 b).isSome=true
    ·rw[gP ⟨rfl,hq,trivial⟩,gP ⟨hq,trivial⟩];rfl
    ·have n1:∀{ρ:Type} {V:Prop} [Decidable V] {x:Option ρ},¬V->gd V x=none:=fun h=>if_neg h;rw[n1 (fun h=>hq h.2.1),n1 (fun h=>hq h.1)]
   have sre:u6 b s=if(decide (s=ByteArray.mk #[])||!decide (ediC b e2=s))=true then some (zeroE,6) else some (e2,0):=by
    unfold u6;rw[r22 b hw hm,vS,hb,gP ⟨rfl,trivial⟩];refine(if_neg (by decide)).trans ?_;rw[hsp2,vS,he2,vS,gP ⟨rfl,rfl,trivial⟩,lE];show gd ((decide (s=ByteArray.mk #[])=false/\True->(u25 b e2).isSome=true)/\True) (lt (vl (u25 b e2)) fun v2=>if(decide (s=ByteArray.mk #[])||!decide (v2=s))=true then some (zeroE,6) else some (e2,0))=_;rw[hset,vS];exact gP ⟨fun _=>rfl,trivial⟩
   by_cases hA:codeV b e1=0/\ediT b e1=s
   ·obtain⟨hA1,hA2⟩:=hA;have ok:=e_ok hA1;have e12:e2=e1:=by
     have h1:=guess_back ok g;rw[<- edi_wd ok,hA2,he2] at h1;exact Option.some.inj h1
    have hne:=edi_ne ok;rw[hA2] at hne;have hx:=r33 hw hw1 ok;refine⟨e1,0,?_,?_,by rw[<- e12]; exact hc2⟩
    ·rw[sre,e12];have:ediC b e1=s:=by unfold ediC; rw[if_pos hA1]; exact hA2
     rw[this];exact if_neg (by simp[hne])
    ·rw[ire,hx,vS,hA2,hA1];exact(gP ⟨fun _=>rfl,trivial⟩).trans (if_neg (by simp))
   ·refine⟨zeroE,6,?_,?_,cz⟩
    ·rw[sre];refine if_pos ?_;rw[Bool.or_eq_true,dq];by_cases h0:s=ByteArray.mk #[]
     ·exact .inl h0
     ·refine .inr ?_;rw[Bool.not_eq_true',decide_eq_false_iff_not];intro h1;by_cases hc:codeV b e2=0
      ·have ok:=e_ok hc;have h2:ediT b e2=s:=by
        unfold ediC at h1
        rwa [if_pos hc] at h1
       have h3:=red_back ok g;rw[<- edi_wd ok,h2,he1] at h3;have e12:e1=e2:=Option.some.inj h3;exact hA ⟨by rw[e12]; exact hc,by rw[e12]; exact h2⟩
      ·unfold ediC at h1;rw[if_neg hc] at h1;exact h0 h1.symm
    ·rw[ire];by_cases hc:codeV b e1=0
     ·have ok:=e_ok hc;have hx:=r33 hw hw1 ok;rw[hx,vS];refine(gP ⟨fun _=>rfl,trivial⟩).trans (if_pos ?_);have:¬ediT b e1=s:=fun h=>hA ⟨hc,h⟩;simp[this]
     ·refine(gP ⟨fun h=>by simp[hc] at h,trivial⟩).trans (if_pos ?_);simp[hc]
theorem fold_k(n:Nat)(k:Int):fN (fun _ (s:Int)=>s+1) n k=k+(n:Int):=by
 induction n with
 | zero=>show k=_; omega
 | succ n ih=>rw[fN,ih]; omega
theorem r100(n:Nat)(k:Int)(hn:n<=1000000000000)(h0:0<=k)(h1:k<=1000000000000):u100 (mkI k n) k=some (k+(n:Int)):=by
 have hl:=mkI_len n k;rw[<- fold_k n];refine lF (n:=n) (by omega) (fun i (s:Int)=>(s,(i:Int))) (fun _ s=>s+1) (fun i s=>s=k+(i:Int)) (J:=u100J0) (F:=u100L1 (mkI k n)) (fun g i s hi hs=>?_) (fun i s hi hs=>by subst hs; omega) (fun g s _=>if_neg (by rw[hl]; simp)) _ (by omega);subst hs;refine(if_pos (decide_eq_true (by rw[hl]; omega))).trans ?_;refine(gP ⟨⟨by omega,by rw[hl]; omega⟩,trivial⟩).trans ?_;have e:(i:Int).toNat=i:=rfl;rw[e,mkI_get n k i hi];refine(if_neg (by simp)).trans ?_;refine(gP ⟨oo,trivial⟩).trans ?_;exact gP ⟨oo,trivial⟩
theorem r42(x:WiD)(h:wiN x<=1048576):u42 (wiM 1 x) (1:Int)=some (1+(wiN x:Int)):=by
 unfold wiN at h;have e1:u100 (wiM 1 x).1 (1:Int)=some (1+(x.1.length:Int)):=r100 _ _ (by omega) (by omega) (by omega);have e2:u100 (wiM 1 x).2.1 (1+(x.1.length:Int))=some (1+(x.1.length:Int)+(x.2.1.length:Int)):=r100 _ _ (by omega) (by omega) (by omega);have q3:1+((x.1.length+x.2.1.length:Nat):Int)=1+(x.1.length:Int)+(x.2.1.length:Int):=by omega
 have q4:1+((x.1.length+x.2.1.length+x.2.2.1.length:Nat):Int)=1+(x.1.length:Int)+(x.2.1.length:Int)+(x.2.2.1.length:Int):=by omega
 have e3:u100 (wiM 1 x).2.2.1 (1+(x.1.length:Int)+(x.2.1.length:Int))=some (1+(x.1.length:Int)+(x.2.1.length:Int)+(x.2.2.1.length:Int)):=by
  rw[<- q3];exact r100 _ _ (by omega) (by omega) (by omega)
 have e4:u100 (wiM 1 x).2.2.2 (1+(x.1.length:Int)+(x.2.1.length:Int)+(x.2.2.1.length:Int))=some (1+(x.1.length:Int)+(x.2.1.length:Int)+(x.2.2.1.length:Int)+(x.2.2.2.length:Int)):=by
  rw[<- q4];exact r100 _ _ (by omega) (by omega) (by omega)
 unfold u42;rw[e1,vS,gP ⟨rfl,trivial⟩,lE];refine(if_neg (by simp; omega)).trans ?_;rw[e2,vS,gP ⟨rfl,trivial⟩,lE];refine(if_neg (by simp; omega)).trans ?_;rw[e3,vS,gP ⟨rfl,trivial⟩,lE];refine(if_neg (by simp; omega)).trans ?_;rw[e4,vS,gP ⟨rfl,trivial⟩,lE];refine(if_neg (by simp; omega)).trans ?_;refine congrArg some ?_;unfold wiN;omega
theorem r13(x:EdD)(h:wiN x.2.2.2.2.2.2<=1048576):u13 (edM 1 x) (1:Int)=some (1+(wiN x.2.2.2.2.2.2:Int)):=by
 have e:u42 (edM 1 x).2.2.2.2.2.2 (1:Int)=some (1+(wiN x.2.2.2.2.2.2:Int)):=r42 _ h;unfold u13;rw[e,vS,gP ⟨rfl,trivial⟩,lE];exact if_neg (by simp; omega)
theorem sz_le{n:Nat}{l:Int}(h1:l<=1048576):szN n l<=1048576:=by
 unfold szN;split <;> omega
theorem sz_pos{n:Nat}{l:Int}(h1:l<=1048576)(h:0<=szN n l):n<=1048576:=by
 unfold szN at h;split at h <;> omega
theorem r3(b:Y32)(s:ByteArray)(hw:wf y32 b)(_:s.size<=9223372036854775807):GL3 b s:=by
 refine⟨_,z5 b 1048576 hw (by decide) (by decide),sz_le (by decide),fun h0 hs=>?_⟩;have hm:=sz_pos (by decide) h0;obtain⟨l,c,h1,h2,h3⟩:=read_same b hw hm s hs;have k1:=cntM_bd (t:=y50) (x:=b) (k:=64) hm (by decide);have hwi:wiN l.2.2.2.2.2.2<=1048576:=by
  have hwi:cnt y36 l.2.2.2.2.2.2<=1048576:=cS (cS (cS (cS (cS (cS h3)))));have e:cnt y36 l.2.2.2.2.2.2=wiN l.2.2.2.2.2.2:=by
   show cnt (.sl (.int .i64)) _+(cnt (.sl (.int .i64)) _+(cnt (.sl (.int .i64)) _+cnt (.sl (.int .i64)) _))=_;rw[cnt_ints,cnt_ints,cnt_ints,cnt_ints];unfold wiN;omega
  omega
 exact⟨l,c,⟨w7 b hm,h1,h2,e9 l h3,e10 b hm,by omega,by omega,r13 l hwi⟩⟩
end Go.Proofs.YtfggbbnnalflhaaGreatDoor
end
