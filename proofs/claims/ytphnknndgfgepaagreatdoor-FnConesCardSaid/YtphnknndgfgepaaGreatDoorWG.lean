/- The order of the nodes of a graph: the two loops. -/
import Derived.Test.YtphnknndgfgepaaGreatDoorWF
import Derived.Test.YtphnknndgfgepaaGreatDoorWB
section
namespace Go.Proofs.YtphnknndgfgepaaGreatDoor
open Go Go.Proofs Go.Proofs.Sv Go.Proofs.Xv Go.Proofs.Xl Go.Proofs.Xd
section
variable {b:Y34}
theorem set_len{o:List Int}{i N:Nat}{x:Int}(h:o.length=N):(o.set i x).length=N:=by rw[List.length_set,h]
theorem r57L1(hb:blockOk b=true){lv:List Bool}{p:Nat->Bool}:lp (u57L1 (viewV b,lv) (idxV p (lV b).length)) (0,List.replicate (nodN b) 0)=u57J0 (viewV b,lv) (((List.range (lV b).length).filter p).foldl (incO (toN b)) (List.replicate (nodN b) 0)):=by
 have hM:=links_len hb;obtain⟨q1,q2⟩:=idxV_len p (lV b).length;rw[<- foldN_foldl,<- q2];refine lF (n:=(idxV p (lV b).length).length) (by omega) (fun i (s:List Int)=>((i:Int),s)) (fun i o=>incO (toN b) o (((List.range (lV b).length).filter p).getD i 0)) (fun i o=>o.length=nodN b/\∀v,0<=o.getD v 0/\o.getD v 0<=(i:Int)) (J:=fun s=>u57J0 (viewV b,lv) s) (F:=u57L1 (viewV b,lv) (idxV p (lV b).length)) (fun g i o hi ho=>?_) (fun i o hi ho=>?_) (fun g s _=>if_neg (by simp)) _ ⟨List.length_replicate,fun v=>?_⟩
 ·have e3:((i:Int)).toNat=i:=rfl;obtain⟨ol,ob⟩:=ho;have hk:=filt_lt (p:=p) (M:=(lV b).length) (i:=i) (by omega);refine(if_pos (decide_eq_true (by omega))).trans ?_;refine(gP ⟨oo,by omega,trivial⟩).trans ?_;rw[e3,idxV_get];generalize ((List.range (lV b).length).filter p).getD i 0=k at hk;have e4:Int.toNat ((k:Nat):Int)=k:=rfl;obtain⟨f1,f2,f3,f4⟩:=frto b hb hk;have hx:ix ((k:Nat):Int) (viewV b).2.2.1.length:=⟨by omega,by show((k:Nat):Int) < ((lV b).length:Int); omega⟩;have hv:=ob (toN b k);have e5:((viewV b).2.2.1.getD (Int.toNat ((k:Nat):Int)) (dflt y48)).2.1=(toN b k:Int):=f2;have e6:Int.toNat ((toN b k:Nat):Int)=toN b k:=rfl;rw[e5,e6];refine(gP ⟨hx,oo,by omega,oo,oo,by omega,trivial⟩).trans ?_;rw[lE];exact gP ⟨oo,trivial⟩
 ·obtain⟨ol,ob⟩:=ho;have hk:=filt_lt (p:=p) (M:=(lV b).length) (i:=i) (by omega);obtain⟨f1,f2,f3,f4⟩:=frto b hb hk;refine⟨set_len ol,fun v=>?_⟩;unfold incO;rw[set_get _ (by omega)];have h1:=ob v;have h2:=ob (toN b (((List.range (lV b).length).filter p).getD i 0));split <;> omega
 ·have:(List.replicate (nodN b) (0:Int)).getD v 0=0:=by
   rw[gq,List.getElem?_replicate];split <;> rfl
  rw[this];omega
theorem r57L5(hb:blockOk b=true){lv:List Bool}{p:Nat->Bool}{n:Int}{l:List Int}{v:Int}{g3:List Int×Int×List Int->Option (List Int×Bool)}{o:List Int}{A:Int}(hA:0<=A)(hA2:A<=1000000000000)(ol:o.length=nodN b)(olo:∀w,w<nodN b -> -A<=o.getD w 0/\o.getD w 0<=A):lp (u57L5 (viewV b,lv) (idxV p (lV b).length) n l v g3) (0,o)=u57J4 n g3 (l++[v],((List.range (lV b).length).filter p).foldl (decO (toN b)) o):=by
 have hM:=links_len hb;obtain⟨q1,q2⟩:=idxV_len p (lV b).length;rw[<- foldN_foldl,<- q2];refine lF (n:=(idxV p (lV b).length).length) (by omega) (fun i (s:List Int)=>((i:Int),s)) (fun i o=>decO (toN b) o (((List.range (lV b).length).filter p).getD i 0)) (fun i o=>o.length=nodN b/\∀w,w<nodN b -> -A-(i:Int)<=o.getD w 0/\o.getD w 0<=A) (J:=fun s=>u57J4 n g3 (l++[v],s)) (F:=u57L5 (viewV b,lv) (idxV p (lV b).length) n l v g3) (fun g i o hi ho=>?_) (fun i o hi ho=>?_) (fun g s _=>if_neg (by simp)) _ ⟨ol,fun w hw=>by have:=olo w hw; omega⟩
 ·have e3:((i:Int)).toNat=i:=rfl;obtain⟨ol,ob⟩:=ho;have hk:=filt_lt (p:=p) (M:=(lV b).length) (i:=i) (by omega);refine(if_pos (decide_eq_true (by omega))).trans ?_;refine(gP ⟨oo,by omega,trivial⟩).trans ?_;rw[e3,idxV_get];generalize ((List.range (lV b).length).filter p).getD i 0=k at hk;obtain⟨f1,f2,f3,f4⟩:=frto b hb hk;have hx:ix ((k:Nat):Int) (viewV b).2.2.1.length:=⟨by omega,by show((k:Nat):Int) < ((lV b).length:Int); omega⟩;have hv:=ob (toN b k) f4;have e5:((viewV b).2.2.1.getD (Int.toNat ((k:Nat):Int)) (dflt y48)).2.1=(toN b k:Int):=f2;have e6:Int.toNat ((toN b k:Nat):Int)=toN b k:=rfl;rw[e5,e6];refine(gP ⟨hx,oo,by omega,oo,oo,by omega,trivial⟩).trans ?_;rw[lE];exact gP ⟨oo,trivial⟩
 ·obtain⟨ol,ob⟩:=ho;have hk:=filt_lt (p:=p) (M:=(lV b).length) (i:=i) (by omega);obtain⟨f1,f2,f3,f4⟩:=frto b hb hk;refine⟨set_len ol,fun w hw=>?_⟩;unfold decO;rw[set_get _ (by omega)];have h1:=ob w hw;have h2:=ob _ f4;split <;> omega
def ordB(b:Y34)(lv:List Bool)(out:List Nat)(k:Nat):Option (List Nat):=ordGo (lV b).length (nodN b) (frN b) (toN b) (fun i=>lv.getD i false) k out
theorem ordGo_succ(M N:Nat)(fr to:Nat->Nat)(lv:Nat->Bool)(k:Nat)(out:List Nat):ordGo M N fr to lv (k+1) out=match nextV M N fr to lv out with | none=>none | some v=>ordGo M N fr to lv k (out++[v]):=rfl
theorem r57(hb:blockOk b=true){lv:List Bool}(hlv:lv.length=(lV b).length):u57 (viewV b,lv)=some (ordRes (ordB b lv [] (nodN b))):=by
 have hM:=links_len hb;have hN:=nod_le b hb;have ht:∀i,i < (lV b).length->toN b i<nodN b:=fun i hi=>(frto b hb hi).2.2.2;unfold u57;rw[r115 b hb,vS,gP ⟨rfl,⟨by omega,rfl,by rw[Int.toNat_natCast]; omega,by omega⟩,trivial⟩,lE,r116T hb hlv,vS,gP ⟨rfl,trivial⟩,lE,Int.toNat_natCast,r57L1 hb];have hO:((List.range (lV b).length).filter fun i=>lv.getD i false).foldl (incO (toN b)) (List.replicate (nodN b) 0)=openV (lV b).length (nodN b) (frN b) (toN b) (fun i=>lv.getD i false) []:=rfl;rw[hO];have hl0:(openV (lV b).length (nodN b) (frN b) (toN b) (fun i=>lv.getD i false) []).length=nodN b:=(oinv_0 (fr:=frN b) ht).len;generalize hv6:openV (lV b).length (nodN b) (frN b) (toN b) (fun i=>lv.getD i false) []=v6 at hl0;rw[u57J0];have key:=lp_run (n:=nodN b) (by omega) (fun i (out:List Nat)=>(out.map (fun v:Nat=>(v:Int)),(i:Int),openV (lV b).length (nodN b) (frN b) (toN b) (fun i=>lv.getD i false) out))
  (fun _ out=>(nextV (lV b).length (nodN b) (frN b) (toN b) (fun i=>lv.getD i false) out).map fun v=>out++[v]) (fun _ _=>some ([],false))
  (fun i out=>out.length=i/\OInv (lV b).length (nodN b) (frN b) (toN b) (fun i=>lv.getD i false) out (openV (lV b).length (nodN b) (frN b) (toN b) (fun i=>lv.getD i false) out))
  (J:=fun out=>some (out.map (fun v:Nat=>(v:Int)),true)) (F:=u57L3 (viewV b,lv) v6)
  (fun g i out hi ho=>by
    obtain⟨h1,h2⟩:=ho;have e3:((i:Int)).toNat=i:=rfl;refine(if_pos (decide_eq_true (by omega))).trans ?_;rw[r118 _ (by rw[h2.len]; omega),oinv_next h2,vS];refine(gP ⟨rfl,trivial⟩).trans ?_;rw[lE];cases hn:nextV (lV b).length (nodN b) (frN b) (toN b) (fun i=>lv.getD i false) out with
    | none=>rfl
    | some v =>
      obtain⟨n1,n2⟩:=next_ok hn;have ev:((v:Int)).toNat=v:=rfl;dsimp only;refine(if_neg (by simp)).trans ?_;refine(gP ⟨⟨by omega,by rw[h2.len]; omega⟩,by rw[h2.len]; omega,trivial⟩).trans ?_;refine(gP ⟨⟨by simp only[List.length_singleton,List.length_map]; omega,by simp only[List.length_singleton,List.length_map]; omega⟩,trivial⟩).trans ?_;show gd ((u73 (viewV b,lv) (v:Int)).isSome=true/\True) (lt (vl (u73 (viewV b,lv) (v:Int))) fun v19=>lp (u57L5 (viewV b,lv) v19 (i:Int) (out.map fun v:Nat=>(v:Int)) (v:Int) g) (0,(openV (lV b).length (nodN b) (frN b) (toN b) (fun i=>lv.getD i false) out).set v (-1)))=g ((out++[v]).map (fun v:Nat=>(v:Int)),(((i+1:Nat)):Int),openV (lV b).length (nodN b) (frN b) (toN b) (fun i=>lv.getD i false) (out++[v]));rw[r73 hb hlv,vS,gP ⟨rfl,trivial⟩,lE];have hle:(out.length:Int)*((lV b).length:Int)<=1000000*6000:=Int.mul_le_mul (by omega) (by omega) (by omega) (by decide);rw[r57L5 hb (A:=6000000001) (by decide) (by decide) (set_len h2.len) (fun w hw=>by
       rw[set_get _ (by rw[h2.len]; exact n1)];have a1:=h2.lo w hw;have a2:=h2.hi w hw;split <;> omega)]
      rw[openV_app,List.map_append];exact gP ⟨oo,trivial⟩)
  (fun i out out' hi ho he=>by
    obtain⟨h1,h2⟩:=ho;cases hn:nextV (lV b).length (nodN b) (frN b) (toN b) (fun i=>lv.getD i false) out with
    | none=>rw[hn] at he; cases he
    | some v =>
      rw[hn] at he;cases he;obtain⟨n1,n2⟩:=next_ok hn;refine⟨by simp[h1],?_⟩;rw[openV_app];exact oinv_step ht h2 n1 n2)
  (fun g out ho=>by
    refine(if_neg ?_).trans rfl;simp[hl0])
  (fun i out=>some (ordRes (ordB b lv out (nodN b-i)))) (fun out _=>by
    rw[Nat.sub_self]; rfl)
  (fun i out hi ho=>by
    have e:nodN b-i=(nodN b-(i+1))+1:=by omega
    show some (ordRes (ordGo _ _ _ _ _ (nodN b-i) out))=_;rw[e,ordGo_succ];cases nextV (lV b).length (nodN b) (frN b) (toN b) (fun i=>lv.getD i false) out <;> rfl)
  0 (Nat.zero_le _) [] ⟨rfl,oinv_0 ht⟩
 rw[hv6] at key;exact key
end
section
variable {b:Y34}
theorem r60(hb:blockOk b=true){lv:List Bool}(hlv:lv.length=(lV b).length):u60 (nodN b:Int) (lV b) lv=some (ordRes (ordB b lv [] (nodN b))):=by
 have hM:=links_len hb;have hN:=nod_le b hb;have ht:∀i,i < (lV b).length->toN b i<nodN b:=fun i hi=>(frto b hb hi).2.2.2;have hN0:((nodN b:Int)).toNat=nodN b:=rfl;unfold u60;rw[hN0];refine(gP ⟨⟨by omega,rfl,by omega,by omega⟩,trivial⟩).trans ?_;exact lp_run (n:=nodN b) (by omega) (fun _ (out:List Nat)=>(listV (nodN b) out,out.map (fun v:Nat=>(v:Int))))
  (fun _ out=>(nextV (lV b).length (nodN b) (frN b) (toN b) (fun i=>lv.getD i false) out).map fun v=>out++[v]) (fun _ _=>some ([],false))
  (fun i out=>out.length=i/\∀v∈out,v<nodN b)
  (J:=fun out=>some (out.map (fun v:Nat=>(v:Int)),true)) (F:=u60L1 (lV b) lv (nodN b:Int))
  (fun g i out hi ho=>by
    obtain⟨h1,h2⟩:=ho;have ls:=fun w=>listV_get h2 w;refine(if_pos (decide_eq_true (by rw[List.length_map]; omega))).trans ?_;rw[hN0];refine(gP ⟨⟨by omega,rfl,by omega,by omega⟩,trivial⟩).trans ?_;refine(lF (n:=(lV b).length) (by omega) (fun k (w:List Bool)=>((k:Int),w)) (waitS (frN b) (toN b) (fun i=>lv.getD i false) out) (fun _ w=>w.length=nodN b) (J:=fun w=>u60J2 (listV (nodN b) out) (out.map fun v:Nat=>(v:Int)) (nodN b:Int) g w) (F:=u60L3 (lV b) lv (listV (nodN b) out) (out.map fun v:Nat=>(v:Int)) (nodN b:Int) g) (fun g3 k w hk hw=>?_) (fun k w _ hw=>?_) (fun g3 w _=>if_neg (by simp)) (List.replicate (nodN b) false) List.length_replicate).trans ?_
    ·have e3:((k:Int)).toNat=k:=rfl;obtain⟨f1,f2,f3,f4⟩:=frto b hb hk;have e4:Int.toNat ((frN b k:Nat):Int)=frN b k:=rfl;have e5:Int.toNat ((toN b k:Nat):Int)=toN b k:=rfl;have l1:=(ls (frN b k)).1;refine(if_pos (decide_eq_true (by omega))).trans ?_;rw[e3,f1,f2,e4,e5,(ls (frN b k)).2];refine(gP ⟨oo,(fun _=>oo),(fun _=>oo),(fun _=>by omega),trivial⟩).trans ?_;unfold waitS;by_cases hc:(lv.getD k false&&!out.contains (frN b k))=true
     ·rw[if_pos hc,if_pos hc];refine(gP ⟨oo,oo,by omega,trivial⟩).trans ?_;exact gP ⟨oo,trivial⟩
     ·rw[if_neg hc,if_neg hc];exact gP ⟨oo,trivial⟩
    ·unfold waitS;split
     ·rw[List.length_set]; exact hw
     ·exact hw
    ·show u60J2 _ _ _ g _=_;rw[u60J2,<- wait_next (lv:=fun i=>lv.getD i false) (fr:=frN b) ht h2];have wl:=(wait_get (fr:=frN b) (lv:=fun i=>lv.getD i false) ht out 0 _ (Nat.le_refl _)).1;generalize fN (waitS (frN b) (toN b) (fun i=>lv.getD i false) out) (lV b).length (List.replicate (nodN b) false)=w at wl;have l1:=(ls 0).1;have key:=lp_any (n:=nodN b) (by omega) (fun v=>!((listV (nodN b) out).getD v false||w.getD v false)) (fun v=>u60J5 (listV (nodN b) out) (out.map fun v:Nat=>(v:Int)) (nodN b:Int) g (v:Int)) (e:=some ([],false)) (F:=u60L6 (listV (nodN b) out) (out.map fun v:Nat=>(v:Int)) (nodN b:Int) w g) 0 (Nat.zero_le _) (fun g6 v _ hv=>by
      have e3:((v:Int)).toNat=v:=rfl;have ed:decide ((v:Int) < (nodN b:Int))=true:=decide_eq_true (by omega);refine(gP ⟨(fun _=>oo),(fun _=>by omega),(fun _=>oo),(fun _=>by omega),trivial⟩).trans ?_;rw[e3,ed,Bool.true_and];by_cases hc:((listV (nodN b) out).getD v false||w.getD v false)=true
      ·rw[if_pos hc,if_neg (by rw[hc]; decide)];exact gP ⟨oo,trivial⟩
      ·rw[if_neg hc,if_pos (by rw[Bool.eq_false_iff.2 hc]; rfl)]) (fun g6=>by
      have ed:decide ((nodN b:Int) < (nodN b:Int))=false:=decide_eq_false (by omega);refine(gP ⟨(fun h=>by rw[ed] at h; cases h.1),(fun h=>by rw[ed] at h; cases h.1),(fun h=>by rw[ed] at h; cases h.2.1),(fun h=>by rw[ed] at h; cases h.2.1),trivial⟩).trans ?_;rw[ed,Bool.false_and];refine(if_neg (by decide)).trans ?_;rw[u60J5];exact if_pos (beq_self_eq_true _))
     rw[Nat.sub_zero,<- List.range_eq_range'] at key;refine Eq.trans key ?_;cases hn:(List.range (nodN b)).find? fun v=>!((listV (nodN b) out).getD v false||w.getD v false) with
     | none=>rfl
     | some v =>
       have hv:=List.mem_range.1 (List.mem_of_find?_eq_some hn);have e3:((v:Int)).toNat=v:=rfl;show u60J5 (listV (nodN b) out) (out.map fun v:Nat=>(v:Int)) (nodN b:Int) g (v:Int)=g (listV (nodN b) (out++[v]),(out++[v]).map fun v:Nat=>(v:Int));rw[u60J5,listV_app,List.map_append];refine(if_neg (by rw[beq_iff_eq]; omega)).trans ?_;refine(gP ⟨oo,by omega,trivial⟩).trans ?_;exact gP ⟨⟨by simp only[List.length_singleton,List.length_map]; omega,by simp only[List.length_singleton,List.length_map]; omega⟩,trivial⟩)
  (fun i out out' hi ho he=>by
    obtain⟨h1,h2⟩:=ho;cases hn:nextV (lV b).length (nodN b) (frN b) (toN b) (fun i=>lv.getD i false) out with
    | none=>rw[hn] at he; cases he
    | some v =>
      rw[hn] at he;cases he;obtain⟨n1,n2⟩:=next_ok hn;refine⟨by simp[h1],fun w hw=>?_⟩;rcases List.mem_append.1 hw with hw | hw
      ·exact h2 w hw
      ·cases List.mem_singleton.1 hw; exact n1)
  (fun g out ho=>by
    refine(if_neg ?_).trans rfl;simp[ho.1])
  (fun i out=>some (ordRes (ordB b lv out (nodN b-i)))) (fun out _=>by
    rw[Nat.sub_self]; rfl)
  (fun i out hi ho=>by
    have e:nodN b-i=(nodN b-(i+1))+1:=by omega
    show some (ordRes (ordGo _ _ _ _ _ (nodN b-i) out))=_;rw[e,ordGo_succ];cases nextV (lV b).length (nodN b) (frN b) (toN b) (fun i=>lv.getD i false) out <;> rfl)
  0 (Nat.zero_le _) [] ⟨rfl,fun v hv=>nomatch hv⟩
theorem live_len(M:Nat)(br:List Int):(liveV M br).length=M:=appF_len _ _
end
def codeG(b:Y34)(br:List Int):Int:=if blockOk b=true then(if brokB (lV b).length br=true then 0 else 2) else 1
theorem r58(b:Y34)(hw:wf y34 b)(hm:cnt y34 b<=1048576)(br:List Int)(hl:br.length<=1048576):u58 b br=some (codeG b br):=by
 unfold u58 codeG;rw[r23 b hw hm,vS,gP ⟨rfl,trivial⟩];cases hb:blockOk b with
 | false=>rfl
 | true =>
   have hM:=links_len hb;refine(if_neg (by simp)).trans ?_;rw[r59 b hw hb,vS,r119 _ br (by omega) hl,gP ⟨rfl,rfl,trivial⟩,lE,r119 _ br (by omega) hl,vS];cases brokB (lV b).length br <;> rfl
theorem r56(b:Y34)(hw:wf y34 b)(hm:cnt y34 b<=1048576)(br:List Int)(hl:br.length<=1048576):u56 b br=some (if codeG b br=0 then .inr ((viewV b,liveV (lV b).length br),0) else .inl (codeG b br)):=by
 unfold u56 codeG;rw[r65 b hw hm,vS,gP ⟨rfl,trivial⟩];cases hb:blockOk b with
 | false=>rfl
 | true =>
   refine(if_neg (by simp)).trans ?_;rw[r66 b hw hb,vS,gP ⟨rfl,trivial⟩,lE,r113 hb br hl,vS,gP ⟨rfl,trivial⟩];cases hr:brokB (lV b).length br with
   | false=>rfl
   | true =>
     refine(if_neg (by simp)).trans ?_;rw[r114 hb hr hl,vS,gP ⟨rfl,trivial⟩,lE];rfl
theorem codeG_ok{b:Y34}{br:List Int}(h:codeG b br=0):blockOk b=true/\brokB (lV b).length br=true:=by
 unfold codeG at h;split at h
 ·rename_i hb;split at h
  ·rename_i hr; exact⟨hb,hr⟩
  ·cases h
 ·cases h
def topF(b:Y34)(br:List Int):List Int×Int:=if codeG b br=0 then(if(ordRes (ordB b (liveV (lV b).length br) [] (nodN b))).2=true then((ordRes (ordB b (liveV (lV b).length br) [] (nodN b))).1,0) else([],7)) else([],codeG b br)
theorem r14(b:Y34)(hw:wf y34 b)(hm:cnt y34 b<=1048576)(br:List Int)(hl:br.length<=1048576):u14 b br=some (topF b br):=by
 unfold u14 topF;rw[r56 b hw hm br hl];by_cases h:codeG b br=0
 ·obtain⟨hb,hr⟩:=codeG_ok h;rw[if_pos h,if_pos h];refine(if_neg (by simp[isL])).trans ((gP ⟨rfl,trivial⟩).trans ?_);refine(if_neg (by simp[vR])).trans ?_;show gd ((u57 (viewV b,liveV (lV b).length br)).isSome=true/\True) (lt (vl (u57 (viewV b,liveV (lV b).length br))) fun v0=>_)=_;rw[r57 hb (live_len _ _),vS,gP ⟨rfl,trivial⟩,lE];cases h2:(ordRes (ordB b (liveV (lV b).length br) [] (nodN b))).2
  ·refine(if_pos (by simp)).trans ?_;rfl
  ·refine(if_neg (by simp)).trans ?_;rfl
 ·rw[if_neg h,if_neg h];refine(if_pos rfl).trans ((gP ⟨rfl,trivial⟩).trans ?_);exact if_pos (by show(codeG b br != 0)=true; simp[h])
theorem r15(b:Y34)(hw:wf y34 b)(hm:cnt y34 b<=1048576)(br:List Int)(hl:br.length<=1048576):u15 b br=some (topF b br):=by
 unfold u15 topF;rw[r58 b hw hm br hl,vS,gP ⟨rfl,trivial⟩,lE];by_cases h:codeG b br=0
 ·obtain⟨hb,hr⟩:=codeG_ok h;have hM:=links_len hb;rw[h];refine(if_neg (by decide)).trans ?_;rw[r59 b hw hb,vS,gP ⟨rfl,trivial⟩,lE,r61 b hw hb,vS,r62 _ _ (by omega) hl,vS,r60 hb (live_len _ _),vS];refine(gP ⟨rfl,rfl,rfl,trivial⟩).trans ?_;rw[lE,if_pos rfl];cases h2:(ordRes (ordB b (liveV (lV b).length br) [] (nodN b))).2
  ·refine(if_pos (by simp[h2])).trans ?_;rfl
  ·refine(if_neg (by simp[h2])).trans ?_;rfl
 ·rw[if_neg h];exact if_pos (by simp[h])
theorem brkJ_ok{M:List Y48}(hM:M.length<=6000){l:List Int}{s:Y152}(h:Sd s)(hl:l.length<=6000) :
  (∃r,u55J0 M (s.1,s.2.1,s.2.2,l)=some r/\(Sd r.2/\r.1.length<=6001))/\∃r,u55J3 M (s.1,s.2.1,s.2.2,l)=some r/\(Sd r.2/\r.1.length<=6001):=by
 obtain⟨v,s0,e0,hs0,-,-,-⟩:=nxt_ok (n:=12) h (by omega);obtain⟨q,s1,e1,hs1,qa,qb,-⟩:=nxt_ok (n:=2) hs0 (by omega);have qb:=qb (by omega);have hin:in64 ((M.length:Int)*q):=by
  have h1:(M.length:Int)*q<=6000*1:=Int.mul_le_mul (by omega) (by omega) qa (by omega);have h2:0<=(M.length:Int)*q:=Int.mul_nonneg (by omega) qa;exact oo
 constructor
 ·unfold u55J0;simp only[e0,vS,Option.isSome_some];refine gd_ex ⟨trivial,trivial⟩ (lt_ex ?_);dsimp only;split
  ·simp only[e1,vS,Option.isSome_some];refine gd_ex ⟨trivial,hin,⟨by rw[List.length_singleton]; omega,by rw[List.length_singleton]; omega⟩,trivial⟩ (lt_ex ?_);exact⟨_,rfl,hs1,by simp only[List.length_append,List.length_singleton]; omega⟩
  ·exact⟨_,rfl,hs0,by simp only; omega⟩
 ·unfold u55J3;simp only[e0,vS,Option.isSome_some];refine gd_ex ⟨trivial,trivial⟩ (lt_ex ?_);dsimp only;split
  ·simp only[e1,vS,Option.isSome_some];refine gd_ex ⟨trivial,hin,⟨by rw[List.length_singleton]; omega,by rw[List.length_singleton]; omega⟩,trivial⟩ (lt_ex ?_);exact⟨_,rfl,hs1,by simp only[List.length_append,List.length_singleton]; omega⟩
  ·exact⟨_,rfl,hs0,by simp only; omega⟩
theorem brk_ok{s:Y152}(h:Sd s){b:Y34}(hw:wf y34 b)(hm:cnt y34 b<=20000):∃r,u55 s b=some r/\(Sd r.2/\r.1.length<=6001):=by
 unfold u55;simp only[r23 b hw (Nat.le_trans hm (by decide)),vS,Option.isSome_some];cases hb:blockOk b with
 | false =>
   refine gd_ex ⟨trivial,trivial⟩ ?_;rw[if_pos (by decide)];refine gd_ex trivial ?_;rw[if_pos (by decide)];exact⟨_,rfl,h,by simp⟩
 | true =>
   have hM:=links_len hb;obtain⟨v,s0,e0,hs0,-,-,-⟩:=nxt_ok (n:=3) h (by omega);obtain⟨v1,s1,e1,hs1,a1,b1,-⟩:=nxt_ok (n:=8) hs0 (by omega);have b1:=b1 (by omega);obtain⟨v2,s2,e2,hs2,a2,b2,-⟩:=nxt_ok (n:=1+v1) hs1 (by omega);have b2:=b2 (by omega);refine gd_ex ⟨trivial,trivial⟩ ?_;rw[if_neg (by decide)];simp only[e0,vS,Option.isSome_some];refine gd_ex ⟨⟨trivial,trivial⟩,trivial⟩ ?_;split
   ·exact lt_ex ⟨_,rfl,hs0,by simp⟩
   ·simp only[r59 b hw hb,vS,Option.isSome_some];refine gd_ex ⟨trivial,trivial⟩ (lt_ex ?_);dsimp only;simp only[e1,vS,Option.isSome_some];refine gd_ex ⟨trivial,oo,trivial⟩ (lt_ex ?_);dsimp only;simp only[e2,vS,Option.isSome_some];refine gd_ex ⟨trivial,trivial⟩ (lt_ex ?_);dsimp only;refine lp_ex (fun x=>(7000-x.1).toNat) (fun x=>Sd (x.2.1,x.2.2.1,x.2.2.2.1)/\0<=x.1/\x.1<=6100/\(x.2.2.2.2.length:Int)<=x.1/\x.2.2.2.2.length<=6000) ?_ ⟨hs2,by simp only; omega,by simp only; omega,by simp; omega,by simp⟩ (by simp only; omega);rintro g ⟨i,c,at0,sd0,l⟩ ⟨i1,i2,i3,i4,i5⟩ ih;simp only at i1 i2 i3 i4 i5;unfold u55L4;dsimp only;split
    ·rename_i hc;have hc:=of_decide_eq_true hc;obtain⟨v3,s3,e3,hs3,a3,b3,-⟩:=nxt_ok (n:=1+v1) i1 (by omega);have b3:=b3 (by omega);refine gd_ex ⟨⟨by rw[List.length_singleton]; omega,by rw[List.length_singleton]; omega⟩,trivial⟩ ?_;simp only[e3,vS,Option.isSome_some];refine gd_ex ⟨trivial,oo,oo,trivial⟩ (lt_ex ?_);exact ih _ ⟨hs3,by simp only; omega,by simp only; omega,by simp only[List.length_append,List.length_singleton]; omega,by simp only[List.length_append,List.length_singleton]; omega⟩ (by simp only; omega)
    ·exact(brkJ_ok hM (s:=(c,at0,sd0)) i1 i5).2
theorem nodeJ_ok{s:Y152}(h:Sd s){n:Int}(h0:n<=9223372036854775807):∃r,u64J0 s n=some r/\Sd r.2:=by
 obtain⟨v,s0,e0,hs0,-,-,-⟩:=nxt_ok (n:=16) h (by omega);obtain⟨q,s1,e1,hs1,qa,qb,-⟩:=nxt_ok (n:=2) hs0 (by omega);have qb:=qb (by omega);obtain⟨q2,s2,e2,hs2,-,-,-⟩:=nxt_ok (n:=n) hs0 h0;unfold u64J0;simp only[e0,vS,Option.isSome_some];refine gd_ex ⟨trivial,trivial⟩ (lt_ex ?_);dsimp only;split
 ·simp only[e1,vS,Option.isSome_some];exact gd_ex ⟨trivial,⟨qa,by simp; omega⟩,by simp; omega,trivial⟩ (lt_ex ⟨_,rfl,hs1⟩)
 ·simp only[e2,vS,Option.isSome_some];exact gd_ex ⟨trivial,trivial⟩ (lt_ex ⟨_,rfl,hs2⟩)
theorem node_ok{s:Y152}(h:Sd s){b:Y34}(hw:wf y34 b)(hm:cnt y34 b<=20000):∃r,u64 s b=some r/\Sd r.2:=by
 unfold u64;simp only[r23 b hw (Nat.le_trans hm (by decide)),vS,Option.isSome_some];cases hb:blockOk b with
 | false =>
   refine gd_ex ⟨trivial,trivial⟩ ?_;rw[if_neg (by decide)];exact nodeJ_ok h (by omega)
 | true =>
   refine gd_ex ⟨trivial,trivial⟩ ?_;have hN:=nod_le b hb;rw[if_pos rfl];simp only[r61 b hw hb,vS,Option.isSome_some];exact gd_ex ⟨trivial,trivial⟩ (lt_ex (nodeJ_ok h (by omega)))
theorem wf9{v:Y34×Y152}(h:wfA (R54 v)):wf y34 v.1:=⟨h.1,⟨h.2.1,h.2.2.1,h.2.2.2.1⟩,h.2.2.2.2.1⟩
section
variable [Alw]
theorem dfan_ok{c:List Int}(h:wf (.sl (.int .u8)) c):u27 c=some ():=by
 obtain⟨s,e,hs⟩:=from_ok h;refine u_of ?_;unfold u27;simp only[e,vS,Option.isSome_some];refine gd_ex ⟨trivial,trivial⟩ (lt_ex ?_);refine gd_ex ⟨trivial,hs.1⟩ (alp_ex ?_);intro v1 ⟨⟨t1,t2⟩,hw,hz⟩;obtain⟨r,e2,hr,hl⟩:=brk_ok (s:=Z54 v1) (b:=v1.1) (Sd_of hz t1) (wf9 hw) t2;obtain⟨q,e3,hq⟩:=node_ok (s:=r.2) (b:=v1.1) hr (wf9 hw) t2;refine u_of (gd_ex trivial ?_);simp only[e2,e3,vS,Option.isSome_some];exact gd_ex ⟨trivial,trivial,trivial⟩ (lt_ex (gd_ex ⟨t2,by show r.1.length<=20000; omega⟩ ⟨_,rfl,trivial⟩))
theorem k27:K27:=e27 k54 fun x hw _=>dfan_ok hw.1
end
section
variable {b:Y34}
def loopB(b:Y34)(br:List Int):Bool:=!(ordRes (ordB b (liveV (lV b).length br) [] (nodN b))).2
theorem r63(hb:blockOk b=true)(br:List Int):u63 (viewV b,liveV (lV b).length br)=some (loopB b br):=by
 unfold u63;rw[r57 hb (live_len _ _),vS,gP ⟨rfl,trivial⟩,lE];rfl
end
def codeN(b:Y34)(br:List Int)(a:Int):Int:=if codeG b br=0 then(if inB a 0 ((nodN b:Int)-1)=true then 0 else 4) else codeG b br
theorem codeN_ok{b:Y34}{br:List Int}{a:Int}(h:codeN b br a=0):codeG b br=0/\inB a 0 ((nodN b:Int)-1)=true:=by
 unfold codeN at h;split at h
 ·rename_i hc;split at h
  ·rename_i hr; exact⟨hc,hr⟩
  ·cases h
 ·contradiction
theorem r139(b:Y34)(hw:wf y34 b)(hm:cnt y34 b<=1048576)(br:List Int)(hl:br.length<=1048576)(a:Int):u139 b br a=some (codeN b br a):=by
 unfold u139 codeN;rw[r58 b hw hm br hl,vS,gP ⟨rfl,trivial⟩,lE];by_cases h:codeG b br=0
 ·obtain⟨hb,hr⟩:=codeG_ok h;have hN:=nod_le b hb;rw[h];refine(if_neg (by decide)).trans ?_;rw[r61 b hw hb,vS,r97];refine(gP ⟨rfl,oo,rfl,trivial⟩).trans ?_;rw[vS,if_pos rfl];cases inB a 0 ((nodN b:Int)-1) <;> rfl
 ·rw[if_neg h];exact if_pos (by simp[h])
theorem r135{b:Y34}(hb:blockOk b=true)(a:Int):u135 (viewV b) a=some (inB a 0 ((nodN b:Int)-1)):=by
 have hN:=nod_le b hb;unfold u135;rw[r115 b hb,vS];refine(gP ⟨rfl,oo,rfl,trivial⟩).trans ?_;rw[r150,vS]
theorem r72(b:Y34)(hw:wf y34 b)(hm:cnt y34 b<=1048576)(br:List Int)(hl:br.length<=1048576)(a:Int):u72 b br a=some (if codeN b br a=0 then .inr ((viewV b,liveV (lV b).length br),0) else .inl (codeN b br a)):=by
 unfold u72 codeN;rw[r56 b hw hm br hl];by_cases h:codeG b br=0
 ·obtain⟨hb,hr⟩:=codeG_ok h;rw[if_pos h,if_pos h];refine(if_neg (by simp[isL])).trans ((gP ⟨rfl,trivial⟩).trans ?_);show gd (((((0:Int)==0)=true/\True->(u135 (viewV b) a).isSome=true)/\True)) (if(((0:Int)==0)&&!vl (u135 (viewV b) a))=true then _ else _)=_;rw[r135 hb,vS];refine(gP ⟨fun _=>rfl,trivial⟩).trans ?_;cases inB a 0 ((nodN b:Int)-1) <;> rfl
 ·rw[if_neg h,if_neg h];refine(if_pos rfl).trans ((gP ⟨rfl,trivial⟩).trans ?_);refine(if_neg (by show ¬((codeG b br==0)=true); simp[h])).trans ?_;rw[if_neg h];rfl
theorem live_get{M:Nat}(br:List Int){i:Nat}(h:i<M):(liveV M br).getD i false=!hasB br (i:Int):=appF_get _ _ _ _ h
section
variable {b:Y34}
end
theorem nat_of{a x:Int}(h:inB a 0 x=true):a=(a.toNat:Int):=by
 unfold inB at h;simp only[ba,dq] at h;omega
theorem wf_nil{e:Ty}:wf (.sl e) []:=⟨Nat.zero_le _,fun _ h=>nomatch h⟩
theorem pigeon:∀(N:Nat) (l:List Nat),l.Nodup->(∀v∈l,v<N)->l.length<=N
 | 0,l,_,h=>by
   cases l with
   | nil=>exact Nat.le_refl _
   | cons a r=>exact(Nat.not_lt_zero _ (h a (by simp))).elim
 | N+1,l,hd,h=>by
   by_cases hm:N∈l
   ·have h1:=pigeon N (l.erase N) (hd.erase N) (fun v hv=>by
     have h2:=(hd.mem_erase_iff).1 hv;have:=h v h2.2;have:=h2.1;omega)
    have:=List.length_erase_of_mem hm;have:0<l.length:=List.length_pos_of_mem hm;omega
   ·have:=pigeon N l hd (fun v hv=>by
     have h1:=h v hv;have:v≠N:=fun e=>hm (e ▸ hv);omega)
    omega
theorem nodup_ne{l:List Nat}(h:l.Nodup){p q:Nat}(hp:p<q)(hq:q<l.length):l.getD p 0≠l.getD q 0:=by
 have:=List.pairwise_iff_getElem.1 h p q (by omega) hq hp;rw[gq,List.getElem?_eq_getElem (by omega),gq,List.getElem?_eq_getElem hq];exact this
theorem mem_pos{l:List Nat}{v:Nat}(h:v∈l):∃p,p<l.length/\l.getD p 0=v:=by
 obtain⟨p,hp,e⟩:=List.getElem_of_mem h;exact⟨p,hp,by rw[gq,List.getElem?_eq_getElem hp]; exact e⟩
structure OGood(M N:Nat)(fr to:Nat->Nat)(lv:Nat->Bool)(out:List Nat):Prop where
 nd:out.Nodup
 lt:∀v∈out,v<N
 bef:∀i,i<M->lv i=true->∀q,q<out.length->out.getD q 0=to i->∃p,p<q/\out.getD p 0=fr i
theorem getD_app1{l:List Nat}{v q:Nat}(h:q<l.length):(l++[v]).getD q 0=l.getD q 0:=by
 rw[gq,gq,List.getElem?_append_left h]
theorem getD_app2{l:List Nat}{v:Nat}:(l++[v]).getD l.length 0=v:=by
 rw[gq,List.getElem?_append_right (Nat.le_refl _),Nat.sub_self];rfl
theorem OGood.snoc{M N:Nat}{fr to:Nat->Nat}{lv:Nat->Bool}{out:List Nat}(h:OGood M N fr to lv out){v:Nat}(hv:v<N)(hn:v ∉ out)(hc:cntO M fr to lv out v=0):OGood M N fr to lv (out++[v]):=by
 refine⟨?_,fun w hw=>?_,fun i hi hl q hq e=>?_⟩
 ·rw[List.nodup_append];exact⟨h.nd,by simp,fun a ha b hb=>fun e=>hn (by rw[<- List.mem_singleton.1 hb,<- e]; exact ha)⟩
 ·rcases List.mem_append.1 hw with hw | hw
  ·exact h.lt w hw
  ·rw[List.mem_singleton.1 hw]; exact hv
 ·rw[List.length_append,List.length_singleton] at hq;by_cases c:q<out.length
  ·rw[getD_app1 c] at e;obtain⟨p,hp,e2⟩:=h.bef i hi hl q c e;exact⟨p,hp,by rw[getD_app1 (by omega)]; exact e2⟩
  ·have c:q=out.length:=by omega
   subst c;rw[getD_app2] at e;unfold cntO at hc;rw[List.countP_eq_zero] at hc;have h1:=hc i (List.mem_range.2 hi);have hm:fr i∈out:=by simpa [hl,e] using h1
   obtain⟨p,hp,e2⟩:=mem_pos hm;exact⟨p,hp,by rw[getD_app1 hp]; exact e2⟩
theorem ord_good{M N:Nat}{fr to:Nat->Nat}{lv:Nat->Bool}:∀(k:Nat) (out l:List Nat),OGood M N fr to lv out->ordGo M N fr to lv k out=some l->OGood M N fr to lv l/\l.length=out.length+k:=by
 intro k
 induction k with
 | zero=>intro out l h e; cases e; exact⟨h,rfl⟩
 | succ k ih =>
   intro out l h e;rw[ordGo_succ] at e;cases hn:nextV M N fr to lv out with
   | none=>rw[hn] at e; cases e
   | some v =>
     rw[hn] at e;obtain⟨n1,n2⟩:=next_ok hn;have hc:cntO M fr to lv out v=0:=by
      unfold nextV at hn;have:=List.find?_some hn;simp only[ba,beq_iff_eq] at this;exact this.2
     obtain⟨h1,h2⟩:=ih (out++[v]) l (h.snoc n1 n2 hc) e;exact⟨h1,by rw[h2,List.length_append,List.length_singleton]; omega⟩
theorem r18(l:List Int)(x:Int)(hl:l.length<=9223372036854775807):u18 l x=some (hasB l x):=by
 have key:=lp_all hl (fun j=>l.getD j 0==x) (some true) (e:=some false) (F:=u18L1 l x) (fun g i hi=>by
  have e3:((i:Int)).toNat=i:=rfl;refine(if_pos (decide_eq_true (by omega))).trans ((gP ⟨oo,trivial⟩).trans ?_);rw[e3];by_cases h:(l.getD i 0==x)=true
  ·rw[if_pos h,if_pos h]
  ·rw[if_neg h,if_neg h];exact gP ⟨oo,trivial⟩) (fun g=>if_neg (by simp))
 refine key.trans ?_;unfold hasB;cases(List.range l.length).any fun j=>l.getD j 0==x <;> rfl
theorem r16(b:Y34)(hw:wf y34 b)(hm:cnt y34 b<=1048576)(br:List Int)(hl:br.length<=1048576):u16 b br=some (if codeG b br=0 then(loopB b br,0) else(false,codeG b br)):=by
 unfold u16;rw[r56 b hw hm br hl];by_cases h:codeG b br=0
 ·obtain⟨hb,hr⟩:=codeG_ok h;rw[if_pos h,if_pos h];refine(if_neg (by simp[isL])).trans ((gP ⟨rfl,trivial⟩).trans ?_);refine(if_neg (by simp[vR])).trans ?_;show gd ((u63 (viewV b,liveV (lV b).length br)).isSome=true/\True) (some (vl (u63 (viewV b,liveV (lV b).length br)),(0:Int)))=_;rw[r63 hb br,vS,gP ⟨rfl,trivial⟩]
 ·rw[if_neg h,if_neg h];refine(if_pos rfl).trans ((gP ⟨rfl,trivial⟩).trans ?_);exact if_pos (by show(codeG b br != 0)=true; simp[h])
theorem n17(b:Y34)(hw:wf y34 b)(hm:cnt y34 b<=1048576)(hb:blockOk b=true):u17 b=some (nodN b:Int):=by
 unfold u17;rw[r23 b hw hm,vS,hb,r61 b hw hb,vS,gP ⟨rfl,trivial⟩];exact(if_neg (by decide)).trans (gP ⟨rfl,trivial⟩)
theorem n19(b:Y34)(hw:wf y34 b)(hm:cnt y34 b<=1048576)(hb:blockOk b=true):u19 b=some (lV b,0):=by
 unfold u19;rw[r23 b hw hm,vS,hb,r59 b hw hb,vS,gP ⟨rfl,trivial⟩];exact(if_neg (by decide)).trans (gP ⟨rfl,trivial⟩)
theorem cast_get(l:List Nat)(i:Nat):(l.map (fun v:Nat=>(v:Int))).getD i 0=(l.getD i 0:Int):=by
 rw[gq,gq,List.getElem?_map];cases l[i]? <;> rfl
theorem not_before{l:List Nat}(h:l.Nodup){i:Nat}(hi:i<l.length):hasB (List.take i (l.map (fun v:Nat=>(v:Int)))) ((l.getD i 0:Nat):Int)=false:=by
 unfold hasB;rw[List.any_eq_false];intro j hj;rw[List.mem_range,List.length_take] at hj;have hj:j<i:=by omega
 have e:(List.take i (l.map (fun v:Nat=>(v:Int)))).getD j 0=(l.getD j 0:Int):=by
  rw[<- cast_get,gq,gq,List.getElem?_take,if_pos hj]
 rw[e];have:=nodup_ne h hj hi;simp only[beq_iff_eq];omega
theorem lawL3{b:Y34}(hw:wf y34 b)(hm:cnt y34 b<=1048576)(hb:blockOk b=true){br:List Int}(hl:br.length<=1048576)[Alw]{l:List Nat}(hG:OGood (lV b).length (nodN b) (frN b) (toN b) (fun i=>(liveV (lV b).length br).getD i false) l)(hN:l.length=nodN b){ps:List Int}(hp:ps.length=nodN b)(hps:∀j,j<l.length->ps.getD (l.getD j 0) 0=(j:Int)) :
  ∃r,u3J0 (b,br) ps=some r/\r=true:=by
 have hM:=links_len hb;unfold u3J0;simp only[n19 b hw hm hb,vS,Option.isSome_some];refine gd_ex ⟨trivial,trivial⟩ (lt_ex ?_);refine lp_ex (fun i=>((lV b).length:Int).toNat+1-i.toNat) (fun i=>0<=i/\i<=((lV b).length:Int)) ?_ oo (by omega);rintro g i ⟨i1,i2⟩ ih;obtain⟨k,rfl⟩:∃k:Nat,i=(k:Int):=⟨i.toNat,by omega⟩;unfold u3L3;dsimp only;by_cases c:(k:Int) < ((lV b).length:Int)
 ·rw[if_pos (decide_eq_true c)];have hk:k < (lV b).length:=by omega
  have e3:((k:Int)).toNat=k:=rfl;obtain⟨f1,f2,f3,f4⟩:=frto b hb hk;have e4:Int.toNat ((frN b k:Nat):Int)=frN b k:=rfl;have e5:Int.toNat ((toN b k:Nat):Int)=toN b k:=rfl;simp only[r18 br (k:Int) (by omega),vS,Option.isSome_some,e3,f1,f2,e4,e5];refine gd_ex ⟨trivial,fun _=>oo,fun _=>hk,fun _=>oo,fun _=>by omega,fun _=>oo,fun _=>hk,fun _=>oo,fun _=>by omega,trivial⟩ ?_;rw[if_neg]
  ·exact gd_ex ⟨oo,trivial⟩ (ih _ oo (by omega))
  ·intro h;rw[ba,dq] at h;obtain⟨h1,h2⟩:=h;have hlv:(liveV (lV b).length br).getD k false=true:=by rw[live_get br hk]; exact h1
   have hmem:toN b k∈l:=by
    false_or_by_contra
    rename_i hn;have:=pigeon (nodN b) (toN b k :: l) (List.nodup_cons.2 ⟨hn,hG.nd⟩) (fun v hv=>by
     rcases List.mem_cons.1 hv with e | hv
     ·rw[e]; exact f4
     ·exact hG.lt v hv)
    rw[List.length_cons] at this;omega
   obtain⟨q,hq,eq⟩:=mem_pos hmem;obtain⟨p,hpq,ep⟩:=hG.bef k hk hlv q hq eq;have r1:=hps q hq;have r2:=hps p (by omega);rw[eq] at r1;rw[ep] at r2;omega
 ·rw[if_neg (by simpa using c)];exact⟨_,rfl,rfl⟩
theorem lawL1{b:Y34}(hw:wf y34 b)(hm:cnt y34 b<=1048576)(hb:blockOk b=true){br:List Int}(hl:br.length<=1048576)[Alw]{l:List Nat}(hG:OGood (lV b).length (nodN b) (frN b) (toN b) (fun i=>(liveV (lV b).length br).getD i false) l)(hN:l.length=nodN b){cd:Int} :
  ∃r,lp (u3L1 (l.map (fun v:Nat=>(v:Int)),cd) (nodN b:Int) (b,br)) (0,List.replicate (nodN b) 0)=some r/\r=true:=by
 have hNN:=nod_le b hb;refine lp_ex (fun x=>nodN b+1-x.1.toNat) (fun x=>0<=x.1/\x.1<=(nodN b:Int)/\x.2.length=nodN b/\∀j:Nat,(j:Int)<x.1->x.2.getD (l.getD j 0) 0=(j:Int)) ?_ ⟨by simp,by simp,by simp,fun j hj=>by simp only at hj; omega⟩ (by simp only; omega);rintro g ⟨i,ps⟩ ⟨i1,i2,i3,i4⟩ ih;simp only at i1 i2 i3 i4;obtain⟨k,rfl⟩:∃k:Nat,i=(k:Int):=⟨i.toNat,by omega⟩;unfold u3L1;dsimp only;have e3:((k:Int)).toNat=k:=rfl;simp only[List.length_map,e3,cast_get];by_cases c:(k:Int) < (l.length:Int)
 ·rw[if_pos (decide_eq_true c)];have hk:k<l.length:=by omega
  have hv:=hG.lt _ (getD_mem (d:=0) hk);have e4:∀n:Nat,Int.toNat (n:Int)=n:=fun _=>rfl;have hlen:(List.take k (l.map (fun v:Nat=>(v:Int)))).length<=9223372036854775807:=by
   rw[List.length_take,List.length_map]; omega
  have d1:decide (((l.getD k 0:Nat):Int)<0)=false:=decide_eq_false (by omega);have d2:decide ((nodN b:Int)<=((l.getD k 0:Nat):Int))=false:=decide_eq_false (by omega);simp only[r18 _ _ hlen,vS,Option.isSome_some,not_before hG.nd hk,d1,d2,e4];refine gd_ex ⟨oo,fun _=>oo,fun _=>⟨by omega,by omega,by omega⟩,fun _=>oo,fun _=>trivial,trivial⟩ ?_;rw[if_neg (by decide)];refine gd_ex ⟨oo,trivial⟩ (gd_ex ⟨oo,by omega,trivial⟩ (gd_ex ⟨oo,trivial⟩ ?_));refine ih _ ⟨by simp only; omega,by simp only; omega,by simp only[List.length_set]; exact i3,fun j hj=>?_⟩ (by simp only; omega);simp only at hj ⊢;rw[set_get _ (by omega)];by_cases cj:j=k
  ·subst cj; exact if_pos rfl
  ·rw[if_neg (nodup_ne hG.nd (by omega) hk)];exact i4 j (by omega)
 ·rw[if_neg (by simpa using c)];have:k=l.length:=by omega
  exact lawL3 hw hm hb hl hG hN i3 (fun j hj=>i4 j (by omega))
theorem law_in[Alw]{b:Y34}(hw:wf y34 b)(hm:cnt y34 b<=20000){br:List Int}(hl:br.length<=20000) :
  ∃r,(gd ((u14 b br).isSome=true/\True)<|lt (vl (u14 b br)) fun v1 =>
 gd ((u15 b br).isSome=true/\True)<|lt (vl (u15 b br)) fun v2 =>
 if(v1.2 != v2.2)=true then
  some false
 else
  gd ((u16 b br).isSome=true/\True)<|lt (vl (u16 b br)) fun v3 =>
  if(v1.2==7)=true then
   some (v3.1&&v3.2==0&&(v1.1.length:Int)==0)
  else
   if(v1.2 != 0)=true then
    some (v3.2==v1.2&&(v1.1.length:Int)==0)
   else
    gd ((u17 b).isSome=true/\True)<|lt (vl (u17 b)) fun v4 =>
    if(v3.1||(v1.1.length:Int) != v4)=true then
     some false
    else
     gd ((0<=v4/\v4=v4/\v4.toNat*8<=281474976710656/\v4<=9223372036854775807)/\True) <|
     lp (u3L1 v1 v4 (b,br)) (0,List.replicate v4.toNat 0))=some r/\r=true:=by
 have hm1:cnt y34 b<=1048576:=by omega
 have hl1:br.length<=1048576:=by omega
 simp only[r14 b hw hm1 br hl1,r15 b hw hm1 br hl1,r16 b hw hm1 br hl1,vS,Option.isSome_some];refine gd_ex ⟨trivial,trivial⟩ (lt_ex (gd_ex ⟨trivial,trivial⟩ (lt_ex ?_)));rw[if_neg (by simp)];refine gd_ex ⟨trivial,trivial⟩ (lt_ex ?_);by_cases h:codeG b br=0
 ·obtain⟨hb,hr⟩:=codeG_ok h;have hNN:=nod_le b hb;unfold topF;simp only[if_pos h,loopB];cases ho:ordB b (liveV (lV b).length br) [] (nodN b) with
  | none=>exact⟨_,rfl,rfl⟩
  | some l =>
    obtain⟨hG,hN⟩:=ord_good (nodN b) [] l ⟨by simp,(fun v hv=>by cases hv),(fun i _ _ q hq=>by simp at hq)⟩ ho;have hN:l.length=nodN b:=by simpa using hN
    simp only[n17 b hw hm1 hb,vS,Option.isSome_some];have e1:(ordRes (some l)).2=true:=rfl;have e2:(ordRes (some l)).1=l.map (fun v:Nat=>(v:Int)):=rfl;have e4:∀n:Nat,Int.toNat (n:Int)=n:=fun _=>rfl;simp only[e1,e2,if_true];rw[if_neg (by simp),if_neg (by simp)];refine gd_ex ⟨trivial,trivial⟩ (lt_ex ?_);rw[if_neg (by simp[hN])];refine gd_ex ⟨⟨by omega,trivial,by omega,by omega⟩,trivial⟩ ?_;exact lawL1 hw hm1 hb hl1 hG hN
 ·unfold topF;simp only[if_neg h];have hc:codeG b br=1∨codeG b br=2:=by
   unfold codeG at h ⊢;split
   ·split
    ·rename_i h1 h2; exact(h (by rw[if_pos h1,if_pos h2])).elim
    ·exact .inr rfl
   ·exact .inl rfl
  rcases hc with e | e <;> (rw[e]; exact⟨_,rfl,rfl⟩)
theorem n3[Alw](c:List Int):u3 c=some true:=by
 have key:∃r,u3 c=some r/\r=true:=by
  unfold u3;refine gd_ex ⟨rfl,trivial⟩ ?_;split
  ·exact⟨_,rfl,rfl⟩
  ·refine gd_ex ⟨trivial,trivial⟩ ⟨true,?_,rfl⟩;refine Alw.alp_of (([],([],[],[]),[]),[]) ⟨⟨by decide,by decide⟩,⟨⟨wf_nil,wf_nil,wf_nil,wf_nil,wf_nil,trivial⟩,wf_nil,trivial⟩,trivial⟩ fun v0 hv=>?_;obtain⟨⟨t1,t2⟩,hw,-⟩:=hv;have hwb:wf y34 v0.1:=⟨hw.1.1,⟨hw.1.2.1,hw.1.2.2.1,hw.1.2.2.2.1⟩,hw.1.2.2.2.2.1⟩;obtain⟨r,e,hr⟩:=law_in hwb t1 (br:=v0.2) t2;subst hr;exact(gP trivial).trans e
 obtain⟨r,e,rfl⟩:=key;exact e
end Go.Proofs.YtphnknndgfgepaaGreatDoor
end
