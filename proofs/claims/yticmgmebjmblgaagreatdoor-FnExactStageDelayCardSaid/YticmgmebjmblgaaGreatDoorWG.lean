/- The delay of a stage: the law as a plain function gives true for all data. -/
import Derived.Test.YticmgmebjmblgaaGreatDoorWF
namespace Go.Proofs.YticmgmebjmblgaaGreatDoor
open Go Go.Proofs Go.Proofs.Sv Go.Proofs.Xv Go.Proofs.Xl Go.Proofs.Xd
theorem slew_pos {b:Y45} (hw:wf y45 b) (hb:blockOk b=true) {q:Int} (hq:inB q 0 (((linksV b).length:Int) - 1)=true) {s m:Int} (s0:0≤s) (s1:s≤1000000) (hm:m=0∨m=1) {r:Int} (hr:u48 (viewV b) q s m=some r):0≤r:=by
  have hq:=inB_iff.1 hq
  have hqx:ix q (viewV b).2.2.1.length:=⟨hq.1,by show q < ((linksV b).length:Int); omega⟩
  generalize hl:(linksV b).getD q.toNat (dflt y83)=l
  have hl':(viewV b).2.2.1.getD q.toNat (dflt y83)=l:=hl
  have hmem:l∈linksV b:=by rw [← hl]; exact getD_mem (by omega)
  rcases link_facts hb hmem with ⟨a,n,h⟩ | ⟨n,k,h⟩
  · obtain ⟨t1,t2⟩:=tables_at h.slw h.trs
    obtain ⟨r0,l1,l2,l3,l4⟩:=r1012 t2 s ((loadsV b n).getD 0 0) m
    obtain ⟨g1,g2⟩:=load_at b h.nlt
    have hlt:(l.2.1.tmod 2).toNat < a.2.2.2.2.2.length:=by have:=t1.1; have:=t1.2; omega
    have hp:=look_pos t2 (tables_pos h.slw (getD_mem hlt)) s ((loadsV b n).getD 0 0) m r0 l1
    have key:u48 (viewV b) q s m=some (min r0 1000000):=by
      unfold u48
      refine (gd_pos ⟨hqx,trivial⟩).trans ?_
      rw [lt_eq,hl',r100 h.pix h.net,vl_some,gd_pos ⟨rfl,trivial⟩,lt_eq]
      refine (if_pos (by rw [h.kind]; rfl)).trans ?_
      rw [r58 h,vl_some,g1,l1,vl_some]
      refine (gd_pos ⟨rfl,by decide,t1,g2,rfl,trivial⟩).trans ?_
      rw [lt_eq]
    rw [key] at hr
    cases hr
    omega
  · obtain ⟨r0,w1,w2,w3⟩:=r48W hw hb h.nlt h.klt s0 s1 hm
    obtain ⟨g1,g2⟩:=dels_at b h.nlt
    have hel:=exact_len b n
    have hkl:=h.klt
    have key:u48 (viewV b) q s m=some (min r0 1000000):=by
      unfold u48
      refine (gd_pos ⟨hqx,trivial⟩).trans ?_
      rw [lt_eq,hl',r100 h.pix h.net,vl_some,gd_pos ⟨rfl,trivial⟩,lt_eq]
      refine (if_neg (by rw [h.kind]; decide)).trans ?_
      rw [g1,h.idx]
      have e4:((k:Int)).toNat=k:=rfl
      rw [e4,w1,vl_some]
      refine (gd_pos ⟨g2,⟨by omega,by omega⟩,rfl,trivial⟩).trans ?_
      rw [lt_eq]
    rw [key] at hr
    cases hr
    omega
/-! ### Paths -/
def lkAt (b:Y45) (xs:List Int) (i:Nat):DLink:=(linksV b).getD (xs.getD i 0).toNat (dflt y83)
def lkIn (b:Y45) (xs:List Int) (i:Nat):Bool:=inB (xs.getD i 0) 0 (((linksV b).length:Int) - 1)
def pathBad (b:Y45) (xs:List Int) (i:Nat):Bool:=!lkIn b xs i||decide ((0:Int) < (i:Int))&&(lkAt b xs (i - 1)).2.1 != (lkAt b xs i).1
def pathOk (b:Y45) (xs:List Int):Bool:=!(List.range xs.length).any (pathBad b xs)
theorem path_in {b:Y45} {xs:List Int} {i:Nat} (h:pathBad b xs i=false):lkIn b xs i=true:=by
  unfold pathBad at h
  rw [Bool.or_eq_false_iff,Bool.not_eq_false'] at h
  exact h.1
section
variable {b:Y45}
theorem r60 (hb:blockOk b=true) (xs:List Int) (hl:xs.length≤100):u60 (viewV b) xs=some (pathOk b xs):=by
  unfold u60
  refine (lp_foldE (n:=xs.length) (by omega) (fun (i:Nat) (_:Unit)=>(i:Int)) (fun _ u=>u) (pathBad b xs) (some false) (fun i _=>∀ j,j < i→lkIn b xs j=true) (J:=fun _=>some true) (F:=u60L1 (viewV b) xs) (fun g i u hi hI=>?_) (fun i u hi hI hc j hj=>?_) (fun g u _=>all_end) () (fun j hj=>by omega)).trans ?_
  · have e3:((i:Int)).toNat=i:=rfl
    have e1:((i:Int) - 1).toNat=i - 1:=by omega
    refine (if_pos (by simpa using hi)).trans ?_
    rw [e3,gd_pos ⟨⟨by omega,by omega⟩,trivial⟩,r45 hb,vl_some,e1]
    refine (gd_pos ⟨rfl,(fun h=>by have:=of_decide_eq_true h.1; exact ⟨by omega,by omega⟩),(fun h=>by have:=of_decide_eq_true h.1; exact ⟨by omega,by omega⟩),(fun h=>(link_ix (hI (i - 1) (by have:=of_decide_eq_true h.1; omega))).1),(fun h=>(link_ix (show inB (xs.getD i 0) 0 (((linksV b).length:Int) - 1)=true by simpa using h.2.1)).1),trivial⟩).trans ?_
    show (if pathBad b xs i=true then some false else _)=_
    split
    · rfl
    · exact gd_pos ⟨⟨by omega,by omega⟩,trivial⟩
  · rcases Nat.lt_or_ge j i with h | h
    · exact hI j h
    · have:j=i:=by omega
      subst this
      exact path_in hc
  · unfold pathOk
    cases (List.range xs.length).any (pathBad b xs) <;> rfl
/-! ### The way along a path -/
def stF (b:Y45) (c:Y53) (xs:List Int) (m:Int) (k:Nat) (s:Int×Int):Int×Int:=(vl (u48 (viewV b) (xs.getD k 0) s.1 m),s.2+vl (u55 (viewV b) c (xs.getD k 0) s.1 m))
def stI (k:Nat) (s:Int×Int):Prop:=0≤s.1∧s.1≤1000000 ∧ -(6000000*(k:Int))≤s.2∧s.2≤6000000*(k:Int)
theorem st_step (hw:wf y45 b) (hb:blockOk b=true) {c:Y53} (hc:cornerB c=true) {xs:List Int} {m:Int} (hm:m=0∨m=1) {k:Nat} (hk:lkIn b xs k=true) {s:Int×Int} (hI:stI k s):∃ d r,u55 (viewV b) c (xs.getD k 0) s.1 m=some d∧u53 b c (lkAt b xs k) s.1 m=some d∧u48 (viewV b) (xs.getD k 0) s.1 m=some r∧u38 b (lkAt b xs k) s.1 m=some r∧stF b c xs m k s=(r,s.2+d)∧stI (k+1) (r,s.2+d):=by
  obtain ⟨i1,i2,i3,i4⟩:=hI
  obtain ⟨d,a1,a2,a3,a4⟩:=r55ay2 hw hb hc hk s.1 m
  obtain ⟨r,b1,b2,b3⟩:=r482 hw hb hk i1 i2 hm
  have b0:=slew_pos hw hb hk i1 i2 hm b1
  refine ⟨d,r,a1,a2,b1,b2,?_,⟨b0,b3,?_,?_⟩⟩
  · unfold stF
    rw [a1,b1]; rfl
  · show -(6000000*((k+1:Nat):Int))≤s.2+d
    omega
  · show s.2+d≤6000000*((k+1:Nat):Int)
    omega
def stV (b:Y45) (c:Y53) (xs:List Int) (s m:Int):Int×Int:=foldN (stF b c xs m) xs.length (s,0)
theorem r61 (hw:wf y45 b) (hb:blockOk b=true) {c:Y53} (hc:cornerB c=true) {xs:List Int} (hl:xs.length≤100) (hp:∀ k,k < xs.length→lkIn b xs k=true) {s m:Int} (s0:0≤s) (s1:s≤1000000) (hm:m=0∨m=1):u61 (viewV b) c xs s m=some ((stV b c xs s m).2,(stV b c xs s m).1):=by
  unfold u61
  refine lp_fold (n:=xs.length) (by omega) (fun (k:Nat) (s:Int×Int)=>(s.1,s.2,(k:Int))) (stF b c xs m) stI (J:=fun s=>some (s.2,s.1)) (F:=u61L1 (viewV b) xs m c) (fun g k s hk hI=>?_) (fun k s hk hI=>?_) (fun g s _=>all_end) (s,0) ⟨s0,s1,by show -(6000000*((0:Nat):Int))≤0; omega,by show (0:Int)≤6000000*((0:Nat):Int); omega⟩
  · obtain ⟨d,r,a1,a2,b1,b2,e,hI'⟩:=st_step hw hb hc hm (hp k hk) hI
    obtain ⟨i1,i2,i3,i4⟩:=hI'
    have i3 : -(6000000*((k+1:Nat):Int))≤s.2+d:=i3
    have i4:s.2+d≤6000000*((k+1:Nat):Int):=i4
    have e3:((k:Int)).toNat=k:=rfl
    rw [e]
    refine (if_pos (by simpa using hk)).trans ?_
    rw [e3,gd_pos ⟨⟨by omega,by omega⟩,trivial⟩,a1,vl_some,gd_pos ⟨rfl,⟨by omega,by omega⟩,trivial⟩,lt_eq,b1,vl_some,gd_pos ⟨rfl,trivial⟩,lt_eq]
    exact gd_pos ⟨⟨by omega,by omega⟩,trivial⟩
  · obtain ⟨d,r,_,_,_,_,e,hI'⟩:=st_step hw hb hc hm (hp k hk) hI
    rw [e]
    exact hI'
def sgF (b:Y45) (c:Y53) (xs:List Int) (s m:Int):Int×Int×Int :=
  if (blockOk b&&cornerB c)=true then (if decide (100 < (xs.length:Int))=true then (0,0,3) else (if pathOk b xs=true then (if (inB s 0 1000000&&modeB m)=true then ((stV b c xs s m).2,(stV b c xs s m).1,0) else (0,0,2)) else (0,0,4))) else (0,0,1)
theorem path_all {xs:List Int} (h:pathOk b xs=true):∀ k,k < xs.length→lkIn b xs k=true:=fun k hk=>path_in (not_any.1 h k hk)
theorem q24 (b:Y45) (hw:wf y45 b) (hm:cnt y45 b≤1048576) (c:Y53) (hc:wf y53 c) (xs:List Int) (s m:Int):u24 b c xs s m=some (sgF b c xs s m):=by
  unfold u24 sgF
  rw [r43 b hw hm,vl_some,r54 c hc,vl_some,gd_pos ⟨rfl,(fun _=>rfl),trivial⟩]
  cases hb:blockOk b with
  | false=>rfl
  | true =>
    cases hc':cornerB c with
    | false=>rfl
    | true =>
      refine (if_neg (by simp)).trans ?_
      rw [if_pos (show (true&&true)=true from rfl),r44 b hw hb,vl_some,gd_pos ⟨rfl,trivial⟩,lt_eq]
      by_cases h1:decide (100 < (xs.length:Int))=true
      · rw [if_pos h1,if_pos h1]
      · rw [if_neg h1,if_neg h1]
        have hl:xs.length≤100:=by rw [decide_eq_true_eq] at h1; omega
        rw [r60 hb xs hl,vl_some,gd_pos ⟨rfl,trivial⟩]
        cases h2:pathOk b xs with
        | false=>rfl
        | true =>
          refine (if_neg (by simp)).trans ?_
          rw [if_pos rfl,r46,vl_some,r47,vl_some,gd_pos ⟨rfl,(fun _=>rfl),trivial⟩]
          cases h3:inB s 0 1000000 with
          | false=>rfl
          | true =>
            cases h4:modeB m with
            | false=>rfl
            | true =>
              have hs:=inB_iff.1 h3
              refine (if_neg (by simp)).trans ?_
              rw [r61 hw hb hc' hl (path_all h2) hs.1 hs.2 (mode_is h4),vl_some,gd_pos ⟨rfl,trivial⟩,lt_eq]
              rfl
theorem q22 (b:Y45) (hw:wf y45 b) (hm:cnt y45 b≤1048576) (c:Y53) (hc:wf y53 c) (xs:List Int) (s m:Int):u22 b c xs s m=some (sgF b c xs s m):=by
  unfold u22 sgF
  rw [r36 b hw hm,vl_some,r52 c hc,vl_some,gd_pos ⟨rfl,(fun _=>rfl),trivial⟩]
  cases hb:blockOk b with
  | false=>rfl
  | true =>
    cases hc':cornerB c with
    | false=>rfl
    | true =>
      have hll:=links_len hb
      refine (if_neg (by simp)).trans ?_
      rw [if_pos (show (true&&true)=true from rfl)]
      by_cases h1:decide (100 < (xs.length:Int))=true
      · rw [if_pos h1,if_pos h1]
      · rw [if_neg h1,if_neg h1]
        have hl:xs.length≤100:=by rw [decide_eq_true_eq] at h1; omega
        rw [r39 b hw hb,vl_some,gd_pos ⟨rfl,trivial⟩,lt_eq]
        refine (lp_foldE (n:=xs.length) (by omega) (fun (i:Nat) (_:Unit)=>(i:Int)) (fun _ u=>u) (pathBad b xs) (some (0,0,4)) (fun i _=>∀ j,j < i→lkIn b xs j=true) (J:=fun _=>u22J0 b (linksV b) xs m c s ()) (F:=u22L1 xs (linksV b) b m c s) (fun g i u hi hI=>?_) (fun i u hi hI hc j hj=>?_) (fun g u _=>all_end) () (fun j hj=>by omega)).trans ?_
        · have e3:((i:Int)).toNat=i:=rfl
          have e1:((i:Int) - 1).toNat=i - 1:=by omega
          refine (if_pos (by simpa using hi)).trans ?_
          rw [e3,r56,vl_some,e1]
          have k1:(!inB (xs.getD i 0) 0 (((linksV b).length:Int) - 1))=false→ix (xs.getD i 0) (linksV b).length∧(xs.getD i 0).toNat < (linksV b).length:=fun h=>link_ix (by simpa using h)
          have k2:decide ((0:Int) < (i:Int))=true→ix (xs.getD (i - 1) 0) (linksV b).length∧(xs.getD (i - 1) 0).toNat < (linksV b).length:=fun h=>link_ix (hI (i - 1) (by have:=of_decide_eq_true h; omega))
          refine (gd_pos ⟨⟨by omega,by omega⟩,⟨by omega,by omega⟩,rfl,(fun _=>⟨by omega,by omega⟩),(fun h=>(k1 h.2.1).1),(fun h=>(k1 h.2.1).2),(fun h=>by have:=of_decide_eq_true h.1; exact ⟨by omega,by omega⟩),(fun h=>by have:=of_decide_eq_true h.1; exact ⟨by omega,by omega⟩),(fun h=>(k2 h.1).1),(fun h=>(k2 h.1).2),trivial⟩).trans ?_
          have eb:(!inB (xs.getD i 0) 0 (((linksV b).length:Int) - 1)||decide ((0:Int) < (i:Int))&&((linksV b).getD (xs.getD i 0).toNat (dflt y83)).1 != ((linksV b).getD (xs.getD (i - 1) 0).toNat (dflt y83)).2.1)=pathBad b xs i:=by
            unfold pathBad lkAt lkIn
            rw [bne_comm]
          rw [eb]
          split
          · rfl
          · exact gd_pos ⟨⟨by omega,by omega⟩,trivial⟩
        · rcases Nat.lt_or_ge j i with h | h
          · exact hI j h
          · have:j=i:=by omega
            subst this
            exact path_in hc
        · cases h2:(List.range xs.length).any (pathBad b xs) with
          | true =>
            have:pathOk b xs=false:=by unfold pathOk; rw [h2]; rfl
            rw [this]; rfl
          | false =>
            have hpo:pathOk b xs=true:=by unfold pathOk; rw [h2]; rfl
            rw [hpo,if_neg (show ¬ false=true by simp),if_pos (show true=true from rfl)]
            rw [u22J0,r56,vl_some,r59,vl_some,gd_pos ⟨rfl,(fun _=>rfl),trivial⟩]
            cases h3:inB s 0 1000000 with
            | false=>rfl
            | true =>
              cases h4:modeB m with
              | false=>rfl
              | true =>
                have hs:=inB_iff.1 h3
                have hp:=path_all hpo
                refine (if_neg (by simp)).trans ?_
                rw [if_pos (show (true&&true)=true from rfl)]
                refine lp_fold (n:=xs.length) (by omega) (fun (k:Nat) (s:Int×Int)=>(s.1,s.2,(k:Int))) (stF b c xs m) stI (J:=fun s=>some (s.2,s.1,0)) (F:=u22L3 b (linksV b) xs m c) (fun g k s hk hI=>?_) (fun k s hk hI=>?_) (fun g s _=>all_end) (s,0) ⟨hs.1,hs.2,by show -(6000000*((0:Nat):Int))≤0; omega,by show (0:Int)≤6000000*((0:Nat):Int); omega⟩
                · obtain ⟨d,r,a1,a2,b1,b2,e,hI'⟩:=st_step hw hb hc' (mode_is h4) (hp k hk) hI
                  obtain ⟨i1,i2,i3,i4⟩:=hI'
                  have i3 : -(6000000*((k+1:Nat):Int))≤s.2+d:=i3
                  have i4:s.2+d≤6000000*((k+1:Nat):Int):=i4
                  have e3:((k:Int)).toNat=k:=rfl
                  obtain ⟨x1,x2⟩:=link_ix (hp k hk)
                  have a2':u53 b c ((linksV b).getD (xs.getD k 0).toNat (dflt y83)) s.1 m=some d:=a2
                  have b2':u38 b ((linksV b).getD (xs.getD k 0).toNat (dflt y83)) s.1 m=some r:=b2
                  rw [e]
                  refine (if_pos (by simpa using hk)).trans ?_
                  rw [e3,a2',vl_some,gd_pos ⟨⟨by omega,by omega⟩,x1,x2,rfl,⟨by omega,by omega⟩,trivial⟩,lt_eq,b2',vl_some,gd_pos ⟨⟨by omega,by omega⟩,x1,x2,rfl,trivial⟩,lt_eq]
                  exact gd_pos ⟨⟨by omega,by omega⟩,trivial⟩
                · obtain ⟨d,r,_,_,_,_,e,hI'⟩:=st_step hw hb hc' (mode_is h4) (hp k hk) hI
                  rw [e]
                  exact hI'
end
theorem r6 (b:Y32) (c:Y50) (xs:List Int) (s m:Int) (hw:wf y32 b) (hc:wf y50 c) (_:wf (.sl (.int .i64)) xs) (_:InI s) (_:InI m):u6 b c xs s m=some true:=by
  unfold u6
  by_cases hx:decide (1048576 < (xs.length:Int))=true
  · exact if_pos hx
  refine (if_neg hx).trans ?_
  have hxl:cnt (.sl (.int .i64)) xs≤1048576:=by
    rw [cnt_ints]
    rw [decide_eq_true_eq] at hx
    omega
  rw [z10 b 1048576 hw (by decide) (by decide),vl_some,gd_pos ⟨rfl,trivial⟩,lt_eq]
  by_cases hc1:szN (cnt y32 b) 1048576 < 0
  · exact if_pos (by simpa using hc1)
  · refine (if_neg (by simpa using hc1)).trans ?_
    have hm:cnt y32 b≤1048576:=by
      unfold szN at hc1
      split at hc1 <;> omega
    have hv:szN (cnt y32 b) 1048576≤1048576:=by
      unfold szN
      split <;> omega
    generalize szN (cnt y32 b) 1048576=v at hc1 hv
    rw [z15 c v hc (by omega) (by omega),vl_some,gd_pos ⟨rfl,trivial⟩,lt_eq]
    by_cases hc2:szN (cnt y50 c) v < 0
    · exact if_pos (by simpa using hc2)
    · refine (if_neg (by simpa using hc2)).trans ?_
      have hm2:cnt y50 c≤1048576:=by
        unfold szN at hc2
        split at hc2 <;> omega
      have e1:=q24 b hw hm c hc xs s m
      have e2:=q22 b hw hm c hc xs s m
      generalize sgF b c xs s m=v at e1 e2
      rw [w12 b hm,vl_some,w17 c hm2,vl_some,w23 xs hxl,vl_some,e2,gd_pos ⟨rfl,rfl,rfl,rfl,trivial⟩,lt_eq,vl_some]
      show gd _ (lt b fun v5=>gd _ (lt xs fun v6=>gd _ (lt (vl (u24 v5 c v6 s m)) fun v7=>_)))=_
      rw [gd_pos ⟨rfl,trivial⟩,lt_eq,gd_pos ⟨rfl,trivial⟩,lt_eq,e1,vl_some,gd_pos ⟨rfl,rfl,trivial⟩,lt_eq]
      refine (if_neg (by simp)).trans ?_
      rw [e14 b hm,gd_pos ⟨rfl,rfl,trivial⟩,lt_eq,e14 b hm]
      refine (if_neg (by simp [vl_some])).trans ?_
      rw [e25 xs hxl,gd_pos ⟨rfl,rfl,trivial⟩,lt_eq,e25 xs hxl]
      rfl
end Go.Proofs.YticmgmebjmblgaaGreatDoor
