/- Pins, arcs, cells: what the program's functions and the reference's say of them. -/
import Derived.Test.YtgmpfbpemmohnaaGreatDoorWC
import Derived.Test.YtgmpfbpemmohnaaGreatDoorWB
section
/- Pins, arcs, cells: what the program's functions and the reference's say of them. -/
namespace Go.Proofs.YtgmpfbpemmohnaaGreatDoor
open Go Go.Proofs Go.Proofs.Sv Go.Proofs.Xv Go.Proofs.Xl Go.Proofs.Xd
theorem r174 (c:Y134) (hw:wf y134 c):u174 c=some (arcsB (isArcI c.2.2.1.length (pinOf c)) c.2.2.2.1.length (arcOf c)):=by
 have ha:=wf_arcs hw
 have h:=ha.1
 have hA:∀ (xs:List Y139) (o:Y139),xs.length≤9223372036854775807→u186c187 xs o=some (xs.any fun x=>x.1==o.1&&x.2.1==o.2.1&&x.2.2.1==o.2.2.1):=fun xs o hx=>by
  have h1:u207c187 xs o=_:=idx_some hx (fun i=>(xs.getD i (dflt y139)).1==o.1&&(xs.getD i (dflt y139)).2.1==o.2.1&&(xs.getD i (dflt y139)).2.2.1==o.2.2.1) (fun g i hi=>idx_el hi hx rfl) (fun g=>all_end)
  have h2:u186c187 xs o=_:=has_some h1
  rw [any_getD xs (dflt y139) (fun x=>x.1==o.1&&x.2.1==o.2.1&&x.2.2.1==o.2.2.1)] at h2
  exact h2
 have key:=lp_all (n:=c.2.2.2.1.length) h (fun i=>!isArcI c.2.2.1.length (pinOf c) (arcOf c i)||dupA (arcOf c) i) (some false) (e:=u174J0 c ()) (F:=u174L1 c) (fun g i hi=>by
  have e3:((i:Int)).toNat=i:=rfl
  have hl:(c.2.2.2.1.take i).length≤9223372036854775807:=by rw [List.length_take]; omega
  have e1:=r185 c (arcOf c i) hw (wf_el hi ha)
  have e2:=hA (c.2.2.2.1.take i) (arcOf c i) hl
  rw [take_anyG c.2.2.2.1 (dflt y139) _ i (by omega)] at e2
  refine (if_pos (by simpa using hi)).trans ?_
  rw [e3,gd_pos ⟨⟨by omega,by omega⟩,trivial⟩,lt_eq,e1,e2,vl_some,vl_some,gd_pos ⟨rfl,fun _=>⟨by omega,by omega,by omega⟩,fun _=>rfl,trivial⟩,gd_pos ⟨⟨by omega,by omega⟩,trivial⟩]
  rfl) (fun g=>all_end)
 refine key.trans ?_
 unfold arcsB u174J0
 have e:decide ((c.2.2.2.1.length:Int)≤8)=decide (c.2.2.2.1.length≤8):=by rw [decide_eq_decide]; omega
 rw [e]
 cases (List.range c.2.2.2.1.length).any fun i=>!isArcI c.2.2.1.length (pinOf c) (arcOf c i)||dupA (arcOf c) i
 ·simp
 ·simp
theorem toNat_pred {n:Nat} (h:1≤n):((n:Int) - 1).toNat=n - 1:=by omega
theorem r175 (c:Y134) (hw:wf y134 c) (h2:2≤c.2.2.1.length) (h5:c.2.2.1.length≤5):u175 c=some (kindB c.2.1 c.2.2.1.length (pinOf c) c.2.2.2.1.length (arcOf c) c.2.2.2.2.1):=by
 have hp:=wf_pins hw
 have h:=hp.1
 have ht:=hw.2.2.2.2.1.1
 have key:=lp_fold (n:=c.2.2.1.length) h (fun i (s:Int)=>(s,(i:Int))) (fun i s=>if (pinOf c i).2.2.2=true then s+1 else s) (fun i s=>0≤s∧s≤i) (J:=u175J0 c) (F:=u175L1 c) (fun g i s hi hI=>by
  have j2:∀ s',u175J2 (i:Int) g s'=g (s',((i+1:Nat):Int)):=fun s'=>gd_pos ⟨⟨by omega,by omega⟩,trivial⟩
  have e3:((i:Int)).toNat=i:=rfl
  refine (if_pos (by simpa using hi)).trans ?_
  rw [e3,gd_pos ⟨⟨by omega,by omega⟩,trivial⟩,lt_eq,gd_pos ⟨⟨by omega,by omega⟩,trivial⟩,j2,j2]
  show (if (pinOf c i).2.2.2=true then _ else _)=g (if (pinOf c i).2.2.2=true then s+1 else s,_)
  split <;> rfl) (fun i s hi hI=>by
  have hI':0≤s∧s≤(i:Int):=hI
  show 0≤(if (pinOf c i).2.2.2=true then s+1 else s)∧(if (pinOf c i).2.2.2=true then s+1 else s)≤((i+1:Nat):Int)
  split <;> omega) (fun g s _=>all_end) 0 ⟨by omega,by omega⟩
 refine key.trans ?_
 show u175J0 c (clkN c.2.2.1.length (pinOf c))=_
 have hk:∀ k0:Int,u175J0 c k0=some (if c.2.1=1 then k0==0&&(c.2.2.2.2.1.length:Int)==1*2 ^ (c.2.2.1.length - 1)&&c.2.2.2.2.1.all (inB · 0 1)
  else if c.2.1=2 then k0==1&&(c.2.2.2.2.1.length:Int)==0&&!hasB c.2.2.2.1.length (arcOf c) 1&&!(hasB c.2.2.2.1.length (arcOf c) 2==hasB c.2.2.2.1.length (arcOf c) 3)
  else if c.2.1=3 then k0==1&&(c.2.2.2.2.1.length:Int)==0&&hasB c.2.2.2.1.length (arcOf c) 1&&hasB c.2.2.2.1.length (arcOf c) 2&&!hasB c.2.2.2.1.length (arcOf c) 3
  else false):=fun k0=>by
  rw [u175J0,r188 c hw,r137 _ _ _ ht,r189 c hw,r189 c hw,r189 c hw]
  repeat rw [vl_some]
  rw [toNat_pred (by omega)]
  by_cases k1:c.2.1=1
  ·rw [if_pos (beq_iff_eq.2 k1),if_pos k1,gd_pos ⟨fun _=>rfl,fun _=>⟨by omega,pow_in h5⟩,fun _=>rfl,trivial⟩,lt_eq,toNat_pred (by omega)]
  ·rw [if_neg (by simpa using k1),if_neg k1]
   by_cases k2:c.2.1=2
   ·rw [if_pos (beq_iff_eq.2 k2),if_pos k2,gd_pos ⟨fun _=>rfl,fun _=>rfl,fun _=>rfl,trivial⟩]
   ·rw [if_neg (by simpa using k2),if_neg k2]
    by_cases k3:c.2.1=3
    ·rw [if_pos (beq_iff_eq.2 k3),if_pos k3,gd_pos ⟨fun _=>rfl,fun _=>rfl,fun _=>rfl,trivial⟩]
    ·rw [if_neg (by simpa using k3),if_neg k3]
 exact hk (clkN c.2.2.1.length (pinOf c))
abbrev cellOk (q:Nat→(Nat→DPin)→DArc→Bool) (c:Y134):Bool:=cellB q c.1 c.2.1 c.2.2.1.length (pinOf c) c.2.2.2.1.length (arcOf c) c.2.2.2.2.1 c.2.2.2.2.2.1 c.2.2.2.2.2.2
theorem r156 (c:Y134) (hw:wf y134 c) (hm:c.2.2.1.length≤1048576):u156 c=some (cellOk isArcS c):=by
 have hp:=wf_pins hw
 show _=some (cellB isArcS _ _ _ _ _ _ _ _ _)
 rw [← cell_eq]
 unfold u156 cellB
 rw [r172 c.1 hw.1,r173 _ hp hm,r174 c hw,r120,r120]
 repeat rw [vl_some]
 cases hpo:pinsOk c.2.2.1.length (pinOf c) with
 | false =>
   rw [gd_pos ⟨rfl,fun _=>rfl,fun hc=>by simp at hc,fun hc=>by simp at hc,fun hc=>by simp at hc,fun hc=>by simp at hc,trivial⟩]
   simp
 | true =>
   obtain ⟨h2,h5,_⟩:=pins_last hpo
   rw [r175 c hw h2 h5,vl_some,gd_pos ⟨rfl,fun _=>rfl,fun _=>rfl,fun _=>rfl,fun _=>rfl,fun _=>rfl,trivial⟩]
theorem r171 (c:Y134) (hw:wf y134 c) (h8:c.2.2.2.1.length≤8) (hk:∀ i,i < c.2.2.2.1.length→1≤(arcOf c i).1∧(arcOf c i).1≤5):u171 c=some (foldN (kindsF (arcOf c)) c.2.2.2.1.length (List.replicate 6 0)):=by
 have h:=(wf_arcs hw).1
 unfold u171
 rw [gd_pos ⟨⟨by omega,rfl,by decide,by omega⟩,trivial⟩]
 have key:=lp_fold (n:=c.2.2.2.1.length) h (fun i (v:List Int)=>((i:Int),v)) (kindsF (arcOf c)) (fun i v=>i≤c.2.2.2.1.length∧v=foldN (kindsF (arcOf c)) i (List.replicate 6 0)) (J:=fun v=>some v) (F:=u171L1 c) (fun g i v hi hI=>by
  obtain ⟨h1,h2⟩:=kinds_fold (arcOf c) i (fun j hj=>hk j (by omega))
  obtain ⟨k1,k2⟩:=hk i hi
  have hlen:v.length=6:=by rw [hI.2]; exact h1
  have hcnt:=h2 (arcOf c i).1.toNat (by omega)
  have hle:=cntK_le (arcOf c) ((arcOf c i).1.toNat:Int) i
  rw [← hI.2] at hcnt
  have e3:((i:Int)).toNat=i:=rfl
  refine (if_pos (by simpa using hi)).trans ?_
  have hin:in64 (v.getD (arcOf c i).1.toNat 0+1):=by rw [hcnt]; exact ⟨by omega,by omega⟩
  have hix:ix (arcOf c i).1 v.length:=⟨by omega,by omega⟩
  have hlt:(arcOf c i).1.toNat < v.length:=by omega
  rw [e3,gd_pos ⟨⟨by omega,by omega⟩,hix,hlt,hin,hix,hlt,trivial⟩,lt_eq,gd_pos ⟨⟨by omega,by omega⟩,trivial⟩]
  rfl) (fun i v hi hI=>⟨by omega,by rw [hI.2]; rfl⟩) (fun g s _=>all_end) (List.replicate 6 0) ⟨by omega,rfl⟩
 exact key
theorem r154 (c:Y134) (hw:wf y134 c):u154 c=some (cellOk isArcS c):=by
 have ha:=wf_arcs hw
 have h:=ha.1
 show _=some (cellB isArcS _ _ _ _ _ _ _ _ _)
 unfold u154 cellB
 rw [r169 c hw,r155 c.1 hw.1,r69,r69]
 repeat rw [vl_some]
 rw [gd_pos ⟨rfl,trivial⟩,lt_eq,gd_pos ⟨fun _=>rfl,fun _=>rfl,fun _=>rfl,trivial⟩]
 cases hpo:pinsOk c.2.2.1.length (pinOf c) with
 | false =>
   have e9:(if false=true then (clkN c.2.2.1.length (pinOf c),true) else ((0:Int),false))=((0:Int),false):=rfl
   rw [e9]
   refine (if_pos (by rfl)).trans ?_
   simp
 | true =>
   obtain ⟨h2,h5,_⟩:=pins_last hpo
   have e9:(if true=true then (clkN c.2.2.1.length (pinOf c),true) else ((0:Int),false))=(clkN c.2.2.1.length (pinOf c),true):=rfl
   rw [e9]
   by_cases hgo:nmB c.1=true∧c.2.2.2.1.length≤8∧inB c.2.2.2.2.2.1 0 100000=true∧inB c.2.2.2.2.2.2 0 100000=true
   ·obtain ⟨g1,g2,g3,g4⟩:=hgo
    have e0:decide (8 < (c.2.2.2.1.length:Int))=false:=decide_eq_false (by omega)
    rw [g1,e0,g3,g4]
    refine (if_neg (by simp)).trans ?_
    have key:=lp_all (n:=c.2.2.2.1.length) h (fun i=>!isArcS c.2.2.1.length (pinOf c) (arcOf c i)||dupA (arcOf c) i) (some false) (e:=u154J0 c (clkN c.2.2.1.length (pinOf c),true) ()) (F:=u154L1 c (clkN c.2.2.1.length (pinOf c),true)) (fun g i hi=>by
     have e3:((i:Int)).toNat=i:=rfl
     have e1:=r170 c (arcOf c i) hw (wf_el hi ha)
     have inner:=lp_all (n:=i) (by omega) (fun k=>(arcOf c k).1==(arcOf c i).1&&(arcOf c k).2.1==(arcOf c i).2.1&&(arcOf c k).2.2.1==(arcOf c i).2.2.1) (some false) (e:=g ((i:Int)+1)) (F:=u154L3 c (arcOf c i) (i:Int) g) (fun g3 k hk=>all_el hk (by omega) ⟨⟨by omega,by omega⟩,fun _=>⟨by omega,by omega⟩,fun _=>⟨by omega,by omega⟩,trivial⟩) (fun g3=>by
      refine all_end.trans ?_
      exact gd_pos ⟨⟨by omega,by omega⟩,trivial⟩)
     refine (if_pos (by simpa using hi)).trans ?_
     rw [e3,gd_pos ⟨⟨by omega,by omega⟩,trivial⟩,lt_eq,e1,vl_some,gd_pos ⟨rfl,trivial⟩,inner]
     unfold dupA
     cases isArcS c.2.2.1.length (pinOf c) (arcOf c i) <;> cases (List.range i).any (fun k=>(arcOf c k).1==(arcOf c i).1&&(arcOf c k).2.1==(arcOf c i).2.1&&(arcOf c k).2.2.1==(arcOf c i).2.2.1) <;> rfl) (fun g=>all_end)
    refine key.trans ?_
    unfold arcsB
    rw [decide_eq_true g2]
    cases hany:(List.range c.2.2.2.1.length).any fun i=>!isArcS c.2.2.1.length (pinOf c) (arcOf c i)||dupA (arcOf c) i with
    | true=>simp
    | false =>
      rw [if_neg (by simp)]
      have hall:∀ i,i < c.2.2.2.1.length→isArcS c.2.2.1.length (pinOf c) (arcOf c i)=true:=fun i hi=>by
       have:=(not_any (n:=c.2.2.2.1.length)).1 (by rw [hany]; rfl) i hi
       rw [Bool.or_eq_false_iff,Bool.not_eq_false'] at this
       exact this.1
      have hkin:=r171 c hw g2 (fun i hi=>arcS_kind (hall i hi))
      obtain ⟨n6,ncnt⟩:=kinds_fold (arcOf c) c.2.2.2.1.length (fun i hi=>arcS_kind (hall i hi))
      have c1:=ncnt 1 (by omega)
      have c2:=ncnt 2 (by omega)
      have c3:=ncnt 3 (by omega)
      rw [u154J0,hkin,vl_some,gd_pos ⟨rfl,trivial⟩,lt_eq]
      generalize foldN (kindsF (arcOf c)) c.2.2.2.1.length (List.replicate 6 0)=v at *
      have q1:((v.getD 1 0)==(0:Int))=!hasB c.2.2.2.1.length (arcOf c) 1:=by
       rw [c1,cntK_has]
       have:=(cntK_le (arcOf c) 1 c.2.2.2.1.length).1
       rw [Bool.eq_iff_iff]; simp; omega
      have q1':decide (0 < v.getD 1 0)=hasB c.2.2.2.1.length (arcOf c) 1:=by rw [c1,cntK_has]; rfl
      have q2:decide (0 < v.getD 2 0)=hasB c.2.2.2.1.length (arcOf c) 2:=by rw [c2,cntK_has]; rfl
      have q3:decide (0 < v.getD 3 0)=hasB c.2.2.2.1.length (arcOf c) 3:=by rw [c3,cntK_has]; rfl
      have q3':((v.getD 3 0)==(0:Int))=!hasB c.2.2.2.1.length (arcOf c) 3:=by
       rw [c3,cntK_has]
       have:=(cntK_le (arcOf c) 3 c.2.2.2.1.length).1
       rw [Bool.eq_iff_iff]; simp; omega
      have i1:ix (1:Int) v.length:=⟨by omega,by omega⟩
      have i2:ix (2:Int) v.length:=⟨by omega,by omega⟩
      have i3:ix (3:Int) v.length:=⟨by omega,by omega⟩
      have n1:Int.toNat (1:Int) < v.length:=by rw [n6]; decide
      have n2:Int.toNat (2:Int) < v.length:=by rw [n6]; decide
      have n3:Int.toNat (3:Int) < v.length:=by rw [n6]; decide
      unfold kindB
      by_cases k1:c.2.1=1
      ·rw [if_pos (beq_iff_eq.2 k1),if_pos k1]
       have ht:=hw.2.2.2.2.1.1
       have key2:=lp_all (n:=c.2.2.2.2.1.length) ht (fun i=>!inB (c.2.2.2.2.1.getD i 0) 0 1) (some false) (e:=u154J5 (clkN c.2.2.1.length (pinOf c),true) c ()) (F:=u154L6 c (clkN c.2.2.1.length (pinOf c),true)) (fun g i hi=>all_el hi ht ⟨⟨by omega,by omega⟩,rfl,trivial⟩) (fun g=>all_end)
       refine key2.trans ?_
       rw [any_getD c.2.2.2.2.1 0 (fun x=>!inB x 0 1),← all_any]
       have e5:u154J5 (clkN c.2.2.1.length (pinOf c),true) c ()=some (clkN c.2.2.1.length (pinOf c)==0&&(c.2.2.2.2.1.length:Int)==1*2 ^ (c.2.2.1.length - 1)):=by
        rw [u154J5,toNat_pred (by omega),gd_pos ⟨fun _=>⟨by omega,by omega⟩,fun _=>⟨by omega,by omega⟩,fun _=>⟨by omega,pow_in h5⟩,trivial⟩]
       rw [e5]
       cases c.2.2.2.2.1.any fun x=>!inB x 0 1 <;> simp
      ·rw [if_neg (by simpa using k1),if_neg k1]
       by_cases k2:c.2.1=2
       ·rw [if_pos (beq_iff_eq.2 k2),if_pos k2,gd_pos ⟨fun _=>i1,fun _=>n1,fun _=>i2,fun _=>n2,fun _=>i3,fun _=>n3,trivial⟩]
        have w1:Int.toNat (1:Int)=1:=rfl
        have w2:Int.toNat (2:Int)=2:=rfl
        have w3:Int.toNat (3:Int)=3:=rfl
        rw [w1,w2,w3,q1,q2,q3]
        cases clkN c.2.2.1.length (pinOf c)==1 <;> cases (c.2.2.2.2.1.length:Int)==0 <;> cases hasB c.2.2.2.1.length (arcOf c) 1 <;> cases hasB c.2.2.2.1.length (arcOf c) 2 <;> cases hasB c.2.2.2.1.length (arcOf c) 3 <;> rfl
       ·rw [if_neg (by simpa using k2),if_neg k2]
        by_cases k3:c.2.1=3
        ·rw [if_pos (beq_iff_eq.2 k3),if_pos k3,gd_pos ⟨fun _=>i1,fun _=>n1,fun _=>i2,fun _=>n2,fun _=>i3,fun _=>n3,trivial⟩]
         have w1:Int.toNat (1:Int)=1:=rfl
         have w2:Int.toNat (2:Int)=2:=rfl
         have w3:Int.toNat (3:Int)=3:=rfl
         rw [w1,w2,w3,q1',q2,q3']
         cases clkN c.2.2.1.length (pinOf c)==1 <;> cases (c.2.2.2.2.1.length:Int)==0 <;> cases hasB c.2.2.2.1.length (arcOf c) 1 <;> cases hasB c.2.2.2.1.length (arcOf c) 2 <;> cases hasB c.2.2.2.1.length (arcOf c) 3 <;> rfl
        ·rw [if_neg (by simpa using k3),if_neg k3]
         rfl
   ·have e0:(!nmB c.1||decide (8 < (c.2.2.2.1.length:Int))||!inB c.2.2.2.2.2.1 0 100000||!inB c.2.2.2.2.2.2 0 100000)=true:=by
     rw [← Bool.not_eq_false]
     intro hc
     simp only [Bool.or_eq_false_iff,Bool.not_eq_false',decide_eq_false_iff_not] at hc
     exact hgo ⟨hc.1.1.1,by omega,hc.1.2,hc.2⟩
    refine (if_pos (by simpa using e0)).trans ?_
    have e1:¬ (nmB c.1=true∧decide (c.2.2.2.1.length≤8)=true∧inB c.2.2.2.2.2.1 0 100000=true∧inB c.2.2.2.2.2.2 0 100000=true):=fun hc=>hgo ⟨hc.1,by simpa using hc.2.1,hc.2.2⟩
    refine congrArg some ?_
    unfold arcsB
    symm
    rw [← Bool.not_eq_true]
    intro hc
    simp only [Bool.and_eq_true] at hc
    exact e1 ⟨hc.1.1.1.1.1,hc.1.1.1.2.1,hc.1.1.2,hc.1.2⟩
end Go.Proofs.YtgmpfbpemmohnaaGreatDoor
end
section
/- Libraries: what the program's functions and the reference's say of them. -/
namespace Go.Proofs.YtgmpfbpemmohnaaGreatDoor
open Go Go.Proofs Go.Proofs.Sv Go.Proofs.Xv Go.Proofs.Xl Go.Proofs.Xd
abbrev celOf (l:List Y134) (i:Nat):Y134:=l.getD i (dflt y134)
abbrev libOk (l:List Y134):Bool:=libB l.length (fun i=>cellOk isArcS (celOf l i)) (fun i=>(celOf l i).1)
theorem cell_name {c:Y134} (h:cellOk isArcS c=true):nmB c.1=true:=by
 have h:cellB isArcS _ _ _ _ _ _ _ _ _=true:=h
 unfold cellB at h
 simp only [Bool.and_eq_true] at h
 exact h.1.1.1.1.1
theorem r131 (l:List Y134) (hw:wf (.sl y134) l) (hm:cnt (.sl y134) l≤1048576):u131 l=some (libOk l):=by
 have h:=hw.1
 have hl:=cnt_len hm
 have key:=lp_foldE (n:=l.length) h (fun i (s:List ByteArray)=>(s,(i:Int))) (gath fun i=>(celOf l i).1) (fun i=>!cellOk isArcS (celOf l i)) (some false) (fun i s=>s.length=i) (J:=u131J0 l) (F:=u131L1 l) (fun g i s hi hI=>by
  have e3:((i:Int)).toNat=i:=rfl
  have hc:cnt y134 (celOf l i)≤1048576:=cnt_el hi hm
  have hp:(celOf l i).2.2.1.length≤1048576:=cnt_len (cnt_fst (cnt_snd (cnt_snd hc)))
  have e1:=r156 (celOf l i) (wf_el hi hw) hp
  have ha:=app_ok (b:=16) hi hl (by decide)
  refine (if_pos (by simpa using hi)).trans ?_
  rw [e3,gd_pos ⟨⟨by omega,by omega⟩,trivial⟩,lt_eq,e1,vl_some,gd_pos ⟨rfl,trivial⟩,gd_pos ⟨⟨by show s.length+1≤_; omega,by show (s.length+1)*16≤_; omega⟩,trivial⟩,gd_pos ⟨⟨by omega,by omega⟩,trivial⟩]
  rfl) (fun i s hi hI _=>by unfold gath; rw [List.length_append,hI]; rfl) (fun g s _=>all_end) [] rfl
 refine key.trans ?_
 rw [gath_row l (dflt y134) (fun c:Y134=>c.1)]
 have hn:wf (.sl .str) (l.map fun c:Y134=>c.1):=wf_map h fun x hx=>(hw.2 x hx).1
 have e7:∀ v:List ByteArray,wf (.sl .str) v→u131J0 l v=some (decide (l.length≤8)&&namesB v.length fun i=>v.getD i (dflt .str)):=fun v hv=>by
  have e8:decide ((l.length:Int)≤8)=decide (l.length≤8):=by rw [decide_eq_decide]; omega
  rw [u131J0,r157 _ hv,vl_some,gd_pos ⟨fun _=>rfl,trivial⟩,e8]
 rw [e7 _ hn,names_map l (fun c:Y134=>c.1) (dflt y134)]
 show _=some (libB _ _ _)
 rw [← lib_eq (fun i _ hc=>cell_name hc)]
 split <;> rfl
theorem r128 (l:List Y134) (hw:wf (.sl y134) l):u128 l=some (libOk l):=by
 have h:=hw.1
 have key:=lp_all (n:=l.length) h (fun i=>!cellOk isArcS (celOf l i)||dupB (fun i=>(celOf l i).1) i) (some false) (e:=u128J0 l ()) (F:=u128L1 l) (fun g i hi=>by
  have e3:((i:Int)).toNat=i:=rfl
  have e1:=r154 (celOf l i) (wf_el hi hw)
  have inner:=lp_all (n:=i) (by omega) (fun k=>decide ((celOf l k).1=(celOf l i).1)) (some false) (e:=g ((i:Int)+1)) (F:=u128L3 l (i:Int) g) (fun g3 k hk=>all_el hk (by omega) ⟨⟨by omega,by omega⟩,⟨by omega,by omega⟩,trivial⟩) (fun g3=>by
   refine all_end.trans ?_
   exact gd_pos ⟨⟨by omega,by omega⟩,trivial⟩)
  refine (if_pos (by simpa using hi)).trans ?_
  rw [e3,e1,vl_some,gd_pos ⟨⟨by omega,by omega⟩,rfl,trivial⟩,inner]
  unfold dupB
  cases cellOk isArcS (celOf l i) <;> cases (List.range i).any (fun k=>decide ((celOf l k).1=(celOf l i).1)) <;> rfl) (fun g=>all_end)
 refine key.trans ?_
 show _=some (libB _ _ _)
 unfold libB u128J0
 have e8:decide ((l.length:Int)≤8)=decide (l.length≤8):=by rw [decide_eq_decide]; omega
 rw [e8]
 cases (List.range l.length).any (fun i=>!cellOk isArcS (celOf l i)||dupB (fun i=>(celOf l i).1) i) <;> rfl
abbrev insOf (d:Y43) (i:Nat):Y136:=d.1.getD i (dflt y136)
abbrev prtOf (d:Y43) (i:Nat):Y172:=d.2.2.getD i (dflt y172)
abbrev pinsAt (l:List Y134) (x:Int):Nat:=(l.getD x.toNat (dflt y134)).2.2.1.length
abbrev designOk (l:List Y134) (d:Y43):Bool:=designB (libOk l) l.length (pinsAt l) d.1.length d.2.2.length d.2.1.length (insOf d) (prtOf d) (fun i=>d.2.1.getD i (dflt .str))
theorem r77 (d:Y43) (hw:wf y43 d) (x:Int):u77 d x=some (inB x 0 ((d.2.1.length:Int) - 1)):=by
 have h:=hw.2.1.1
 have e:u121 d.2.1=some (d.2.1.length:Int):=rfl
 unfold u77
 rw [e]
 repeat rw [vl_some]
 rw [r120,vl_some,gd_pos ⟨rfl,⟨by omega,by omega⟩,rfl,trivial⟩]
theorem r133 (d:Y43) (l:List Y134) (x:Y136) (hd:wf y43 d) (hl:wf (.sl y134) l) (hx:wf y136 x):u133 d l x=some (instB l.length (pinsAt l) d.2.1.length x):=by
 have h:=hl.1
 have hn:=hx.2.2.1
 have e:u158 l=some (l.length:Int):=rfl
 have e1:∀ y,u160 y d=some (!inB y 0 ((d.2.1.length:Int) - 1)):=fun y=>by
  unfold u160
  rw [r77 d hd,gd_pos ⟨rfl,trivial⟩,vl_some]
 have h1:u177c160 x.2.2 d=_:=idx_some hn (fun i=>!inB (x.2.2.getD i 0) 0 ((d.2.1.length:Int) - 1)) (fun g i hi=>idx_el hi hn (e1 _)) (fun g=>all_end)
 have h2:u159c160 x.2.2 d=_:=has_some h1
 rw [any_getD x.2.2 0 (fun y=>!inB y 0 ((d.2.1.length:Int) - 1))] at h2
 unfold u133
 rw [e,h2]
 repeat rw [vl_some]
 rw [r120,vl_some,gd_pos ⟨rfl,⟨by omega,by omega⟩,rfl,fun hc=>by
  have:=inB_iff.1 hc.1
  exact ⟨by omega,by omega⟩,fun _=>rfl,trivial⟩,all_any]
 rfl
theorem r132 (d:Y43) (hw:wf y43 d) (hm:cnt y43 d≤1048576):u132 d=some (decide (d.1.length≤14)&&decide (d.2.1.length≤30)&&decide (d.2.2.length≤8)&&namesB d.1.length (fun i=>(insOf d i).1)&&namesB d.2.1.length (fun i=>d.2.1.getD i (dflt .str))&&namesB d.2.2.length (fun i=>(prtOf d i).1)):=by
 have hi0:=hw.1.1
 have hp0:=hw.2.2.1
 have hil:d.1.length≤1048576:=cnt_len (cnt_fst hm)
 have hpl:d.2.2.length≤1048576:=cnt_len (cnt_snd (cnt_snd hm))
 have key:=lp_fold (n:=d.1.length) hi0 (fun i (s:List ByteArray)=>(s,(i:Int))) (gath fun i=>(insOf d i).1) (fun i s=>s.length=i) (J:=u132J0 d) (F:=u132L1 d) (fun g i s hi hI=>by
  have e3:((i:Int)).toNat=i:=rfl
  have ha:=app_ok (b:=16) hi hil (by decide)
  refine (if_pos (by simpa using hi)).trans ?_
  rw [e3,gd_pos ⟨⟨by omega,by omega⟩,trivial⟩,lt_eq,gd_pos ⟨⟨by show s.length+1≤_; omega,by show (s.length+1)*16≤_; omega⟩,trivial⟩,gd_pos ⟨⟨by omega,by omega⟩,trivial⟩]
  rfl) (fun i s hi hI=>by unfold gath; rw [List.length_append,hI]; rfl) (fun g s _=>all_end) [] rfl
 refine key.trans ?_
 rw [gath_row d.1 (dflt y136) (fun c:Y136=>c.1)]
 have hn1:wf (.sl .str) (d.1.map fun c:Y136=>c.1):=wf_map hi0 fun x hx=>(hw.1.2 x hx).1
 have hn2:wf (.sl .str) (d.2.2.map fun c:Y172=>c.1):=wf_map hp0 fun x hx=>(hw.2.2.2 x hx).1
 have e7:∀ v:List ByteArray,wf (.sl .str) v→v.length=d.1.length→u132J0 d v=some (decide (d.1.length≤14)&&decide (d.2.1.length≤30)&&decide (d.2.2.length≤8)&&(namesB v.length fun i=>v.getD i (dflt .str))&&namesB d.2.1.length (fun i=>d.2.1.getD i (dflt .str))&&namesB d.2.2.length (fun i=>(prtOf d i).1)):=fun v hv hvl=>by
  rw [u132J0]
  have key2:=lp_fold (n:=d.2.2.length) hp0 (fun i (s:List ByteArray)=>(s,(i:Int))) (gath fun i=>(prtOf d i).1) (fun i s=>s.length=i) (J:=u132J2 v d) (F:=u132L3 d v) (fun g i s hi hI=>by
   have e3:((i:Int)).toNat=i:=rfl
   have ha:=app_ok (b:=16) hi hpl (by decide)
   refine (if_pos (by simpa using hi)).trans ?_
   rw [e3,gd_pos ⟨⟨by omega,by omega⟩,trivial⟩,lt_eq,gd_pos ⟨⟨by show s.length+1≤_; omega,by show (s.length+1)*16≤_; omega⟩,trivial⟩,gd_pos ⟨⟨by omega,by omega⟩,trivial⟩]
   rfl) (fun i s hi hI=>by unfold gath; rw [List.length_append,hI]; rfl) (fun g s _=>all_end) [] rfl
  refine key2.trans ?_
  rw [gath_row d.2.2 (dflt y172) (fun c:Y172=>c.1)]
  have e9:∀ z:List ByteArray,wf (.sl .str) z→z.length=d.2.2.length→u132J2 v d z=some (decide (d.1.length≤14)&&decide (d.2.1.length≤30)&&decide (d.2.2.length≤8)&&(namesB v.length fun i=>v.getD i (dflt .str))&&namesB d.2.1.length (fun i=>d.2.1.getD i (dflt .str))&&namesB z.length (fun i=>z.getD i (dflt .str))):=fun z hz hzl=>by
   have a1:decide ((v.length:Int)≤14)=decide (d.1.length≤14):=by rw [decide_eq_decide]; omega
   have a2:decide ((d.2.1.length:Int)≤30)=decide (d.2.1.length≤30):=by rw [decide_eq_decide]; omega
   have a3:decide ((z.length:Int)≤8)=decide (d.2.2.length≤8):=by rw [decide_eq_decide]; omega
   rw [u132J2,r157 _ hv,r157 _ hz,r157 _ hw.2.1,vl_some,vl_some,vl_some,gd_pos ⟨fun _=>rfl,fun _=>rfl,fun _=>rfl,trivial⟩,a1,a2,a3]
  rw [e9 _ hn2 (List.length_map _),names_map d.2.2 (fun c:Y172=>c.1) (dflt y172)]
 rw [e7 _ hn1 (List.length_map _),names_map d.1 (fun c:Y136=>c.1) (dflt y136)]
end Go.Proofs.YtgmpfbpemmohnaaGreatDoor
end
section
/- Designs: what the program's functions and the reference's say of them. -/
namespace Go.Proofs.YtgmpfbpemmohnaaGreatDoor
open Go Go.Proofs Go.Proofs.Sv Go.Proofs.Xv Go.Proofs.Xl Go.Proofs.Xd
theorem lib_pins {l:List Y134} (h:libOk l=true) {x:Int} (hx:inB x 0 ((l.length:Int) - 1)=true):2≤pinsAt l x∧pinsAt l x≤5:=by
 have h:libB _ _ _=true:=h
 unfold libB at h
 rw [Bool.and_eq_true] at h
 rw [inB_iff] at hx
 have:=not_any.1 h.1 x.toNat (by omega)
 rw [Bool.or_eq_false_iff,Bool.not_eq_false'] at this
 have hc:cellB isArcS _ _ _ _ _ _ _ _ _=true:=this.1
 unfold cellB at hc
 simp only [Bool.and_eq_true] at hc
 have:=pins_last hc.1.1.1.1.2
 exact ⟨this.1,this.2.1⟩
theorem inst_nets {nc nn:Nat} {pins:Int→Nat} {x:DInst} (h:instB nc pins nn x=true) (hp:∀ y,inB y 0 ((nc:Int) - 1)=true→2≤pins y):1≤x.2.2.length∧inB (x.2.2.getD (x.2.2.length - 1) 0) 0 ((nn:Int) - 1)=true:=by
 unfold instB at h
 simp only [Bool.and_eq_true,beq_iff_eq] at h
 have h2:=hp _ h.1.1
 have h3:1≤x.2.2.length:=by omega
 refine ⟨h3,?_⟩
 rw [List.getD_eq_getElem?_getD,List.getElem?_eq_getElem (by omega)]
 exact List.all_eq_true.1 h.2 _ (List.getElem_mem _)
theorem r129 (l:List Y134) (d:Y43) (hl:wf (.sl y134) l) (hd:wf y43 d):u129 l d=some (!((List.range d.1.length).any fun i=>!instB l.length (pinsAt l) d.2.1.length (insOf d i))&&!((List.range d.2.2.length).any fun i=>!portB d.2.1.length (prtOf d i))):=by
 have h:=hl.1
 have hi0:=hd.1.1
 have hp0:=hd.2.2.1
 have hn0:=hd.2.1.1
 have kj:u129J0 d ()=some (!((List.range d.2.2.length).any fun i=>!portB d.2.1.length (prtOf d i))):=by
  have key:=lp_all (n:=d.2.2.length) hp0 (fun i=>!portB d.2.1.length (prtOf d i)) (some false) (e:=some true) (F:=u129L5 d) (fun g i hi=>by
   have e3:((i:Int)).toNat=i:=rfl
   refine (if_pos (by simpa using hi)).trans ?_
   rw [e3,r69,r69,vl_some,vl_some,gd_pos ⟨⟨by omega,by omega⟩,rfl,fun _=>⟨by omega,by omega⟩,fun _=>⟨by omega,by omega⟩,fun _=>rfl,trivial⟩,gd_pos ⟨⟨by omega,by omega⟩,trivial⟩]
   unfold portB
   rw [Bool.not_and]) (fun g=>all_end)
  refine key.trans ?_
  cases (List.range d.2.2.length).any fun i=>!portB d.2.1.length (prtOf d i) <;> rfl
 have key:=lp_all (n:=d.1.length) hi0 (fun i=>!instB l.length (pinsAt l) d.2.1.length (insOf d i)) (some false) (e:=u129J0 d ()) (F:=u129L1 d l) (fun g i hi=>by
  have e3:((i:Int)).toNat=i:=rfl
  have hx:=wf_el (d:=dflt y136) hi hd.1
  have hn:=hx.2.2.1
  refine (if_pos (by simpa using hi)).trans ?_
  rw [e3,gd_pos ⟨⟨by omega,by omega⟩,trivial⟩,lt_eq,r69,vl_some,gd_pos ⟨⟨by omega,by omega⟩,rfl,fun hc=>by
   have:=hc.1
   rw [Bool.not_eq_false'] at this
   have:=inB_iff.1 this
   exact ⟨by omega,by omega⟩,trivial⟩]
  have inner:=lp_all (n:=(insOf d i).2.2.length) hn (fun k=>!inB ((insOf d i).2.2.getD k 0) 0 ((d.2.1.length:Int) - 1)) (some false) (e:=g ((i:Int)+1)) (F:=u129L3 (insOf d i) d (i:Int) g) (fun g3 k hk=>by
   refine (all_el hk hn ⟨⟨by omega,by omega⟩,⟨by omega,by omega⟩,rfl,trivial⟩).trans ?_
   rfl) (fun g3=>by
   refine all_end.trans ?_
   exact gd_pos ⟨⟨by omega,by omega⟩,trivial⟩)
  rw [any_getD (insOf d i).2.2 0 (fun y=>!inB y 0 ((d.2.1.length:Int) - 1))] at inner
  rw [inner]
  unfold instB
  rw [← all_any]
  have n1:((((insOf d i).2.2.length:Nat):Int) != ((pinsAt l (insOf d i).2.1:Nat):Int))=!((((insOf d i).2.2.length:Nat):Int)==((pinsAt l (insOf d i).2.1:Nat):Int)):=rfl
  show (if (!inB (insOf d i).2.1 0 ((l.length:Int) - 1)||(((insOf d i).2.2.length:Nat):Int) != ((pinsAt l (insOf d i).2.1:Nat):Int))=true then some false else if ((insOf d i).2.2.any fun y=>!inB y 0 ((d.2.1.length:Int) - 1))=true then some false else g ((i:Int)+1))=_
  rw [n1]
  cases inB (insOf d i).2.1 0 ((l.length:Int) - 1) <;> cases ((((insOf d i).2.2.length:Nat):Int)==((pinsAt l (insOf d i).2.1:Nat):Int)) <;> cases ((insOf d i).2.2.any fun y=>!inB y 0 ((d.2.1.length:Int) - 1)) <;> rfl) (fun g=>all_end)
 refine key.trans ?_
 rw [kj]
 cases (List.range d.1.length).any fun i=>!instB l.length (pinsAt l) d.2.1.length (insOf d i) <;> rfl
theorem ones_any (v:List Int):(!v.any fun x=>x != 1)=v.all (·==1):=all_any v (fun x=>x==1)
theorem rep_ok {n b:Nat} (h:n≤1048576) (hb:b≤4096):(0≤(n:Int)∧(n:Int)=(n:Int)∧(n:Int).toNat*b≤281474976710656∧(n:Int)≤9223372036854775807)∧True:=by
 have hm:n*b≤1048576*4096:=Nat.mul_le_mul h hb
 exact ⟨⟨by omega,rfl,by rw [Int.toNat_natCast]; omega,by omega⟩,trivial⟩
theorem inc_ok {v:List Int} {n b:Nat} {x:Int} (h:lowAt v n b) (hb:b≤2097152) (hx:inB x 0 ((n:Int) - 1)=true):ix x v.length∧x.toNat < v.length∧in64 (v.getD x.toNat 0+1)∧ix x v.length∧x.toNat < v.length∧True:=by
 obtain ⟨h1,h2⟩:=lowAt_ix h hx
 have:=h.2 x.toNat
 exact ⟨h1,h2,⟨by omega,by omega⟩,h1,h2,trivial⟩
theorem pred_ok {n:Nat} (h1:1≤n) (h:n≤9223372036854775807):in64 ((n:Int) - 1)∧ix ((n:Int) - 1) n:=⟨⟨by omega,by omega⟩,⟨by omega,by omega⟩⟩
theorem r95 (l:List Y134) (d:Y43) (hl:wf (.sl y134) l) (hd:wf y43 d) (ml:cnt (.sl y134) l≤1048576) (md:cnt y43 d≤1048576):u95 l d=some (designOk l d):=by
 have hi0:=hd.1.1
 have hp0:=hd.2.2.1
 have mi:d.1.length≤1048576:=cnt_len (cnt_fst md)
 have mn:d.2.1.length≤1048576:=cnt_len (cnt_fst (cnt_snd md))
 have mp:d.2.2.length≤1048576:=cnt_len (cnt_snd (cnt_snd md))
 show _=some (designB _ _ _ _ _ _ _ _ _)
 unfold u95 designB
 rw [r131 l hl ml,r132 d hd md,vl_some,vl_some,gd_pos ⟨rfl,fun _=>rfl,trivial⟩]
 cases hlo:libOk l with
 | false=>exact if_pos rfl
 | true =>
   rw [Bool.true_and]
   cases hno:(decide (d.1.length≤14)&&decide (d.2.1.length≤30)&&decide (d.2.2.length≤8)&&namesB d.1.length (fun i=>(insOf d i).1)&&namesB d.2.1.length (fun i=>d.2.1.getD i (dflt .str))&&namesB d.2.2.length (fun i=>(prtOf d i).1)) with
   | false=>exact if_pos rfl
   | true =>
     refine (if_neg (by simp)).trans ?_
     rw [gd_pos (rep_ok mn (by decide)),Int.toNat_natCast]
     have hpin:∀ y,inB y 0 ((l.length:Int) - 1)=true→2≤pinsAt l y:=fun y hy=>(lib_pins hlo hy).1
     have key:=lp_foldE (n:=d.1.length) hi0 (fun i (v:List Int)=>((i:Int),v)) (instF (insOf d)) (fun i=>!instB l.length (pinsAt l) d.2.1.length (insOf d i)) (some false) (fun i v=>i≤d.1.length∧lowAt v d.2.1.length i) (J:=u95J0 d) (F:=u95L1 d l) (fun g i v hi hI=>by
      have e3:((i:Int)).toNat=i:=rfl
      have hx:=wf_el (d:=dflt y136) hi hd.1
      refine (if_pos (by simpa using hi)).trans ?_
      rw [e3,gd_pos ⟨⟨by omega,by omega⟩,trivial⟩,lt_eq,r133 d l _ hd hl hx,vl_some,gd_pos ⟨rfl,trivial⟩]
      cases hin:instB l.length (pinsAt l) d.2.1.length (insOf d i) with
      | false=>rfl
      | true =>
        obtain ⟨g1,g2⟩:=inst_nets hin hpin
        have hlen:(insOf d i).2.2.length≤9223372036854775807:=hx.2.2.1
        refine (if_neg (by simp)).trans ?_
        rw [toNat_pred g1,gd_pos ⟨(pred_ok g1 hlen).1,(pred_ok g1 hlen).2,inc_ok hI.2 (by omega) g2⟩,lt_eq,gd_pos ⟨⟨by omega,by omega⟩,trivial⟩]
        rfl) (fun i v hi hI _=>⟨by omega,lowAt_inc hI.2 _⟩) (fun g v _=>all_end) (List.replicate d.2.1.length 0) ⟨by omega,lowAt_rep _ _⟩
     refine key.trans ?_
     cases hia:(List.range d.1.length).any fun i=>!instB l.length (pinsAt l) d.2.1.length (insOf d i) with
     | true=>simp
     | false =>
       refine (if_neg (by simp)).trans ?_
       have hlow:=instF_low (insOf d) d.2.1.length d.1.length
       unfold driveN
       generalize foldN (instF (insOf d)) d.1.length (List.replicate d.2.1.length 0)=v0 at *
       rw [u95J0]
       have key2:=lp_foldE (n:=d.2.2.length) hp0 (fun i (v:List Int)=>((i:Int),v)) (portF (prtOf d)) (fun i=>!portB d.2.1.length (prtOf d i)) (some false) (fun i v=>i≤d.2.2.length∧lowAt v d.2.1.length (d.1.length+i)) (J:=u95J2) (F:=u95L3 d) (fun g i v hi hI=>by
        have e3:((i:Int)).toNat=i:=rfl
        have j4:∀ v',u95J4 (i:Int) g v'=g (((i+1:Nat):Int),v'):=fun v'=>gd_pos ⟨⟨by omega,by omega⟩,trivial⟩
        refine (if_pos (by simpa using hi)).trans ?_
        rw [e3,gd_pos ⟨⟨by omega,by omega⟩,trivial⟩,lt_eq,r77 d hd,vl_some,gd_pos ⟨fun _=>rfl,trivial⟩,j4,j4]
        have e5:((prtOf d i).2.1 != 1&&(prtOf d i).2.1 != 2||!inB (prtOf d i).2.2 0 ((d.2.1.length:Int) - 1))=!portB d.2.1.length (prtOf d i):=by
         unfold portB
         rw [Bool.not_and]
         congr 1
         rw [Bool.eq_iff_iff]
         simp only [Bool.and_eq_true,bne_iff_ne,Bool.not_eq_true',← Bool.not_eq_true,inB_iff]
         omega
        show (if ((prtOf d i).2.1 != 1&&(prtOf d i).2.1 != 2||!inB (prtOf d i).2.2 0 ((d.2.1.length:Int) - 1))=true then some false else _)=_
        rw [e5]
        cases hpo:portB d.2.1.length (prtOf d i) with
        | false=>rfl
        | true =>
          have hnet:inB (prtOf d i).2.2 0 ((d.2.1.length:Int) - 1)=true:=by
           unfold portB at hpo
           rw [Bool.and_eq_true] at hpo
           exact hpo.2
          refine (if_neg (by simp)).trans ?_
          show _=g (_,portF (prtOf d) i v)
          unfold portF
          by_cases k1:(prtOf d i).2.1=1
          ·rw [if_pos (beq_iff_eq.2 k1),if_pos k1]
           exact gd_pos (inc_ok hI.2 (by omega) hnet)
          ·rw [if_neg (by simpa using k1),if_neg k1]) (fun i v hi hI _=>⟨by omega,by
          unfold portF
          split
          ·exact lowAt_inc hI.2 _
          ·exact lowAt_up hI.2 (by omega)⟩) (fun g v _=>all_end) v0 ⟨by omega,hlow⟩
       refine key2.trans ?_
       cases hpa:(List.range d.2.2.length).any fun i=>!portB d.2.1.length (prtOf d i) with
       | true=>simp
       | false =>
         refine (if_neg (by simp)).trans ?_
         have hv:∀ v:List Int,v.length≤9223372036854775807→u95J2 v=some (v.all (·==1)):=fun v hv=>by
          have h1:u161c135 v=_:=idx_some hv (fun i=>v.getD i 0 != 1) (fun g i hi=>idx_el hi hv rfl) (fun g=>all_end)
          have h2:u134c135 v=_:=has_some h1
          rw [any_getD v 0 (fun x=>x != 1)] at h2
          rw [u95J2,h2,vl_some,gd_pos ⟨rfl,trivial⟩,ones_any]
         have hlen:(foldN (portF (prtOf d)) d.2.2.length v0).length≤9223372036854775807:=by
          have:∀ n,(foldN (portF (prtOf d)) n v0).length=v0.length:=by
           intro n
           induction n with
           | zero=>rfl
           | succ n ih =>
             rw [foldN]
             unfold portF
             split
             ·unfold incAt; rw [List.length_set]; exact ih
             ·exact ih
          rw [this,hlow.1]; omega
         rw [hv _ hlen]
         rfl
end Go.Proofs.YtgmpfbpemmohnaaGreatDoor
end
section
/- Designs: what the reference's functions say of them. -/
namespace Go.Proofs.YtgmpfbpemmohnaaGreatDoor
open Go Go.Proofs Go.Proofs.Sv Go.Proofs.Xv Go.Proofs.Xl Go.Proofs.Xd
theorem r88 (l:List Y134) (d:Y43) (hl:wf (.sl y134) l) (hd:wf y43 d) (md:cnt y43 d≤1048576):u88 l d=some (designOk l d):=by
 have hi0:=hd.1.1
 have hp0:=hd.2.2.1
 have mi:d.1.length≤1048576:=cnt_len (cnt_fst md)
 have mn:d.2.1.length≤1048576:=cnt_len (cnt_fst (cnt_snd md))
 have mp:d.2.2.length≤1048576:=cnt_len (cnt_snd (cnt_snd md))
 show _=some (designB _ _ _ _ _ _ _ _ _)
 unfold u88
 rw [r128 l hl,r129 l d hl hd,vl_some,vl_some,gd_pos ⟨rfl,fun _=>rfl,trivial⟩]
 by_cases hgo:libOk l=true∧d.1.length≤14∧d.2.1.length≤30∧d.2.2.length≤8∧((List.range d.1.length).any fun i=>!instB l.length (pinsAt l) d.2.1.length (insOf d i))=false∧((List.range d.2.2.length).any fun i=>!portB d.2.1.length (prtOf d i))=false
 ·obtain ⟨hlo,h14,h30,h8,hia,hpa⟩:=hgo
  have a1:decide (14 < (d.1.length:Int))=false:=decide_eq_false (by omega)
  have a2:decide (30 < (d.2.1.length:Int))=false:=decide_eq_false (by omega)
  have a3:decide (8 < (d.2.2.length:Int))=false:=decide_eq_false (by omega)
  rw [hlo,a1,a2,a3,hia,hpa]
  refine (if_neg (by simp)).trans ?_
  have hpin:∀ y,inB y 0 ((l.length:Int) - 1)=true→2≤pinsAt l y:=fun y hy=>(lib_pins hlo hy).1
  have hall:∀ i,i < d.1.length→instB l.length (pinsAt l) d.2.1.length (insOf d i)=true:=fun i hi=>by
   have:=(not_any (n:=d.1.length) (c:=fun i=>!instB l.length (pinsAt l) d.2.1.length (insOf d i))).1 (by rw [hia]; rfl) i hi
   rwa [Bool.not_eq_false'] at this
  have hpall:∀ i,i < d.2.2.length→portB d.2.1.length (prtOf d i)=true:=fun i hi=>by
   have:=(not_any (n:=d.2.2.length) (c:=fun i=>!portB d.2.1.length (prtOf d i))).1 (by rw [hpa]; rfl) i hi
   rwa [Bool.not_eq_false'] at this
  have k10:∀ v:List Int,v.length≤9223372036854775807→u88J6 v=some (v.all (·==1)):=fun v hv=>by
   rw [u88J6]
   have key:=lp_all (n:=v.length) hv (fun i=>v.getD i 0 != 1) (some false) (e:=some true) (F:=u88L10 v) (fun g i hi=>by
    refine (all_el hi hv ⟨⟨by omega,by omega⟩,by rw [Int.toNat_natCast]; exact hi,trivial⟩).trans ?_
    rfl) (fun g=>all_end)
   refine key.trans ?_
   rw [any_getD v 0 (fun x=>x != 1),← ones_any]
   cases v.any fun x=>x != 1 <;> rfl
  have k7:∀ v:List Int,lowAt v d.2.1.length d.1.length→u88J4 d v=some ((foldN (portF (prtOf d)) d.2.2.length v).all (·==1)):=fun v0 hlow=>by
   rw [u88J4]
   have key:=lp_fold (n:=d.2.2.length) hp0 (fun i (v:List Int)=>((i:Int),v)) (portF (prtOf d)) (fun i v=>i≤d.2.2.length∧lowAt v d.2.1.length (d.1.length+i)) (J:=u88J6) (F:=u88L7 d) (fun g i v hi hI=>by
    have e3:((i:Int)).toNat=i:=rfl
    have j8:∀ v',u88J8 (i:Int) g v'=g (((i+1:Nat):Int),v'):=fun v'=>gd_pos ⟨⟨by omega,by omega⟩,trivial⟩
    have hnet:inB (prtOf d i).2.2 0 ((d.2.1.length:Int) - 1)=true:=by
     have:=hpall i hi
     unfold portB at this
     rw [Bool.and_eq_true] at this
     exact this.2
    refine (if_pos (by simpa using hi)).trans ?_
    rw [e3,gd_pos ⟨⟨by omega,by omega⟩,trivial⟩,j8]
    show (if ((prtOf d i).2.1==1)=true then _ else _)=g (_,portF (prtOf d) i v)
    unfold portF
    by_cases k1:(prtOf d i).2.1=1
    ·rw [if_pos (beq_iff_eq.2 k1),if_pos k1]
     refine (gd_pos ⟨⟨by omega,by omega⟩,inc_ok hI.2 (by omega) hnet⟩).trans ?_
     rw [lt_eq]
     exact j8 _
    ·rw [if_neg (by simpa using k1),if_neg k1]) (fun i v hi hI=>⟨by omega,by
    unfold portF
    split
    ·exact lowAt_inc hI.2 _
    ·exact lowAt_up hI.2 (by omega)⟩) (fun g v _=>all_end) v0 ⟨by omega,hlow⟩
   refine key.trans (k10 _ ?_)
   have:∀ n,(foldN (portF (prtOf d)) n v0).length=v0.length:=by
    intro n
    induction n with
    | zero=>rfl
    | succ n ih =>
      rw [foldN]
      unfold portF
      split
      ·unfold incAt; rw [List.length_set]; exact ih
      ·exact ih
   rw [this,hlow.1]; omega
  have k5:lp (u88L5 d) ((0:Int),List.replicate d.2.1.length 0)=some ((driveN d.1.length d.2.2.length d.2.1.length (insOf d) (prtOf d)).all (·==1)):=by
   have key:=lp_fold (n:=d.1.length) hi0 (fun i (v:List Int)=>((i:Int),v)) (instF (insOf d)) (fun i v=>i≤d.1.length∧lowAt v d.2.1.length i) (J:=u88J4 d) (F:=u88L5 d) (fun g i v hi hI=>by
    have e3:((i:Int)).toNat=i:=rfl
    have hx:=wf_el (d:=dflt y136) hi hd.1
    obtain ⟨g1,g2⟩:=inst_nets (hall i hi) hpin
    have hlen:(insOf d i).2.2.length≤9223372036854775807:=hx.2.2.1
    refine (if_pos (by simpa using hi)).trans ?_
    rw [e3,gd_pos ⟨⟨by omega,by omega⟩,trivial⟩,lt_eq,toNat_pred g1,gd_pos ⟨(pred_ok g1 hlen).1,(pred_ok g1 hlen).2,inc_ok hI.2 (by omega) g2⟩,lt_eq,gd_pos ⟨⟨by omega,by omega⟩,trivial⟩]
    rfl) (fun i v hi hI=>⟨by omega,lowAt_inc hI.2 _⟩) (fun g v _=>all_end) (List.replicate d.2.1.length 0) ⟨by omega,lowAt_rep _ _⟩
   refine key.trans (k7 _ (instF_low _ _ _))
  have hn1:wf (.sl .str) (d.1.map fun c:Y136=>c.1):=wf_map hi0 fun x hx=>(hd.1.2 x hx).1
  have hn2:wf (.sl .str) (d.2.2.map fun c:Y172=>c.1):=wf_map hp0 fun x hx=>(hd.2.2.2 x hx).1
  have k2:∀ v z:List ByteArray,wf (.sl .str) v→wf (.sl .str) z→u88J2 d v z=some ((namesB v.length fun i=>v.getD i (dflt .str))&&(namesB z.length fun i=>z.getD i (dflt .str))&&namesB d.2.1.length (fun i=>d.2.1.getD i (dflt .str))&&(driveN d.1.length d.2.2.length d.2.1.length (insOf d) (prtOf d)).all (·==1)):=fun v z hv hz=>by
   rw [u88J2,r130 _ hv,r130 _ hz,r130 _ hd.2.1,vl_some,vl_some,vl_some,gd_pos ⟨rfl,fun _=>rfl,fun _=>rfl,trivial⟩,gd_pos (rep_ok mn (by decide)),Int.toNat_natCast,k5]
   cases (namesB v.length fun i=>v.getD i (dflt .str)) <;> cases (namesB z.length fun i=>z.getD i (dflt .str)) <;> cases namesB d.2.1.length (fun i=>d.2.1.getD i (dflt .str)) <;> rfl
  have k3:∀ v:List ByteArray,wf (.sl .str) v→u88J0 d v=some ((namesB v.length fun i=>v.getD i (dflt .str))&&namesB d.2.2.length (fun i=>(prtOf d i).1)&&namesB d.2.1.length (fun i=>d.2.1.getD i (dflt .str))&&(driveN d.1.length d.2.2.length d.2.1.length (insOf d) (prtOf d)).all (·==1)):=fun v hv=>by
   rw [u88J0]
   have key:=lp_fold (n:=d.2.2.length) hp0 (fun i (s:List ByteArray)=>((i:Int),s)) (gath fun i=>(prtOf d i).1) (fun i s=>s.length=i) (J:=u88J2 d v) (F:=u88L3 d v) (fun g i s hi hI=>by
    have e3:((i:Int)).toNat=i:=rfl
    refine (if_pos (by simpa using hi)).trans ?_
    rw [e3,gd_pos ⟨⟨by omega,by omega⟩,⟨by show s.length+1≤_; omega,by show (s.length+1)*16≤_; omega⟩,trivial⟩,gd_pos ⟨⟨by omega,by omega⟩,trivial⟩]
    rfl) (fun i s hi hI=>by unfold gath; rw [List.length_append,hI]; rfl) (fun g s _=>all_end) [] rfl
   refine key.trans ?_
   rw [gath_row d.2.2 (dflt y172) (fun c:Y172=>c.1),k2 _ _ hv hn2,names_map d.2.2 (fun c:Y172=>c.1) (dflt y172)]
  have key:=lp_fold (n:=d.1.length) hi0 (fun i (s:List ByteArray)=>((i:Int),s)) (gath fun i=>(insOf d i).1) (fun i s=>s.length=i) (J:=u88J0 d) (F:=u88L1 d) (fun g i s hi hI=>by
   have e3:((i:Int)).toNat=i:=rfl
   refine (if_pos (by simpa using hi)).trans ?_
   rw [e3,gd_pos ⟨⟨by omega,by omega⟩,⟨by show s.length+1≤_; omega,by show (s.length+1)*16≤_; omega⟩,trivial⟩,gd_pos ⟨⟨by omega,by omega⟩,trivial⟩]
   rfl) (fun i s hi hI=>by unfold gath; rw [List.length_append,hI]; rfl) (fun g s _=>all_end) [] rfl
  refine key.trans ?_
  rw [gath_row d.1 (dflt y136) (fun c:Y136=>c.1),k3 _ hn1,names_map d.1 (fun c:Y136=>c.1) (dflt y136)]
  unfold designB
  rw [hia,hpa,decide_eq_true h14,decide_eq_true h30,decide_eq_true h8]
  cases namesB d.1.length (fun i=>(insOf d i).1) <;> cases namesB d.2.1.length (fun i=>d.2.1.getD i (dflt .str)) <;> cases namesB d.2.2.length (fun i=>(prtOf d i).1) <;> rfl
 ·have e0:(!libOk l||decide (14 < (d.1.length:Int))||decide (30 < (d.2.1.length:Int))||decide (8 < (d.2.2.length:Int))||!(!((List.range d.1.length).any fun i=>!instB l.length (pinsAt l) d.2.1.length (insOf d i))&&!((List.range d.2.2.length).any fun i=>!portB d.2.1.length (prtOf d i))))=true:=by
   rw [← Bool.not_eq_false]
   intro hc
   simp only [Bool.or_eq_false_iff,Bool.not_eq_false',decide_eq_false_iff_not,Bool.and_eq_true,Bool.not_eq_true'] at hc
   exact hgo ⟨hc.1.1.1.1,by omega,by omega,by omega,hc.2.1,hc.2.2⟩
  refine (if_pos e0).trans ?_
  refine congrArg some ?_
  symm
  rw [← Bool.not_eq_true]
  intro hc
  unfold designB at hc
  simp only [Bool.and_eq_true,decide_eq_true_eq,Bool.not_eq_true'] at hc
  obtain ⟨⟨⟨⟨⟨⟨⟨⟨⟨c1,c2⟩,c3⟩,c4⟩,_⟩,_⟩,_⟩,c5⟩,c6⟩,_⟩:=hc
  exact hgo ⟨c1,c2,c3,c4,c5,c6⟩
end Go.Proofs.YtgmpfbpemmohnaaGreatDoor
end
section
/- Wires and places: what the program's functions and the reference's say of them. -/
namespace Go.Proofs.YtgmpfbpemmohnaaGreatDoor
open Go Go.Proofs Go.Proofs.Sv Go.Proofs.Xv Go.Proofs.Xl Go.Proofs.Xd
abbrev treeBad (w:Y114) (i:Nat):Bool:=(i==0&&(w.1.getD i 0 != -1||w.2.1.getD 0 0 != 0))||(decide (0 < i)&&!inB (w.1.getD i 0) 0 ((i:Int) - 1))
theorem r136 (w:Y114) (hw:wf y114 w) (hl:w.2.1.length=w.1.length):u136 w=some (!(List.range w.1.length).any (treeBad w)):=by
 have h:=hw.1.1
 have key:=lp_all (n:=w.1.length) h (treeBad w) (some false) (e:=some true) (F:=u136L1 w) (fun g i hi=>by
  have e3:((i:Int)).toNat=i:=rfl
  have e0:((i:Int)==0)=(i==0):=by rw [Bool.eq_iff_iff,beq_iff_eq,beq_iff_eq]; omega
  have e2:decide ((0:Int) < (i:Int))=decide (0 < i):=by rw [decide_eq_decide]; omega
  refine (if_pos (by simpa using hi)).trans ?_
  rw [e3,e0,e2,r120,vl_some,gd_pos ⟨⟨by omega,by omega⟩,trivial⟩,gd_pos ⟨fun _=>⟨by omega,by omega⟩,fun _=>⟨by omega,by omega⟩,fun _=>rfl,trivial⟩,gd_pos ⟨⟨by omega,by omega⟩,trivial⟩]
  rfl) (fun g=>all_end)
 refine key.trans ?_
 cases (List.range w.1.length).any (treeBad w) <;> rfl
theorem r97 (w:Y114) (n:Int) (hw:wf y114 w):u97 w n=some (wireB w n):=by
 obtain ⟨⟨h1,_⟩,⟨h2,_⟩,⟨h3,_⟩,h4,_⟩:=id hw
 have e:∀ xs:List Int,u99 xs=some (xs.length:Int):=fun _=>rfl
 unfold u97
 rw [e,e,e,e]
 repeat rw [vl_some]
 rw [gd_pos ⟨rfl,trivial⟩,lt_eq,r120,r137 _ _ _ h2,r137 _ _ _ h3,r137 _ _ _ h4]
 repeat rw [vl_some]
 by_cases hgo:(inB (w.1.length:Int) 1 8&&(w.2.1.length:Int)==(w.1.length:Int)&&(w.2.2.1.length:Int)==(w.1.length:Int))=true
 ·have hg:=hgo
  simp only [Bool.and_eq_true,beq_iff_eq,inB_iff] at hg
  rw [r136 w hw (by omega),vl_some,gd_pos ⟨rfl,fun _=>rfl,fun _=>rfl,fun _=>rfl,fun _=>rfl,fun _=>rfl,fun _=>rfl,fun _=>⟨by omega,by omega⟩,fun _=>rfl,trivial⟩,lt_eq]
  refine congrArg some ?_
  rw [hgo]
  unfold wireB
  rw [decide_eq_true (show 1≤w.1.length by omega),decide_eq_true (show w.1.length≤8 by omega),decide_eq_true (show w.2.1.length=w.1.length by omega),decide_eq_true (show w.2.2.1.length=w.1.length by omega)]
  cases (List.range w.1.length).any (treeBad w) <;> cases w.2.1.all (inB · 0 1000) <;> cases w.2.2.1.all (inB · 0 500) <;> cases (w.2.2.2.length:Int)==n <;> cases w.2.2.2.all (inB · 0 ((w.1.length:Int) - 1)) <;> rfl
 ·have hg:(inB (w.1.length:Int) 1 8&&(w.2.1.length:Int)==(w.1.length:Int)&&(w.2.2.1.length:Int)==(w.1.length:Int))=false:=by simpa using hgo
  rw [hg,gd_pos ⟨rfl,fun _=>rfl,fun _=>rfl,fun hc=>by simp at hc,fun hc=>by simp at hc,fun hc=>by simp at hc,fun hc=>by simp at hc,fun hc=>by simp at hc,fun hc=>by simp at hc,trivial⟩,lt_eq]
  refine congrArg some ?_
  rw [hg]
  simp only [Bool.false_and]
  symm
  rw [← Bool.not_eq_true]
  intro hc
  unfold wireB at hc
  simp only [Bool.and_eq_true,decide_eq_true_eq] at hc
  refine hgo ?_
  simp only [Bool.and_eq_true,beq_iff_eq,inB_iff]
  omega
theorem r89 (w:Y114) (n:Int) (hw:wf y114 w):u89 w n=some (wireB w n):=by
 obtain ⟨⟨h1,_⟩,⟨h2,_⟩,⟨h3,_⟩,h4,_⟩:=id hw
 unfold u89
 by_cases hgo:1≤w.1.length∧w.1.length≤8∧w.2.1.length=w.1.length∧w.2.2.1.length=w.1.length∧(w.2.2.2.length:Int)=n
 ·obtain ⟨g1,g2,g3,g4,g5⟩:=hgo
  have e0:(decide ((w.1.length:Int) < 1)||decide (8 < (w.1.length:Int))||(w.2.1.length:Int) != (w.1.length:Int)||(w.2.2.1.length:Int) != (w.1.length:Int)||(w.2.2.2.length:Int) != n)=false:=by
   rw [← Bool.not_eq_true]; simp; omega
  refine (if_neg (by rw [e0]; simp)).trans ?_
  have k3:=lp_all (n:=w.2.2.2.length) h4 (fun i=>!inB (w.2.2.2.getD i 0) 0 ((w.1.length:Int) - 1)) (some false) (e:=some true) (F:=u89L3 w) (fun g i hi=>all_el hi h4 ⟨⟨by omega,by omega⟩,⟨by omega,by omega⟩,rfl,trivial⟩) (fun g=>all_end)
  rw [any_getD w.2.2.2 0 (fun x=>!inB x 0 ((w.1.length:Int) - 1))] at k3
  have k1:=lp_all (n:=w.1.length) h1 (fun i=>(!inB (w.2.2.1.getD i 0) 0 500||!inB (w.2.1.getD i 0) 0 1000)||treeBad w i) (some false) (e:=u89J0 w ()) (F:=u89L1 w) (fun g i hi=>by
   have e3:((i:Int)).toNat=i:=rfl
   have e0:((i:Int)==0)=(i==0):=by rw [Bool.eq_iff_iff,beq_iff_eq,beq_iff_eq]; omega
   have e2:decide ((0:Int) < (i:Int))=decide (0 < i):=by rw [decide_eq_decide]; omega
   refine (if_pos (by simpa using hi)).trans ?_
   rw [e3,e0,e2,r69,r69,r69]
   repeat rw [vl_some]
   rw [gd_pos ⟨⟨by omega,by omega⟩,rfl,fun _=>⟨by omega,by omega⟩,fun _=>rfl,trivial⟩,gd_pos ⟨fun _=>⟨by omega,by omega⟩,fun _=>⟨by omega,by omega⟩,fun _=>⟨by omega,by omega⟩,fun _=>⟨by omega,by omega⟩,fun _=>rfl,trivial⟩,gd_pos ⟨⟨by omega,by omega⟩,trivial⟩]
   have e4:(i==0&&(w.1.getD i 0 != -1||w.2.1.getD i 0 != 0)||decide (0 < i)&&!inB (w.1.getD i 0) 0 ((i:Int) - 1))=treeBad w i:=by
    unfold treeBad
    cases i with
    | zero=>rfl
    | succ i=>rfl
   rw [e4]
   cases (!inB (w.2.2.1.getD i 0) 0 500||!inB (w.2.1.getD i 0) 0 1000) <;> rfl) (fun g=>all_end)
  refine k1.trans ?_
  rw [any_or,any_or]
  have a1:=any_getD w.2.2.1 0 (fun x=>!inB x 0 500)
  have a2:=any_getD w.2.1 0 (fun x=>!inB x 0 1000)
  rw [g4] at a1
  rw [g3] at a2
  rw [a1,a2]
  unfold u89J0
  rw [k3]
  unfold wireB
  rw [decide_eq_true g1,decide_eq_true g2,decide_eq_true g3,decide_eq_true g4,beq_iff_eq.2 g5,← all_any,← all_any,← all_any]
  cases (List.range w.1.length).any (treeBad w) <;> cases w.2.1.any (fun x=>!inB x 0 1000) <;> cases w.2.2.1.any (fun x=>!inB x 0 500) <;> cases w.2.2.2.any (fun x=>!inB x 0 ((w.1.length:Int) - 1)) <;> rfl
 ·have e0:(decide ((w.1.length:Int) < 1)||decide (8 < (w.1.length:Int))||(w.2.1.length:Int) != (w.1.length:Int)||(w.2.2.1.length:Int) != (w.1.length:Int)||(w.2.2.2.length:Int) != n)=true:=by
   rw [← Bool.not_eq_false]
   intro hc
   simp only [Bool.or_eq_false_iff,decide_eq_false_iff_not,bne_eq_false_iff_eq] at hc
   exact hgo ⟨by omega,by omega,by omega,by omega,hc.2⟩
  refine (if_pos e0).trans ?_
  refine congrArg some ?_
  symm
  rw [← Bool.not_eq_true]
  intro hc
  unfold wireB at hc
  simp only [Bool.and_eq_true,decide_eq_true_eq,beq_iff_eq] at hc
  exact hgo ⟨by omega,by omega,by omega,by omega,hc.1.1.1.1.2⟩
theorem r96 (d:Y43) (hd:wf y43 d) (h14:d.1.length≤14) (h8:d.2.2.length≤8) (h5:∀ i,i < d.1.length→1≤(insOf d i).2.2.length∧(insOf d i).2.2.length≤5):u96 d=some (placesN d.1.length d.2.2.length (insOf d) (prtOf d)):=by
 have hi0:=hd.1.1
 have hp0:=hd.2.2.1
 unfold u96
 have k5:∀ s:List Y146,s.length≤70→u96J0 d s=some (foldN (portP (prtOf d)) d.2.2.length s):=fun s0 hs=>by
  rw [u96J0]
  exact lp_fold (n:=d.2.2.length) hp0 (fun i (s:List Y146)=>((i:Int),s)) (portP (prtOf d)) (fun i s=>s.length=s0.length+i) (J:=fun s=>some s) (F:=u96L5 d) (fun g i s hi hI=>by
   have e3:((i:Int)).toNat=i:=rfl
   refine (if_pos (by simpa using hi)).trans ?_
   rw [e3,gd_pos ⟨⟨by omega,by omega⟩,trivial⟩,lt_eq,gd_pos ⟨⟨by show s.length+1≤_; omega,by show (s.length+1)*32≤_; omega⟩,trivial⟩,gd_pos ⟨⟨by omega,by omega⟩,trivial⟩]
   rfl) (fun i s hi hI=>by unfold portP; rw [List.length_append,hI]; rfl) (fun g s _=>all_end) s0 rfl
 have key:=lp_fold (n:=d.1.length) hi0 (fun i (s:List Y146)=>(s,(i:Int))) (placesF (insOf d)) (fun i s=>s.length≤5*i) (J:=u96J0 d) (F:=u96L1 d) (fun g i s hi hI=>by
  have e3:((i:Int)).toNat=i:=rfl
  have hx:=(h5 i hi).2
  have hn:(insOf d i).2.2.length≤9223372036854775807:=by omega
  refine (if_pos (by simpa using hi)).trans ?_
  rw [e3,gd_pos ⟨⟨by omega,by omega⟩,trivial⟩,lt_eq]
  have inner:=lp_fold (n:=(insOf d i).2.2.length) hn (fun k (s:List Y146)=>((k:Int),s)) (instP (insOf d i) i) (fun k z=>z.length=s.length+k) (J:=u96J2 (i:Int) g) (F:=u96L3 (i:Int) (insOf d i) g) (fun g3 k z hk hz=>by
   have e4:((k:Int)).toNat=k:=rfl
   refine (if_pos (by simpa using hk)).trans ?_
   rw [e4,gd_pos ⟨⟨by omega,by omega⟩,trivial⟩,gd_pos ⟨⟨by omega,by omega⟩,⟨by show z.length+1≤_; omega,by show (z.length+1)*32≤_; omega⟩,trivial⟩,lt_eq]
   exact gd_pos ⟨⟨by omega,by omega⟩,trivial⟩) (fun k z hk hz=>by unfold instP; rw [List.length_append,hz]; rfl) (fun g3 z _=>all_end) s rfl
  refine inner.trans ?_
  exact gd_pos ⟨⟨by omega,by omega⟩,trivial⟩) (fun i s hi hI=>by
  have hx:=(h5 i hi).2
  unfold placesF
  rw [instP_len]
  have hI':s.length≤5*i:=hI
  omega) (fun g s _=>all_end) [] (Nat.zero_le _)
 refine key.trans (k5 _ ?_)
 have:=placesF_len (x:=insOf d) (ni:=d.1.length) (fun i hi=>(h5 i hi).2) d.1.length (Nat.le_refl _)
 omega
theorem r106 (d:Y43) (hd:wf y43 d) (h14:d.1.length≤14) (h8:d.2.2.length≤8) (h5:∀ i,i < d.1.length→1≤(insOf d i).2.2.length∧(insOf d i).2.2.length≤5):u106 d=some (placesN d.1.length d.2.2.length (insOf d) (prtOf d)):=by
 have hi0:=hd.1.1
 have hp0:=hd.2.2.1
 unfold u106
 have k5:∀ s:List Y184,s.length≤70→u106J0 d s=some (foldN (portP (prtOf d)) d.2.2.length s):=fun s0 hs=>by
  rw [u106J0]
  exact lp_fold (n:=d.2.2.length) hp0 (fun i (s:List Y184)=>((i:Int),s)) (portP (prtOf d)) (fun i s=>s.length=s0.length+i) (J:=fun s=>some s) (F:=u106L5 d) (fun g i s hi hI=>by
   have e3:((i:Int)).toNat=i:=rfl
   refine (if_pos (by simpa using hi)).trans ?_
   rw [e3,gd_pos ⟨⟨by omega,by omega⟩,⟨by omega,by omega⟩,⟨by show s.length+1≤_; omega,by show (s.length+1)*32≤_; omega⟩,trivial⟩,lt_eq]
   exact gd_pos ⟨⟨by omega,by omega⟩,trivial⟩) (fun i s hi hI=>by unfold portP; rw [List.length_append,hI]; rfl) (fun g s _=>all_end) s0 rfl
 have key:=lp_fold (n:=d.1.length) hi0 (fun i (s:List Y184)=>((i:Int),s)) (placesF (insOf d)) (fun i s=>s.length≤5*i) (J:=u106J0 d) (F:=u106L1 d) (fun g i s hi hI=>by
  have e3:((i:Int)).toNat=i:=rfl
  have hx:=(h5 i hi).2
  have hn:(insOf d i).2.2.length≤9223372036854775807:=by omega
  refine (if_pos (by simpa using hi)).trans ?_
  rw [e3,gd_pos ⟨⟨by omega,by omega⟩,trivial⟩,lt_eq]
  have inner:=lp_fold (n:=(insOf d i).2.2.length) hn (fun k (s:List Y184)=>((k:Int),s)) (instP (insOf d i) i) (fun k z=>z.length=s.length+k) (J:=u106J2 (i:Int) g) (F:=u106L3 (i:Int) (insOf d i) g) (fun g3 k z hk hz=>by
   have e4:((k:Int)).toNat=k:=rfl
   refine (if_pos (by simpa using hk)).trans ?_
   rw [e4,gd_pos ⟨⟨by omega,by omega⟩,⟨by omega,by omega⟩,⟨by show z.length+1≤_; omega,by show (z.length+1)*32≤_; omega⟩,trivial⟩,lt_eq]
   exact gd_pos ⟨⟨by omega,by omega⟩,trivial⟩) (fun k z hk hz=>by unfold instP; rw [List.length_append,hz]; rfl) (fun g3 z _=>all_end) s rfl
  refine inner.trans ?_
  exact gd_pos ⟨⟨by omega,by omega⟩,trivial⟩) (fun i s hi hI=>by
  have hx:=(h5 i hi).2
  unfold placesF
  rw [instP_len]
  have hI':s.length≤5*i:=hI
  omega) (fun g s _=>all_end) [] (Nat.zero_le _)
 refine key.trans (k5 _ ?_)
 have:=placesF_len (x:=insOf d) (ni:=d.1.length) (fun i hi=>(h5 i hi).2) d.1.length (Nat.le_refl _)
 omega
end Go.Proofs.YtgmpfbpemmohnaaGreatDoor
end
