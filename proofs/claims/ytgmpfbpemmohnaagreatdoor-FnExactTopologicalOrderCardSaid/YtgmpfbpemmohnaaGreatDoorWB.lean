/- Valid tables: what the program's functions and the reference's say of them. -/
import Derived.Test.YtgmpfbpemmohnaaGreatDoorFn16c
import Derived.Test.YtgmpfbpemmohnaaGreatDoorWA
import Derived.Test.YtgmpfbpemmohnaaGreatDoorXA
import Derived.Lib.SlTrimSet
import Derived.Lib.Bytealg
section
/- Valid tables: what the program's functions and the reference's say of them. -/
namespace Go.Proofs.YtgmpfbpemmohnaaGreatDoor
open Go Go.Proofs Go.Proofs.Xv Go.Proofs.Xl Go.Proofs.Xd
theorem r120 (a b c:Int):u120 a b c=some (inB a b c):=rfl
theorem r69 (a b c:Int):u69 a b c=some (inB a b c):=rfl
theorem r162 (a b c:Int):u162 a b c=some (!inB a b c):=by
  unfold u162
  rw [r120,gd_pos ⟨rfl,trivial⟩,vl_some]
theorem r159c162 (xs:List Int) (b c:Int) (h:xs.length≤9223372036854775807):u159c162 xs (b,c)=some (xs.any fun x=>!inB x b c):=by
  have h1:u177c162 xs (b,c)=_:=idx_some h (fun i=>!inB (xs.getD i 0) b c) (fun g i hi=>idx_el hi h (r162 _ _ _)) (fun g=>all_end)
  have:=has_some h1
  rw [any_getD xs 0 (fun x=>!inB x b c)] at this
  exact this
theorem r137 (xs:List Int) (b c:Int) (h:xs.length≤9223372036854775807):u137 xs b c=some (xs.all (inB · b c)):=by
  unfold u137
  rw [r159c162 _ _ _ h,gd_pos ⟨rfl,trivial⟩,vl_some,all_any]
theorem r143 (xs:List Int) (h:xs.length≤9223372036854775807) (h1:1≤xs.length):u143 xs=some (incB xs):=by
  have key:=lp_allK h (fun i=>decide (xs.getD i 0≤xs.getD (i - 1) 0)) (some false) (e:=some true) (F:=u143L1 xs) 1 h1 (fun g i hk hi=>by
    have e:((i:Int) - 1).toNat=i - 1:=by omega
    refine (all_el hi h ⟨⟨by omega,by omega⟩,⟨by omega,by omega⟩,⟨by omega,by omega⟩,trivial⟩).trans ?_
    rw [e]; rfl) (fun g=>all_end)
  refine key.trans ?_
  unfold incB
  have:((List.range xs.length).any fun i=>decide (1≤i)&&decide (xs.getD i 0≤xs.getD (i - 1) 0))=(List.range xs.length).any fun i=>decide (0 < i)&&decide (xs.getD i 0≤xs.getD (i - 1) 0):=rfl
  rw [this]
  cases (List.range xs.length).any fun i=>decide (0 < i)&&decide (xs.getD i 0≤xs.getD (i - 1) 0) <;> rfl
theorem r226 (xs:List Int) (h:xs.length≤9223372036854775807):u226 xs=some (isAxis xs):=by
  unfold u226
  have e:u99 xs=some (xs.length:Int):=rfl
  have ed:∀ a:Bool,(a=true→1≤xs.length)→(a=true∧True→(u143 xs).isSome=true):=fun a ha hc=>by rw [r143 xs h (ha hc.1)]; rfl
  rw [e,vl_some,r120,vl_some,r137 xs 0 100000 h,vl_some,gd_pos ⟨rfl,rfl,fun _=>rfl,ed _ (fun hc=>by
    simp only [inB,Bool.and_eq_true,decide_eq_true_eq] at hc; omega),trivial⟩]
  congr 1
  unfold isAxis
  by_cases h1:1≤xs.length
  · rw [r143 xs h h1,vl_some]
    congr 2
    rw [Bool.eq_iff_iff]
    simp only [inB,Bool.and_eq_true,decide_eq_true_eq]
    omega
  · have h2:decide (1≤xs.length)=false:=by simpa using h1
    have h3:inB (xs.length:Int) 1 4=false:=by
      rw [← Bool.not_eq_true,inB_iff]; omega
    rw [h2,h3]; rfl
theorem r221 (xs:List Int) (h:xs.length≤9223372036854775807):u221 xs=some (isAxis xs):=by
  have key:=lp_all (n:=xs.length) h (fun i=>!inB (xs.getD i 0) 0 100000||decide (0 < i)&&decide (xs.getD i 0≤xs.getD (i - 1) 0)) (some false) (e:=u221J0 xs ()) (F:=u221L1 xs) (fun g i hi=>by
    have e:((i:Int) - 1).toNat=i - 1:=by omega
    have e2:decide ((0:Int) < (i:Int))=decide (0 < i):=by rw [decide_eq_decide]; omega
    refine (all_el hi h ⟨⟨by omega,by omega⟩,rfl,fun hc=>⟨by omega,by omega⟩,fun hc=>⟨by have:=hc.1; simp at this; omega,by omega⟩,fun hc=>⟨by omega,by omega⟩,trivial⟩).trans ?_
    rw [e,r69,vl_some,e2]; rfl) (fun g=>all_end)
  refine key.trans ?_
  unfold isAxis u221J0
  have e3:((List.range xs.length).any fun i=>!inB (xs.getD i 0) 0 100000||decide (0 < i)&&decide (xs.getD i 0≤xs.getD (i - 1) 0))=!(xs.all (inB · 0 100000)&&incB xs):=by
    rw [← all_any,← any_getD xs 0 (fun x=>!inB x 0 100000),incB,← Bool.not_or,Bool.not_not]
    rw [Bool.eq_iff_iff,Bool.or_eq_true,List.any_eq_true,List.any_eq_true,List.any_eq_true]
    constructor
    · rintro ⟨i,h1,h2⟩
      rcases Bool.or_eq_true _ _ ▸ h2 with h3 | h3
      · exact .inl ⟨i,h1,h3⟩
      · exact .inr ⟨i,h1,h3⟩
    · rintro (⟨i,h1,h2⟩ | ⟨i,h1,h2⟩)
      · exact ⟨i,h1,by rw [h2]; rfl⟩
      · exact ⟨i,h1,by rw [h2,Bool.or_true]⟩
  rw [e3]
  cases hA:(xs.all (inB · 0 100000)&&incB xs) with
  | false=>rw [if_pos (by rfl),Bool.and_assoc,hA,Bool.and_false]
  | true =>
    rw [if_neg (by simp),Bool.and_assoc,hA,Bool.and_true]
    refine congrArg some ?_
    rw [Bool.eq_iff_iff]
    simp only [Bool.and_eq_true,decide_eq_true_eq]
    omega
theorem r217 (t:Y223) (hw:wf y223 t):u217 t=some (isTable t):=by
  obtain ⟨⟨h1,_⟩,⟨h2,_⟩,h3,_⟩:=hw
  unfold u217
  have hb:(isAxis t.1&&isAxis t.2.1)=true∧True→in64 ((t.1.length:Int)*(t.2.1.length:Int)):=fun hc=>by
    have hc:=hc.1
    rw [Bool.and_eq_true] at hc
    obtain ⟨a1,a2⟩:=axis_len hc.1
    obtain ⟨b1,b2⟩:=axis_len hc.2
    have c2:t.1.length*t.2.1.length≤4*4:=Nat.mul_le_mul a2 b2
    have e:(t.1.length:Int)*(t.2.1.length:Int)=((t.1.length*t.2.1.length:Nat):Int):=by simp
    rw [e]
    exact ⟨by omega,by omega⟩
  rw [r226 _ h1,r226 _ h2,r137 _ _ _ h3,vl_some,vl_some,vl_some,gd_pos ⟨rfl,fun _=>rfl,hb,fun _=>rfl,trivial⟩]
  congr 1
  unfold isTable
  congr 2
  rw [Bool.eq_iff_iff]
  simp only [beq_iff_eq,decide_eq_true_eq]
  constructor
  · intro h; exact_mod_cast h
  · intro h; exact_mod_cast h
theorem r209 (t:Y223) (hw:wf y223 t):u209 t=some (isTable t):=by
  obtain ⟨⟨h1,_⟩,⟨h2,_⟩,h3,_⟩:=hw
  unfold u209
  have hb:(!isAxis t.1||!isAxis t.2.1)=false∧True→in64 ((t.1.length:Int)*(t.2.1.length:Int)):=fun hc=>by
    have hc:=hc.1
    simp only [Bool.or_eq_false_iff,Bool.not_eq_false'] at hc
    obtain ⟨a1,a2⟩:=axis_len hc.1
    obtain ⟨b1,b2⟩:=axis_len hc.2
    have c2:t.1.length*t.2.1.length≤4*4:=Nat.mul_le_mul a2 b2
    have e:(t.1.length:Int)*(t.2.1.length:Int)=((t.1.length*t.2.1.length:Nat):Int):=by simp
    rw [e]
    exact ⟨by omega,by omega⟩
  rw [r221 _ h1,r221 _ h2,vl_some,vl_some,gd_pos ⟨rfl,fun _=>rfl,hb,trivial⟩]
  have key:=lp_all (n:=t.2.2.length) h3 (fun i=>!inB (t.2.2.getD i 0) (-1000000) 1000000) (some false) (e:=some true) (F:=u209L1 t) (fun g i hi=>all_el hi h3 ⟨⟨by omega,by omega⟩,rfl,trivial⟩) (fun g=>all_end)
  rw [key,any_getD t.2.2 0 (fun x=>!inB x (-1000000) 1000000)]
  have e:((t.2.2.length:Int) != (t.1.length:Int)*(t.2.1.length:Int))=!decide (t.2.2.length=t.1.length*t.2.1.length):=by
    rw [Bool.eq_iff_iff]
    simp only [bne_iff_ne,Bool.not_eq_true',decide_eq_false_iff_not,ne_eq]
    constructor
    · intro h k; exact h (by exact_mod_cast k)
    · intro h k; exact h (by exact_mod_cast k)
  rw [e]
  unfold isTable
  rw [← all_any]
  cases isAxis t.1 <;> cases isAxis t.2.1 <;> cases decide (t.2.2.length=t.1.length*t.2.1.length) <;> cases (t.2.2.any fun x=>!inB x (-1000000) 1000000) <;> rfl
end Go.Proofs.YtgmpfbpemmohnaaGreatDoor
end
section
/- Plain words on names: no program in sight. -/
namespace Go.Proofs.Sv
open Go
def lowB (c:Int):Bool:=decide (c≥97)&&decide (c≤122)
def digB (c:Int):Bool:=decide (c≥48)&&decide (c≤57)
def chB (c:Int) (i:Nat):Bool:=lowB c||(digB c&&decide (0 < i))
def nmTo (s:ByteArray):Nat→Bool
  | 0=>true
  | k+1=>nmTo s k&&chB (byteAt s k) k
def nmB (s:ByteArray):Bool:=nmTo s s.size&&decide ((s.size:Int)≥1)&&decide ((s.size:Int)≤8)
theorem nmTo_mono (s:ByteArray) (k:Nat):∀ j,k≤j→nmTo s j=true→nmTo s k=true:=by
  intro j hj h
  induction j with
  | zero=>have:k=0:=by omega
          subst this; rfl
  | succ j ih =>
    by_cases hk:k=j+1
    · subst hk; exact h
    · simp only [nmTo,Bool.and_eq_true] at h
      exact ih (by omega) h.1
/-! ### The same by strings.Trim and strings.IndexByte -/
def low26:List UInt8:=[97,98,99,100,101,102,103,104,105,106,107,108,109,110,111,112,113,114,115,116,117,118,119,120,121,122]
def low36:List UInt8:=[97,98,99,100,101,102,103,104,105,106,107,108,109,110,111,112,113,114,115,116,117,118,119,120,121,122,48,49,50,51,52,53,54,55,56,57]
theorem low26_fin:∀ n:Fin 256,low26.contains (UInt8.ofNat n.val)=lowB (n.val:Int):=by decide +kernel
theorem low36_fin:∀ n:Fin 256,low36.contains (UInt8.ofNat n.val)=(lowB (n.val:Int)||digB (n.val:Int)):=by decide +kernel
theorem low26_mem (b:UInt8):low26.contains b=lowB (b.toNat:Int):=by
  have:=low26_fin ⟨b.toNat,b.toNat_lt⟩
  simpa using this
theorem low36_mem (b:UInt8):low36.contains b=(lowB (b.toNat:Int)||digB (b.toNat:Int)):=by
  have:=low36_fin ⟨b.toNat,b.toNat_lt⟩
  simpa using this
theorem indexByte_mem (c:UInt8):∀ l:List UInt8,decide (0≤Lib.indexByte l c)=l.contains c
  | []=>by simp [Lib.indexByte]
  | b :: l=>by
    have ih:=indexByte_mem c l
    have hg:=Lib.indexByte_ge l c
    unfold Lib.indexByte
    by_cases hb:b=c
    · subst hb; simp
    · have hb':¬ c=b:=fun h=>hb h.symm
      have e1:(b==c)=false:=by simpa using hb
      rw [e1,List.contains_cons,show (c==b)=false by simpa using hb',← ih]
      by_cases h1:Lib.indexByte l c = -1
      · simp [h1]
      · have:(Lib.indexByte l c == -1)=false:=by simpa using h1
        rw [this]
        simp only [Bool.false_eq_true,if_false,Bool.false_or]
        rw [Bool.eq_iff_iff]; simp only [decide_eq_true_eq]; omega
theorem dropWhile_nil {α:Type} (p:α→Bool):∀ l:List α,l.dropWhile p=[]↔∀ x∈l,p x=true
  | []=>by simp
  | x :: r=>by
    rw [List.dropWhile_cons]
    by_cases h:p x=true
    · simp [h,dropWhile_nil p r]
    · simp [h]
theorem mem_takeWhile {α:Type} (p:α→Bool) (x:α):∀ l:List α,x∈l.takeWhile p→p x=true
  | [],h=>by cases h
  | y :: r,h=>by
    rw [List.takeWhile_cons] at h
    by_cases hy:p y=true
    · rw [if_pos hy] at h
      rcases List.mem_cons.1 h with rfl | h
      · exact hy
      · exact mem_takeWhile p x r h
    · rw [if_neg hy] at h; cases h
theorem trimS_nil (l cs:List UInt8):Lib.trimS l cs=[]↔∀ b∈l,cs.contains b=true:=by
  unfold Lib.trimS Lib.trimLeftS Lib.trimRightS
  rw [dropWhile_nil]
  constructor
  · intro h b hb
    have e:l=(l.reverse.dropWhile (cs.contains ·)).reverse++(l.reverse.takeWhile (cs.contains ·)).reverse:=by
      rw [← List.reverse_append,List.takeWhile_append_dropWhile,List.reverse_reverse]
    rw [e] at hb
    rcases List.mem_append.1 hb with hb | hb
    · exact h b hb
    · have:=List.mem_reverse.1 hb
      exact mem_takeWhile (cs.contains ·) b _ this
  · intro h b hb
    exact h b (by have:=(List.dropWhile_sublist _).mem (List.mem_reverse.1 hb); exact List.mem_reverse.1 this)
theorem nmTo_all (s:ByteArray) (h0:lowB (byteAt s 0)=true):∀ k,k≤s.size→(nmTo s k=true↔∀ i,i < k→(lowB (byteAt s i)||digB (byteAt s i))=true)
  | 0,_=>by simp [nmTo]
  | k+1,hk=>by
    have ih:=nmTo_all s h0 k (by omega)
    simp only [nmTo,Bool.and_eq_true,ih]
    constructor
    · rintro ⟨h1,h2⟩ i hi
      by_cases hik:i=k
      · subst hik
        unfold chB at h2
        cases hl:lowB (byteAt s i) with
        | true=>simp
        | false=>rw [hl] at h2; simp only [Bool.false_or,Bool.and_eq_true] at h2; simp [h2.1]
      · exact h1 i (by omega)
    · intro h
      refine ⟨fun i hi=>h i (by omega),?_⟩
      have:=h k (by omega)
      unfold chB
      by_cases hk0:k=0
      · subst hk0; simp [h0]
      · have hp:decide (0 < k)=true:=by simp; omega
        rw [hp]; simpa using this
theorem trim_all (s:ByteArray):Lib.trimS s.data.toList low36=[]↔∀ i,i < s.size→(lowB (byteAt s i)||digB (byteAt s i))=true:=by
  rw [trimS_nil]
  have hl:s.data.toList.length=s.size:=by simp
  constructor
  · intro h i hi
    have hi':i < s.data.toList.length:=by rw [hl]; exact hi
    have:=h s.data.toList[i] (List.getElem_mem hi')
    rw [low36_mem] at this
    unfold byteAt
    rw [List.getD_eq_getElem?_getD,List.getElem?_eq_getElem hi']
    exact this
  · intro h b hb
    obtain ⟨i,hi,rfl⟩:=List.getElem_of_mem hb
    have:=h i (by rw [← hl]; exact hi)
    unfold byteAt at this
    rw [List.getD_eq_getElem?_getD,List.getElem?_eq_getElem hi] at this
    rw [low36_mem]; exact this
theorem nmB_trim (s:ByteArray) (h1:1≤s.size) (h8:s.size≤8):nmB s=((Lib.trimS s.data.toList low36==[])&&decide (0≤Lib.indexByte low26 (byteAt s 0).toNat.toUInt8)):=by
  have e0:(byteAt s 0).toNat.toUInt8=s.data.toList.getD 0 0:=by unfold byteAt; simp
  rw [e0,indexByte_mem,low26_mem]
  show nmB s=(_&&lowB (byteAt s 0))
  have g1:decide ((s.size:Int)≥1)=true:=by simp; omega
  have g2:decide ((s.size:Int)≤8)=true:=by simp; omega
  unfold nmB
  rw [g1,g2,Bool.and_true,Bool.and_true]
  cases h0:lowB (byteAt s 0) with
  | false =>
    rw [Bool.and_false]
    cases hn:nmTo s s.size with
    | false=>rfl
    | true =>
      have:=nmTo_mono s 1 s.size h1 hn
      simp [nmTo,chB,h0] at this
  | true =>
    rw [Bool.and_true,Bool.eq_iff_iff,nmTo_all s h0 s.size (Nat.le_refl _),beq_iff_eq,trim_all]
end Go.Proofs.Sv
end
section
/- Names, and rows of them. -/
namespace Go.Proofs.Xd
open Go Go.Proofs.Sv Go.Proofs.Xv Go.Proofs.Xl
theorem nmTo_any (s:ByteArray):∀ n,nmTo s n=!(List.range n).any fun i=>!chB (byteAt s i) i
  | 0=>rfl
  | n+1=>by
    rw [nmTo,nmTo_any s n,List.range_succ,List.any_append,Bool.not_or]
    simp
def dupB (f:Nat→ByteArray) (i:Nat):Bool:=(List.range i).any fun k=>decide (f k=f i)
def namesB (n:Nat) (f:Nat→ByteArray):Bool:=!(List.range n).any fun i=>!nmB (f i)||dupB f i
theorem namesB_congr {n:Nat} {f g:Nat→ByteArray} (h:∀ i,i < n→f i=g i):namesB n f=namesB n g:=by
  unfold namesB
  congr 1
  refine any_congr' fun i hi=>?_
  rw [h i hi]
  congr 1
  unfold dupB
  refine any_congr' fun k hk=>?_
  rw [h i hi,h k (by omega)]
theorem take_any (l:List ByteArray) (d:ByteArray) (i:Nat) (h:i < l.length):((l.take i).any fun y=>decide (l.getD i d=y))=dupB (fun k=>l.getD k d) i:=by
  have hl:(l.take i).length=i:=by rw [List.length_take]; omega
  rw [← any_getD (l.take i) d (fun y=>decide (l.getD i d=y)),hl]
  unfold dupB
  refine any_congr' fun k hk=>?_
  have:(l.take i).getD k d=l.getD k d:=by
    rw [List.getD_eq_getElem?_getD,List.getD_eq_getElem?_getD,List.getElem?_take_of_lt hk]
  rw [this,decide_eq_decide]
  exact eq_comm
theorem getD_map' {α β:Type} (f:α→β) (l:List α) (i:Nat) (d:α) (e:β) (h:i < l.length):(l.map f).getD i e=f (l.getD i d):=by
  rw [List.getD_eq_getElem?_getD,List.getD_eq_getElem?_getD,List.getElem?_map,List.getElem?_eq_getElem h]; rfl
theorem range_map {α β:Type} (l:List α) (d:α) (f:α→β):(List.range l.length).map (fun i=>f (l.getD i d))=l.map f:=by
  apply List.ext_getElem?
  intro i
  rw [List.getElem?_map,List.getElem?_map]
  by_cases h:i < l.length
  · rw [List.getElem?_range h,List.getElem?_eq_getElem h]
    show some (f (l.getD i d))=some (f l[i])
    rw [List.getD_eq_getElem?_getD,List.getElem?_eq_getElem h]; rfl
  · rw [List.getElem?_eq_none (by simpa using h),List.getElem?_eq_none (by omega)]; rfl
end Go.Proofs.Xd
end
section
/- Names: what the program's functions and the reference's say of them. -/
namespace Go.Proofs.YtgmpfbpemmohnaaGreatDoor
open Go Go.Proofs Go.Proofs.Sv Go.Proofs.Xv Go.Proofs.Xl Go.Proofs.Xd
theorem r155 (s:ByteArray) (h:s.size≤9223372036854775807):u155 s=some (nmB s):=by
  have key:=lp_all (n:=s.size) h (fun i=>!chB (byteAt s i) i) (some false) (e:=u155J0 s ()) (F:=u155L1 s) (fun g i hi=>by
    refine (all_el2 hi h ⟨⟨by omega,by omega⟩,fun _=>⟨by omega,by omega⟩,trivial⟩ ⟨⟨by omega,by omega⟩,fun _=>⟨by omega,by omega⟩,trivial⟩).trans ?_
    have e2:decide ((0:Int) < (i:Int))=decide (0 < i):=by rw [decide_eq_decide]; omega
    have e3:((i:Int)).toNat=i:=rfl
    rw [e2,e3]
    unfold chB lowB digB
    rw [Bool.not_or]) (fun g=>all_end)
  refine key.trans ?_
  unfold nmB u155J0
  rw [nmTo_any]
  cases (List.range s.size).any fun i=>!chB (byteAt s i) i
  · rfl
  · rfl
theorem r172 (s:ByteArray) (h:s.size≤9223372036854775807):u172 s=some (nmB s):=by
  unfold u172
  have t1:u182 s ⟨#[97,98,99,100,101,102,103,104,105,106,107,108,109,110,111,112,113,114,115,116,117,118,119,120,121,122,48,49,50,51,52,53,54,55,56,57]⟩=some ⟨(Lib.trimS s.data.toList low36).toArray⟩:=if_pos ⟨by decide,by decide⟩
  have t2:∀ c,u183 ⟨#[97,98,99,100,101,102,103,104,105,106,107,108,109,110,111,112,113,114,115,116,117,118,119,120,121,122]⟩ c=some (Lib.indexByte low26 c.toNat.toUInt8):=fun _=>rfl
  rw [t1,t2,r120,vl_some,vl_some,vl_some,gd_pos ⟨rfl,fun _=>rfl,fun hc=>⟨by decide,by
    have:=hc.1
    rw [Bool.and_eq_true,inB_iff] at this
    omega⟩,fun _=>rfl,trivial⟩,lt_eq]
  refine congrArg some ?_
  show (inB (s.size:Int) 1 8&&decide ((⟨(Lib.trimS s.data.toList low36).toArray⟩:ByteArray)=⟨#[]⟩)&&decide (0≤Lib.indexByte low26 (byteAt s (Int.toNat 0)).toNat.toUInt8))=nmB s
  by_cases hb:1≤s.size∧s.size≤8
  · rw [nmB_trim s hb.1 hb.2]
    have e1:inB (s.size:Int) 1 8=true:=by rw [inB_iff]; omega
    have e2:decide ((⟨(Lib.trimS s.data.toList low36).toArray⟩:ByteArray)=⟨#[]⟩)=(Lib.trimS s.data.toList low36==[]):=by
      rw [Bool.eq_iff_iff,decide_eq_true_eq,beq_iff_eq]
      constructor
      · intro h
        injection h with h
        have:=congrArg Array.toList h
        simpa using this
      · intro h; rw [h]
    rw [e1,e2,Bool.true_and]
    rfl
  · have e1:inB (s.size:Int) 1 8=false:=by rw [← Bool.not_eq_true,inB_iff]; omega
    have e2:nmB s=false:=by
      rw [← Bool.not_eq_true]
      intro hc
      simp only [nmB,Bool.and_eq_true,decide_eq_true_eq] at hc
      omega
    rw [e1,e2]; rfl
theorem r176 (xs:List ByteArray) (x:ByteArray) (h:xs.length≤9223372036854775807):u176 xs x=some (xs.any fun y=>decide (x=y)):=by
  have h1:u190 xs x=_:=idx_some h (fun i=>decide (x=xs.getD i (dflt .str))) (fun g i hi=>by
    refine (if_pos (by simpa using hi)).trans ?_
    rw [gd_pos ⟨⟨by omega,by omega⟩,trivial⟩,gd_pos ⟨⟨by omega,by omega⟩,trivial⟩]
    rfl) (fun g=>all_end)
  have:=has_some h1
  rw [any_getD xs (dflt .str) (fun y=>decide (x=y))] at this
  exact this
theorem r157 (xs:List ByteArray) (hw:wf (.sl .str) xs):u157 xs=some (namesB xs.length fun i=>xs.getD i (dflt .str)):=by
  have h:=hw.1
  have key:=lp_all (n:=xs.length) h (fun i=>!nmB (xs.getD i (dflt .str))||dupB (fun i=>xs.getD i (dflt .str)) i) (some false) (e:=some true) (F:=u157L1 xs) (fun g i hi=>by
    have hs:=wf_el (d:=dflt .str) hi hw
    have hl:(xs.take i).length≤9223372036854775807:=by rw [List.length_take]; omega
    have e1:=r172 _ hs
    have e2:=r176 (xs.take i) (xs.getD i (dflt .str)) hl
    rw [take_any xs (dflt .str) i hi] at e2
    have e3:((i:Int)).toNat=i:=rfl
    refine (if_pos (by simpa using hi)).trans ?_
    rw [e3,e1,e2,vl_some,vl_some,gd_pos ⟨⟨by omega,by omega⟩,trivial⟩,gd_pos ⟨rfl,fun _=>⟨by omega,by omega,by omega⟩,fun _=>rfl,trivial⟩,gd_pos ⟨⟨by omega,by omega⟩,trivial⟩]) (fun g=>all_end)
  refine key.trans ?_
  unfold namesB
  cases (List.range xs.length).any fun i=>!nmB (xs.getD i (dflt .str))||dupB (fun i=>xs.getD i (dflt .str)) i <;> rfl
theorem r130 (xs:List ByteArray) (hw:wf (.sl .str) xs):u130 xs=some (namesB xs.length fun i=>xs.getD i (dflt .str)):=by
  have h:=hw.1
  have key:=lp_all (n:=xs.length) h (fun i=>!nmB (xs.getD i (dflt .str))||dupB (fun i=>xs.getD i (dflt .str)) i) (some false) (e:=some true) (F:=u130L1 xs) (fun g i hi=>by
    have hs:=wf_el (d:=dflt .str) hi hw
    have e1:=r155 _ hs
    have e3:((i:Int)).toNat=i:=rfl
    have inner:=lp_all (n:=i) (by omega) (fun k=>decide (xs.getD k (dflt .str)=xs.getD i (dflt .str))) (some false) (e:=g ((i:Int)+1)) (F:=u130L3 xs (i:Int) g) (fun g3 k hk=>by
      refine (all_el hk (by omega) ⟨⟨by omega,by omega⟩,⟨by omega,by omega⟩,trivial⟩).trans ?_
      rfl) (fun g3=>by
      refine all_end.trans ?_
      unfold u130J2
      exact gd_pos ⟨⟨by omega,by omega⟩,trivial⟩)
    refine (if_pos (by simpa using hi)).trans ?_
    rw [e3,e1,vl_some,gd_pos ⟨⟨by omega,by omega⟩,rfl,trivial⟩,inner]
    unfold dupB
    cases nmB (xs.getD i (dflt .str)) <;> cases (List.range i).any fun k=>decide (xs.getD k (dflt .str)=xs.getD i (dflt .str)) <;> rfl) (fun g=>all_end)
  refine key.trans ?_
  unfold namesB
  cases (List.range xs.length).any fun i=>!nmB (xs.getD i (dflt .str))||dupB (fun i=>xs.getD i (dflt .str)) i <;> rfl
end Go.Proofs.YtgmpfbpemmohnaaGreatDoor
end
section
/- Rows of tables: what the program's functions and the reference's say of them. -/
namespace Go.Proofs.YtgmpfbpemmohnaaGreatDoor
open Go Go.Proofs Go.Proofs.Sv Go.Proofs.Xv Go.Proofs.Xl Go.Proofs.Xd
theorem r218 (xs:List Int) (h:xs.length≤9223372036854775807) (h1:1≤xs.length):u218 xs=some (minN xs):=by
  unfold u218
  rw [if_neg (by simp; omega)]
  unfold u218J0
  rw [gd_pos ⟨⟨by omega,by omega⟩,trivial⟩]
  have key:=lp_fold (n:=xs.length - 1) (by omega) (fun i (m:Int)=>(m,((i+1:Nat):Int))) (fun i m=>min m (xs.getD (i+1) 0)) (fun _ _=>True) (J:=fun m=>some m) (F:=u218L2 xs) (fun g i s hi _=>by
    refine (if_pos (by simp; omega)).trans ?_
    rw [gd_pos ⟨⟨by omega,by omega⟩,trivial⟩,gd_pos ⟨⟨by omega,by omega⟩,trivial⟩]
    rfl) (fun _ _ _ _=>trivial) (fun g s _=>by
    have e:xs.length - 1+1=xs.length:=by omega
    show u218L2 xs g (s,((xs.length - 1+1:Nat):Int))=some s
    rw [e]
    exact all_end) (xs.getD 0 0) trivial
  exact key
theorem r216 (t:Y223) (p:Bool) (hw:wf y223 t):u216 t p=some (!isTable t||p&&decide (minN t.2.2 < 0)):=by
  unfold u216
  have hv:p=true∧(!isTable t)=false∧True→(u218 t.2.2).isSome=true:=fun hc=>by
    have h2:isTable t=true:=by simpa using hc.2.1
    rw [r218 _ hw.2.2.1 (table_len h2).2.2.2.2.2.1]; rfl
  rw [r217 t hw,vl_some,gd_pos ⟨rfl,hv,trivial⟩,lt_eq]
  refine congrArg some ?_
  cases hT:isTable t with
  | false=>rfl
  | true=>rw [r218 _ hw.2.2.1 (table_len hT).2.2.2.2.2.1,vl_some]
theorem r204 (l:List Y223) (p:Bool) (hw:wf (.sl y223) l):u204 l p=some (areTables l p):=by
  have h:=hw.1
  have h1:u225c216 l p=_:=idx_some h (fun i=>!isTable (l.getD i (dflt y223))||p&&decide (minN (l.getD i (dflt y223)).2.2 < 0)) (fun g i hi=>idx_el hi h (r216 _ _ (wf_el hi hw))) (fun g=>all_end)
  have h2:u215c216 l p=_:=has_some h1
  rw [any_getD l (dflt y223) (fun t=>!isTable t||p&&decide (minN t.2.2 < 0))] at h2
  unfold u204
  rw [h2,vl_some,gd_pos ⟨fun _=>rfl,trivial⟩]
  refine congrArg some ?_
  unfold areTables
  have e:((l.length:Int)==2)=decide (l.length=2):=by
    rw [Bool.eq_iff_iff,beq_iff_eq,decide_eq_true_eq]; omega
  rw [e,← all_any]
  congr 3
  funext t
  rw [Bool.not_and,Bool.not_not]
theorem fst_fold (xs:List Int):∀ n,(foldN (fun i (s:Int×Int)=>(min s.1 (xs.getD (i+1) 0),max s.2 (xs.getD (i+1) 0))) n (xs.getD 0 0,xs.getD 0 0)).1=foldN (fun i m=>min m (xs.getD (i+1) 0)) n (xs.getD 0 0)
  | 0=>rfl
  | n+1=>by rw [foldN,foldN,fst_fold xs n]
theorem r194 (t:Y223) (hw:wf y223 t):∃ l,u194 t=some (if isTable t=true then ((minN t.2.2,l),0) else ((0,0),1)):=by
  unfold u194
  rw [r209 t hw,vl_some,gd_pos ⟨rfl,trivial⟩]
  cases hT:isTable t with
  | false=>exact ⟨0,rfl⟩
  | true =>
    have h1:=(table_len hT).2.2.2.2.2.1
    have h:=hw.2.2.1
    have key:=lp_fold (n:=t.2.2.length - 1) (by omega) (fun i (s:Int×Int)=>(((i+1:Nat):Int),s.1,s.2)) (fun i s=>(min s.1 (t.2.2.getD (i+1) 0),max s.2 (t.2.2.getD (i+1) 0))) (fun _ _=>True) (J:=fun s=>some ((s.1,s.2),(0:Int))) (F:=u194L1 t) (fun g i s hi _=>by
      refine (if_pos (by simp; omega)).trans ?_
      rw [gd_pos ⟨⟨by omega,by omega⟩,trivial⟩,gd_pos ⟨⟨by omega,by omega⟩,trivial⟩,gd_pos ⟨⟨by omega,by omega⟩,trivial⟩]
      rfl) (fun _ _ _ _=>trivial) (fun g s _=>by
      have e:t.2.2.length - 1+1=t.2.2.length:=by omega
      show u194L1 t g (((t.2.2.length - 1+1:Nat):Int),s.1,s.2)=_
      rw [e]
      exact all_end) (t.2.2.getD 0 0,t.2.2.getD 0 0) trivial
    rw [if_neg (by simp),gd_pos ⟨⟨by omega,by omega⟩,⟨by omega,by omega⟩,trivial⟩]
    rw [fst_fold] at key
    exact ⟨_,key⟩
theorem r181 (l:List Y223) (p:Bool) (hw:wf (.sl y223) l):u181 l p=some (areTables l p):=by
  unfold u181
  have e:((l.length:Int) != 2)=!decide (l.length=2):=by
    rw [Bool.eq_iff_iff]; simp; omega
  rw [e]
  unfold areTables
  by_cases h2:l.length=2
  · have key:=lp_all (n:=2) (by decide) (fun i=>!isTable (l.getD i (dflt y223))||p&&decide (minN (l.getD i (dflt y223)).2.2 < 0)) (some false) (e:=some true) (F:=u181L1 p l) (fun g i hi=>by
      obtain ⟨m,hm⟩:=r194 (l.getD i (dflt y223)) (wf_el (by omega) hw)
      have e3:((i:Int)).toNat=i:=rfl
      refine (if_pos (by simp; omega)).trans ?_
      rw [e3,hm,vl_some,gd_pos ⟨⟨by omega,by omega⟩,rfl,trivial⟩,lt_eq,gd_pos ⟨⟨by omega,by omega⟩,trivial⟩]
      cases isTable (l.getD i (dflt y223)) <;> rfl) (fun g=>by
      unfold u181L1
      exact if_neg (by decide))
    rw [decide_eq_true h2,if_neg (by simp)]
    refine key.trans ?_
    have:=any_getD l (dflt y223) (fun t=>!isTable t||p&&decide (minN t.2.2 < 0))
    rw [h2] at this
    rw [this,← all_any,Bool.true_and]
    have e5:(fun t:Y223=>!(isTable t&&!(p&&decide (minN t.2.2 < 0))))=fun t=>!isTable t||p&&decide (minN t.2.2 < 0):=by
      funext t; rw [Bool.not_and,Bool.not_not]
    rw [e5]
    cases l.any fun t=>!isTable t||p&&decide (minN t.2.2 < 0) <;> rfl
  · rw [decide_eq_false h2]; rfl
end Go.Proofs.YtgmpfbpemmohnaaGreatDoor
end
section
/- Valid cells: in the program's words and in the reference's. -/
namespace Go.Proofs.Xd
open Go Go.Proofs.Sv Go.Proofs.Xv Go.Proofs.Xl
def pinB (n:Nat) (q:DPin) (i:Nat):Bool:=inB q.2.2.1 0 500&&(if i+1=n then q.2.1==2&&q.2.2.1==0&&!q.2.2.2 else q.2.1==1)
def pinsOk (n:Nat) (p:Nat→DPin):Bool:=decide (2≤n)&&decide (n≤5)&&namesB n (fun i=>(p i).1)&&!(List.range n).any fun i=>!pinB n (p i) i
def clkN (n:Nat) (p:Nat→DPin):Int:=foldN (fun i s=>if (p i).2.2.2=true then s+1 else s) n 0
def clkI (n:Nat) (p:Nat→DPin):Int:=match (List.range n).find? (fun i=>(p i).2.2.2) with | some i=>(i:Int) | none => -1
def dupA (a:Nat→DArc) (i:Nat):Bool:=(List.range i).any fun k=>(a k).1==(a i).1&&(a k).2.1==(a i).2.1&&(a k).2.2.1==(a i).2.2.1
def isArcS (n:Nat) (p:Nat→DPin) (a:DArc):Bool :=
  inB a.2.1 0 ((n:Int) - 1 - 1)&&inB a.2.2.1 0 ((n:Int) - 1) &&
  if a.1=1 then !(p a.2.1.toNat).2.2.2&&a.2.2.1==(n:Int) - 1&&inB a.2.2.2.1 1 3&&areTables a.2.2.2.2.1 true&&areTables a.2.2.2.2.2 true
  else if a.1=2∨a.1=3 then (p a.2.1.toNat).2.2.2&&a.2.2.1==(n:Int) - 1&&a.2.2.2.1==0&&areTables a.2.2.2.2.1 true&&areTables a.2.2.2.2.2 true
  else if a.1=4∨a.1=5 then (p a.2.1.toNat).2.2.2&&decide (a.2.2.1 < (n:Int) - 1)&&!(p a.2.2.1.toNat).2.2.2&&a.2.2.2.1==0&&areTables a.2.2.2.2.1 false&&(a.2.2.2.2.2.length:Int)==0
  else false
def isArcI (n:Nat) (p:Nat→DPin) (a:DArc):Bool :=
  if a.1=4∨a.1=5 then a.2.2.2.1==0&&(a.2.2.2.2.2.length:Int)==0&&areTables a.2.2.2.2.1 false&&a.2.1==clkI n p&&decide (0≤a.2.1)&&inB a.2.2.1 0 ((n:Int) - 1 - 1)&&a.2.2.1 != a.2.1
  else areTables a.2.2.2.2.1 true&&areTables a.2.2.2.2.2 true&&a.2.2.1==(n:Int) - 1&&inB a.2.1 0 ((n:Int) - 1 - 1) &&
    if a.1=1 then !(p a.2.1.toNat).2.2.2&&inB a.2.2.2.1 1 3
    else if a.1=2∨a.1=3 then (p a.2.1.toNat).2.2.2&&a.2.2.2.1==0
    else false
theorem clkN_le (p:Nat→DPin):∀ n,0≤clkN n p∧clkN n p≤n
  | 0=>⟨Int.le_refl _,Int.le_refl _⟩
  | n+1=>by
    have:=clkN_le p n
    unfold clkN at *
    rw [foldN]
    split <;> omega
theorem clkN_one {p:Nat→DPin}:∀ {n i:Nat},i < n→(p i).2.2.2=true→1≤clkN n p
  | n+1,i,hi,h=>by
    have h0:=(clkN_le p n).1
    have ih:i < n→1≤clkN n p:=fun h'=>clkN_one h' h
    unfold clkN at *
    rw [foldN]
    rcases Nat.lt_succ_iff_lt_or_eq.1 hi with h' | rfl
    · have:=ih h'
      split <;> omega
    · rw [if_pos h]; omega
theorem clkN_two {p:Nat→DPin}:∀ {n i j:Nat},i < j→j < n→(p i).2.2.2=true→(p j).2.2.2=true→2≤clkN n p
  | n+1,i,j,hij,hj,h,k=>by
    have ih:j < n→2≤clkN n p:=fun h'=>clkN_two hij h' h k
    have h1:i < n→1≤clkN n p:=fun h'=>clkN_one h' h
    unfold clkN at *
    rw [foldN]
    rcases Nat.lt_succ_iff_lt_or_eq.1 hj with h' | rfl
    · have:=ih h'
      split <;> omega
    · have:=h1 hij
      rw [if_pos k]; omega
theorem clkI_eq {p:Nat→DPin} {n i:Nat} (hn:clkN n p≤1) (hi:i < n):(p i).2.2.2=decide (clkI n p=(i:Int)):=by
  unfold clkI
  cases h:(List.range n).find? (fun i=>(p i).2.2.2) with
  | none =>
    rw [List.find?_eq_none] at h
    have:=h i (List.mem_range.2 hi)
    rw [Bool.not_eq_true] at this
    rw [this]
    exact (decide_eq_false (by show ¬ (-1:Int)=i; omega)).symm
  | some j =>
    have h1:=List.find?_some h
    have h2:=List.mem_range.1 (List.mem_of_find?_eq_some h)
    show _=decide ((j:Int)=(i:Int))
    by_cases e:j=i
    · subst e
      rw [decide_eq_true rfl]; exact h1
    · rw [decide_eq_false (by omega),← Bool.not_eq_true]
      intro hc
      rcases Nat.lt_or_gt_of_ne e with h' | h'
      · have:=clkN_two (p:=p) h' hi h1 hc; omega
      · have:=clkN_two (p:=p) h' h2 hc h1; omega
theorem clkI_lt {p:Nat→DPin} {n:Nat}:clkI n p < n:=by
  unfold clkI
  cases h:(List.range n).find? (fun i=>(p i).2.2.2) with
  | none=>show (-1:Int) < n; omega
  | some j =>
    have h2:=List.mem_range.1 (List.mem_of_find?_eq_some h)
    show (j:Int) < n; omega
theorem pins_last {p:Nat→DPin} {n:Nat} (h:pinsOk n p=true):2≤n∧n≤5∧(p (n - 1)).2.2.2=false:=by
  unfold pinsOk at h
  simp only [Bool.and_eq_true,decide_eq_true_eq] at h
  obtain ⟨⟨⟨h1,h2⟩,_⟩,h3⟩:=h
  have:=not_any.1 h3 (n - 1) (by omega)
  rw [Bool.not_eq_false'] at this
  unfold pinB at this
  rw [if_pos (by omega)] at this
  simp only [Bool.and_eq_true,Bool.not_eq_true'] at this
  exact ⟨h1,h2,this.2.2⟩
theorem arc_eq {p:Nat→DPin} {n:Nat} (h:pinsOk n p=true) (hc:clkN n p≤1) (a:DArc):isArcI n p a=isArcS n p a:=by
  obtain ⟨h2,h5,hl⟩:=pins_last h
  obtain ⟨kd,fr,to,se,de,sl⟩:=a
  rw [Bool.eq_iff_iff]
  unfold isArcI isArcS
  dsimp only
  have hcl:∀ x:Int,0≤x→x≤(n:Int) - 1→(p x.toNat).2.2.2=decide (clkI n p=x):=fun x h0 h1=>by
    rw [clkI_eq hc (by omega)]
    rw [decide_eq_decide]; omega
  have hlast:clkI n p≠(n:Int) - 1:=fun e=>by
    have:=hcl ((n:Int) - 1) (by omega) (by omega)
    have e2:((n:Int) - 1).toNat=n - 1:=by omega
    rw [e2,hl,decide_eq_true e] at this
    cases this
  have hlt:=clkI_lt (p:=p) (n:=n)
  by_cases k45:kd=4∨kd=5
  · rw [if_pos k45,if_neg (by omega),if_neg (by omega),if_pos k45]
    simp only [Bool.and_eq_true,inB_iff,decide_eq_true_eq,beq_iff_eq,bne_iff_ne,Bool.not_eq_true']
    constructor
    · rintro ⟨⟨⟨⟨⟨⟨a1,a2⟩,a3⟩,a4⟩,a5⟩,a6⟩,a7⟩
      have e1:=hcl fr a5 (by omega)
      have e2:=hcl to a6.1 (by omega)
      exact ⟨⟨⟨a5,by omega⟩,by omega,by omega⟩,⟨⟨⟨⟨⟨by rw [e1]; exact decide_eq_true a4.symm,by omega⟩,by rw [e2]; exact decide_eq_false (by omega)⟩,a1⟩,a3⟩,a2⟩⟩
    · rintro ⟨⟨⟨a5,a6⟩,b1,b2⟩,⟨⟨⟨⟨⟨c1,c2⟩,c3⟩,c4⟩,c5⟩,c6⟩⟩
      rw [hcl fr a5 (by omega),decide_eq_true_eq] at c1
      rw [hcl to b1 (by omega),decide_eq_false_iff_not] at c3
      exact ⟨⟨⟨⟨⟨⟨c4,c6⟩,c5⟩,c1.symm⟩,a5⟩,b1,by omega⟩,by omega⟩
  · rw [if_neg k45]
    by_cases k1:kd=1
    · rw [if_pos k1,if_pos k1]
      simp only [Bool.and_eq_true,inB_iff,beq_iff_eq]
      constructor
      · rintro ⟨⟨⟨⟨a1,a2⟩,a3⟩,a4⟩,a5,a6⟩
        exact ⟨⟨a4,by omega,by omega⟩,⟨⟨⟨a5,a3⟩,a6⟩,a1⟩,a2⟩
      · rintro ⟨⟨a4,_⟩,⟨⟨⟨a5,a3⟩,a6⟩,a1⟩,a2⟩
        exact ⟨⟨⟨⟨a1,a2⟩,a3⟩,a4⟩,a5,a6⟩
    · rw [if_neg k1,if_neg k1]
      by_cases k23:kd=2∨kd=3
      · rw [if_pos k23,if_pos k23]
        simp only [Bool.and_eq_true,inB_iff,beq_iff_eq]
        constructor
        · rintro ⟨⟨⟨⟨a1,a2⟩,a3⟩,a4⟩,a5,a6⟩
          exact ⟨⟨a4,by omega,by omega⟩,⟨⟨⟨a5,a3⟩,a6⟩,a1⟩,a2⟩
        · rintro ⟨⟨a4,_⟩,⟨⟨⟨a5,a3⟩,a6⟩,a1⟩,a2⟩
          exact ⟨⟨⟨⟨a1,a2⟩,a3⟩,a4⟩,a5,a6⟩
      · rw [if_neg k23,if_neg k23,if_neg k45,Bool.and_false,Bool.and_false]
def hasB (m:Nat) (a:Nat→DArc) (k:Int):Bool:=(List.range m).any fun i=>(a i).1==k
def kindB (k:Int) (n:Nat) (p:Nat→DPin) (m:Nat) (a:Nat→DArc) (tr:List Int):Bool :=
  if k=1 then clkN n p==0&&(tr.length:Int)==1*2 ^ (n - 1)&&tr.all (inB · 0 1)
  else if k=2 then clkN n p==1&&(tr.length:Int)==0&&!hasB m a 1&&!(hasB m a 2==hasB m a 3)
  else if k=3 then clkN n p==1&&(tr.length:Int)==0&&hasB m a 1&&hasB m a 2&&!hasB m a 3
  else false
theorem kind_clk {k:Int} {n:Nat} {p:Nat→DPin} {m:Nat} {a:Nat→DArc} {tr:List Int} (h:kindB k n p m a tr=true):clkN n p≤1:=by
  unfold kindB at h
  split at h
  · simp only [Bool.and_eq_true,beq_iff_eq] at h; omega
  · split at h
    · simp only [Bool.and_eq_true,beq_iff_eq] at h; omega
    · split at h
      · simp only [Bool.and_eq_true,beq_iff_eq] at h; omega
      · cases h
def arcsB (q:DArc→Bool) (m:Nat) (a:Nat→DArc):Bool:=decide (m≤8)&&!(List.range m).any fun i=>!q (a i)||dupA a i
def cellB (q:Nat→(Nat→DPin)→DArc→Bool) (nm:ByteArray) (k:Int) (n:Nat) (p:Nat→DPin) (m:Nat) (a:Nat→DArc) (tr:List Int) (lk en:Int):Bool :=
  nmB nm&&pinsOk n p&&arcsB (q n p) m a&&inB lk 0 100000&&inB en 0 100000&&kindB k n p m a tr
theorem cell_eq (nm:ByteArray) (k:Int) (n:Nat) (p:Nat→DPin) (m:Nat) (a:Nat→DArc) (tr:List Int) (lk en:Int):cellB isArcI nm k n p m a tr lk en=cellB isArcS nm k n p m a tr lk en:=by
  unfold cellB
  cases hp:pinsOk n p with
  | false=>simp
  | true =>
    cases hk:kindB k n p m a tr with
    | false=>simp
    | true =>
      have:isArcI n p=isArcS n p:=funext fun x=>arc_eq hp (kind_clk hk) x
      rw [this]
theorem take_anyG {α:Type} (l:List α) (d:α) (q:α→Bool) (i:Nat) (h:i≤l.length):(l.take i).any q=(List.range i).any fun k=>q (l.getD k d):=by
  have hl:(l.take i).length=i:=by rw [List.length_take]; omega
  rw [← any_getD (l.take i) d q,hl]
  refine any_congr' fun k hk=>?_
  rw [List.getD_eq_getElem?_getD,List.getD_eq_getElem?_getD,List.getElem?_take_of_lt hk]
theorem arcS_kind {n:Nat} {p:Nat→DPin} {a:DArc} (h:isArcS n p a=true):1≤a.1∧a.1≤5:=by
  unfold isArcS at h
  rw [Bool.and_eq_true] at h
  obtain ⟨_,h⟩:=h
  split at h
  · omega
  · split at h
    · omega
    · split at h
      · omega
      · cases h
theorem pow_in {n:Nat} (h:n≤5) : -9223372036854775808≤(1:Int)*2 ^ (n - 1)∧(1:Int)*2 ^ (n - 1)≤9223372036854775807:=by
  have:∀ k:Fin 6,-9223372036854775808≤(1:Int)*2 ^ (k.val - 1)∧(1:Int)*2 ^ (k.val - 1)≤9223372036854775807:=by decide
  exact this ⟨n,by omega⟩
/-! ### How many of each kind -/
def cntK (a:Nat→DArc) (k:Int) (m:Nat):Int:=foldN (fun i s=>if (a i).1=k then s+1 else s) m 0
theorem cntK_le (a:Nat→DArc) (k:Int):∀ m,0≤cntK a k m∧cntK a k m≤m
  | 0=>⟨Int.le_refl _,Int.le_refl _⟩
  | m+1=>by
    have:=cntK_le a k m
    unfold cntK at *
    rw [foldN]
    split <;> omega
theorem cntK_has (a:Nat→DArc) (k:Int):∀ m,hasB m a k=decide (0 < cntK a k m)
  | 0=>rfl
  | m+1=>by
    have ih:=cntK_has a k m
    have h0:=(cntK_le a k m).1
    unfold hasB cntK at *
    rw [List.range_succ,List.any_append,ih,foldN]
    simp only [List.any_cons,List.any_nil,Bool.or_false]
    by_cases h:(a m).1=k
    · rw [if_pos h,beq_iff_eq.2 h,Bool.or_true]
      exact (decide_eq_true (by omega)).symm
    · rw [if_neg h,beq_eq_false_iff_ne.2 h,Bool.or_false]
def kindsF (a:Nat→DArc) (i:Nat) (v:List Int):List Int:=v.set (a i).1.toNat (v.getD (a i).1.toNat 0+1)
theorem kinds_fold (a:Nat→DArc):∀ m,(∀ i,i < m→1≤(a i).1∧(a i).1≤5)→(foldN (kindsF a) m (List.replicate 6 0)).length=6∧∀ k:Nat,k < 6→(foldN (kindsF a) m (List.replicate 6 0)).getD k 0=cntK a k m
  | 0,_=>⟨by simp [foldN],fun k hk=>by
    have:∀ k:Fin 6,(List.replicate 6 (0:Int)).getD k.val 0=0:=by decide
    exact this ⟨k,hk⟩⟩
  | m+1,h=>by
    obtain ⟨h1,h2⟩:=kinds_fold a m (fun i hi=>h i (by omega))
    obtain ⟨h3,h4⟩:=h m (by omega)
    rw [foldN]
    unfold kindsF at *
    refine ⟨by rw [List.length_set]; exact h1,fun k hk=>?_⟩
    have e:cntK a k (m+1)=if (a m).1=k then cntK a k m+1 else cntK a k m:=by unfold cntK; rw [foldN]
    rw [e,List.getD_eq_getElem?_getD,List.getElem?_set]
    by_cases hk':(a m).1.toNat=k
    · rw [if_pos hk',if_pos (by rw [h1]; omega),if_pos (by omega)]
      rw [Option.getD_some,hk',h2 k hk]
    · rw [if_neg hk',if_neg (by omega),← List.getD_eq_getElem?_getD,h2 k hk]
end Go.Proofs.Xd
end
section
/- Cells: what the program's functions and the reference's say of them. -/
namespace Go.Proofs.YtgmpfbpemmohnaaGreatDoor
open Go Go.Proofs Go.Proofs.Sv Go.Proofs.Xv Go.Proofs.Xl Go.Proofs.Xd
abbrev pinOf (c:Y134) (i:Nat):Y205:=c.2.2.1.getD i (dflt y205)
abbrev arcOf (c:Y134) (i:Nat):Y139:=c.2.2.2.1.getD i (dflt y139)
theorem r188 (c:Y134) (hw:wf y134 c):u188 c=some ((c.2.2.1.length:Int) - 1):=by
  have h:=hw.2.2.1.1
  have e:u184 c.2.2.1=some (c.2.2.1.length:Int):=rfl
  unfold u188
  rw [e,vl_some,gd_pos ⟨rfl,⟨by omega,by omega⟩,trivial⟩,lt_eq]
theorem r206 (c:Y134) (hw:wf y134 c) (x:Int):u206 c x=some (inB x 0 ((c.2.2.1.length:Int) - 1 - 1)):=by
  have h:=hw.2.2.1.1
  unfold u206
  rw [r188 c hw,vl_some,r120,vl_some,gd_pos ⟨rfl,⟨by omega,by omega⟩,rfl,trivial⟩]
theorem r205 (c:Y134) (hw:wf y134 c):u205 c=some (clkI c.2.2.1.length (pinOf c)):=by
  have h:=hw.2.2.1.1
  have h1:u219c220 c.2.2.1=_:=idx_some h (fun i=>(pinOf c i).2.2.2) (fun g i hi=>idx_el hi h rfl) (fun g=>all_end)
  unfold u205
  rw [h1,vl_some,gd_pos ⟨rfl,trivial⟩,lt_eq]
  rfl
theorem r189 (c:Y134) (hw:wf y134 c) (k:Int):u189 c k=some (hasB c.2.2.2.1.length (arcOf c) k):=by
  have h:=hw.2.2.2.1.1
  have h1:u207c208 c.2.2.2.1 k=_:=idx_some h (fun i=>(arcOf c i).1==k) (fun g i hi=>idx_el hi h rfl) (fun g=>all_end)
  have h2:u186c208 c.2.2.2.1 k=_:=has_some h1
  unfold u189
  rw [h2,vl_some,gd_pos ⟨rfl,trivial⟩]
  rfl
theorem r185 (c:Y134) (a:Y139) (hc:wf y134 c) (ha:wf y139 a):u185 c a=some (isArcI c.2.2.1.length (pinOf c) a):=by
  obtain ⟨_,_,_,_,hd,hs⟩:=ha
  have ek:u203 a.1=some (a.1==4||a.1==5):=rfl
  have hg:inB a.2.1 0 ((c.2.2.1.length:Int) - 1 - 1)=true→ix a.2.1 c.2.2.1.length:=fun h=>by
    rw [inB_iff] at h; exact ⟨by omega,by omega⟩
  unfold u185
  rw [ek,r204 _ _ hd,r204 _ _ hd,r204 _ _ hs,r205 c hc,r206 c hc,r206 c hc,r188 c hc]
  repeat rw [vl_some]
  rw [gd_pos ⟨rfl,trivial⟩]
  unfold isArcI
  by_cases k45:a.1=4∨a.1=5
  · have e1:(a.1==4||a.1==5)=true:=by simpa using k45
    rw [if_pos e1,if_pos k45,gd_pos ⟨fun _=>rfl,fun _=>rfl,fun _=>rfl,trivial⟩,lt_eq]
  · have e1:(a.1==4||a.1==5)=false:=by
      rw [← Bool.not_eq_true]; simpa using k45
    rw [e1,if_neg (by simp),if_neg k45,gd_pos ⟨rfl,fun _=>rfl,fun _=>rfl,fun _=>rfl,trivial⟩,lt_eq]
    by_cases hgo:areTables a.2.2.2.2.1 true=true∧areTables a.2.2.2.2.2 true=true∧a.2.2.1=(c.2.2.1.length:Int) - 1∧inB a.2.1 0 ((c.2.2.1.length:Int) - 1 - 1)=true
    · obtain ⟨g1,g2,g3,g4⟩:=hgo
      have e3:(areTables a.2.2.2.2.1 true&&areTables a.2.2.2.2.2 true&&a.2.2.1==(c.2.2.1.length:Int) - 1&&inB a.2.1 0 ((c.2.2.1.length:Int) - 1 - 1))=true:=by
        rw [g1,g2,g4,g3]; simp
      have e2:(!areTables a.2.2.2.2.1 true||!areTables a.2.2.2.2.2 true||a.2.2.1 != (c.2.2.1.length:Int) - 1||!inB a.2.1 0 ((c.2.2.1.length:Int) - 1 - 1))=false:=by
        rw [g1,g2,g4,g3]; simp
      rw [e3,Bool.true_and]
      refine (if_neg (by rw [e2]; simp)).trans ?_
      by_cases k1:a.1=1
      · rw [if_pos (beq_iff_eq.2 k1),if_pos k1,r120,gd_pos ⟨hg g4,fun _=>rfl,trivial⟩]
        rfl
      · rw [if_neg (by simpa using k1),if_neg k1]
        have j:∀ b,u185J0 c a b=some (if b=true then (pinOf c a.2.1.toNat).2.2.2&&a.2.2.2.1==0 else false):=fun b=>by
          unfold u185J0
          cases b with
          | false=>rfl
          | true=>rw [if_pos rfl,if_pos rfl,gd_pos ⟨hg g4,trivial⟩]
        by_cases k2:a.1=2
        · rw [if_pos (beq_iff_eq.2 k2),if_pos (.inl k2),j,beq_iff_eq.2 k2]; rfl
        · rw [if_neg (by simpa using k2),j]
          by_cases k3:a.1=3
          · rw [beq_iff_eq.2 k3,if_pos rfl,if_pos (.inr k3)]
          · rw [beq_eq_false_iff_ne.2 k3,if_neg (by simp),if_neg (by omega)]
    · have e2:(!areTables a.2.2.2.2.1 true||!areTables a.2.2.2.2.2 true||a.2.2.1 != (c.2.2.1.length:Int) - 1||!inB a.2.1 0 ((c.2.2.1.length:Int) - 1 - 1))=true:=by
        rw [← Bool.not_eq_false]
        intro h
        simp only [Bool.or_eq_false_iff,Bool.not_eq_false',bne_eq_false_iff_eq] at h
        exact hgo ⟨h.1.1.1,h.1.1.2,h.1.2,h.2⟩
      have e3:(areTables a.2.2.2.2.1 true&&areTables a.2.2.2.2.2 true&&a.2.2.1==(c.2.2.1.length:Int) - 1&&inB a.2.1 0 ((c.2.2.1.length:Int) - 1 - 1))=false:=by
        rw [← Bool.not_eq_true]
        intro h
        simp only [Bool.and_eq_true,beq_iff_eq] at h
        exact hgo ⟨h.1.1.1,h.1.1.2,h.1.2,h.2⟩
      rw [e3,Bool.false_and]
      exact if_pos e2
theorem r170 (c:Y134) (a:Y139) (hc:wf y134 c) (ha:wf y139 a):u170 c a=some (isArcS c.2.2.1.length (pinOf c) a):=by
  obtain ⟨_,_,_,_,hd,hs⟩:=ha
  have h:=hc.2.2.1.1
  unfold u170
  rw [gd_pos ⟨⟨by omega,by omega⟩,trivial⟩,r69,r69]
  repeat rw [vl_some]
  rw [gd_pos ⟨⟨by omega,by omega⟩,rfl,fun _=>rfl,trivial⟩]
  unfold isArcS
  by_cases hgo:inB a.2.1 0 ((c.2.2.1.length:Int) - 1 - 1)=true∧inB a.2.2.1 0 ((c.2.2.1.length:Int) - 1)=true
  · obtain ⟨g1,g2⟩:=hgo
    have b1:=inB_iff.1 g1
    have b2:=inB_iff.1 g2
    rw [g1,g2,if_neg (by simp),gd_pos ⟨⟨by omega,by omega⟩,trivial⟩,lt_eq,Bool.true_and,Bool.true_and]
    by_cases k1:a.1=1
    · rw [if_pos (beq_iff_eq.2 k1),if_pos k1,r69,r181 _ _ hd,r181 _ _ hs,gd_pos ⟨fun _=>rfl,fun _=>rfl,fun _=>rfl,trivial⟩]
      rfl
    · rw [if_neg (by simpa using k1),if_neg k1]
      have j1:∀ b,u170J1 (pinOf c a.2.1.toNat) a c b=some (if b=true then (pinOf c a.2.1.toNat).2.2.2&&decide (a.2.2.1 < (c.2.2.1.length:Int) - 1)&&!(pinOf c a.2.2.1.toNat).2.2.2&&a.2.2.2.1==0&&areTables a.2.2.2.2.1 false&&(a.2.2.2.2.2.length:Int)==0 else false):=fun b=>by
        unfold u170J1
        cases b with
        | false=>rfl
        | true =>
          rw [if_pos rfl,if_pos rfl,r181 _ _ hd,gd_pos ⟨fun _=>⟨by omega,by omega⟩,fun _=>rfl,trivial⟩]
          rfl
      have j0:∀ b,u170J0 (pinOf c a.2.1.toNat) a c b=some (if b=true then (pinOf c a.2.1.toNat).2.2.2&&a.2.2.1==(c.2.2.1.length:Int) - 1&&a.2.2.2.1==0&&areTables a.2.2.2.2.1 true&&areTables a.2.2.2.2.2 true else if a.1=4∨a.1=5 then (pinOf c a.2.1.toNat).2.2.2&&decide (a.2.2.1 < (c.2.2.1.length:Int) - 1)&&!(pinOf c a.2.2.1.toNat).2.2.2&&a.2.2.2.1==0&&areTables a.2.2.2.2.1 false&&(a.2.2.2.2.2.length:Int)==0 else false):=fun b=>by
        unfold u170J0
        cases b with
        | true =>
          rw [if_pos rfl,if_pos rfl,r181 _ _ hd,r181 _ _ hs,gd_pos ⟨fun _=>rfl,fun _=>rfl,trivial⟩]
          rfl
        | false =>
          show (if (a.1==4)=true then u170J1 (pinOf c a.2.1.toNat) a c (a.1==4) else u170J1 (pinOf c a.2.1.toNat) a c (a.1==5))=some (if a.1=4∨a.1=5 then _ else false)
          by_cases k4:a.1=4
          · rw [if_pos (beq_iff_eq.2 k4),j1,beq_iff_eq.2 k4,if_pos rfl,if_pos (.inl k4)]
          · rw [if_neg (by simpa using k4),j1]
            by_cases k5:a.1=5
            · rw [beq_iff_eq.2 k5,if_pos rfl,if_pos (.inr k5)]
            · rw [beq_eq_false_iff_ne.2 k5,if_neg (by simp),if_neg (by omega)]
      by_cases k2:a.1=2
      · rw [if_pos (beq_iff_eq.2 k2),if_pos (.inl k2)]
        refine (j0 _).trans ?_
        rw [beq_iff_eq.2 k2]; rfl
      · rw [if_neg (by simpa using k2)]
        refine (j0 _).trans ?_
        by_cases k3:a.1=3
        · rw [beq_iff_eq.2 k3,if_pos rfl,if_pos (.inr k3)]
        · rw [beq_eq_false_iff_ne.2 k3,if_neg (by simp),if_neg (by omega:¬ (a.1=2∨a.1=3))]
  · have e2:(!inB a.2.1 0 ((c.2.2.1.length:Int) - 1 - 1)||!inB a.2.2.1 0 ((c.2.2.1.length:Int) - 1))=true:=by
      rw [← Bool.not_eq_false]
      intro h
      simp only [Bool.or_eq_false_iff,Bool.not_eq_false'] at h
      exact hgo h
    have e3:(inB a.2.1 0 ((c.2.2.1.length:Int) - 1 - 1)&&inB a.2.2.1 0 ((c.2.2.1.length:Int) - 1))=false:=by
      rw [← Bool.not_eq_true]
      intro h
      rw [Bool.and_eq_true] at h
      exact hgo h
    rw [e3,Bool.false_and]
    exact if_pos e2
end Go.Proofs.YtgmpfbpemmohnaaGreatDoor
end
section
/- Pins, arcs, cells: what the program's functions and the reference's say of them. -/
namespace Go.Proofs.YtgmpfbpemmohnaaGreatDoor
open Go Go.Proofs Go.Proofs.Sv Go.Proofs.Xv Go.Proofs.Xl Go.Proofs.Xd
theorem wf_pins {c:Y134} (hw:wf y134 c):wf (.sl y205) c.2.2.1:=hw.2.2.1
theorem wf_arcs {c:Y134} (hw:wf y134 c):wf (.sl y139) c.2.2.2.1:=hw.2.2.2.1
theorem names_map {α:Type} (l:List α) (f:α→ByteArray) (d:α) (e:ByteArray):namesB (l.map f).length (fun i=>(l.map f).getD i e)=namesB l.length fun i=>f (l.getD i d):=by
  rw [List.length_map]
  exact namesB_congr fun i hi=>getD_map' f l i d e hi
theorem wf_map {α:Type} {l:List α} {f:α→ByteArray} (h:l.length≤9223372036854775807) (hf:∀ x∈l,(f x).size≤9223372036854775807):wf (.sl .str) (l.map f):=by
  refine ⟨by rw [List.length_map]; exact h,fun x hx=>?_⟩
  obtain ⟨y,hy,rfl⟩:=List.mem_map.1 hx
  exact hf y hy
def gath (f:Nat→ByteArray) (i:Nat) (s:List ByteArray):List ByteArray:=s++[f i]
theorem gath_eq (f:Nat→ByteArray):∀ n,foldN (gath f) n []=(List.range n).map f
  | 0=>rfl
  | n+1=>by
    rw [foldN,gath_eq f n,List.range_succ,List.map_append]; rfl
theorem gath_row {α:Type} (l:List α) (d:α) (f:α→ByteArray):foldN (gath fun i=>f (l.getD i d)) l.length []=l.map f:=by
  rw [gath_eq,range_map]
theorem app_ok {n i b:Nat} (h:i < n) (hn:n≤1048576) (hb:b≤4096):i+1≤9223372036854775807∧(i+1)*b≤140737488355328:=by
  have:(i+1)*b≤1048576*4096:=Nat.mul_le_mul (by omega) hb
  exact ⟨by omega,by omega⟩
theorem r173 (l:List Y205) (hw:wf (.sl y205) l) (hm:l.length≤1048576):u173 l=some (pinsOk l.length fun i=>l.getD i (dflt y205)):=by
  have h:=hw.1
  have key:=lp_foldE (n:=l.length) h (fun i (s:List ByteArray)=>(s,(i:Int))) (gath fun i=>(l.getD i (dflt y205)).1) (fun i=>!pinB l.length (l.getD i (dflt y205)) i) (some false) (fun i s=>s.length=i) (J:=u173J0 l) (F:=u173L1 l) (fun g i s hi hI=>by
    refine (if_pos (by simpa using hi)).trans ?_
    have e3:((i:Int)).toNat=i:=rfl
    have hs:(s++[(l.getD i (dflt y205)).1]).length≤9223372036854775807:=by rw [List.length_append]; show s.length+1≤_; omega
    have ha:=app_ok (b:=16) hi hm (by decide)
    have j2:∀ s',u173J2 (i:Int) g s'=g (s',((i+1:Nat):Int)):=fun s'=>gd_pos ⟨⟨by omega,by omega⟩,trivial⟩
    rw [e3,gd_pos ⟨⟨by omega,by omega⟩,trivial⟩,lt_eq,gd_pos ⟨⟨by show s.length+1≤_; omega,by show (s.length+1)*16≤_; omega⟩,trivial⟩,gd_pos ⟨⟨by omega,by omega⟩,trivial⟩,j2,r120,gd_pos ⟨fun _=>rfl,trivial⟩,vl_some]
    unfold pinB gath
    dsimp only
    by_cases hl:i+1=l.length
    · have e1:((i:Int)==(l.length:Int) - 1)=true:=by rw [beq_iff_eq]; omega
      rw [if_pos e1,if_pos hl]
      generalize l.getD i (dflt y205)=q
      have n1:(q.2.1 != 2)=!(q.2.1==2):=rfl
      have n2:(q.2.2.1 != 0)=!(q.2.2.1==0):=rfl
      rw [n1,n2]
      cases c2:q.2.2.1==0 with
      | true =>
        have c3:inB q.2.2.1 0 500=true:=by rw [beq_iff_eq.1 c2]; rfl
        rw [c3]
        cases q.2.1==2 <;> cases q.2.2.2 <;> rfl
      | false=>cases inB q.2.2.1 0 500 <;> cases q.2.1==2 <;> cases q.2.2.2 <;> rfl
    · have e1:¬ ((i:Int)==(l.length:Int) - 1)=true:=by rw [beq_iff_eq]; omega
      rw [if_neg e1,if_neg hl]
      generalize l.getD i (dflt y205)=q
      have e4:(q.2.1 != 1||!inB q.2.2.1 0 500)=!(inB q.2.2.1 0 500&&q.2.1==1):=by
        rw [Bool.not_and,Bool.or_comm]; rfl
      rw [e4]) (fun i s hi hI _=>by unfold gath; rw [List.length_append,hI]; rfl) (fun g s _=>all_end) [] rfl
  refine key.trans ?_
  rw [gath_row]
  have hn:wf (.sl .str) (l.map fun q:Y205=>q.1):=wf_map h fun x hx=>(hw.2 x hx).1
  have e5:u184 l=some (l.length:Int):=rfl
  have e7:∀ v:List ByteArray,wf (.sl .str) v→u173J0 l v=some (inB (l.length:Int) 2 5&&namesB v.length fun i=>v.getD i (dflt .str)):=fun v hv=>by
    rw [u173J0]
    rw [e5,r157 _ hv]
    repeat rw [vl_some]
    rw [r120,vl_some,gd_pos ⟨rfl,rfl,fun _=>rfl,trivial⟩]
  rw [e7 _ hn,names_map l (fun q:Y205=>q.1) (dflt y205)]
  unfold pinsOk
  have e6:inB (l.length:Int) 2 5=(decide (2≤l.length)&&decide (l.length≤5)):=by
    rw [Bool.eq_iff_iff,inB_iff]; simp; omega
  rw [e6]
  cases (List.range l.length).any fun i=>!pinB l.length (l.getD i (dflt y205)) i
  · simp
  · simp
theorem r169 (c:Y134) (hw:wf y134 c):u169 c=some (if pinsOk c.2.2.1.length (pinOf c)=true then (clkN c.2.2.1.length (pinOf c),true) else (0,false)):=by
  have hp:=wf_pins hw
  have h:=hp.1
  unfold u169
  by_cases hr:2≤c.2.2.1.length∧c.2.2.1.length≤5
  · have e0:(decide ((c.2.2.1.length:Int) < 2)||decide (5 < (c.2.2.1.length:Int)))=false:=by
      rw [← Bool.not_eq_true]; simp; omega
    rw [e0,if_neg (by simp)]
    have key:=lp_foldE (n:=c.2.2.1.length) h (fun i (s:Int)=>(s,(i:Int))) (fun i s=>if (pinOf c i).2.2.2=true then s+1 else s) (fun i=>(!nmB (pinOf c i).1||dupB (fun i=>(pinOf c i).1) i)||!pinB c.2.2.1.length (pinOf c i) i) (some ((0:Int),false)) (fun i s=>0≤s∧s≤i) (J:=u169J0) (F:=u169L1 c) (fun g i s hi hI=>by
      refine (if_pos (by simpa using hi)).trans ?_
      have e3:((i:Int)).toNat=i:=rfl
      have hs:(pinOf c i).1.size≤9223372036854775807:=(wf_el (d:=dflt y205) hi hp).1
      rw [e3,gd_pos ⟨⟨by omega,by omega⟩,trivial⟩,lt_eq]
      have inner:=lp_all (n:=i) (by omega) (fun k=>decide ((pinOf c k).1=(pinOf c i).1)) (some ((0:Int),false)) (e:=u169J3 (i:Int) s (pinOf c i) c g ()) (F:=u169L4 c (pinOf c i) (i:Int) s g) (fun g3 k hk=>all_el hk (by omega) ⟨⟨by omega,by omega⟩,trivial⟩) (fun g3=>all_end)
      refine inner.trans ?_
      have j3:u169J3 (i:Int) s (pinOf c i) c g ()=if (!nmB (pinOf c i).1||!pinB c.2.2.1.length (pinOf c i) i)=true then some ((0:Int),false) else g (if (pinOf c i).2.2.2=true then s+1 else s,((i+1:Nat):Int)):=by
        have j2:∀ s',u169J2 (i:Int) g s'=g (s',((i+1:Nat):Int)):=fun s'=>gd_pos ⟨⟨by omega,by omega⟩,trivial⟩
        show gd _ (if (!vl (u155 (pinOf c i).1)||!vl (u69 (pinOf c i).2.2.1 0 500))=true then _ else gd _ (if _=true then _ else if _=true then gd _ _ else _))=_
        rw [r155 _ hs,r69,vl_some,vl_some,gd_pos ⟨rfl,fun _=>rfl,trivial⟩,gd_pos ⟨⟨by omega,by omega⟩,fun _=>⟨by omega,by omega⟩,trivial⟩,gd_pos ⟨⟨by omega,by omega⟩,trivial⟩,j2,j2]
        generalize pinOf c i=q
        have hx:((i:Int)==(c.2.2.1.length:Int) - 1)=decide (i+1=c.2.2.1.length):=by
          rw [Bool.eq_iff_iff,beq_iff_eq,decide_eq_true_eq]; omega
        have hy:decide ((i:Int) < (c.2.2.1.length:Int) - 1)=!decide (i+1=c.2.2.1.length):=by
          rw [Bool.eq_iff_iff]; simp; omega
        rw [hx,hy]
        have hz:pinB c.2.2.1.length q i=(inB q.2.2.1 0 500&&(if decide (i+1=c.2.2.1.length)=true then q.2.1==2&&q.2.2.1==0&&!q.2.2.2 else q.2.1==1)):=by
          unfold pinB
          by_cases hq:i+1=c.2.2.1.length
          · rw [if_pos hq,decide_eq_true hq,if_pos rfl]
          · rw [if_neg hq,decide_eq_false hq,if_neg (by simp)]
        rw [hz]
        have n1:(q.2.1 != 2)=!(q.2.1==2):=rfl
        have n2:(q.2.2.1 != 0)=!(q.2.2.1==0):=rfl
        have n3:(q.2.1 != 1)=!(q.2.1==1):=rfl
        rw [n1,n2,n3]
        cases nmB q.1 <;> cases inB q.2.2.1 0 500 <;> cases decide (i+1=c.2.2.1.length) <;> cases q.2.1==2 <;> cases q.2.2.1==0 <;> cases q.2.1==1 <;> cases q.2.2.2 <;> rfl
      rw [j3]
      have hd:dupB (fun i=>(pinOf c i).1) i=(List.range i).any fun k=>decide ((pinOf c k).1=(pinOf c i).1):=rfl
      rw [hd]
      cases nmB (pinOf c i).1 <;> cases pinB c.2.2.1.length (pinOf c i) i <;> cases (List.range i).any (fun k=>decide ((pinOf c k).1=(pinOf c i).1)) <;> rfl) (fun i s hi hI _=>by
      have hI':0≤s∧s≤(i:Int):=hI
      show 0≤(if (pinOf c i).2.2.2=true then s+1 else s)∧(if (pinOf c i).2.2.2=true then s+1 else s)≤((i+1:Nat):Int)
      split <;> omega) (fun g s _=>all_end) 0 ⟨by omega,by omega⟩
    refine key.trans ?_
    rw [any_or]
    unfold pinsOk namesB
    rw [decide_eq_true hr.1,decide_eq_true hr.2]
    cases (List.range c.2.2.1.length).any (fun i=>!nmB (pinOf c i).1||dupB (fun i=>(pinOf c i).1) i) <;> cases (List.range c.2.2.1.length).any (fun i=>!pinB c.2.2.1.length (pinOf c i) i) <;> rfl
  · have e0:(decide ((c.2.2.1.length:Int) < 2)||decide (5 < (c.2.2.1.length:Int)))=true:=by
      simp; omega
    have e1:¬ pinsOk c.2.2.1.length (pinOf c)=true:=fun hc=>by
      obtain ⟨h1,h2,_⟩:=pins_last hc
      exact hr ⟨h1,h2⟩
    rw [if_pos e0,if_neg e1]
end Go.Proofs.YtgmpfbpemmohnaaGreatDoor
end
