/- Functions of this program as plain functions of data, and that they are so: printed by program. -/
import Derived.Test.YtphnknndgfgepaaGreatDoorF74c
section
namespace Go.Proofs.YtphnknndgfgepaaGreatDoor
open Go Go.Proofs Go.Proofs.Sv Go.Proofs.Xv Go.Proofs.Xl Go.RowKit
open Tryz
def R172(r:Y110×Y152):AV:=AV.agg [M i64 r.1.1,M i64 r.1.2.1,M i64 r.1.2.2.1,M i64 r.1.2.2.2]
def Z172(r:Y110×Y152):IOT [.io 152 y152,.dat i64]:=r.2
def K172:Prop:=kE prog 172 [.io 152 y152,.dat i64] P172 T172 R172 Z172
def u172J2[Alw](v43:List Int)(v44:List Int)(v45:List Int):List Int×Int×Int×List Int->Option (Unit)
 | (v53,v54,v55,v56) =>
 gd (T172 (((v43,v44,v45,v56),v53,v54,v55)))<|some ()
def u172L3[Alw](v43:List Int)(v44:List Int)(v45:List Int)(g3:Int×List Int×Int×Int×List Int->Option (Unit)):Int×List Int×Int×Int×List Int->Option (Unit)
 | (v47,v48,v49,v50,v51) =>
 if(decide (v47 < (v51.length:Int)))=true then
  gd ((u88 (v48,v49,v50) (v43.length:Int)).isSome=true/\ix v47 v51.length/\v47.toNat<v51.length/\True)<|lt (vl (u88 (v48,v49,v50) (v43.length:Int))) fun v52 =>
  gd (in64 (v47+1)/\True) <|
  g3 (v47+1,v52.2.1,v52.2.2.1,v52.2.2.2,v51.set v47.toNat v52.1)
 else
  u172J2 v43 v44 v45 (v48,v49,v50,v51)
def u172J0[Alw](v0:Y110):List Int×Int×Int×List Int×List Int×List Int->Option (Unit)
 | (v40,v41,v42,v43,v44,v45) =>
 lp (u172L3 v43 v44 v45) (0,v40,v41,v42,v0.2.2.2)
def u172L1[Alw](v0:Y110)(g1:Int×List Int×Int×Int×List Int×List Int×List Int->Option (Unit)):Int×List Int×Int×Int×List Int×List Int×List Int->Option (Unit)
 | (v27,v28,v29,v30,v31,v32,v33) =>
 if(decide (0<v27))=true then
  gd ((u169 v31).isSome=true/\(u88 (v28,v29,v30) (v31.length:Int)).isSome=true/\((vl (u169 v31)).length+[(vl (u88 (v28,v29,v30) (v31.length:Int))).1].length<=9223372036854775807/\((vl (u169 v31)).length+[(vl (u88 (v28,v29,v30) (v31.length:Int))).1].length)*8<=140737488355328)/\(u169 v32).isSome=true/\(u88 (vl (u88 (v28,v29,v30) (v31.length:Int))).2 400).isSome=true/\((vl (u169 v32)).length+[(vl (u88 (vl (u88 (v28,v29,v30) (v31.length:Int))).2 400)).1].length<=9223372036854775807/\((vl (u169 v32)).length+[(vl (u88 (vl (u88 (v28,v29,v30) (v31.length:Int))).2 400)).1].length)*8<=140737488355328)/\(u169 v33).isSome=true/\(u88 (vl (u88 (vl (u88 (v28,v29,v30) (v31.length:Int))).2 400)).2 8).isSome=true/\((vl (u169 v33)).length+[(vl (u88 (vl (u88 (vl (u88 (v28,v29,v30) (v31.length:Int))).2 400)).2 8)).1].length<=9223372036854775807/\((vl (u169 v33)).length+[(vl (u88 (vl (u88 (vl (u88 (v28,v29,v30) (v31.length:Int))).2 400)).2 8)).1].length)*8<=140737488355328)/\True)<|lt ((vl (u169 v33),vl (u88 (vl (u88 (vl (u88 (v28,v29,v30) (v31.length:Int))).2 400)).2 8),vl (u169 v32),vl (u88 (vl (u88 (v28,v29,v30) (v31.length:Int))).2 400),vl (u169 v31),vl (u88 (v28,v29,v30) (v31.length:Int)))) fun(v34,v35,v36,v37,v38,v39) =>
  gd (in64 (v27-1)/\True) <|
  g1 (v27-1,v35.2.1,v35.2.2.1,v35.2.2.2,v38++[v39.1],v36++[v37.1],v34++[v35.1])
 else
  u172J0 v0 (v28,v29,v30,v31,v32,v33)
def u172[Alw](a0:Y152)(a1:Int):Option (Unit) :=
 gd ((u88 a0 6).isSome=true/\(u209 a1 (vl (u88 a0 6)).1).isSome=true/\True)<|lt ((vl (u209 a1 (vl (u88 a0 6)).1),vl (u88 a0 6))) fun(v0,v1) =>
 gd ((u88 v1.2 4).isSome=true/\True)<|lt (vl (u88 v1.2 4)) fun v2 =>
 lp (u172L1 v0) (v2.1,v2.2.1,v2.2.2.1,v2.2.2.2,v0.1,v0.2.1,v0.2.2.1)
theorem e172[Alw](hF:∀x,Xv.wfs [.io 152 y152,.dat i64] x->P172 x->u172 x.1 x.2.1=some ()):K172:=by
 refine okEl (f:=172) (ps:=[.io 152 y152,.dat i64]) (pre:=P172) (post:=T172) (R:=R172) (Z:=Z172) (F:=fun x=>u172 x.1 x.2.1) tok [.cell 4 110] hF func172 ntmps172 rfl results172 (by kernel_rfl) rfl ?_;intro y ⟨a0,a1,_⟩ r H hB Q hn hr;have:HT _ _:=⟨tc o88 (tc o169 (tc o209 tn))⟩;refine qA (Z (G11 a1 [p 4 (R 4)]) [(4,bx 110 [nil,nil,nil,nil]),(500000,K 152 y152 a0)])<|qD (fun(v0,v1)=>Z (G21 []) [(5,bx 110 [AV.os 12 0,AV.os 1012 0,AV.os 2012 0,AV.os 3012 0]),(3012,A 2 i64 v0.2.2.2 0),(2012,A 2 i64 v0.2.2.1 0),(1012,A 2 i64 v0.2.1 0),(12,A 2 i64 v0.1 0),(500000,K 152 y152 v1.2),(4,bx 110 [nil,nil,nil,nil])]) H fun w H=>?_
 obtain⟨v0,v1⟩:=w;refine jN r (fun((v40,v41,v42,v43,v44,v45):List Int×Int×Int×List Int×List Int×List Int)=>Z (G21 []) ((500000,bx 152 (Q63 v40 v41 v42))::(5,bx 110 (Q65 v43 v44 v45))::W18 v0.2.2.2)) (u172J0 v0) (fun⟨v40,v41,v42,v43,v44,v45⟩ H=>?_) (fun _ n0 e0 t0=>?_)
 ·refine jN r (fun((v53,v54,v55,v56):List Int×Int×Int×List Int)=>Z [p 4 (R 4),p 5 (R 5)] ((500000,bx 152 (Q63 v53 v54 v55))::(5,bx 110 (Q65 v43 v44 v45))::W18 v56)) (u172J2 v43 v44 v45) (fun⟨v53,v54,v55,v56⟩ H=>?_) (fun _ n2 e2 t2=>?_)
  ·refine qA (Z [p 4 (R 4)] [(4,bx 110 (Q65 v43 v44 v45)),(500000,bx 152 (Q63 v53 v54 v55)),(5,bx 110 (Q65 v43 v44 v45)),(3012,A 2 i64 v56 0)])<|vTT<|hr (((v43,v44,v45,v56),v53,v54,v55)) (gd_some H).1 (by kernel_rfl)
  refine qA (Z (G21 [p 8 (I 0)]) ((500000,bx 152 (Q63 v40 v41 v42))::(5,bx 110 (Q65 v43 v44 v45))::W18 v0.2.2.2))<|vB<|lX (fun((v47,v48,v49,v50,v51):Int×List Int×Int×Int×List Int)=>Z (G21 [p 8 (I v47)]) ((500000,bx 152 (Q63 v48 v49 v50))::(5,bx 110 (Q65 v43 v44 v45))::W18 v51)) (0,v40,v41,v42,v0.2.2.2) H fun _ g3 b3 e3 t3 ⟨v47,v48,v49,v50,v51⟩ H=>vQ<|qA (Z (G21 [p 8 (I v47),p 51 (B (decide (v47 < (v51.length:Int))))]) ((500000,bx 152 (Q63 v48 v49 v50))::(5,bx 110 (Q65 v43 v44 v45))::W18 v51))<|cD H (fun H=>?_) (fun H=>?_)
  ·refine vK<|fQ<|vQ<|vB<|zD (fun v52=>Z (G21 [p 8 (I v47)]) [(3012,A 2 i64 (v51.set v47.toNat v52.1) 0),(500000,K 152 y152 v52.2),(5,bx 110 (Q65 v43 v44 v45)),(4,bx 110 [nil,nil,nil,nil])]) H fun v52 H=>fK<|fQ<|zB (Z (G21 [p 8 (I (v47+1))]) [(3012,A 2 i64 (v51.set v47.toNat v52.1) 0),(500000,K 152 y152 v52.2),(5,bx 110 (Q65 v43 v44 v45)),(4,bx 110 [nil,nil,nil,nil])]) H fun H=>b3 H
  exact vE<|fE<|e3<|fX rfl<|n2 H
 refine qD (fun v2=>Z (G21 [p 6 (I v2.1)]) [(500000,K 152 y152 v2.2),(5,bx 110 [AV.os 12 0,AV.os 1012 0,AV.os 2012 0,AV.os 3012 0]),(3012,A 2 i64 v0.2.2.2 0),(2012,A 2 i64 v0.2.2.1 0),(1012,A 2 i64 v0.2.1 0),(12,A 2 i64 v0.1 0),(4,bx 110 [nil,nil,nil,nil])]) H fun v2 H=>vB<|fZs [12,1012,2012] (Z (G21 [p 6 (I v2.1)]) ((500000,K 152 y152 v2.2)::(5,bx 110 (Q65 v0.1 v0.2.1 v0.2.2.1))::W18 v0.2.2.2))<|lX (fun((v27,v28,v29,v30,v31,v32,v33):Int×List Int×Int×Int×List Int×List Int×List Int)=>Z (G21 [p 6 (I v27)]) ((500000,bx 152 (Q63 v28 v29 v30))::(5,bx 110 (Q65 v31 v32 v33))::W18 v0.2.2.2)) (v2.1,v2.2.1,v2.2.2.1,v2.2.2.2,v0.1,v0.2.1,v0.2.2.1) H fun _ g1 b1 e1 t1 ⟨v27,v28,v29,v30,v31,v32,v33⟩ H=>vQ<|qA (Z (G21 [p 6 (I v27),p 16 (B (decide (0<v27)))]) ((500000,bx 152 (Q63 v28 v29 v30))::(5,bx 110 (Q65 v31 v32 v33))::W18 v0.2.2.2))<|cD H (fun H=>?_) (fun H=>?_)
 ·refine vK<|fQ<|vQ<|vB<|qA (Z (G21 [p 6 (I v27),p 7 (I (v31.length:Int))]) ((500000,bx 152 (Q63 v28 v29 v30))::(5,bx 110 (Q65 v31 v32 v33))::W18 v0.2.2.2))<|zD (fun(v34,v35,v36,v37,v38,v39)=>Z (G21 [p 6 (I v27)]) ((5,bx 110 [AV.os 24 1,AV.os 32 1,AV.os 39 1,AV.os 3012 0])::(39,A 2 i64 (v34++[v35.1]) 1)::(42,A 2 i64 [v35.1] 0)::(500000,K 152 y152 v35.2)::(32,A 2 i64 (v36++[v37.1]) 1)::(35,A 2 i64 [v37.1] 0)::(24,A 2 i64 (v38++[v39.1]) 1)::(28,A 2 i64 [v39.1] 0)::W18 v0.2.2.2)) H fun⟨v34,v35,v36,v37,v38,v39⟩ H =>
   fK<|fQ <|
   zB (Z (G21 [p 6 (I (v27-1))]) ((5,bx 110 [AV.os 24 1,AV.os 32 1,AV.os 39 1,AV.os 3012 0])::(39,A 2 i64 (v34++[v35.1]) 1)::(42,A 2 i64 [v35.1] 0)::(500000,K 152 y152 v35.2)::(32,A 2 i64 (v36++[v37.1]) 1)::(35,A 2 i64 [v37.1] 0)::(24,A 2 i64 (v38++[v39.1]) 1)::(28,A 2 i64 [v39.1] 0)::W18 v0.2.2.2)) H fun H =>
   fzF 24 (Z (G21 [p 6 (I (v27-1))]) ((5,bx 110 [M i64 (v38++[v39.1]),AV.os 32 1,AV.os 39 1,AV.os 3012 0])::(39,A 2 i64 (v34++[v35.1]) 1)::(42,A 2 i64 [v35.1] 0)::(500000,K 152 y152 v35.2)::(32,A 2 i64 (v36++[v37.1]) 1)::(35,A 2 i64 [v37.1] 0)::(28,A 2 i64 [v39.1] 0)::W18 v0.2.2.2)) (by kernel_rfl) rfl<|fzF 32 (Z (G21 [p 6 (I (v27-1))]) ((5,bx 110 [M i64 (v38++[v39.1]),M i64 (v36++[v37.1]),AV.os 39 1,AV.os 3012 0])::(39,A 2 i64 (v34++[v35.1]) 1)::(42,A 2 i64 [v35.1] 0)::(500000,K 152 y152 v35.2)::(35,A 2 i64 [v37.1] 0)::(28,A 2 i64 [v39.1] 0)::W18 v0.2.2.2)) (by kernel_rfl) rfl<|fzF 39 (Z (G21 [p 6 (I (v27-1))]) ((5,bx 110 (Q65 (v38++[v39.1]) (v36++[v37.1]) (v34++[v35.1])))::(42,A 2 i64 [v35.1] 0)::(500000,K 152 y152 v35.2)::(35,A 2 i64 [v37.1] 0)::(28,A 2 i64 [v39.1] 0)::W18 v0.2.2.2)) (by kernel_rfl) rfl<|b1 H
 exact vE<|fE<|e1<|fX rfl<|n0 H
def R171(r:Y31×Y152):AV:=AV.agg (Q61 r.1.1 r.1.2.1 r.1.2.2)
def Z171(r:Y31×Y152):IOT [.io 152 y152,.dat i64,.dat .bool]:=r.2
def K171:Prop:=kE prog 171 [.io 152 y152,.dat i64,.dat .bool] P171 T171 R171 Z171
def u171J10[Alw](v152:List Y165)(v98:List ByteArray):List Y175×List Int×Int×Int->Option (Unit)
 | (v163,v164,v165,v166) =>
 gd (T171 (((v152,v98,v163),v164,v165,v166)))<|some ()
def u171J7[Alw](v98:List ByteArray)(v1:List Y175):List Int×Int×Int×List Y165×List Y165×List Y165×List ByteArray×List Y175->Option (Unit)
 | (v149,v150,v151,v152,_v153,_v154,_v155,_v156) =>
 gd ((0+v1.length<=9223372036854775807/\(0+v1.length)*32<=140737488355328)/\True) <|
 gd (in64 ((v98.length:Int)-(1:Int))/\(([]++v1).length+[(ByteArray.mk #[(121:UInt8)],(2:Int),(v98.length:Int)-(1:Int))].length<=9223372036854775807/\(([]++v1).length+[(ByteArray.mk #[(121:UInt8)],(2:Int),(v98.length:Int)-(1:Int))].length)*32<=140737488355328)/\True)<|lt (([]++v1++[(ByteArray.mk #[(121:UInt8)],(2:Int),(v98.length:Int)-(1:Int))],[(ByteArray.mk #[(121:UInt8)],(2:Int),(v98.length:Int)-(1:Int))])) fun(v157,_v158) =>
 gd ((u88 (v149,v150,v151) 2).isSome=true/\True)<|lt (vl (u88 (v149,v150,v151) 2)) fun v159 =>
 if(v159.1==0)=true then
  gd (in64 ((v98.length:Int)-(1:Int))/\(u88 v159.2 ((v98.length:Int)-(1:Int))).isSome=true/\in64 ((1:Int)+(vl (u88 v159.2 ((v98.length:Int)-(1:Int)))).1)/\(v157.length+[(ByteArray.mk #[(122:UInt8)],(2:Int),(1:Int)+(vl (u88 v159.2 ((v98.length:Int)-(1:Int)))).1)].length<=9223372036854775807/\(v157.length+[(ByteArray.mk #[(122:UInt8)],(2:Int),(1:Int)+(vl (u88 v159.2 ((v98.length:Int)-(1:Int)))).1)].length)*32<=140737488355328)/\True)<|lt ((vl (u88 v159.2 ((v98.length:Int)-1)),v157++[(ByteArray.mk #[(122:UInt8)],(2:Int),(1:Int)+(vl (u88 v159.2 ((v98.length:Int)-(1:Int)))).1)],[(ByteArray.mk #[(122:UInt8)],(2:Int),(1:Int)+(vl (u88 v159.2 ((v98.length:Int)-(1:Int)))).1)])) fun(v160,v161,_v162) =>
  u171J10 v152 v98 (v161,v160.2.1,v160.2.2.1,v160.2.2.2)
 else
  u171J10 v152 v98 (v157,v159.2.1,v159.2.2.1,v159.2.2.2)
def u171J9[Alw](v122:Int)(g8:Int×List Int×Int×Int×List Y165×List Y165×List Y165×List ByteArray×List Y175->Option (Unit)):List Int×Int×Int×List Y165×List Y165×List Y165×List ByteArray×List Y175->Option (Unit)
 | (v141,v142,v143,v144,v145,v146,v147,v148) =>
 gd (in64 (v122+1)/\True) <|
 g8 (v122+1,v141,v142,v143,v144,v145,v146,v147,v148)
def u171L8[Alw](v98:List ByteArray)(a2:Bool)(v1:List Y175)(g8:Int×List Int×Int×Int×List Y165×List Y165×List Y165×List ByteArray×List Y175->Option (Unit)):Int×List Int×Int×Int×List Y165×List Y165×List Y165×List ByteArray×List Y175->Option (Unit)
 | (v122,v123,v124,v125,v126,v127,v128,v129,v130) =>
 if(decide (v122 < (v126.length:Int)))=true then
  gd ((u88 (v123,v124,v125) 4).isSome=true/\(((vl (u88 (v123,v124,v125) 4)).1==0)=true/\True->ix v122 v126.length)/\(((vl (u88 (v123,v124,v125) 4)).1==0)=true/\True->v122.toNat<v126.length)/\(((v126.getD v122.toNat (dflt y165)).2.1==5)=false/\((vl (u88 (v123,v124,v125) 4)).1==0)=true/\True->ix v122 v126.length)/\(((v126.getD v122.toNat (dflt y165)).2.1==5)=false/\((vl (u88 (v123,v124,v125) 4)).1==0)=true/\True->v122.toNat<v126.length)/\True)<|lt (vl (u88 (v123,v124,v125) 4)) fun v131 =>
  if(v131.1==0&&((v126.getD v122.toNat (dflt y165)).2.1==5||(v126.getD v122.toNat (dflt y165)).2.1==6||a2))=true then
   gd (ix v122 v126.length/\v122.toNat<v126.length/\in64 ((v98.length:Int)-1)/\(u88 v131.2 ((v98.length:Int)-1)).isSome=true/\in64 (1+(vl (u88 v131.2 ((v98.length:Int)-1))).1)/\ix 0 (v126.getD v122.toNat (dflt y165)).2.2.length/\True)<|Alw.alp (fun((v132,v133,v134,v135,v136,v137,v138,v139,v140):Int×List Int×List Int×List Int×List Y165×List Y165×List Y165×List ByteArray×List Y175)=>(shp i64.pt ((v126.getD v122.toNat (dflt y165)).2.2.getD (Int.toNat (0:Int)) (0:Int)) v132/\(wf i64.pt ((v126.getD v122.toNat (dflt y165)).2.2.getD (Int.toNat (0:Int)) (0:Int))->wf i64.pt v132))/\(shp i64.sl (v126.getD v122.toNat (dflt y165)).2.2 v133/\(wf i64.sl (v126.getD v122.toNat (dflt y165)).2.2->wf i64.sl v133))/\(shp b8.sl (vl (u88 v131.2 ((v98.length:Int)-1))).2.1 v134/\(wf b8.sl (vl (u88 v131.2 ((v98.length:Int)-1))).2.1->wf b8.sl v134))/\(shp b8.sl v131.2.1 v135/\(wf b8.sl v131.2.1->wf b8.sl v135))/\(AllS (shp y165) v126 v136)/\(shp y165.sl v127 v137/\(wf y165.sl v127->wf y165.sl v137))/\(shp y165.sl v128 v138/\(wf y165.sl v128->wf y165.sl v138))/\(shp Ty.str.sl v129 v139/\(wf Ty.str.sl v129->wf Ty.str.sl v139))/\(shp y175.sl v130 v140/\(wf y175.sl v130->wf y175.sl v140))) fun((_v132,_v133,v134,_v135,v136,v137,v138,v139,v140):Int×List Int×List Int×List Int×List Y165×List Y165×List Y165×List ByteArray×List Y175) =>
   gd (True) <|
   u171J9 v122 g8 ((v134,(vl (u88 v131.2 ((v98.length:Int)-1))).2.2.1,(vl (u88 v131.2 ((v98.length:Int)-1))).2.2.2,v136,v137,v138,v139,v140))
  else
   u171J9 v122 g8 (v131.2.1,v131.2.2.1,v131.2.2.2,v126,v127,v128,v129,v130)
 else
  u171J7 v98 v1 (v123,v124,v125,v126,v127,v128,v129,v130)
def u171J0[Alw](a2:Bool)(v1:List Y175):List Int×Int×Int×List ByteArray×List Y165×List Y165×List Y165×List ByteArray×List Y175->Option (Unit)
 | (v95,v96,v97,v98,v99,v100,v101,v102,v103) =>
 lp (u171L8 v98 a2 v1) (0,v95,v96,v97,v99,v100,v101,v102,v103)
def u171J2[Alw](v44:Int)(v50:List Y165)(v51:List Y165)(v52:List ByteArray)(v53:List Y175)(g1:Int×List Int×Int×Int×List ByteArray×List Y165×List Y165×List Y165×List ByteArray×List Y175->Option (Unit)):List Y165×List ByteArray×List Int×Int×Int->Option (Unit)
 | (v90,v91,v92,v93,v94) =>
 gd (in64 (v44-1)/\True) <|
 g1 (v44-1,v92,v93,v94,v91,v90,v50,v51,v52,v53)
def u171J3[Alw](v44:Int)(v50:List Y165)(v51:List Y165)(v52:List ByteArray)(v53:List Y175)(v48:List ByteArray)(v49:List Y165)(v56:ByteArray)(v55:Int)(g1:Int×List Int×Int×Int×List ByteArray×List Y165×List Y165×List Y165×List ByteArray×List Y175->Option (Unit)):List Int×List Int×Int×Int->Option (Unit)
 | (v83,v84,v85,v86) =>
 gd ((0+v83.length<=9223372036854775807/\(0+v83.length)*8<=140737488355328)/\(([]++v83).length+[(v48.length:Int)].length<=9223372036854775807/\(([]++v83).length+[(v48.length:Int)].length)*8<=140737488355328)/\True) <|
 gd ((u208 (v48.length:Int)).isSome=true/\(ByteArray.mk #[110]).size+(vl (u208 (v48.length:Int))).size<=9223372036854775807/\(v48.length+[ByteArray.mk #[110]++vl (u208 (v48.length:Int))].length<=9223372036854775807/\(v48.length+[ByteArray.mk #[110]++vl (u208 (v48.length:Int))].length)*16<=140737488355328)/\True)<|lt (vl (u208 (v48.length:Int))) fun v87 =>
 gd ((v49.length+[(ByteArray.mk #[117]++v56,v55,[]++v83++[(v48.length:Int)])].length<=9223372036854775807/\(v49.length+[(ByteArray.mk #[117]++v56,v55,[]++v83++[(v48.length:Int)])].length)*48<=140737488355328)/\True)<|lt ((v49++[(ByteArray.mk #[117]++v56,v55,[]++v83++[(v48.length:Int)])],[(ByteArray.mk #[117]++v56,v55,[]++v83++[(v48.length:Int)])])) fun(v88,_v89) =>
 u171J2 v44 v50 v51 v52 v53 g1 (v88,v48++[ByteArray.mk #[110]++v87],v84,v85,v86)
def u171J6[Alw](v71:Int)(v72:List Int)(v78:List Int)(v79:Int)(v80:Int)(g4:Int×List Int×List Int×Int×Int->Option (Unit)):Int->Option (Unit)
 | v82 =>
 gd ((0+v72.length<=9223372036854775807/\(0+v72.length)*8<=140737488355328)/\(([]++v72).length+[v82].length<=9223372036854775807/\(([]++v72).length+[v82].length)*8<=140737488355328)/\True) <|
 gd (in64 (v71+1)/\True) <|
 g4 (v71+1,[]++v72++[v82],v78,v79,v80)
def u171J5[Alw](v71:Int)(v72:List Int)(v55:Int)(g4:Int×List Int×List Int×Int×Int->Option (Unit)):List Int×Int×Int×Int->Option (Unit)
 | (v78,v79,v80,v81) =>
 if(decide (5<=v55)&&v71==1)=true then
  u171J6 v71 v72 v78 v79 v80 g4 0
 else
  u171J6 v71 v72 v78 v79 v80 g4 v81
def u171L4[Alw](v55:Int)(v48:List ByteArray)(v44:Int)(v50:List Y165)(v51:List Y165)(v52:List ByteArray)(v53:List Y175)(v49:List Y165)(v56:ByteArray)(g1:Int×List Int×Int×Int×List ByteArray×List Y165×List Y165×List Y165×List ByteArray×List Y175->Option (Unit))(g4:Int×List Int×List Int×Int×Int->Option (Unit)):Int×List Int×List Int×Int×Int->Option (Unit)
 | (v71,v72,v73,v74,v75) =>
 gd (ix v55 [(2:Int),(2:Int),(3:Int),(3:Int),(4:Int),(3:Int),(3:Int),(3:Int)].length/\v55.toNat<[(2:Int),(2:Int),(3:Int),(3:Int),(4:Int),(3:Int),(3:Int),(3:Int)].length/\in64 ([(2:Int),(2:Int),(3:Int),(3:Int),(4:Int),(3:Int),(3:Int),(3:Int)].getD v55.toNat (0:Int)-(1:Int))/\True) <|
 if(decide (v71<[(2:Int),(2:Int),(3:Int),(3:Int),(4:Int),(3:Int),(3:Int),(3:Int)].getD v55.toNat (0:Int)-(1:Int)))=true then
  gd (in64 ((v48.length:Int)-1)/\(u88 (v73,v74,v75) ((v48.length:Int)-1)).isSome=true/\in64 (1+(vl (u88 (v73,v74,v75) ((v48.length:Int)-1))).1)/\True)<|lt (vl (u88 (v73,v74,v75) ((v48.length:Int)-1))) fun v76 =>
  gd ((u88 v76.2 3).isSome=true/\True)<|lt (vl (u88 v76.2 3)) fun v77 =>
  if(v77.1==0)=true then
   gd (in64 ((v48.length:Int)-1)/\True) <|
   u171J5 v71 v72 v55 g4 ((v77.2.1,v77.2.2.1,v77.2.2.2,(v48.length:Int)-1))
  else
   u171J5 v71 v72 v55 g4 (v77.2.1,v77.2.2.1,v77.2.2.2,1+v76.1)
 else
  u171J3 v44 v50 v51 v52 v53 v48 v49 v56 v55 g1 (v72,v73,v74,v75)
def u171L1[Alw](a2:Bool)(v1:List Y175)(g1:Int×List Int×Int×Int×List ByteArray×List Y165×List Y165×List Y165×List ByteArray×List Y175->Option (Unit)):Int×List Int×Int×Int×List ByteArray×List Y165×List Y165×List Y165×List ByteArray×List Y175->Option (Unit)
 | (v44,v45,v46,v47,v48,v49,v50,v51,v52,v53) =>
 if(decide (0<v44))=true then
  gd ((u88 (v45,v46,v47) 12).isSome=true/\ix (vl (u88 (v45,v46,v47) 12)).1 [0,1,2,2,3,4,5,5,5,6,7,1].length/\(vl (u88 (v45,v46,v47) 12)).1.toNat<[0,1,2,2,3,4,5,5,5,6,7,1].length/\True)<|lt ((vl (u88 (v45,v46,v47) 12),[(0:Int),(1:Int),(2:Int),(2:Int),(3:Int),(4:Int),(5:Int),(5:Int),(5:Int),(6:Int),(7:Int),(1:Int)].getD (vl (u88 (v45,v46,v47) (12:Int))).1.toNat (0:Int))) fun(v54,v55) =>
  gd ((u208 (v49.length:Int)).isSome=true/\(ByteArray.mk #[117]).size+(vl (u208 (v49.length:Int))).size<=9223372036854775807/\True)<|lt (vl (u208 (v49.length:Int))) fun v56 =>
  lp (u171L4 v55 v48 v44 v50 v51 v52 v53 v49 v56 g1) (0,[],v54.2.1,v54.2.2.1,v54.2.2.2)
 else
  u171J0 a2 v1 (v45,v46,v47,v48,v49,v50,v51,v52,v53)
def u171[Alw](a0:Y152)(a1:Int)(a2:Bool):Option (Unit) :=
 lt ([ByteArray.mk #[110,99,107],ByteArray.mk #[110,97],ByteArray.mk #[110,98]]) fun v0 =>
 lt ([(ByteArray.mk #[(99:UInt8),(107:UInt8)],(1:Int),(0:Int)),(ByteArray.mk #[(97:UInt8)],(1:Int),(1:Int)),(ByteArray.mk #[(98:UInt8)],(1:Int),(2:Int))]) fun v1 =>
 gd ((0+v0.length<=9223372036854775807/\(0+v0.length)*16<=140737488355328)/\True) <|
 gd (in64 (a1-1)/\(u88 a0 (a1-1)).isSome=true/\in64 (2+(vl (u88 a0 (a1-1))).1)/\True)<|lt (vl (u88 a0 (a1-1))) fun v2 =>
 lp (u171L1 a2 v1) (2+v2.1,v2.2.1,v2.2.2.1,v2.2.2.2,[]++v0,[],[],[],[],[])
theorem e171[Alw](hF:∀x,Xv.wfs [.io 152 y152,.dat i64,.dat .bool] x->P171 x->u171 x.1 x.2.1 x.2.2.1=some ()):K171:=by
 refine okEl (f:=171) (ps:=[.io 152 y152,.dat i64,.dat .bool]) (pre:=P171) (post:=T171) (R:=R171) (Z:=Z171) (F:=fun x=>u171 x.1 x.2.1 x.2.2.1) tok [.cell 6 31] hF func171 ntmps171 rfl results171 (by kernel_rfl) rfl ?_;intro y ⟨a0,a1,a2,_⟩ r H hB Q hn hr;have:HT _ _:=⟨tc o88 (tc o208 tn)⟩;refine qA (Z (G11 a1 [p 2 (C a2),p 6 (R 6)]) [(6,bx 31 [nil,nil,nil]),(500000,K 152 y152 a0)])<|qC (fun v0=>Z (G11 a1 [p 2 (C a2),p 6 (R 6),p 7 (R 7)]) [(7,bx 31 [nil,AV.os 18 0,nil]),(18,A 9 Ty.str v0 0),(6,bx 31 [nil,nil,nil]),(500000,K 152 y152 a0)]) H fun v0 H=>qC (fun v1=>Z (G11 a1 [p 2 (C a2),p 6 (R 6),p 7 (R 7)]) (W34 v1 v0 a0)) H fun v1 H=>qA (Z (G11 a1 [p 2 (C a2),p 6 (R 6),p 7 (R 7),p 8 (O 25)]) ((25,A 2 i64 [2,2,3,3,4,3,3,3] 0)::W34 v1 v0 a0))<|qA (Z (G11 a1 [p 2 (C a2),p 6 (R 6),p 7 (R 7),p 8 (O 25),p 9 (O 26)]) ((26,A 165 y165 [] 0)::(25,A 2 i64 [2,2,3,3,4,3,3,3] 0)::W34 v1 v0 a0))<|qB (Z (G11 a1 [p 2 (C a2),p 6 (R 6),p 7 (R 7),p 8 (O 25),p 9 (O 26),p 10 (AV.os 27 1)]) ((27,A 9 Ty.str ([]++v0) 1)::(26,A 165 y165 [] 0)::(25,A 2 i64 [2,2,3,3,4,3,3,3] 0)::W34 v1 v0 a0)) H fun H=>jN r (fun((v95,v96,v97,v98,v99,v100,v101,v102,v103):List Int×Int×Int×List ByteArray×List Y165×List Y165×List Y165×List ByteArray×List Y175)=>Z (G25 a2 []) ((500000,bx 152 (Q63 v95 v96 v97))::(27,A 9 Ty.str v98 0)::(26,A 165 y165 v99 0)::W0 v100 v1 v0 v101 v102 v103)) (u171J0 a2 v1) (fun⟨v95,v96,v97,v98,v99,v100,v101,v102,v103⟩ H=>?_) (fun _ n0 e0 t0=>?_)
 ·refine jN r (fun((v149,v150,v151,v152,v153,v154,v155,v156):List Int×Int×Int×List Y165×List Y165×List Y165×List ByteArray×List Y175)=>Z (G24 [p 7 (R 7),p 9 (O 26),p 10 (O 27)]) ((500000,bx 152 (Q63 v149 v150 v151))::(27,A 9 Ty.str v98 0)::(26,A 165 y165 v152 0)::W0 v153 v1 v0 v154 v155 v156)) (u171J7 v98 v1) (fun⟨v149,v150,v151,v152,v153,v154,v155,v156⟩ H=>?_) (fun _ n7 e7 t7=>?_)
  ·refine qB (Z (G24 [p 9 (O 26),p 10 (O 27),p 17 (AV.os 146 1)]) ((146,A 175 y175 ([]++v1) 1)::(500000,bx 152 (Q63 v149 v150 v151))::(27,A 9 Ty.str v98 0)::(26,A 165 y165 v152 0)::W0 v153 v1 v0 v154 v155 v156)) H fun H=>qD (fun(v157,v158)=>Z (G24 [p 9 (O 26),p 10 (O 27),p 17 (AV.os 146 2)]) ((146,A 175 y175 v157 2)::(155,A 175 y175 v158 0)::(500000,bx 152 (Q63 v149 v150 v151))::(27,A 9 Ty.str v98 0)::(26,A 165 y165 v152 0)::W0 v153 v1 v0 v154 v155 v156)) H fun⟨v157,v158⟩ H =>
    jN r (fun((v163,v164,v165,v166):List Y175×List Int×Int×Int)=>Z [p 6 (R 6),p 9 (O 26),p 10 (O 27),p 17 (O 146)] [(146,A 175 y175 v163 0),(500000,bx 152 (Q63 v164 v165 v166)),(27,A 9 Ty.str v98 0),(26,A 165 y165 v152 0),(6,bx 31 (Q61 v154 v155 v156))]) (u171J10 v152 v98) (fun⟨v163,v164,v165,v166⟩ H=>?_) (fun _ n10 e10 t10=>?_)
   ·refine qA (Z [p 6 (R 6)] [(6,bx 31 [AV.os 26 0,AV.os 27 0,AV.os 146 0]),(146,A 175 y175 v163 0),(500000,bx 152 (Q63 v164 v165 v166)),(27,A 9 Ty.str v98 0),(26,A 165 y165 v152 0)])<|vTT<|hr (((v152,v98,v163),v164,v165,v166)) (gd_some H).1 (by kernel_rfl)
   refine qD (fun v159=>Z (G24 [p 9 (O 26),p 10 (O 27),p 17 (AV.os 146 2),p 159 (B (v159.1==0))]) ((500000,K 152 y152 v159.2)::(146,A 175 y175 v157 2)::(155,A 175 y175 v158 0)::(27,A 9 Ty.str v98 0)::(26,A 165 y165 v152 0)::W0 v153 v1 v0 v154 v155 v156)) H fun v159 H=>cD H (fun H=>?_) (fun H=>?_)
   ·refine zD (fun(v160,v161,v162)=>Z [p 6 (R 6),p 9 (O 26),p 10 (O 27),p 17 (AV.os 146 3)] ((146,A 175 y175 v161 3)::(168,A 175 y175 v162 0)::(500000,K 152 y152 v160.2)::(155,A 175 y175 v158 0)::(27,A 9 Ty.str v98 0)::(26,A 165 y165 v152 0)::W0 v153 v1 v0 v154 v155 v156)) H fun⟨v160,v161,v162⟩ H =>
     n10 H
   exact vK<|n10 H
  refine qA (Z (G25 a2 [p 16 (I 0)]) ((500000,bx 152 (Q63 v95 v96 v97))::(27,A 9 Ty.str v98 0)::(26,A 165 y165 v99 0)::W0 v100 v1 v0 v101 v102 v103))<|vB<|lX (fun((v122,v123,v124,v125,v126,v127,v128,v129,v130):Int×List Int×Int×Int×List Y165×List Y165×List Y165×List ByteArray×List Y175)=>Z (G25 a2 [p 16 (I v122)]) ((500000,bx 152 (Q63 v123 v124 v125))::(27,A 9 Ty.str v98 0)::(26,A 165 y165 v126 0)::W0 v127 v1 v0 v128 v129 v130)) (0,v95,v96,v97,v99,v100,v101,v102,v103) H fun _ g8 b8 e8 t8 ⟨v122,v123,v124,v125,v126,v127,v128,v129,v130⟩ H=>vQ<|qA (Z (G25 a2 [p 16 (I v122),p 109 (B (decide (v122 < (v126.length:Int))))]) ((500000,bx 152 (Q63 v123 v124 v125))::(27,A 9 Ty.str v98 0)::(26,A 165 y165 v126 0)::W0 v127 v1 v0 v128 v129 v130))<|cD H (fun H=>?_) (fun H=>?_)
  ·refine vK<|fQ<|jN r (fun((v141,v142,v143,v144,v145,v146,v147,v148):List Int×Int×Int×List Y165×List Y165×List Y165×List ByteArray×List Y175)=>Z (G25 a2 [p 16 (I v122)]) ((500000,bx 152 (Q63 v141 v142 v143))::(27,A 9 Ty.str v98 0)::(26,A 165 y165 v144 0)::W0 v145 v1 v0 v146 v147 v148)) (u171J9 v122 g8) (fun⟨v141,v142,v143,v144,v145,v146,v147,v148⟩ H=>?_) (fun _ n9 e9 t9=>?_)
   ·refine zB (Z (G25 a2 [p 16 (I (v122+1))]) ((500000,bx 152 (Q63 v141 v142 v143))::(27,A 9 Ty.str v98 0)::(26,A 165 y165 v144 0)::W0 v145 v1 v0 v146 v147 v148)) H fun H=>b8 H
   refine vB<|qD (fun v131=>Z (G25 a2 [p 16 (I v122),p 133 (B (v131.1==0&&((v126.getD v122.toNat (dflt y165)).2.1==5||(v126.getD v122.toNat (dflt y165)).2.1==6||a2)))]) ((500000,K 152 y152 v131.2)::(27,A 9 Ty.str v98 0)::(26,A 165 y165 v126 0)::W0 v127 v1 v0 v128 v129 v130)) H fun v131 H=>cD H (fun H=>?_) (fun H=>?_)
   ·refine zHD tok (HT.h) hB 12 [0,2,6,7,9,10,16] (Z [p 145 (N i64.pt ((v126.getD v122.toNat (dflt y165)).2.2.getD (Int.toNat (0:Int)) (0:Int))),p 144 (I ((1:Int)+(vl (u88 v131.2 ((v98.length:Int)-(1:Int)))).1)),p 143 (I (vl (u88 v131.2 ((v98.length:Int)-(1:Int)))).1),p 142 (I ((v98.length:Int)-(1:Int))),p 141 (I (v98.length:Int)),p 140 (O 27),p 139 (R 500000),p 138 (M i64 (v126.getD v122.toNat (dflt y165)).2.2),p 137 (AV.pel 26 0 v122.toNat 3 2),p 136 (AV.pel 26 0 v122.toNat 3 0),p 135 (I v122),p 134 (O 26),p 0 (R 500000),p 2 (C a2),p 6 (R 6),p 7 (R 7),p 9 (O 26),p 10 (O 27),p 16 (I v122),p 133 (B (v131.1==(0:Int)&&((v126.getD v122.toNat (dflt y165)).2.1==(5:Int)||(v126.getD v122.toNat (dflt y165)).2.1==(6:Int)||a2)))] ((500000,bx 152 (cellsD false y152 (vl (u88 v131.2 ((v98.length:Int)-(1:Int)))).2))::(500000,K 152 y152 v131.2)::(27,A 9 Ty.str v98 0)::(26,A 165 y165 v126 0)::W0 v127 v1 v0 v128 v129 v130)) (fun((v132,v133,v134,v135,v136,v137,v138,v139,v140):Int×List Int×List Int×List Int×List Y165×List Y165×List Y165×List ByteArray×List Y175)=>Z [p 145 (N i64.pt v132),p 144 (I (1+(vl (u88 v131.2 ((v98.length:Int)-1))).1)),p 143 (I (vl (u88 v131.2 ((v98.length:Int)-1))).1),p 142 (I ((v98.length:Int)-1)),p 141 (I (v98.length:Int)),p 140 (O 27),p 139 (R 500000),p 138 (M i64 v133),p 137 (AV.pel 26 0 v122.toNat 3 2),p 136 (AV.pel 26 0 v122.toNat 3 0),p 135 (I v122),p 134 (O 26),p 0 (R 500000),p 2 (C a2),p 6 (R 6),p 7 (R 7),p 9 (O 26),p 10 (O 27),p 16 (I v122),p 133 (B (v131.1==0&&((v126.getD v122.toNat (dflt y165)).2.1==5||(v126.getD v122.toNat (dflt y165)).2.1==6||a2)))] ((500000,bx 152 (Q63 v134 (vl (u88 v131.2 ((v98.length:Int)-1))).2.2.1 (vl (u88 v131.2 ((v98.length:Int)-1))).2.2.2))::(500000,bx 152 (Q63 v135 v131.2.2.1 v131.2.2.2))::(27,A 9 Ty.str v98 0)::(26,A 165 y165 v136 0)::W0 v137 v1 v0 v138 v139 v140)) (fun((v132,v133,v134,v135,v136,v137,v138,v139,v140):Int×List Int×List Int×List Int×List Y165×List Y165×List Y165×List ByteArray×List Y175)=>Z (G25 a2 [p 16 (I v122)]) ((500000,bx 152 (Q63 v134 (vl (u88 v131.2 ((v98.length:Int)-1))).2.2.1 (vl (u88 v131.2 ((v98.length:Int)-1))).2.2.2))::(27,A 9 Ty.str v98 0)::(26,A 165 y165 v136 0)::W0 v137 v1 v0 v138 v139 v140)) (fun((v132,v133,v134,v135,v136,v137,v138,v139,v140):Int×List Int×List Int×List Int×List Y165×List Y165×List Y165×List ByteArray×List Y175)=>True) H (by kernel_rfl) (fun _ h=>by obtain⟨_,_,rfl,he,ho⟩:=h; obtain⟨_,_,rfl,⟨v132,rfl,h1⟩,⟨_,_,rfl,rfl,⟨_,_,rfl,rfl,⟨_,_,rfl,rfl,⟨_,_,rfl,rfl,⟨_,_,rfl,rfl,⟨_,_,rfl,rfl,⟨_,_,rfl,⟨v133,rfl,h2⟩,⟨_,_,rfl,rfl,⟨_,_,rfl,rfl,⟨_,_,rfl,rfl,⟨_,_,rfl,rfl,⟨_,_,rfl,rfl,⟨_,_,rfl,rfl,⟨_,_,rfl,rfl,⟨_,_,rfl,rfl,⟨_,_,rfl,rfl,⟨_,_,rfl,rfl,⟨_,_,rfl,rfl,⟨_,_,rfl,rfl,rfl⟩⟩⟩⟩⟩⟩⟩⟩⟩⟩⟩⟩⟩⟩⟩⟩⟩⟩⟩⟩:=he; obtain⟨_,_,rfl,⟨_,rfl,⟨_,_,rfl,⟨v134,rfl,h3⟩,⟨_,_,rfl,rfl,⟨_,_,rfl,rfl,rfl⟩⟩⟩⟩,⟨_,_,rfl,⟨_,rfl,⟨_,_,rfl,⟨v135,rfl,h4⟩,⟨_,_,rfl,rfl,⟨_,_,rfl,rfl,rfl⟩⟩⟩⟩,⟨_,_,rfl,rfl,⟨_,_,rfl,⟨v136,rfl,h5⟩,⟨_,_,rfl,⟨_,rfl,⟨_,_,rfl,⟨v137,rfl,h6⟩,⟨_,_,rfl,rfl,⟨_,_,rfl,rfl,rfl⟩⟩⟩⟩,⟨_,_,rfl,rfl,⟨_,_,rfl,rfl,⟨_,_,rfl,⟨_,rfl,⟨_,_,rfl,⟨v138,rfl,h7⟩,⟨_,_,rfl,⟨v139,rfl,h8⟩,⟨_,_,rfl,⟨v140,rfl,h9⟩,rfl⟩⟩⟩⟩,rfl⟩⟩⟩⟩⟩⟩⟩⟩:=ho; exact⟨⟨v132,v133,v134,v135,v136,v137,v138,v139,v140⟩,⟨h1,h2,h3,h4,h5,h6,h7,h8,h9⟩,rfl⟩) (fun _=>by kernel_rfl) fun⟨v132,v133,v134,v135,v136,v137,v138,v139,v140⟩ H=>gdC H fun H=>fK<|n9 H
   exact vK<|fK<|n9 H
  exact vE<|fE<|e8<|fX rfl<|n7 H
 refine qD (fun v2=>Z (G68 a2 (2+v2.1) []) [(500000,K 152 y152 v2.2),(27,A 9 Ty.str ([]++v0) 1),(26,A 165 y165 [] 0),(25,A 2 i64 [2,2,3,3,4,3,3,3] 0),(7,bx 31 [nil,AV.os 18 0,AV.os 23 0]),(23,A 175 y175 v1 0),(18,A 9 Ty.str v0 0),(6,bx 31 [nil,nil,nil])]) H fun v2 H=>vB<|lX (fun((v44,v45,v46,v47,v48,v49,v50,v51,v52,v53):Int×List Int×Int×Int×List ByteArray×List Y165×List Y165×List Y165×List ByteArray×List Y175)=>Z (G2 a2 v44 []) ((500000,bx 152 (Q63 v45 v46 v47))::(27,A 9 Ty.str v48 0)::(26,A 165 y165 v49 0)::(25,A 2 i64 [2,2,3,3,4,3,3,3] 0)::W0 v50 v1 v0 v51 v52 v53)) (2+v2.1,v2.2.1,v2.2.2.1,v2.2.2.2,[]++v0,[],[],[],[],[]) H fun _ g1 b1 e1 t1 ⟨v44,v45,v46,v47,v48,v49,v50,v51,v52,v53⟩ H=>vQ<|qA (Z (G2 a2 v44 [p 37 (B (decide (0<v44)))]) ((500000,bx 152 (Q63 v45 v46 v47))::(27,A 9 Ty.str v48 0)::(26,A 165 y165 v49 0)::(25,A 2 i64 [2,2,3,3,4,3,3,3] 0)::W0 v50 v1 v0 v51 v52 v53))<|cD H (fun H=>?_) (fun H=>?_)
 ·refine vK<|fQ<|jN r (fun((v90,v91,v92,v93,v94):List Y165×List ByteArray×List Int×Int×Int)=>Z (G2 a2 v44 []) ((26,A 165 y165 v90 0)::(27,A 9 Ty.str v91 0)::(500000,bx 152 (Q63 v92 v93 v94))::(25,A 2 i64 [2,2,3,3,4,3,3,3] 0)::W0 v50 v1 v0 v51 v52 v53)) (u171J2 v44 v50 v51 v52 v53 g1) (fun⟨v90,v91,v92,v93,v94⟩ H=>?_) (fun _ n2 e2 t2=>?_)
  ·refine zB (Z (G2 a2 (v44-1) []) ((26,A 165 y165 v90 0)::(27,A 9 Ty.str v91 0)::(500000,bx 152 (Q63 v92 v93 v94))::(25,A 2 i64 [2,2,3,3,4,3,3,3] 0)::W0 v50 v1 v0 v51 v52 v53)) H fun H=>b1 H
  refine vB<|qD (fun(v54,v55)=>Z (G2 a2 v44 [p 12 (I v55)]) ((500000,K 152 y152 v54.2)::(40,A 2 i64 [0,1,2,2,3,4,5,5,5,6,7,1] 0)::(27,A 9 Ty.str v48 0)::(26,A 165 y165 v49 0)::(25,A 2 i64 [2,2,3,3,4,3,3,3] 0)::W0 v50 v1 v0 v51 v52 v53)) H fun w H=>?_
  obtain⟨v54,v55⟩:=w;refine qD (fun v56=>Z (G2 a2 v44 [p 12 (I v55),p 13 (R 13)]) ((13,bx 165 [S (ByteArray.mk #[117]++v56),I v55,nil])::(500000,K 152 y152 v54.2)::(40,A 2 i64 [0,1,2,2,3,4,5,5,5,6,7,1] 0)::(27,A 9 Ty.str v48 0)::(26,A 165 y165 v49 0)::(25,A 2 i64 [2,2,3,3,4,3,3,3] 0)::W0 v50 v1 v0 v51 v52 v53)) H fun v56 H=>jN r (fun((v83,v84,v85,v86):List Int×List Int×Int×Int)=>Z (G2 a2 v44 [p 13 (R 13)]) ((13,bx 165 [S (ByteArray.mk #[117]++v56),I v55,M i64 v83])::(500000,bx 152 (Q63 v84 v85 v86))::(27,A 9 Ty.str v48 0)::(26,A 165 y165 v49 0)::(25,A 2 i64 [2,2,3,3,4,3,3,3] 0)::W0 v50 v1 v0 v51 v52 v53)) (u171J3 v44 v50 v51 v52 v53 v48 v49 v56 v55 g1) (fun⟨v83,v84,v85,v86⟩ H=>?_) (fun _ n3 e3 t3=>?_)
  ·refine qB (Z (G2 a2 v44 [p 13 (R 13)]) ((13,bx 165 [S (ByteArray.mk #[117]++v56),I v55,AV.os 86 2])::(86,A 2 i64 ([]++v83++[(v48.length:Int)]) 2)::(92,A 2 i64 [(v48.length:Int)] 0)::(500000,bx 152 (Q63 v84 v85 v86))::(27,A 9 Ty.str v48 0)::(26,A 165 y165 v49 0)::(25,A 2 i64 [2,2,3,3,4,3,3,3] 0)::W0 v50 v1 v0 v51 v52 v53)) H fun H=>qD (fun v87=>Z (G68 a2 v44 [p 13 (R 13)]) ((27,A 9 Ty.str (v48++[ByteArray.mk #[110]++v87]) 1)::(100,A 9 Ty.str [ByteArray.mk #[110]++v87] 0)::(13,bx 165 [S (ByteArray.mk #[117]++v56),I v55,AV.os 86 2])::(86,A 2 i64 ([]++v83++[(v48.length:Int)]) 2)::(92,A 2 i64 [(v48.length:Int)] 0)::(500000,bx 152 (Q63 v84 v85 v86))::(26,A 165 y165 v49 0)::(25,A 2 i64 [2,2,3,3,4,3,3,3] 0)::W0 v50 v1 v0 v51 v52 v53)) H fun v87 H=>fZ 86 (Z (G68 a2 v44 [p 13 (R 13)]) ((27,A 9 Ty.str (v48++[ByteArray.mk #[110]++v87]) 1)::(100,A 9 Ty.str [ByteArray.mk #[110]++v87] 0)::(13,bx 165 [S (ByteArray.mk #[117]++v56),I v55,M i64 ([]++v83++[(v48.length:Int)])])::(92,A 2 i64 [(v48.length:Int)] 0)::(500000,bx 152 (Q63 v84 v85 v86))::(26,A 165 y165 v49 0)::(25,A 2 i64 [2,2,3,3,4,3,3,3] 0)::W0 v50 v1 v0 v51 v52 v53))<|zD (fun(v88,v89)=>Z [p 0 (R 500000),p 2 (C a2),p 6 (R 6),p 7 (R 7),p 8 (O 25),p 9 (AV.os 26 1),p 10 (AV.os 27 1),p 11 (I v44)] ((26,A 165 y165 v88 1)::(104,A 165 y165 v89 0)::(27,A 9 Ty.str (v48++[ByteArray.mk #[110]++v87]) 1)::(100,A 9 Ty.str [ByteArray.mk #[110]++v87] 0)::(13,bx 165 [S (ByteArray.mk #[117]++v56),I v55,M i64 ([]++v83++[(v48.length:Int)])])::(92,A 2 i64 [(v48.length:Int)] 0)::(500000,bx 152 (Q63 v84 v85 v86))::(25,A 2 i64 [2,2,3,3,4,3,3,3] 0)::W0 v50 v1 v0 v51 v52 v53)) H fun⟨v88,v89⟩ H =>
    fK<|n2 H
  refine qA (Z (G2 a2 v44 [p 12 (I v55),p 13 (R 13),p 14 (I 0)]) ((13,bx 165 [S (ByteArray.mk #[117]++v56),I v55,nil])::(500000,K 152 y152 v54.2)::(40,A 2 i64 [0,1,2,2,3,4,5,5,5,6,7,1] 0)::(27,A 9 Ty.str v48 0)::(26,A 165 y165 v49 0)::(25,A 2 i64 [2,2,3,3,4,3,3,3] 0)::W0 v50 v1 v0 v51 v52 v53))<|vB<|lX (fun((v71,v72,v73,v74,v75):Int×List Int×List Int×Int×Int)=>Z (G2 a2 v44 [p 12 (I v55),p 13 (R 13),p 14 (I v71)]) ((13,bx 165 [S (ByteArray.mk #[117]++v56),I v55,M i64 v72])::(500000,bx 152 (Q63 v73 v74 v75))::(27,A 9 Ty.str v48 0)::(26,A 165 y165 v49 0)::(25,A 2 i64 [2,2,3,3,4,3,3,3] 0)::W0 v50 v1 v0 v51 v52 v53)) (0,[],v54.2.1,v54.2.2.1,v54.2.2.2) H fun _ g4 b4 e4 t4 ⟨v71,v72,v73,v74,v75⟩ H=>vQ<|qB (Z (G2 a2 v44 [p 12 (I v55),p 13 (R 13),p 14 (I v71),p 57 (B (decide (v71<[(2:Int),(2:Int),(3:Int),(3:Int),(4:Int),(3:Int),(3:Int),(3:Int)].getD v55.toNat (0:Int)-(1:Int))))]) ((13,bx 165 [S (ByteArray.mk #[(117:UInt8)]++v56),I v55,M i64 v72])::(500000,bx 152 (Q63 v73 v74 v75))::(27,A 9 Ty.str v48 0)::(26,A 165 y165 v49 0)::(25,A 2 i64 [(2:Int),(2:Int),(3:Int),(3:Int),(4:Int),(3:Int),(3:Int),(3:Int)] 0)::W0 v50 v1 v0 v51 v52 v53)) H fun H=>cD H (fun H=>?_) (fun H=>?_)
  ·refine vK<|fQ<|vQ<|vB<|qD (fun v76=>Z (G2 a2 v44 [p 12 (I v55),p 13 (R 13),p 14 (I v71),p 15 (I (1+v76.1))]) ((500000,K 152 y152 v76.2)::(13,bx 165 [S (ByteArray.mk #[117]++v56),I v55,M i64 v72])::(27,A 9 Ty.str v48 0)::(26,A 165 y165 v49 0)::(25,A 2 i64 [2,2,3,3,4,3,3,3] 0)::W0 v50 v1 v0 v51 v52 v53)) H fun v76 H=>jN r (fun((v78,v79,v80,v81):List Int×Int×Int×Int)=>Z (G2 a2 v44 [p 12 (I v55),p 13 (R 13),p 14 (I v71),p 15 (I v81)]) ((500000,bx 152 (Q63 v78 v79 v80))::(13,bx 165 [S (ByteArray.mk #[117]++v56),I v55,M i64 v72])::(27,A 9 Ty.str v48 0)::(26,A 165 y165 v49 0)::(25,A 2 i64 [2,2,3,3,4,3,3,3] 0)::W0 v50 v1 v0 v51 v52 v53)) (u171J5 v71 v72 v55 g4) (fun⟨v78,v79,v80,v81⟩ H=>?_) (fun _ n5 e5 t5=>?_)
   ·refine jN r (fun(v82:Int)=>Z (G2 a2 v44 [p 12 (I v55),p 13 (R 13),p 14 (I v71),p 15 (I v82)]) ((500000,bx 152 (Q63 v78 v79 v80))::(13,bx 165 [S (ByteArray.mk #[117]++v56),I v55,M i64 v72])::(27,A 9 Ty.str v48 0)::(26,A 165 y165 v49 0)::(25,A 2 i64 [2,2,3,3,4,3,3,3] 0)::W0 v50 v1 v0 v51 v52 v53)) (u171J6 v71 v72 v78 v79 v80 g4) (fun v82 H=>?_) (fun _ n6 e6 t6=>?_)
    ·refine zB (Z (G2 a2 v44 [p 12 (I v55),p 13 (R 13),p 14 (I v71)]) ((13,bx 165 [S (ByteArray.mk #[117]++v56),I v55,AV.os 78 2])::(78,A 2 i64 ([]++v72++[v82]) 2)::(83,A 2 i64 [v82] 0)::(500000,bx 152 (Q63 v78 v79 v80))::(27,A 9 Ty.str v48 0)::(26,A 165 y165 v49 0)::(25,A 2 i64 [2,2,3,3,4,3,3,3] 0)::W0 v50 v1 v0 v51 v52 v53)) H fun H=>fK<|fQ<|zB (Z (G2 a2 v44 [p 12 (I v55),p 13 (R 13),p 14 (I (v71+1))]) ((13,bx 165 [S (ByteArray.mk #[117]++v56),I v55,AV.os 78 2])::(78,A 2 i64 ([]++v72++[v82]) 2)::(83,A 2 i64 [v82] 0)::(500000,bx 152 (Q63 v78 v79 v80))::(27,A 9 Ty.str v48 0)::(26,A 165 y165 v49 0)::(25,A 2 i64 [2,2,3,3,4,3,3,3] 0)::W0 v50 v1 v0 v51 v52 v53)) H fun H=>fzF 78 (Z (G2 a2 v44 [p 12 (I v55),p 13 (R 13),p 14 (I (v71+1))]) ((13,bx 165 [S (ByteArray.mk #[117]++v56),I v55,M i64 ([]++v72++[v82])])::(83,A 2 i64 [v82] 0)::(500000,bx 152 (Q63 v78 v79 v80))::(27,A 9 Ty.str v48 0)::(26,A 165 y165 v49 0)::(25,A 2 i64 [2,2,3,3,4,3,3,3] 0)::W0 v50 v1 v0 v51 v52 v53)) (by kernel_rfl) rfl<|b4 H
    refine qA (Z (G2 a2 v44 [p 12 (I v55),p 13 (R 13),p 14 (I v71),p 15 (I v81),p 77 (B (decide (5<=v55)&&v71==1))]) ((500000,bx 152 (Q63 v78 v79 v80))::(13,bx 165 [S (ByteArray.mk #[117]++v56),I v55,M i64 v72])::(27,A 9 Ty.str v48 0)::(26,A 165 y165 v49 0)::(25,A 2 i64 [2,2,3,3,4,3,3,3] 0)::W0 v50 v1 v0 v51 v52 v53))<|cD H (fun H=>?_) (fun H=>?_)
    ·refine zA (Z (G2 a2 v44 [p 12 (I v55),p 13 (R 13),p 14 (I v71),p 15 (I 0)]) ((500000,bx 152 (Q63 v78 v79 v80))::(13,bx 165 [S (ByteArray.mk #[117]++v56),I v55,M i64 v72])::(27,A 9 Ty.str v48 0)::(26,A 165 y165 v49 0)::(25,A 2 i64 [2,2,3,3,4,3,3,3] 0)::W0 v50 v1 v0 v51 v52 v53))<|n6 H
    exact vK<|n6 H
   refine qD (fun v77=>Z (G2 a2 v44 [p 12 (I v55),p 13 (R 13),p 14 (I v71),p 15 (I (1+v76.1)),p 68 (B (v77.1==0))]) ((500000,K 152 y152 v77.2)::(13,bx 165 [S (ByteArray.mk #[117]++v56),I v55,M i64 v72])::(27,A 9 Ty.str v48 0)::(26,A 165 y165 v49 0)::(25,A 2 i64 [2,2,3,3,4,3,3,3] 0)::W0 v50 v1 v0 v51 v52 v53)) H fun v77 H=>cD H (fun H=>?_) (fun H=>?_)
   ·refine zB (Z (G2 a2 v44 [p 12 (I v55),p 13 (R 13),p 14 (I v71),p 15 (I ((v48.length:Int)-1))]) ((500000,K 152 y152 v77.2)::(13,bx 165 [S (ByteArray.mk #[117]++v56),I v55,M i64 v72])::(27,A 9 Ty.str v48 0)::(26,A 165 y165 v49 0)::(25,A 2 i64 [2,2,3,3,4,3,3,3] 0)::W0 v50 v1 v0 v51 v52 v53)) H fun H=>n5 H
   exact vK<|n5 H
  exact vE<|fE<|e4<|fX rfl<|n3 H
 exact vE<|fE<|e1<|fX rfl<|n0 H
def R112(r:Y34×Y152):AV:=AV.agg [AV.ow 163 false y163 r.1.1,M y165 r.1.2.1.1,M Ty.str r.1.2.1.2.1,M y175 r.1.2.1.2.2,AV.ow 110 true y110 r.1.2.2]
def Z112(r:Y34×Y152):IOT [.io 152 y152,.dat i64,.dat .bool]:=r.2
def K112:Prop:=kE prog 112 [.io 152 y152,.dat i64,.dat .bool] P112 T112 R112 Z112
def u112J0[Alw](v0:List Y163×Y152)(v1:Y31×Y152):List Y110×List Int×Int×Int->Option (Unit)
 | (v11,v12,v13,v14) =>
 gd (T112 (((v0.1,v1.1,v11),v12,v13,v14)))<|some ()
def u112L1[Alw](v1:Y31×Y152)(v0:List Y163×Y152)(g1:Int×List Y110×List Int×Int×Int->Option (Unit)):Int×List Y110×List Int×Int×Int->Option (Unit)
 | (v4,v5,v6,v7,v8) =>
 if(decide (v4 < (v1.1.2.1.length:Int)))=true then
  gd (((u71 v1.1 v4).isSome=true/\True)/\P172 ((v6,v7,v8),(↑(vl (u71 v1.1 v4)).length:Int),()))<|Alw.alp (wpE [Par.io 152 y152,Par.dat i64] T172 R172 Z172) fun(v9:(Y110×Y152)) =>
  gd ((v5.length+[v9.1].length<=9223372036854775807/\(v5.length+[v9.1].length)*96<=140737488355328)/\True) <|
  gd (in64 (v4+1)/\True)<|lt (vl (u71 v1.1 v4)) fun _v10 =>
  g1 ((v4+1,v5++[v9.1],(Z172 v9).1,(Z172 v9).2.1,(Z172 v9).2.2))
 else
  u112J0 v0 v1 (v5,v6,v7,v8)
def u112[Alw](a0:Y152)(a1:Int)(a2:Bool):Option (Unit) :=
 gd ((u170 a0).isSome=true/\True)<|lt (vl (u170 a0)) fun v0 =>
 gd (True/\P171 (v0.2,a1,a2,()))<|Alw.alp (wpE [Par.io 152 y152,Par.dat i64,Par.dat Ty.bool] T171 R171 Z171) fun(v1:(Y31×Y152)) =>
 gd (True) <|
 lp (u112L1 v1 v0) ((0,[],(Z171 v1).1,(Z171 v1).2.1,(Z171 v1).2.2))
theorem e112[Alw](h172:K172)(h171:K171)(hF:∀x,Xv.wfs [.io 152 y152,.dat i64,.dat .bool] x->P112 x->u112 x.1 x.2.1 x.2.2.1=some ()):K112:=by
 refine okEl (f:=112) (ps:=[.io 152 y152,.dat i64,.dat .bool]) (pre:=P112) (post:=T112) (R:=R112) (Z:=Z112) (F:=fun x=>u112 x.1 x.2.1 x.2.2.1) tok [.cell 6 34] hF func112 ntmps112 rfl results112 (by kernel_rfl) rfl ?_;intro y ⟨a0,a1,a2,_⟩ r H hB Q hn hr;have:HT _ _:=⟨tc o71 (tc o170 tn)⟩;refine qA (Z (G11 a1 [p 2 (C a2),p 6 (R 6)]) [(6,bx 34 [nil,nil,nil,nil,nil]),(500000,K 152 y152 a0)])<|qD (fun v0=>Z (G11 a1 [p 2 (C a2),p 6 (R 6),p 7 (R 7)]) [(7,bx 26 [AV.os 12 0]),(12,Ob.arr 163 false y163 v0.1 0),(500000,K 152 y152 v0.2),(6,bx 34 [nil,nil,nil,nil,nil])]) H fun v0 H=>vQ<|zE tok (HT.h) h171 3 [0,6,7,8] (fun(v1:Y31×Y152)=>Z (G24 [p 7 (R 7),p 8 (R 8)]) ((8,bx 31 (cellsD true y31 v1.1))::(500000,bx 152 (cellsD false y152 (Z171 v1)))::W16 v0.1)) (fun(v1:Y31×Y152)=>True) H (fun _=>by kernel_rfl) fun v1 hp171 H=>gdC H fun H=>fQ<|qA (Z (G24 [p 7 (R 7),p 8 (R 8),p 9 (O 17)]) ((17,A 110 y110 [] 0)::(8,bx 31 (cellsD true y31 v1.1))::(500000,bx 152 (cellsD false y152 (Z171 v1)))::W16 v0.1))<|jN r (fun((v11,v12,v13,v14):List Y110×List Int×Int×Int)=>Z [p 6 (R 6),p 7 (R 7),p 8 (R 8),p 9 (O 17)] ((17,A 110 y110 v11 0)::(8,bx 31 (cellsD true y31 v1.1))::(500000,bx 152 (Q63 v12 v13 v14))::W16 v0.1)) (u112J0 v0 v1) (fun⟨v11,v12,v13,v14⟩ H=>?_) (fun _ n0 e0 t0=>?_)
 ·refine qA (Z [p 6 (R 6)] [(6,bx 34 [AV.os 12 0,M y165 v1.1.1,M Ty.str v1.1.2.1,M y175 v1.1.2.2,AV.os 17 0]),(17,A 110 y110 v11 0),(8,bx 31 (cellsD true y31 v1.1)),(500000,bx 152 (Q63 v12 v13 v14)),(7,bx 26 [AV.os 12 0]),(12,Ob.arr 163 false y163 v0.1 0)])<|vTT<|hr (((v0.1,v1.1,v11),v12,v13,v14)) (gd_some H).1 (by kernel_rfl)
 refine qA (Z (G24 [p 7 (R 7),p 8 (R 8),p 9 (O 17),p 10 (I 0)]) ((17,A 110 y110 [] 0)::(8,bx 31 (cellsD true y31 v1.1))::(500000,bx 152 (cellsD false y152 (Z171 v1)))::W16 v0.1))<|vB<|lX (fun((v4,v5,v6,v7,v8):Int×List Y110×List Int×Int×Int)=>Z (G24 [p 7 (R 7),p 8 (R 8),p 9 (O 17),p 10 (I v4)]) ((17,A 110 y110 v5 0)::(8,bx 31 (cellsD true y31 v1.1))::(500000,bx 152 [L b8 v6,J v7,J v8])::W16 v0.1)) ((0,[],(Z171 v1).1,(Z171 v1).2.1,(Z171 v1).2.2)) H fun _ g1 b1 e1 t1 ⟨v4,v5,v6,v7,v8⟩ H=>vQ<|qA (Z (G24 [p 7 (R 7),p 8 (R 8),p 9 (O 17),p 10 (I v4),p 22 (B (decide (v4 < (v1.1.2.1.length:Int))))]) ((17,A 110 y110 v5 0)::(8,bx 31 (cellsD true y31 v1.1))::(500000,bx 152 [L b8 v6,J v7,J v8])::W16 v0.1))<|cD H (fun H=>?_) (fun H=>?_)
 ·refine vK<|fQ<|vQ<|vB<|zE tok (HT.h) h172 6 [0,6,7,8,9,10] (fun(v9:Y110×Y152)=>Z (G24 [p 7 (R 7),p 8 (R 8),p 9 (AV.os 17 1),p 10 (I v4)]) ((17,A 110 y110 (v5++[v9.1]) 1)::(32,A 110 y110 [v9.1] 0)::(500000,bx 152 (cellsD false y152 (Z172 v9)))::(29,A 2 i64 (vl (u71 v1.1 v4)) 0)::(8,bx 31 (cellsD true y31 v1.1))::W16 v0.1)) (fun(v9:Y110×Y152)=>(v5.length+[v9.1].length<=9223372036854775807/\(v5.length+[v9.1].length)*96<=140737488355328)/\True) H (fun _=>by kernel_rfl) fun v9 hp172 H=>gdC H fun H=>fK<|fQ<|zD (fun v10=>Z (G24 [p 7 (R 7),p 8 (R 8),p 9 (AV.os 17 1),p 10 (I (v4+1))]) ((17,A 110 y110 (v5++[v9.1]) 1)::(32,A 110 y110 [v9.1] 0)::(500000,bx 152 (cellsD false y152 (Z172 v9)))::(29,A 2 i64 v10 0)::(8,bx 31 (cellsD true y31 v1.1))::W16 v0.1)) H fun v10 H=>b1 H
 exact vE<|fE<|e1<|fX rfl<|n0 H
abbrev P111(x:denPs [.io 152 y152]):Prop:=sd x.1
def R111(r:Y34×Y152):AV:=AV.agg (Q0 r.1)
def Z111(r:Y34×Y152):IOT [.io 152 y152]:=r.2
def K111:Prop:=kE prog 111 [.io 152 y152] P111 T111 R111 Z111
def u111J0[Alw]:List Int×Int×Int×List Y110×List Y165×List ByteArray×List Y175×List Y163->Option (Unit)
 | (v39,v40,v41,v42,v43,v44,v45,v46) =>
 gd (T111 (((v46,(v43,v44,v45),v42),v39,v40,v41)))<|some ()
def u111[Alw](a0:Y152):Option (Unit) :=
 gd (((u88 a0 (3:Int)).isSome=true/\True)/\P112 ((vl (u88 a0 (3:Int))).2,(6:Int),(vl (u88 a0 (3:Int))).1==(0:Int),()))<|Alw.alp (wpE [Par.io 152 y152,Par.dat i64,Par.dat Ty.bool] T112 R112 Z112) fun(v0:(Y34×Y152)) =>
 gd (True) <|
 gd ((u88 (Z112 v0) (v0.1.2.2.length:Int)).isSome=true/\True)<|lt (vl (u88 (Z112 v0) (v0.1.2.2.length:Int))) fun v1 =>
 gd ((u88 v1.2 20).isSome=true/\True)<|lt (vl (u88 v1.2 20)) fun v2 =>
 if(v2.1==0)=true then
  gd (((0:Int)<=(1:Int)/\(1:Int)<=(v0.1.2.2.length:Int)/\(v0.1.2.2.length:Int)<=(v0.1.2.2.length:Int))/\True) <|
  u111J0 ((v2.2.1,v2.2.2.1,v2.2.2.2,List.drop (Int.toNat (1:Int)) v0.1.2.2,v0.1.2.1.1,v0.1.2.1.2.1,v0.1.2.1.2.2,v0.1.1))
 else
  if(v2.1==1)=true then
   gd ((ix v1.1 v0.1.2.2.length/\v1.1.toNat<v0.1.2.2.length/\(u169 (v0.1.2.2.getD v1.1.toNat (dflt y110)).2.2.2).isSome=true/\((vl (u169 (v0.1.2.2.getD v1.1.toNat (dflt y110)).2.2.2)).length+[0].length<=9223372036854775807/\((vl (u169 (v0.1.2.2.getD v1.1.toNat (dflt y110)).2.2.2)).length+[0].length)*8<=140737488355328)/\ix v1.1 v0.1.2.2.length/\True)/\v1.1.toNat<v0.1.2.2.length/\True) <|
   u111J0 ((v2.2.1,v2.2.2.1,v2.2.2.2,v0.1.2.2.set v1.1.toNat ((v0.1.2.2.getD v1.1.toNat (dflt y110)).1,(v0.1.2.2.getD v1.1.toNat (dflt y110)).2.1,(v0.1.2.2.getD v1.1.toNat (dflt y110)).2.2.1,vl (u169 (v0.1.2.2.getD v1.1.toNat (dflt y110)).2.2.2)++[0]),v0.1.2.1.1,v0.1.2.1.2.1,v0.1.2.1.2.2,v0.1.1))
  else
   if(v2.1==2)=true then
    gd (ix v1.1 v0.1.2.2.length/\v1.1.toNat<v0.1.2.2.length/\ix 0 (v0.1.2.2.getD v1.1.toNat (dflt y110)).2.1.length/\True)<|Alw.alp (fun((v3,v4,v5,v6,v7,v8,v9,v10):Int×List Int×List Int×List Y165×List ByteArray×List Y175×List Y110×List Y163)=>(shp i64.pt ((v0.1.2.2.getD v1.1.toNat (dflt y110)).2.1.getD (Int.toNat (0:Int)) (0:Int)) v3/\(wf i64.pt ((v0.1.2.2.getD v1.1.toNat (dflt y110)).2.1.getD (Int.toNat (0:Int)) (0:Int))->wf i64.pt v3))/\(shp i64.sl (v0.1.2.2.getD v1.1.toNat (dflt y110)).2.1 v4/\(wf i64.sl (v0.1.2.2.getD v1.1.toNat (dflt y110)).2.1->wf i64.sl v4))/\(shp b8.sl v2.2.1 v5/\(wf b8.sl v2.2.1->wf b8.sl v5))/\(shp y165.sl v0.1.2.1.1 v6/\(wf y165.sl v0.1.2.1.1->wf y165.sl v6))/\(shp Ty.str.sl v0.1.2.1.2.1 v7/\(wf Ty.str.sl v0.1.2.1.2.1->wf Ty.str.sl v7))/\(shp y175.sl v0.1.2.1.2.2 v8/\(wf y175.sl v0.1.2.1.2.2->wf y175.sl v8))/\(AllS (shp y110) v0.1.2.2 v9)/\(AllS (shp y163) v0.1.1 v10)) fun((_v3,_v4,v5,v6,v7,v8,v9,v10):Int×List Int×List Int×List Y165×List ByteArray×List Y175×List Y110×List Y163) =>
    gd (True) <|
    u111J0 (v5,v2.2.2.1,v2.2.2.2,v9,v6,v7,v8,v10)
   else
    if(v2.1==3)=true then
     gd (ix v1.1 v0.1.2.2.length/\v1.1.toNat<v0.1.2.2.length/\(u88 v2.2 3).isSome=true/\ix (vl (u88 v2.2 3)).1 [-1,500,501].length/\(vl (u88 v2.2 3)).1.toNat<[-1,500,501].length/\ix 0 (v0.1.2.2.getD v1.1.toNat (dflt y110)).2.2.1.length/\True)<|Alw.alp (fun((v11,v12,v13,v14,v15,v16,v17,v18,v19):Int×List Int×List Int×List Int×List Y165×List ByteArray×List Y175×List Y110×List Y163)=>(shp i64.pt ((v0.1.2.2.getD v1.1.toNat (dflt y110)).2.2.1.getD (Int.toNat (0:Int)) (0:Int)) v11/\(wf i64.pt ((v0.1.2.2.getD v1.1.toNat (dflt y110)).2.2.1.getD (Int.toNat (0:Int)) (0:Int))->wf i64.pt v11))/\(shp i64.sl (v0.1.2.2.getD v1.1.toNat (dflt y110)).2.2.1 v12/\(wf i64.sl (v0.1.2.2.getD v1.1.toNat (dflt y110)).2.2.1->wf i64.sl v12))/\(shp b8.sl (vl (u88 v2.2 3)).2.1 v13/\(wf b8.sl (vl (u88 v2.2 3)).2.1->wf b8.sl v13))/\(shp b8.sl v2.2.1 v14/\(wf b8.sl v2.2.1->wf b8.sl v14))/\(shp y165.sl v0.1.2.1.1 v15/\(wf y165.sl v0.1.2.1.1->wf y165.sl v15))/\(shp Ty.str.sl v0.1.2.1.2.1 v16/\(wf Ty.str.sl v0.1.2.1.2.1->wf Ty.str.sl v16))/\(shp y175.sl v0.1.2.1.2.2 v17/\(wf y175.sl v0.1.2.1.2.2->wf y175.sl v17))/\(AllS (shp y110) v0.1.2.2 v18)/\(AllS (shp y163) v0.1.1 v19)) fun((_v11,_v12,v13,_v14,v15,v16,v17,v18,v19):Int×List Int×List Int×List Int×List Y165×List ByteArray×List Y175×List Y110×List Y163) =>
     gd (True) <|
     u111J0 ((v13,(vl (u88 v2.2 3)).2.2.1,(vl (u88 v2.2 3)).2.2.2,v18,v15,v16,v17,v19))
    else
     if(v2.1==4)=true then
      gd (ix v1.1 v0.1.2.2.length/\v1.1.toNat<v0.1.2.2.length/\ix v1.1 v0.1.2.2.length/\v1.1.toNat<v0.1.2.2.length/\in64 ((↑(v0.1.2.2.getD v1.1.toNat (dflt y110)).1.length:Int)-1)/\(u88 v2.2 5).isSome=true/\in64 ((vl (u88 v2.2 5)).1-1)/\ix ((↑(v0.1.2.2.getD v1.1.toNat (dflt y110)).1.length:Int)-1) (v0.1.2.2.getD v1.1.toNat (dflt y110)).1.length/\True)<|Alw.alp (fun((v20,v21,v22,v23,v24,v25,v26,v27,v28,v29):Int×List Int×List Int×List Int×List Int×List Y165×List ByteArray×List Y175×List Y110×List Y163)=>(shp i64.pt ((v0.1.2.2.getD v1.1.toNat (dflt y110)).1.getD ((↑(v0.1.2.2.getD v1.1.toNat (dflt y110)).1.length:Int)-1).toNat 0) v20/\(wf i64.pt ((v0.1.2.2.getD v1.1.toNat (dflt y110)).1.getD ((↑(v0.1.2.2.getD v1.1.toNat (dflt y110)).1.length:Int)-1).toNat 0)->wf i64.pt v20))/\(shp i64.sl (v0.1.2.2.getD v1.1.toNat (dflt y110)).1 v21/\(wf i64.sl (v0.1.2.2.getD v1.1.toNat (dflt y110)).1->wf i64.sl v21))/\(shp i64.sl (v0.1.2.2.getD v1.1.toNat (dflt y110)).1 v22/\(wf i64.sl (v0.1.2.2.getD v1.1.toNat (dflt y110)).1->wf i64.sl v22))/\(shp b8.sl (vl (u88 v2.2 5)).2.1 v23/\(wf b8.sl (vl (u88 v2.2 5)).2.1->wf b8.sl v23))/\(shp b8.sl v2.2.1 v24/\(wf b8.sl v2.2.1->wf b8.sl v24))/\(shp y165.sl v0.1.2.1.1 v25/\(wf y165.sl v0.1.2.1.1->wf y165.sl v25))/\(shp Ty.str.sl v0.1.2.1.2.1 v26/\(wf Ty.str.sl v0.1.2.1.2.1->wf Ty.str.sl v26))/\(shp y175.sl v0.1.2.1.2.2 v27/\(wf y175.sl v0.1.2.1.2.2->wf y175.sl v27))/\(AllS (shp y110) v0.1.2.2 v28)/\(AllS (shp y163) v0.1.1 v29)) fun((_v20,_v21,_v22,v23,_v24,v25,v26,v27,v28,v29):Int×List Int×List Int×List Int×List Int×List Y165×List ByteArray×List Y175×List Y110×List Y163) =>
      gd (True) <|
      u111J0 ((v23,(vl (u88 v2.2 5)).2.2.1,(vl (u88 v2.2 5)).2.2.2,v28,v25,v26,v27,v29))
     else
      if(v2.1==5)=true then
       gd (ix 0 v0.1.2.1.2.2.length/\True)<|Alw.alp (fun((v30,v31,v32,v33,v34,v35,v36,v37,v38):(Int×Int)×Y175×List Y175×List Int×List Y165×List ByteArray×List Y175×List Y110×List Y163)=>(shp (i64.pr i64).pt (v0.1.2.1.2.2.getD (Int.toNat (0:Int)) (dflt y175)).2 v30/\(wf (i64.pr i64).pt (v0.1.2.1.2.2.getD (Int.toNat (0:Int)) (dflt y175)).2->wf (i64.pr i64).pt v30))/\(shp y175.pt (v0.1.2.1.2.2.getD (Int.toNat (0:Int)) (dflt y175)) v31/\(wf y175.pt (v0.1.2.1.2.2.getD (Int.toNat (0:Int)) (dflt y175))->wf y175.pt v31))/\(shp y175.sl v0.1.2.1.2.2 v32/\(wf y175.sl v0.1.2.1.2.2->wf y175.sl v32))/\(shp b8.sl v2.2.1 v33/\(wf b8.sl v2.2.1->wf b8.sl v33))/\(shp y165.sl v0.1.2.1.1 v34/\(wf y165.sl v0.1.2.1.1->wf y165.sl v34))/\(shp Ty.str.sl v0.1.2.1.2.1 v35/\(wf Ty.str.sl v0.1.2.1.2.1->wf Ty.str.sl v35))/\(shp y175.sl v0.1.2.1.2.2 v36/\(wf y175.sl v0.1.2.1.2.2->wf y175.sl v36))/\(AllS (shp y110) v0.1.2.2 v37)/\(AllS (shp y163) v0.1.1 v38)) fun((_v30,_v31,_v32,v33,v34,v35,v36,v37,v38):(Int×Int)×Y175×List Y175×List Int×List Y165×List ByteArray×List Y175×List Y110×List Y163) =>
       gd (True) <|
       u111J0 (v33,v2.2.2.1,v2.2.2.2,v37,v34,v35,v36,v38)
      else
       u111J0 (v2.2.1,v2.2.2.1,v2.2.2.2,v0.1.2.2,v0.1.2.1.1,v0.1.2.1.2.1,v0.1.2.1.2.2,v0.1.1)
theorem e111[Alw](h112:K112)(hF:∀x,Xv.wfs [.io 152 y152] x->P111 x->u111 x.1=some ()):K111:=by
 refine okEl (f:=111) (ps:=[.io 152 y152]) (pre:=P111) (post:=T111) (R:=R111) (Z:=Z111) (F:=fun x=>u111 x.1) tok [.cell 2 34] hF func111 ntmps111 rfl results111 (by kernel_rfl) rfl ?_;intro y ⟨a0,_⟩ r H hB Q hn hr;have:HT _ _:=⟨tc o88 (tc o169 tn)⟩;refine qA (Z (G22 []) [(2,bx 34 [nil,nil,nil,nil,nil]),(500000,K 152 y152 a0)])<|vQ<|zE tok (HT.h) h112 4 [0,2,3] (fun(v0:Y34×Y152)=>Z (G22 [p 3 (R 3)]) [(3,bx 34 (Q9 v0.1.2.1)),(1009,A 110 y110 v0.1.2.2 0),(9,Ob.arr 163 false y163 v0.1.1 0),(500000,bx 152 (cellsD false y152 (Z112 v0))),(2,bx 34 [nil,nil,nil,nil,nil])]) (fun(v0:Y34×Y152)=>True) H (fun _=>by kernel_rfl) fun v0 hp112 H=>gdC H fun H=>fQ<|qD (fun v1=>Z (G22 [p 3 (R 3),p 4 (I v1.1)]) ((500000,K 152 y152 v1.2)::(3,bx 34 (Q9 v0.1.2.1))::W3 v0.1.2.2 v0.1.1)) H fun v1 H=>jN r (fun((v39,v40,v41,v42,v43,v44,v45,v46):List Int×Int×Int×List Y110×List Y165×List ByteArray×List Y175×List Y163)=>Z (G10 []) [(3,bx 34 (Q64 v43 v44 v45)),(1009,A 110 y110 v42 0),(500000,bx 152 (Q63 v39 v40 v41)),(9,Ob.arr 163 false y163 v46 0),(2,bx 34 [nil,nil,nil,nil,nil])]) (u111J0) (fun⟨v39,v40,v41,v42,v43,v44,v45,v46⟩ H=>?_) (fun _ n0 e0 t0=>?_)
 ·refine qA (Z [p 2 (R 2)] [(2,bx 34 (Q64 v43 v44 v45)),(3,bx 34 (Q64 v43 v44 v45)),(1009,A 110 y110 v42 0),(500000,bx 152 (Q63 v39 v40 v41)),(9,Ob.arr 163 false y163 v46 0)])<|vTT<|hr (((v46,(v43,v44,v45),v42),v39,v40,v41)) (gd_some H).1 (by kernel_rfl)
 refine qD (fun v2=>Z (G22 [p 3 (R 3),p 4 (I v1.1),p 16 (I v2.1)]) ((500000,K 152 y152 v2.2)::(3,bx 34 (Q9 v0.1.2.1))::W3 v0.1.2.2 v0.1.1)) H fun v2 H=>vB<|qA (Z (G22 [p 3 (R 3),p 4 (I v1.1),p 16 (I v2.1),p 17 (B (v2.1==0))]) ((500000,K 152 y152 v2.2)::(3,bx 34 (Q9 v0.1.2.1))::W3 v0.1.2.2 v0.1.1))<|cD H (fun H=>?_) (fun H=>?_)
 ·refine zB (Z (G10 []) [(3,bx 34 [AV.os 9 0,M y165 v0.1.2.1.1,M Ty.str v0.1.2.1.2.1,M y175 v0.1.2.1.2.2,AV.os 1009 1]),(1009,A 110 y110 (List.drop (Int.toNat (1:Int)) v0.1.2.2) 1),(500000,K 152 y152 v2.2),(9,Ob.arr 163 false y163 v0.1.1 0),(2,bx 34 [nil,nil,nil,nil,nil])]) H fun H=>fK<|n0 H
 refine qA (Z (G22 [p 3 (R 3),p 4 (I v1.1),p 16 (I v2.1),p 23 (B (v2.1==1))]) ((500000,K 152 y152 v2.2)::(3,bx 34 (Q9 v0.1.2.1))::W3 v0.1.2.2 v0.1.1))<|cD H (fun H=>?_) (fun H=>?_)
 ·refine zFD tok (HT.h) 14 [34] [2,3] (Z (G10 []) [(1009,A 110 y110 (v0.1.2.2.set v1.1.toNat ((v0.1.2.2.getD v1.1.toNat (dflt y110)).1,(v0.1.2.2.getD v1.1.toNat (dflt y110)).2.1,(v0.1.2.2.getD v1.1.toNat (dflt y110)).2.2.1,vl (u169 (v0.1.2.2.getD v1.1.toNat (dflt y110)).2.2.2)++[0])) 0),(35,A 2 i64 [0] 0),(500000,K 152 y152 v2.2),(3,bx 34 (Q9 v0.1.2.1)),(9,Ob.arr 163 false y163 v0.1.1 0),(2,bx 34 [nil,nil,nil,nil,nil])]) H (by kernel_rfl) fun H=>fK<|n0 H
 refine qA (Z (G22 [p 3 (R 3),p 4 (I v1.1),p 16 (I v2.1),p 39 (B (v2.1==2))]) ((500000,K 152 y152 v2.2)::(3,bx 34 (Q9 v0.1.2.1))::W3 v0.1.2.2 v0.1.1))<|cD H (fun H=>?_) (fun H=>?_)
 ·refine zH tok (HT.h) hB 7 [2,3] (Z [p 47 (N i64.pt ((v0.1.2.2.getD v1.1.toNat (dflt y110)).2.1.getD (Int.toNat (0:Int)) (0:Int))),p 46 (M i64 (v0.1.2.2.getD v1.1.toNat (dflt y110)).2.1),p 45 (AV.pel 1009 0 v1.1.toNat 4 1),p 44 (AV.pel 1009 0 v1.1.toNat 4 0),p 43 (I v1.1),p 42 (O 1009),p 41 (AV.ptr 3 4),p 0 (R 500000),p 2 (R 2),p 3 (R 3),p 4 (I v1.1),p 16 (I v2.1),p 39 (B (v2.1==(2:Int)))] ((500000,K 152 y152 v2.2)::(3,bx 34 (Q9 v0.1.2.1))::W3 v0.1.2.2 v0.1.1)) (fun((v3,v4,v5,v6,v7,v8,v9,v10):Int×List Int×List Int×List Y165×List ByteArray×List Y175×List Y110×List Y163)=>Z [p 47 (N i64.pt v3),p 46 (M i64 v4),p 45 (AV.pel 1009 0 v1.1.toNat 4 1),p 44 (AV.pel 1009 0 v1.1.toNat 4 0),p 43 (I v1.1),p 42 (O 1009),p 41 (AV.ptr 3 4),p 0 (R 500000),p 2 (R 2),p 3 (R 3),p 4 (I v1.1),p 16 (I v2.1),p 39 (B (v2.1==2))] ((500000,bx 152 (Q63 v5 v2.2.2.1 v2.2.2.2))::(3,bx 34 (Q64 v6 v7 v8))::W3 v9 v10)) (fun((v3,v4,v5,v6,v7,v8,v9,v10):Int×List Int×List Int×List Y165×List ByteArray×List Y175×List Y110×List Y163)=>Z (G10 []) ((500000,bx 152 (Q63 v5 v2.2.2.1 v2.2.2.2))::(3,bx 34 (Q64 v6 v7 v8))::W3 v9 v10)) (fun((v3,v4,v5,v6,v7,v8,v9,v10):Int×List Int×List Int×List Y165×List ByteArray×List Y175×List Y110×List Y163)=>True) H (by kernel_rfl) (fun _ h=>by obtain⟨_,_,rfl,he,ho⟩:=h; obtain⟨_,_,rfl,⟨v3,rfl,h1⟩,⟨_,_,rfl,⟨v4,rfl,h2⟩,⟨_,_,rfl,rfl,⟨_,_,rfl,rfl,⟨_,_,rfl,rfl,⟨_,_,rfl,rfl,⟨_,_,rfl,rfl,⟨_,_,rfl,rfl,⟨_,_,rfl,rfl,⟨_,_,rfl,rfl,⟨_,_,rfl,rfl,⟨_,_,rfl,rfl,⟨_,_,rfl,rfl,rfl⟩⟩⟩⟩⟩⟩⟩⟩⟩⟩⟩⟩⟩:=he; obtain⟨_,_,rfl,⟨_,rfl,⟨_,_,rfl,⟨v5,rfl,h3⟩,⟨_,_,rfl,rfl,⟨_,_,rfl,rfl,rfl⟩⟩⟩⟩,⟨_,_,rfl,⟨_,rfl,⟨_,_,rfl,rfl,⟨_,_,rfl,⟨v6,rfl,h4⟩,⟨_,_,rfl,⟨v7,rfl,h5⟩,⟨_,_,rfl,⟨v8,rfl,h6⟩,⟨_,_,rfl,rfl,rfl⟩⟩⟩⟩⟩⟩,⟨_,_,rfl,⟨v9,rfl,h7⟩,⟨_,_,rfl,⟨v10,rfl,h8⟩,⟨_,_,rfl,⟨_,rfl,⟨_,_,rfl,rfl,⟨_,_,rfl,rfl,⟨_,_,rfl,rfl,⟨_,_,rfl,rfl,⟨_,_,rfl,rfl,rfl⟩⟩⟩⟩⟩⟩,rfl⟩⟩⟩⟩⟩:=ho; exact⟨⟨v3,v4,v5,v6,v7,v8,v9,v10⟩,⟨h1,h2,h3,h4,h5,h6,h7,h8⟩,rfl⟩) (fun _=>by kernel_rfl) fun⟨v3,v4,v5,v6,v7,v8,v9,v10⟩ H=>gdC H fun H=>fK<|n0 H
 refine qA (Z (G22 [p 3 (R 3),p 4 (I v1.1),p 16 (I v2.1),p 48 (B (v2.1==3))]) ((500000,K 152 y152 v2.2)::(3,bx 34 (Q9 v0.1.2.1))::W3 v0.1.2.2 v0.1.1))<|cD H (fun H=>?_) (fun H=>?_)
 ·refine zHD tok (HT.h) hB 12 [2,3] (Z [p 61 (N i64.pt ((v0.1.2.2.getD v1.1.toNat (dflt y110)).2.2.1.getD (Int.toNat (0:Int)) (0:Int))),p 60 (I ([(-1:Int),(500:Int),(501:Int)].getD (vl (u88 v2.2 (3:Int))).1.toNat (0:Int))),p 59 (AV.pel 56 0 (vl (u88 v2.2 (3:Int))).1.toNat 1 0),p 58 (I (vl (u88 v2.2 (3:Int))).1),p 57 (R 500000),p 56 (O 56),p 55 (M i64 (v0.1.2.2.getD v1.1.toNat (dflt y110)).2.2.1),p 54 (AV.pel 1009 0 v1.1.toNat 4 2),p 53 (AV.pel 1009 0 v1.1.toNat 4 0),p 52 (I v1.1),p 51 (O 1009),p 50 (AV.ptr 3 4),p 0 (R 500000),p 2 (R 2),p 3 (R 3),p 4 (I v1.1),p 16 (I v2.1),p 48 (B (v2.1==(3:Int)))] ((500000,bx 152 (cellsD false y152 (vl (u88 v2.2 (3:Int))).2))::(56,A 2 i64 [(-1:Int),(500:Int),(501:Int)] 0)::(500000,K 152 y152 v2.2)::(3,bx 34 (Q9 v0.1.2.1))::W3 v0.1.2.2 v0.1.1)) (fun((v11,v12,v13,v14,v15,v16,v17,v18,v19):Int×List Int×List Int×List Int×List Y165×List ByteArray×List Y175×List Y110×List Y163)=>Z [p 61 (N i64.pt v11),p 60 (I ([-1,500,501].getD (vl (u88 v2.2 3)).1.toNat 0)),p 59 (AV.pel 56 0 (vl (u88 v2.2 3)).1.toNat 1 0),p 58 (I (vl (u88 v2.2 3)).1),p 57 (R 500000),p 56 (O 56),p 55 (M i64 v12),p 54 (AV.pel 1009 0 v1.1.toNat 4 2),p 53 (AV.pel 1009 0 v1.1.toNat 4 0),p 52 (I v1.1),p 51 (O 1009),p 50 (AV.ptr 3 4),p 0 (R 500000),p 2 (R 2),p 3 (R 3),p 4 (I v1.1),p 16 (I v2.1),p 48 (B (v2.1==3))] ((500000,bx 152 (Q63 v13 (vl (u88 v2.2 3)).2.2.1 (vl (u88 v2.2 3)).2.2.2))::(56,A 2 i64 [-1,500,501] 0)::(500000,bx 152 (Q63 v14 v2.2.2.1 v2.2.2.2))::(3,bx 34 (Q64 v15 v16 v17))::W3 v18 v19)) (fun((v11,v12,v13,v14,v15,v16,v17,v18,v19):Int×List Int×List Int×List Int×List Y165×List ByteArray×List Y175×List Y110×List Y163)=>Z (G10 []) ((500000,bx 152 (Q63 v13 (vl (u88 v2.2 3)).2.2.1 (vl (u88 v2.2 3)).2.2.2))::(56,A 2 i64 [-1,500,501] 0)::(3,bx 34 (Q64 v15 v16 v17))::W3 v18 v19)) (fun((v11,v12,v13,v14,v15,v16,v17,v18,v19):Int×List Int×List Int×List Int×List Y165×List ByteArray×List Y175×List Y110×List Y163)=>True) H (by kernel_rfl) (fun _ h=>by obtain⟨_,_,rfl,he,ho⟩:=h; obtain⟨_,_,rfl,⟨v11,rfl,h1⟩,⟨_,_,rfl,rfl,⟨_,_,rfl,rfl,⟨_,_,rfl,rfl,⟨_,_,rfl,rfl,⟨_,_,rfl,rfl,⟨_,_,rfl,⟨v12,rfl,h2⟩,⟨_,_,rfl,rfl,⟨_,_,rfl,rfl,⟨_,_,rfl,rfl,⟨_,_,rfl,rfl,⟨_,_,rfl,rfl,⟨_,_,rfl,rfl,⟨_,_,rfl,rfl,⟨_,_,rfl,rfl,⟨_,_,rfl,rfl,⟨_,_,rfl,rfl,⟨_,_,rfl,rfl,rfl⟩⟩⟩⟩⟩⟩⟩⟩⟩⟩⟩⟩⟩⟩⟩⟩⟩⟩:=he; obtain⟨_,_,rfl,⟨_,rfl,⟨_,_,rfl,⟨v13,rfl,h3⟩,⟨_,_,rfl,rfl,⟨_,_,rfl,rfl,rfl⟩⟩⟩⟩,⟨_,_,rfl,rfl,⟨_,_,rfl,⟨_,rfl,⟨_,_,rfl,⟨v14,rfl,h4⟩,⟨_,_,rfl,rfl,⟨_,_,rfl,rfl,rfl⟩⟩⟩⟩,⟨_,_,rfl,⟨_,rfl,⟨_,_,rfl,rfl,⟨_,_,rfl,⟨v15,rfl,h5⟩,⟨_,_,rfl,⟨v16,rfl,h6⟩,⟨_,_,rfl,⟨v17,rfl,h7⟩,⟨_,_,rfl,rfl,rfl⟩⟩⟩⟩⟩⟩,⟨_,_,rfl,⟨v18,rfl,h8⟩,⟨_,_,rfl,⟨v19,rfl,h9⟩,⟨_,_,rfl,⟨_,rfl,⟨_,_,rfl,rfl,⟨_,_,rfl,rfl,⟨_,_,rfl,rfl,⟨_,_,rfl,rfl,⟨_,_,rfl,rfl,rfl⟩⟩⟩⟩⟩⟩,rfl⟩⟩⟩⟩⟩⟩⟩:=ho; exact⟨⟨v11,v12,v13,v14,v15,v16,v17,v18,v19⟩,⟨h1,h2,h3,h4,h5,h6,h7,h8,h9⟩,rfl⟩) (fun _=>by kernel_rfl) fun⟨v11,v12,v13,v14,v15,v16,v17,v18,v19⟩ H=>gdC H fun H=>fK<|n0 H
 refine qA (Z (G22 [p 3 (R 3),p 4 (I v1.1),p 16 (I v2.1),p 62 (B (v2.1==4))]) ((500000,K 152 y152 v2.2)::(3,bx 34 (Q9 v0.1.2.1))::W3 v0.1.2.2 v0.1.1))<|cD H (fun H=>?_) (fun H=>?_)
 ·refine zHD tok (HT.h) hB 18 [2,3] (Z [p 81 (N i64.pt ((v0.1.2.2.getD v1.1.toNat (dflt y110)).1.getD ((↑(v0.1.2.2.getD v1.1.toNat (dflt y110)).1.length:Int)-1).toNat 0)),p 80 (I ((vl (u88 v2.2 5)).1-1)),p 79 (I (vl (u88 v2.2 5)).1),p 78 (R 500000),p 77 (I ((↑(v0.1.2.2.getD v1.1.toNat (dflt y110)).1.length:Int)-1)),p 76 (I (↑(v0.1.2.2.getD v1.1.toNat (dflt y110)).1.length:Int)),p 75 (M i64 (v0.1.2.2.getD v1.1.toNat (dflt y110)).1),p 74 (AV.pel 1009 0 v1.1.toNat 4 0),p 73 (AV.pel 1009 0 v1.1.toNat 4 0),p 72 (I v1.1),p 71 (O 1009),p 70 (AV.ptr 3 4),p 69 (M i64 (v0.1.2.2.getD v1.1.toNat (dflt y110)).1),p 68 (AV.pel 1009 0 v1.1.toNat 4 0),p 67 (AV.pel 1009 0 v1.1.toNat 4 0),p 66 (I v1.1),p 65 (O 1009),p 64 (AV.ptr 3 4),p 0 (R 500000),p 2 (R 2),p 3 (R 3),p 4 (I v1.1),p 16 (I v2.1),p 62 (B (v2.1==4))] ((500000,bx 152 (cellsD false y152 (vl (u88 v2.2 5)).2))::(500000,K 152 y152 v2.2)::(3,bx 34 (Q9 v0.1.2.1))::W3 v0.1.2.2 v0.1.1)) (fun((v20,v21,v22,v23,v24,v25,v26,v27,v28,v29):Int×List Int×List Int×List Int×List Int×List Y165×List ByteArray×List Y175×List Y110×List Y163)=>Z [p 81 (N i64.pt v20),p 80 (I ((vl (u88 v2.2 5)).1-1)),p 79 (I (vl (u88 v2.2 5)).1),p 78 (R 500000),p 77 (I ((↑(v0.1.2.2.getD v1.1.toNat (dflt y110)).1.length:Int)-1)),p 76 (I (↑(v0.1.2.2.getD v1.1.toNat (dflt y110)).1.length:Int)),p 75 (M i64 v21),p 74 (AV.pel 1009 0 v1.1.toNat 4 0),p 73 (AV.pel 1009 0 v1.1.toNat 4 0),p 72 (I v1.1),p 71 (O 1009),p 70 (AV.ptr 3 4),p 69 (M i64 v22),p 68 (AV.pel 1009 0 v1.1.toNat 4 0),p 67 (AV.pel 1009 0 v1.1.toNat 4 0),p 66 (I v1.1),p 65 (O 1009),p 64 (AV.ptr 3 4),p 0 (R 500000),p 2 (R 2),p 3 (R 3),p 4 (I v1.1),p 16 (I v2.1),p 62 (B (v2.1==4))] ((500000,bx 152 (Q63 v23 (vl (u88 v2.2 5)).2.2.1 (vl (u88 v2.2 5)).2.2.2))::(500000,bx 152 (Q63 v24 v2.2.2.1 v2.2.2.2))::(3,bx 34 (Q64 v25 v26 v27))::W3 v28 v29)) (fun((v20,v21,v22,v23,v24,v25,v26,v27,v28,v29):Int×List Int×List Int×List Int×List Int×List Y165×List ByteArray×List Y175×List Y110×List Y163)=>Z (G10 []) ((500000,bx 152 (Q63 v23 (vl (u88 v2.2 5)).2.2.1 (vl (u88 v2.2 5)).2.2.2))::(3,bx 34 (Q64 v25 v26 v27))::W3 v28 v29)) (fun((v20,v21,v22,v23,v24,v25,v26,v27,v28,v29):Int×List Int×List Int×List Int×List Int×List Y165×List ByteArray×List Y175×List Y110×List Y163)=>True) H (by kernel_rfl) (fun _ h=>by obtain⟨_,_,rfl,he,ho⟩:=h; obtain⟨_,_,rfl,⟨v20,rfl,h1⟩,⟨_,_,rfl,rfl,⟨_,_,rfl,rfl,⟨_,_,rfl,rfl,⟨_,_,rfl,rfl,⟨_,_,rfl,rfl,⟨_,_,rfl,⟨v21,rfl,h2⟩,⟨_,_,rfl,rfl,⟨_,_,rfl,rfl,⟨_,_,rfl,rfl,⟨_,_,rfl,rfl,⟨_,_,rfl,rfl,⟨_,_,rfl,⟨v22,rfl,h3⟩,⟨_,_,rfl,rfl,⟨_,_,rfl,rfl,⟨_,_,rfl,rfl,⟨_,_,rfl,rfl,⟨_,_,rfl,rfl,⟨_,_,rfl,rfl,⟨_,_,rfl,rfl,⟨_,_,rfl,rfl,⟨_,_,rfl,rfl,⟨_,_,rfl,rfl,⟨_,_,rfl,rfl,rfl⟩⟩⟩⟩⟩⟩⟩⟩⟩⟩⟩⟩⟩⟩⟩⟩⟩⟩⟩⟩⟩⟩⟩⟩:=he; obtain⟨_,_,rfl,⟨_,rfl,⟨_,_,rfl,⟨v23,rfl,h4⟩,⟨_,_,rfl,rfl,⟨_,_,rfl,rfl,rfl⟩⟩⟩⟩,⟨_,_,rfl,⟨_,rfl,⟨_,_,rfl,⟨v24,rfl,h5⟩,⟨_,_,rfl,rfl,⟨_,_,rfl,rfl,rfl⟩⟩⟩⟩,⟨_,_,rfl,⟨_,rfl,⟨_,_,rfl,rfl,⟨_,_,rfl,⟨v25,rfl,h6⟩,⟨_,_,rfl,⟨v26,rfl,h7⟩,⟨_,_,rfl,⟨v27,rfl,h8⟩,⟨_,_,rfl,rfl,rfl⟩⟩⟩⟩⟩⟩,⟨_,_,rfl,⟨v28,rfl,h9⟩,⟨_,_,rfl,⟨v29,rfl,h10⟩,⟨_,_,rfl,⟨_,rfl,⟨_,_,rfl,rfl,⟨_,_,rfl,rfl,⟨_,_,rfl,rfl,⟨_,_,rfl,rfl,⟨_,_,rfl,rfl,rfl⟩⟩⟩⟩⟩⟩,rfl⟩⟩⟩⟩⟩⟩:=ho; exact⟨⟨v20,v21,v22,v23,v24,v25,v26,v27,v28,v29⟩,⟨h1,h2,h3,h4,h5,h6,h7,h8,h9,h10⟩,rfl⟩) (fun _=>by kernel_rfl) fun⟨v20,v21,v22,v23,v24,v25,v26,v27,v28,v29⟩ H=>gdC H fun H=>fK<|n0 H
 refine qA (Z (G10 [p 82 (B (v2.1==5))]) ((500000,K 152 y152 v2.2)::(3,bx 34 (Q9 v0.1.2.1))::W3 v0.1.2.2 v0.1.1))<|cD H (fun H=>?_) (fun H=>?_)
 ·refine zH tok (HT.h) hB 5 [2,3] (Z [p 88 (N (i64.pr i64).pt (v0.1.2.1.2.2.getD (Int.toNat (0:Int)) (dflt y175)).2),p 87 (N y175.pt (v0.1.2.1.2.2.getD (Int.toNat (0:Int)) (dflt y175))),p 86 (M y175 v0.1.2.1.2.2),p 85 (AV.ptr 3 3),p 84 (AV.ptr 3 1),p 2 (R 2),p 3 (R 3),p 82 (B (v2.1==(5:Int)))] ((500000,K 152 y152 v2.2)::(3,bx 34 (Q9 v0.1.2.1))::W3 v0.1.2.2 v0.1.1)) (fun((v30,v31,v32,v33,v34,v35,v36,v37,v38):(Int×Int)×Y175×List Y175×List Int×List Y165×List ByteArray×List Y175×List Y110×List Y163)=>Z [p 88 (N (i64.pr i64).pt v30),p 87 (N y175.pt v31),p 86 (M y175 v32),p 85 (AV.ptr 3 3),p 84 (AV.ptr 3 1),p 2 (R 2),p 3 (R 3),p 82 (B (v2.1==5))] ((500000,bx 152 (Q63 v33 v2.2.2.1 v2.2.2.2))::(3,bx 34 (Q64 v34 v35 v36))::W3 v37 v38)) (fun((v30,v31,v32,v33,v34,v35,v36,v37,v38):(Int×Int)×Y175×List Y175×List Int×List Y165×List ByteArray×List Y175×List Y110×List Y163)=>Z (G10 []) ((500000,bx 152 (Q63 v33 v2.2.2.1 v2.2.2.2))::(3,bx 34 (Q64 v34 v35 v36))::W3 v37 v38)) (fun((v30,v31,v32,v33,v34,v35,v36,v37,v38):(Int×Int)×Y175×List Y175×List Int×List Y165×List ByteArray×List Y175×List Y110×List Y163)=>True) H (by kernel_rfl) (fun _ h=>by obtain⟨_,_,rfl,he,ho⟩:=h; obtain⟨_,_,rfl,⟨v30,rfl,h1⟩,⟨_,_,rfl,⟨v31,rfl,h2⟩,⟨_,_,rfl,⟨v32,rfl,h3⟩,⟨_,_,rfl,rfl,⟨_,_,rfl,rfl,⟨_,_,rfl,rfl,⟨_,_,rfl,rfl,⟨_,_,rfl,rfl,rfl⟩⟩⟩⟩⟩⟩⟩⟩:=he; obtain⟨_,_,rfl,⟨_,rfl,⟨_,_,rfl,⟨v33,rfl,h4⟩,⟨_,_,rfl,rfl,⟨_,_,rfl,rfl,rfl⟩⟩⟩⟩,⟨_,_,rfl,⟨_,rfl,⟨_,_,rfl,rfl,⟨_,_,rfl,⟨v34,rfl,h5⟩,⟨_,_,rfl,⟨v35,rfl,h6⟩,⟨_,_,rfl,⟨v36,rfl,h7⟩,⟨_,_,rfl,rfl,rfl⟩⟩⟩⟩⟩⟩,⟨_,_,rfl,⟨v37,rfl,h8⟩,⟨_,_,rfl,⟨v38,rfl,h9⟩,⟨_,_,rfl,⟨_,rfl,⟨_,_,rfl,rfl,⟨_,_,rfl,rfl,⟨_,_,rfl,rfl,⟨_,_,rfl,rfl,⟨_,_,rfl,rfl,rfl⟩⟩⟩⟩⟩⟩,rfl⟩⟩⟩⟩⟩:=ho; exact⟨⟨v30,v31,v32,v33,v34,v35,v36,v37,v38⟩,⟨h1,h2,h3,h4,h5,h6,h7,h8,h9⟩,rfl⟩) (fun _=>by kernel_rfl) fun⟨v30,v31,v32,v33,v34,v35,v36,v37,v38⟩ H=>gdC H fun H=>fK<|n0 H
 exact vK<|fK<|n0 H
abbrev P54(x:denPs [.io 152 y152]):Prop:=sd x.1
def R54(r:Y34×Y152):AV:=AV.agg (Q0 r.1)
def Z54(r:Y34×Y152):IOT [.io 152 y152]:=r.2
def K54:Prop:=kE prog 54 [.io 152 y152] P54 T54 R54 Z54
def u54J0[Alw](v0:Int×Y152):Bool->Option (Unit)
 | v2 =>
 if v2=true then
  gd (True/\P112 (v0.2,(6:Int),true,()))<|Alw.alp (wpE [Par.io 152 y152,Par.dat i64,Par.dat Ty.bool] T112 R112 Z112) fun(v3:(Y34×Y152)) =>
  gd (True) <|
  gd (T54 (v3.1,Z112 v3))<|some ()
 else
  gd (True/\P112 (v0.2,(6:Int),false,()))<|Alw.alp (wpE [Par.io 152 y152,Par.dat i64,Par.dat Ty.bool] T112 R112 Z112) fun(v4:(Y34×Y152)) =>
  gd (True) <|
  gd (T54 (v4.1,Z112 v4))<|some ()
def u54[Alw](a0:Y152):Option (Unit) :=
 gd ((u88 a0 12).isSome=true/\True)<|lt (vl (u88 a0 12)) fun v0 =>
 if(v0.1==0)=true then
  gd (True/\P111 (v0.2,()))<|Alw.alp (wpE [Par.io 152 y152] T111 R111 Z111) fun(v1:(Y34×Y152)) =>
  gd (True) <|
  gd (T54 (v1.1,Z111 v1))<|some ()
 else
  if(v0.1==1)=true then
   u54J0 v0 (v0.1==1)
  else
   u54J0 v0 (v0.1==2)
theorem e54[Alw](h112:K112)(h111:K111)(hF:∀x,Xv.wfs [.io 152 y152] x->P54 x->u54 x.1=some ()):K54:=by
 refine okEl (f:=54) (ps:=[.io 152 y152]) (pre:=P54) (post:=T54) (R:=R54) (Z:=Z54) (F:=fun x=>u54 x.1) tok [.cell 2 34] hF func54 ntmps54 rfl results54 (by kernel_rfl) rfl ?_;intro y ⟨a0,_⟩ r H hB Q hn hr;have:HT _ _:=⟨tc o88 tn⟩;refine qA (Z (G22 []) [(2,bx 34 [nil,nil,nil,nil,nil]),(500000,K 152 y152 a0)])<|vQ<|qD (fun v0=>Z (G22 [p 4 (I v0.1)]) (W46 v0.2)) H fun v0 H=>vB<|qA (Z (G22 [p 4 (I v0.1),p 5 (B (v0.1==0))]) (W46 v0.2))<|cD H (fun H=>?_) (fun H=>?_)
 ·refine vQ<|zE tok (HT.h) h111 1 [2] (fun(v1:Y34×Y152)=>Z [p 2 (R 2)] [(2,bx 34 (Q0 v1.1)),(500000,bx 152 (cellsD false y152 (Z111 v1)))]) (fun(v1:Y34×Y152)=>True) H (fun _=>by kernel_rfl) fun v1 hp111 H=>gdC H fun H=>fQ<|vTT<|fDD<|fR<|hr (v1.1,Z111 v1) (gd_some H).1 (by kernel_rfl)
 refine jN r (fun(v2:Bool)=>Z (G22 [p 9 (B v2)]) (W46 v0.2)) (u54J0 v0) (fun v2 H=>?_) (fun _ n0 e0 t0=>?_)
 ·refine cD H (fun H=>?_) (fun H=>?_)
  ·refine vQ<|zE tok (HT.h) h112 1 [2] (fun(v3:Y34×Y152)=>Z [p 2 (R 2)] [(2,bx 34 [AV.os 13 0,M y165 v3.1.2.1.1,M Ty.str v3.1.2.1.2.1,M y175 v3.1.2.1.2.2,AV.os 1013 0]),(1013,A 110 y110 v3.1.2.2 0),(13,Ob.arr 163 false y163 v3.1.1 0),(500000,bx 152 (cellsD false y152 (Z112 v3)))]) (fun(v3:Y34×Y152)=>True) H (fun _=>by kernel_rfl) fun v3 hp112 H=>gdC H fun H=>fQ<|vTT<|fDD<|fR<|hr (v3.1,Z112 v3) (gd_some H).1 (by kernel_rfl)
  refine vK<|fK<|fQ<|vQ<|zE tok (HT.h) h112 1 [2] (fun(v4:Y34×Y152)=>Z [p 2 (R 2)] [(2,bx 34 [AV.os 15 0,M y165 v4.1.2.1.1,M Ty.str v4.1.2.1.2.1,M y175 v4.1.2.1.2.2,AV.os 1015 0]),(1015,A 110 y110 v4.1.2.2 0),(15,Ob.arr 163 false y163 v4.1.1 0),(500000,bx 152 (cellsD false y152 (Z112 v4)))]) (fun(v4:Y34×Y152)=>True) H (fun _=>by kernel_rfl) fun v4 hp112 H=>gdC H fun H=>fQ<|vTT<|hr (v4.1,Z112 v4) (gd_some H).1 (by kernel_rfl)
 refine qA (Z (G22 [p 4 (I v0.1),p 9 (B (v0.1==1))]) (W46 v0.2))<|cD H (fun H=>?_) (fun H=>?_)
 ·exact vK<|n0 H
 refine zA (Z (G22 [p 9 (B (v0.1==2))]) (W46 v0.2))<|n0 H
abbrev P20(_x:denPs [.dat (b8.sl)]):Prop:=True
def R20(r:Y34×List Int×Int):AV:=AV.tup [AV.agg (Q0 r.1),M i64 r.2.1,I r.2.2]
def Z20(_r:Y34×List Int×Int):IOT [.dat (b8.sl)]:=()
def K20:Prop:=kE prog 20 [.dat (b8.sl)] P20 T20 R20 Z20
def u20[Alw](a0:List Int):Option (Unit) :=
 gd ((u53 a0).isSome=true/\True)<|lt (vl (u53 a0)) fun v0 =>
 gd (True/\P54 (v0,()))<|Alw.alp (wpE [Par.io 152 y152] T54 R54 Z54) fun(v1:(Y34×Y152)) =>
 gd (True) <|
 gd ((u55 (Z54 v1) v1.1).isSome=true/\(u64 (vl (u55 (Z54 v1) v1.1)).2 v1.1).isSome=true/\True)<|lt ((vl (u64 (vl (u55 (Z54 v1) v1.1)).2 v1.1),vl (u55 (Z54 v1) v1.1))) fun(v2,v3) =>
 gd (T20 (v1.1,v3.1,v2.1))<|some ()
theorem e20[Alw](h54:K54)(hF:∀x,Xv.wfs [.dat (b8.sl)] x->P20 x->u20 x.1=some ()):K20:=by
 refine okEl (f:=20) (ps:=[.dat (b8.sl)]) (pre:=P20) (post:=T20) (R:=R20) (Z:=Z20) (F:=fun x=>u20 x.1) tok [.cell 2 34,.tmp 3,.tmp 4] hF func20 ntmps20 rfl results20 (by kernel_rfl) rfl ?_;intro y ⟨a0,_⟩ r H hB Q hn hr;have:HT _ _:=⟨tc o64 (tc o55 (tc o53 tn))⟩;refine qA (Z [p 0 (L b8 a0),p 2 (R 2)] [(2,bx 34 [nil,nil,nil,nil,nil])])<|qD (fun v0=>Z [p 2 (R 2),p 5 (R 8)] [(8,bx 152 [L b8 v0.1,I v0.2.1,I v0.2.2]),(2,bx 34 [nil,nil,nil,nil,nil])]) H fun v0 H=>vQ<|zE tok (HT.h) h54 1 [2,5,6] (fun(v1:Y34×Y152)=>Z [p 2 (R 2),p 5 (R 8),p 6 (R 6)] [(6,bx 34 (Q0 v1.1)),(8,bx 152 (cellsD false y152 (Z54 v1))),(2,bx 34 [nil,nil,nil,nil,nil])]) (fun(v1:Y34×Y152)=>True) H (fun _=>by kernel_rfl) fun v1 hp54 H=>gdC H fun H=>fQ<|qD (fun(v2,v3)=>Z [p 2 (R 2),p 3 (O 14),p 4 (I v2.1)] [(2,bx 34 (Q0 v1.1)),(8,K 152 y152 v2.2),(14,A 2 i64 v3.1 0),(6,bx 34 (Q0 v1.1))]) H fun⟨v2,v3⟩ H =>
  vTT<|hr (v1.1,v3.1,v2.1) (gd_some H).1 (by kernel_rfl)
def u4J0[Alw](v1:List Y48×Int)(v0:Y34×List Int×Int):Int×Int->Option (Bool)
 | (v25,v26) =>
 gd (in64 ((v1.1.length:Int)-(v0.2.1.length:Int))/\True) <|
 some (v25==(v1.1.length:Int)-(v0.2.1.length:Int)&&v26==v25)
def u4J2[Alw](v16:Int)(g1:Int×Int×Int->Option (Bool)):Int×Int->Option (Bool)
 | (v23,v24) =>
 gd (in64 (v16+1)/\True) <|
 g1 (v23,v24,v16+1)
def u4J5[Alw](v16:Int)(v14:Int)(v17:List Int×Int)(v15:Int)(v18:List Int×Int)(g1:Int×Int×Int->Option (Bool)):Unit->Option (Bool)
 | _ =>
 gd (in64 (v14+(v17.1.length:Int))/\True) <|
 gd (in64 (v15+(v18.1.length:Int))/\True) <|
 u4J2 v16 g1 ((v14+(v17.1.length:Int),v15+(v18.1.length:Int)))
def u4L6[Alw](v18:List Int×Int)(v1:List Y48×Int)(v16:Int)(v0:Y34×List Int×Int)(v14:Int)(v17:List Int×Int)(v15:Int)(g1:Int×Int×Int->Option (Bool))(g6:Int->Option (Bool)):Int->Option (Bool)
 | v22 =>
 if(decide (v22 < (v18.1.length:Int)))=true then
  gd (ix v22 v18.1.length/\v22.toNat<v18.1.length/\(decide (v18.1.getD v22.toNat 0<0)=false/\True->ix v22 v18.1.length)/\(decide (v18.1.getD v22.toNat 0<0)=false/\True->v22.toNat<v18.1.length)/\((decide (v18.1.getD v22.toNat 0<0)||decide ((v1.1.length:Int)<=v18.1.getD v22.toNat 0))=false/\True->ix v22 v18.1.length)/\((decide (v18.1.getD v22.toNat 0<0)||decide ((v1.1.length:Int)<=v18.1.getD v22.toNat 0))=false/\True->v22.toNat<v18.1.length)/\((decide (v18.1.getD v22.toNat 0<0)||decide ((v1.1.length:Int)<=v18.1.getD v22.toNat 0))=false/\True->ix (v18.1.getD v22.toNat 0) v1.1.length)/\((decide (v18.1.getD v22.toNat 0<0)||decide ((v1.1.length:Int)<=v18.1.getD v22.toNat 0)||(v1.1.getD (Int.toNat (v18.1.getD v22.toNat 0)) (dflt y48)).2.1 != v16)=false/\True->ix v22 v18.1.length)/\((decide (v18.1.getD v22.toNat 0<0)||decide ((v1.1.length:Int)<=v18.1.getD v22.toNat 0)||(v1.1.getD (Int.toNat (v18.1.getD v22.toNat 0)) (dflt y48)).2.1 != v16)=false/\True->v22.toNat<v18.1.length)/\((decide (v18.1.getD v22.toNat 0<0)||decide ((v1.1.length:Int)<=v18.1.getD v22.toNat 0)||(v1.1.getD (Int.toNat (v18.1.getD v22.toNat 0)) (dflt y48)).2.1 != v16)=false/\True->(u18 v0.2.1 (v18.1.getD v22.toNat 0)).isSome=true)/\True) <|
  if(decide (v18.1.getD v22.toNat 0<0)||decide ((v1.1.length:Int)<=v18.1.getD v22.toNat 0)||(v1.1.getD (Int.toNat (v18.1.getD v22.toNat 0)) (dflt y48)).2.1 != v16||vl (u18 v0.2.1 (v18.1.getD v22.toNat 0)))=true then
   some false
  else
   gd (in64 (v22+1)/\True) <|
   g6 (v22+1)
 else
  u4J5 v16 v14 v17 v15 v18 g1 ()
def u4J3[Alw](v18:List Int×Int)(v1:List Y48×Int)(v16:Int)(v0:Y34×List Int×Int)(v14:Int)(v17:List Int×Int)(v15:Int)(g1:Int×Int×Int->Option (Bool)):Unit->Option (Bool)
 | _ =>
 lp (u4L6 v18 v1 v16 v0 v14 v17 v15 g1) 0
def u4L4[Alw](v17:List Int×Int)(v1:List Y48×Int)(v16:Int)(v0:Y34×List Int×Int)(v18:List Int×Int)(v14:Int)(v15:Int)(g1:Int×Int×Int->Option (Bool))(g4:Int->Option (Bool)):Int->Option (Bool)
 | v20 =>
 if(decide (v20 < (v17.1.length:Int)))=true then
  gd (ix v20 v17.1.length/\v20.toNat<v17.1.length/\(decide (v17.1.getD v20.toNat 0<0)=false/\True->ix v20 v17.1.length)/\(decide (v17.1.getD v20.toNat 0<0)=false/\True->v20.toNat<v17.1.length)/\((decide (v17.1.getD v20.toNat 0<0)||decide ((v1.1.length:Int)<=v17.1.getD v20.toNat 0))=false/\True->ix v20 v17.1.length)/\((decide (v17.1.getD v20.toNat 0<0)||decide ((v1.1.length:Int)<=v17.1.getD v20.toNat 0))=false/\True->v20.toNat<v17.1.length)/\((decide (v17.1.getD v20.toNat 0<0)||decide ((v1.1.length:Int)<=v17.1.getD v20.toNat 0))=false/\True->ix (v17.1.getD v20.toNat 0) v1.1.length)/\((decide (v17.1.getD v20.toNat 0<0)||decide ((v1.1.length:Int)<=v17.1.getD v20.toNat 0)||(v1.1.getD (Int.toNat (v17.1.getD v20.toNat 0)) (dflt y48)).1 != v16)=false/\True->ix v20 v17.1.length)/\((decide (v17.1.getD v20.toNat 0<0)||decide ((v1.1.length:Int)<=v17.1.getD v20.toNat 0)||(v1.1.getD (Int.toNat (v17.1.getD v20.toNat 0)) (dflt y48)).1 != v16)=false/\True->v20.toNat<v17.1.length)/\((decide (v17.1.getD v20.toNat 0<0)||decide ((v1.1.length:Int)<=v17.1.getD v20.toNat 0)||(v1.1.getD (Int.toNat (v17.1.getD v20.toNat 0)) (dflt y48)).1 != v16)=false/\True->(u18 v0.2.1 (v17.1.getD v20.toNat 0)).isSome=true)/\True) <|
  if(decide (v17.1.getD v20.toNat 0<0)||decide ((v1.1.length:Int)<=v17.1.getD v20.toNat 0)||(v1.1.getD (Int.toNat (v17.1.getD v20.toNat 0)) (dflt y48)).1 != v16||vl (u18 v0.2.1 (v17.1.getD v20.toNat 0)))=true then
   some false
  else
   gd (in64 (v20+1)/\True) <|
   g4 (v20+1)
 else
  u4J3 v18 v1 v16 v0 v14 v17 v15 g1 ()
def u4L1[Alw](v1:List Y48×Int)(v0:Y34×List Int×Int)(v2:Int)(g1:Int×Int×Int->Option (Bool)):Int×Int×Int->Option (Bool)
 | (v14,v15,v16) =>
 if(decide (v16<v2))=true then
  gd ((u24 v0.1 v0.2.1 v16).isSome=true/\True)<|lt (vl (u24 v0.1 v0.2.1 v16)) fun v17 =>
  gd ((u25 v0.1 v0.2.1 v16).isSome=true/\True)<|lt (vl (u25 v0.1 v0.2.1 v16)) fun v18 =>
  if(v17.2 != 0||v18.2 != 0)=true then
   some false
  else
   lp (u4L4 v17 v1 v16 v0 v18 v14 v15 g1) 0
 else
  u4J0 v1 v0 (v14,v15)
def u4[Alw](a0:List Int):Option (Bool) :=
 gd ((u12 a0).isSome=true/\True) <|
 if(vl (u12 a0))=true then
  some true
 else
  gd (True/\P20 (a0,()))<|Alw.alp (wpE [Par.dat b8.sl] T20 R20 Z20) fun(v0:(Y34×List Int×Int)) =>
  gd (True) <|
  gd ((u21 v0.1).isSome=true/\True)<|lt (vl (u21 v0.1)) fun v1 =>
  gd ((u22 v0.1).isSome=true/\True)<|lt (vl (u22 v0.1)) fun v2 =>
  gd ((u23 v0.1).isSome=true/\True) <|
  if(!vl (u23 v0.1))=true then
   some (v1.2==1&&v2 == -1)
  else
   gd ((u19 v0.1).isSome=true/\True)<|lt (vl (u19 v0.1)) fun v3 =>
   gd (((v1.2 != 0||(v1.1.length:Int) != (v3.1.length:Int))=false/\True->(u17 v0.1).isSome=true)/\True)<|lt (vl (u17 v0.1)) fun v4 =>
   if(v1.2 != 0||(v1.1.length:Int) != (v3.1.length:Int)||v2 != v4)=true then
    some false
   else
    gd ((u15 v0.1 v0.2.1).isSome=true/\True)<|lt (vl (u15 v0.1 v0.2.1)) fun v5 =>
    if(v5.2==2)=true then
     some true
    else
     lp (u4L1 v1 v0 v2) (0,0,0)
def k4[Alw]:Ct:=lct 4 [.dat (b8.sl)] (fun x=>u4 x.1) (fun r:Bool=>B r) (fun _=>())
theorem o4[Alw](h20:K20):Ok prog k4:=by
 refine okL [.tmp 2] func4 ntmps4 results4 ?_;intro y ⟨a0,_⟩ r H Q hn hr;have:HT _ _:=⟨tc o18 (tc o25 (tc o24 (tc o15 (tc o17 (tc o19 (tc o23 (tc o22 (tc o21 (tc o12 tn)))))))))⟩;refine qA (Z [p 0 (L b8 a0)] [])<|vQ<|qB (Z [p 0 (L b8 a0),p 23 (B (vl (u12 a0)))] []) H fun H=>cD H (fun H=>?_) (fun H=>?_)
 ·refine qA (Z [p 2 (B true)] [])<|vTT<|fR<|hr H
 refine vK<|fQ<|vQ<|zE tok (HT.h) h20 1 [3,4] (fun(v0:Y34×List Int×Int)=>Z [p 3 (R 3),p 4 (M i64 v0.2.1)] [(3,bx 34 (Q0 v0.1))]) (fun(v0:Y34×List Int×Int)=>True) H (fun _=>by kernel_rfl) fun v0 hp20 H=>gdC H fun H=>fQ<|qD (fun v1=>Z (G55 v0.2.1 v1.1 [p 7 (I v1.2)]) [(3,bx 34 (Q0 v0.1))]) H fun v1 H=>qD (fun v2=>Z (G55 v0.2.1 v1.1 [p 7 (I v1.2),p 8 (I v2)]) [(3,bx 34 (Q0 v0.1))]) H fun v2 H=>vQ<|qB (Z (G55 v0.2.1 v1.1 [p 7 (I v1.2),p 8 (I v2),p 39 (B !vl (u23 v0.1))]) [(3,bx 34 (Q0 v0.1))]) H fun H=>cD H (fun H=>?_) (fun H=>?_)
 ·refine qA (Z [p 2 (B (v1.2==1&&v2 == -1))] [(3,bx 34 (Q0 v0.1))])<|vTT<|fR<|hr H
 refine vK<|fQ<|qD (fun v3=>Z (G55 v0.2.1 v1.1 [p 7 (I v1.2),p 8 (I v2),p 9 (O 48)]) [(48,A 48 y48 v3.1 0),(3,bx 34 (Q0 v0.1))]) H fun v3 H=>vQ<|qD (fun v4=>Z (G55 v0.2.1 v1.1 [p 8 (I v2),p 65 (B (v1.2 != 0||(v1.1.length:Int) != (v3.1.length:Int)||v2 != v4))]) [(48,A 48 y48 v3.1 0),(3,bx 34 (Q0 v0.1))]) H fun v4 H=>cD H (fun H=>?_) (fun H=>?_)
 ·refine qA (Z [p 2 (B false)] [(48,A 48 y48 v3.1 0),(3,bx 34 (Q0 v0.1))])<|vTT<|fR<|hr H
 refine vK<|fQ<|qD (fun v5=>Z (G55 v0.2.1 v1.1 [p 8 (I v2),p 12 (I v5.2)]) [(69,A 2 i64 v5.1 0),(48,A 48 y48 v3.1 0),(3,bx 34 (Q0 v0.1))]) H fun v5 H=>vQ<|qA (Z (G55 v0.2.1 v1.1 [p 8 (I v2),p 73 (B (v5.2==2))]) [(69,A 2 i64 v5.1 0),(48,A 48 y48 v3.1 0),(3,bx 34 (Q0 v0.1))])<|cD H (fun H=>?_) (fun H=>?_)
 ·refine qA (Z [p 2 (B true)] [(69,A 2 i64 v5.1 0),(48,A 48 y48 v3.1 0),(3,bx 34 (Q0 v0.1))])<|vTT<|fR<|hr H
 refine vK<|fQ<|qA (Z (G55 v0.2.1 v1.1 [p 8 (I v2),p 13 (I 0),p 14 (I 0)]) [(69,A 2 i64 v5.1 0),(48,A 48 y48 v3.1 0),(3,bx 34 (Q0 v0.1))])<|jN r (fun((v25,v26):Int×Int)=>Z [p 4 (M i64 v0.2.1),p 6 (L y48 v1.1),p 13 (I v25),p 14 (I v26)] []) (u4J0 v1 v0) (fun⟨v25,v26⟩ H=>?_) (fun _ n0 e0 t0=>?_)
 ·refine qB (Z [p 2 (B (v25==(v1.1.length:Int)-(v0.2.1.length:Int)&&v26==v25))] []) H fun H=>vTT<|hr H
 refine qA (Z (G55 v0.2.1 v1.1 [p 8 (I v2),p 13 (I 0),p 14 (I 0),p 15 (I 0)]) [(69,A 2 i64 v5.1 0),(48,A 48 y48 v3.1 0),(3,bx 34 (Q0 v0.1))])<|vB<|lX (fun((v14,v15,v16):Int×Int×Int)=>Z (G5 v0.2.1 v1.1 v2 v14 v15 v16 []) [(3,bx 34 (Q0 v0.1))]) (0,0,0) H fun _ g1 b1 e1 t1 ⟨v14,v15,v16⟩ H=>vQ<|qA (Z (G5 v0.2.1 v1.1 v2 v14 v15 v16 [p 76 (B (decide (v16<v2)))]) [(3,bx 34 (Q0 v0.1))])<|cD H (fun H=>?_) (fun H=>?_)
 ·refine vK<|fQ<|jN r (fun((v23,v24):Int×Int)=>Z (G5 v0.2.1 v1.1 v2 v23 v24 v16 []) [(3,bx 34 (Q0 v0.1))]) (u4J2 v16 g1) (fun⟨v23,v24⟩ H=>?_) (fun _ n2 e2 t2=>?_)
  ·refine zB (Z (G5 v0.2.1 v1.1 v2 v23 v24 (v16+1) []) [(3,bx 34 (Q0 v0.1))]) H fun H=>b1 H
  refine vB<|qD (fun v17=>Z (G5 v0.2.1 v1.1 v2 v14 v15 v16 [p 16 (O 83),p 17 (I v17.2)]) [(83,A 2 i64 v17.1 0),(3,bx 34 (Q0 v0.1))]) H fun v17 H=>qD (fun v18=>Z (G5 v0.2.1 v1.1 v2 v14 v15 v16 [p 16 (O 83),p 17 (I v17.2),p 18 (O 90),p 19 (I v18.2)]) (W13 v18.1 v17.1 v0.1)) H fun v18 H=>vQ<|qA (Z (G5 v0.2.1 v1.1 v2 v14 v15 v16 [p 16 (O 83),p 18 (O 90),p 98 (B (v17.2 != 0||v18.2 != 0))]) (W13 v18.1 v17.1 v0.1))<|cD H (fun H=>?_) (fun H=>?_)
  ·refine qA (Z [p 2 (B false)] (W13 v18.1 v17.1 v0.1))<|vTT<|fR<|fDD<|t2<|t1<|fDD<|t0<|hr H
  refine vK<|fQ<|jN r (fun(_:Unit)=>Z (G5 v0.2.1 v1.1 v2 v14 v15 v16 [p 16 (O 83),p 18 (O 90)]) (W13 v18.1 v17.1 v0.1)) (u4J3 v18 v1 v16 v0 v14 v17 v15 g1) (fun _ H=>?_) (fun _ n3 e3 t3=>?_)
  ·refine jN r (fun(_:Unit)=>Z (G5 v0.2.1 v1.1 v2 v14 v15 v16 [p 16 (O 83),p 18 (O 90)]) (W13 v18.1 v17.1 v0.1)) (u4J5 v16 v14 v17 v15 v18 g1) (fun _ H=>?_) (fun _ n5 e5 t5=>?_)
   ·refine qB (Z (G5 v0.2.1 v1.1 v2 (v14+(v17.1.length:Int)) v15 v16 [p 18 (O 90)]) (W13 v18.1 v17.1 v0.1)) H fun H=>zB (Z (G5 v0.2.1 v1.1 v2 (v14+(v17.1.length:Int)) (v15+(v18.1.length:Int)) v16 []) (W13 v18.1 v17.1 v0.1)) H fun H=>fK<|n2 H
   refine qA (Z (G5 v0.2.1 v1.1 v2 v14 v15 v16 [p 16 (O 83),p 18 (O 90),p 21 (I 0)]) (W13 v18.1 v17.1 v0.1))<|vB<|lX (fun(v22:Int)=>Z (G5 v0.2.1 v1.1 v2 v14 v15 v16 [p 16 (O 83),p 18 (O 90),p 21 (I v22)]) (W13 v18.1 v17.1 v0.1)) 0 H fun _ g6 b6 e6 t6 v22 H=>vQ<|qA (Z (G5 v0.2.1 v1.1 v2 v14 v15 v16 [p 16 (O 83),p 18 (O 90),p 21 (I v22),p 142 (B (decide (v22 < (v18.1.length:Int))))]) (W13 v18.1 v17.1 v0.1))<|cD H (fun H=>?_) (fun H=>?_)
   ·refine vK<|fQ<|vQ<|vB<|qB (Z (G5 v0.2.1 v1.1 v2 v14 v15 v16 [p 16 (O 83),p 18 (O 90),p 21 (I v22),p 178 (B (decide (v18.1.getD v22.toNat 0<0)||decide ((v1.1.length:Int)<=v18.1.getD v22.toNat 0)||(v1.1.getD (Int.toNat (v18.1.getD v22.toNat 0)) (dflt y48)).2.1 != v16||vl (u18 v0.2.1 (v18.1.getD v22.toNat 0))))]) (W13 v18.1 v17.1 v0.1)) H fun H=>cD H (fun H=>?_) (fun H=>?_)
    ·refine qA (Z [p 2 (B false)] (W13 v18.1 v17.1 v0.1))<|vTT<|fDD<|fR<|t6<|fDD<|t5<|fDD<|t2<|t1<|fDD<|t0<|hr H
    refine vK<|fK<|fQ<|zB (Z (G5 v0.2.1 v1.1 v2 v14 v15 v16 [p 16 (O 83),p 18 (O 90),p 21 (I (v22+1))]) (W13 v18.1 v17.1 v0.1)) H fun H=>b6 H
   exact vE<|fE<|e6<|fX rfl<|n5 H
  refine qA (Z (G5 v0.2.1 v1.1 v2 v14 v15 v16 [p 16 (O 83),p 18 (O 90),p 20 (I 0)]) (W13 v18.1 v17.1 v0.1))<|vB<|lX (fun(v20:Int)=>Z (G5 v0.2.1 v1.1 v2 v14 v15 v16 [p 16 (O 83),p 18 (O 90),p 20 (I v20)]) (W13 v18.1 v17.1 v0.1)) 0 H fun _ g4 b4 e4 t4 v20 H=>vQ<|qA (Z (G5 v0.2.1 v1.1 v2 v14 v15 v16 [p 16 (O 83),p 18 (O 90),p 20 (I v20),p 102 (B (decide (v20 < (v17.1.length:Int))))]) (W13 v18.1 v17.1 v0.1))<|cD H (fun H=>?_) (fun H=>?_)
  ·refine vK<|fQ<|vQ<|vB<|qB (Z (G5 v0.2.1 v1.1 v2 v14 v15 v16 [p 16 (O 83),p 18 (O 90),p 20 (I v20),p 138 (B (decide (v17.1.getD v20.toNat 0<0)||decide ((v1.1.length:Int)<=v17.1.getD v20.toNat 0)||(v1.1.getD (Int.toNat (v17.1.getD v20.toNat 0)) (dflt y48)).1 != v16||vl (u18 v0.2.1 (v17.1.getD v20.toNat 0))))]) (W13 v18.1 v17.1 v0.1)) H fun H=>cD H (fun H=>?_) (fun H=>?_)
   ·refine qA (Z [p 2 (B false)] (W13 v18.1 v17.1 v0.1))<|vTT<|fDD<|fR<|t4<|fDD<|t3<|fDD<|t2<|t1<|fDD<|t0<|hr H
   refine vK<|fK<|fQ<|zB (Z (G5 v0.2.1 v1.1 v2 v14 v15 v16 [p 16 (O 83),p 18 (O 90),p 20 (I (v20+1))]) (W13 v18.1 v17.1 v0.1)) H fun H=>b4 H
  exact vE<|fE<|e4<|fX rfl<|n3 H
 exact vE<|fE<|e1<|fX rfl<|n0 H
end Go.Proofs.YtphnknndgfgepaaGreatDoor
end
