/- Functions of this program as plain functions of data, and that they are so: printed by program. -/
import Derived.Test.YtphnknndgfgepaaGreatDoorF76c
section
namespace Go.Proofs.YtphnknndgfgepaaGreatDoor
open Go Go.Proofs Go.Proofs.Sv Go.Proofs.Xv Go.Proofs.Xl Go.RowKit
open Tryz
def F0c(r:x9×l8):AV:=AV.agg [M i64 r.1.1,M i64 r.1.2.1,M i64 r.1.2.2.1,M i64 r.1.2.2.2]
def y0b(r:x9×l8):IOT [.io 152 l7,.dat i64]:=r.2
def F0f:Prop:=kE prog 172 [.io 152 l7,.dat i64] D0c D0X F0c y0b
def q0F[Alw](v43:List Int)(v44:List Int)(v45:List Int):List Int×Int×Int×List Int->Option (Unit)
 | (v53,v54,v55,v56) =>
 gd (D0X (((v43,v44,v45,v56),v53,v54,v55)))<|some ()
def w0D[Alw](v43:List Int)(v44:List Int)(v45:List Int)(g3:Int×List Int×Int×Int×List Int->Option (Unit)):Int×List Int×Int×Int×List Int->Option (Unit)
 | (v47,v48,v49,v50,v51) =>
 if(decide (v47 < (v51.length:Int)))=true then
  gd ((u88 (v48,v49,v50) (v43.length:Int)).isSome=true/\ix v47 v51.length/\v47.toNat<v51.length/\True)<|lt (vl (u88 (v48,v49,v50) (v43.length:Int))) fun v52 =>
  gd (l3 (v47+1)/\True) <|
  g3 (v47+1,v52.2.1,v52.2.2.1,v52.2.2.2,v51.set v47.toNat v52.1)
 else
  q0F v43 v44 v45 (v48,v49,v50,v51)
def q0G[Alw](v0:x9):List Int×Int×Int×List Int×List Int×List Int->Option (Unit)
 | (v40,v41,v42,v43,v44,v45) =>
 lp (w0D v43 v44 v45) (0,v40,v41,v42,v0.2.2.2)
def w0E[Alw](v0:x9)(g1:Int×List Int×Int×Int×List Int×List Int×List Int->Option (Unit)):Int×List Int×Int×Int×List Int×List Int×List Int->Option (Unit)
 | (v27,v28,v29,v30,v31,v32,v33) =>
 if(decide (0<v27))=true then
  gd ((J9 v31).isSome=true/\(u88 (v28,v29,v30) (v31.length:Int)).isSome=true/\((vl (J9 v31)).length+[(vl (u88 (v28,v29,v30) (v31.length:Int))).1].length<=9223372036854775807/\((vl (J9 v31)).length+[(vl (u88 (v28,v29,v30) (v31.length:Int))).1].length)*8<=140737488355328)/\(J9 v32).isSome=true/\(u88 (vl (u88 (v28,v29,v30) (v31.length:Int))).2 400).isSome=true/\((vl (J9 v32)).length+[(vl (u88 (vl (u88 (v28,v29,v30) (v31.length:Int))).2 400)).1].length<=9223372036854775807/\((vl (J9 v32)).length+[(vl (u88 (vl (u88 (v28,v29,v30) (v31.length:Int))).2 400)).1].length)*8<=140737488355328)/\(J9 v33).isSome=true/\(u88 (vl (u88 (vl (u88 (v28,v29,v30) (v31.length:Int))).2 400)).2 8).isSome=true/\((vl (J9 v33)).length+[(vl (u88 (vl (u88 (vl (u88 (v28,v29,v30) (v31.length:Int))).2 400)).2 8)).1].length<=9223372036854775807/\((vl (J9 v33)).length+[(vl (u88 (vl (u88 (vl (u88 (v28,v29,v30) (v31.length:Int))).2 400)).2 8)).1].length)*8<=140737488355328)/\True)<|lt ((vl (J9 v33),vl (u88 (vl (u88 (vl (u88 (v28,v29,v30) (v31.length:Int))).2 400)).2 8),vl (J9 v32),vl (u88 (vl (u88 (v28,v29,v30) (v31.length:Int))).2 400),vl (J9 v31),vl (u88 (v28,v29,v30) (v31.length:Int)))) fun(v34,v35,v36,v37,v38,v39) =>
  gd (l3 (v27-1)/\True) <|
  g1 (v27-1,v35.2.1,v35.2.2.1,v35.2.2.2,v38++[v39.1],v36++[v37.1],v34++[v35.1])
 else
  q0G v0 (v28,v29,v30,v31,v32,v33)
def D0t[Alw](a0:l8)(a1:Int):Option (Unit) :=
 gd ((u88 a0 6).isSome=true/\(B0E a1 (vl (u88 a0 6)).1).isSome=true/\True)<|lt ((vl (B0E a1 (vl (u88 a0 6)).1),vl (u88 a0 6))) fun(v0,v1) =>
 gd ((u88 v1.2 4).isSome=true/\True)<|lt (vl (u88 v1.2 4)) fun v2 =>
 lp (w0E v0) (v2.1,v2.2.1,v2.2.2.1,v2.2.2.2,v0.1,v0.2.1,v0.2.2.1)
theorem L0q[Alw](hF:∀x,Xv.wfs [.io 152 l7,.dat i64] x->D0c x->D0t x.1 x.2.1=some ()):F0f:=by
 refine y0X (f:=172) (ps:=[.io 152 l7,.dat i64]) (pre:=D0c) (post:=D0X) (R:=F0c) (Z:=y0b) (F:=fun x=>D0t x.1 x.2.1) tok [.cell 4 110] hF func172 ntmps172 rfl results172 (by kernel_rfl) rfl ?_;intro y ⟨a0,a1,_⟩ r H hB Q hn hr;have:HT _ _:=⟨tc o88 (tc F0K (tc I0j tn))⟩;refine qA (Z (G14 a1 [p 4 (R 4)]) [(4,bx 110 [nil,nil,nil,nil]),(500000,K 152 l7 a0)])<|qD (fun(v0,v1)=>Z (G25 []) [(5,bx 110 [AV.os 12 0,AV.os 1012 0,AV.os 2012 0,AV.os 3012 0]),(3012,A 2 i64 v0.2.2.2 0),(2012,A 2 i64 v0.2.2.1 0),(1012,A 2 i64 v0.2.1 0),(12,A 2 i64 v0.1 0),(500000,K 152 l7 v1.2),(4,bx 110 [nil,nil,nil,nil])]) H fun w H=>?_
 obtain⟨v0,v1⟩:=w;refine jN r (fun((v40,v41,v42,v43,v44,v45):List Int×Int×Int×List Int×List Int×List Int)=>Z (G25 []) ((500000,bx 152 (Q63 v40 v41 v42))::(5,bx 110 (Q66 v43 v44 v45))::W21 v0.2.2.2)) (q0G v0) (fun⟨v40,v41,v42,v43,v44,v45⟩ H=>?_) (fun _ n0 e0 t0=>?_)
 ·refine jN r (fun((v53,v54,v55,v56):List Int×Int×Int×List Int)=>Z [p 4 (R 4),p 5 (R 5)] ((500000,bx 152 (Q63 v53 v54 v55))::(5,bx 110 (Q66 v43 v44 v45))::W21 v56)) (q0F v43 v44 v45) (fun⟨v53,v54,v55,v56⟩ H=>?_) (fun _ n2 e2 t2=>?_)
  ·refine qA (Z [p 4 (R 4)] [(4,bx 110 (Q66 v43 v44 v45)),(500000,bx 152 (Q63 v53 v54 v55)),(5,bx 110 (Q66 v43 v44 v45)),(3012,A 2 i64 v56 0)])<|vTT<|hr (((v43,v44,v45,v56),v53,v54,v55)) (J5 H).1 (by kernel_rfl)
  refine qA (Z (G25 [p 8 (I 0)]) ((500000,bx 152 (Q63 v40 v41 v42))::(5,bx 110 (Q66 v43 v44 v45))::W21 v0.2.2.2))<|vB<|lX (fun((v47,v48,v49,v50,v51):Int×List Int×Int×Int×List Int)=>Z (G25 [p 8 (I v47)]) ((500000,bx 152 (Q63 v48 v49 v50))::(5,bx 110 (Q66 v43 v44 v45))::W21 v51)) (0,v40,v41,v42,v0.2.2.2) H fun _ g3 b3 e3 t3 ⟨v47,v48,v49,v50,v51⟩ H=>vQ<|qA (Z (G25 [p 8 (I v47),p 51 (B (decide (v47 < (v51.length:Int))))]) ((500000,bx 152 (Q63 v48 v49 v50))::(5,bx 110 (Q66 v43 v44 v45))::W21 v51))<|cD H (fun H=>?_) (fun H=>?_)
  ·refine vK<|fQ<|vQ<|vB<|zD (fun v52=>Z (G25 [p 8 (I v47)]) [(3012,A 2 i64 (v51.set v47.toNat v52.1) 0),(500000,K 152 l7 v52.2),(5,bx 110 (Q66 v43 v44 v45)),(4,bx 110 [nil,nil,nil,nil])]) H fun v52 H=>fK<|fQ<|zB (Z (G25 [p 8 (I (v47+1))]) [(3012,A 2 i64 (v51.set v47.toNat v52.1) 0),(500000,K 152 l7 v52.2),(5,bx 110 (Q66 v43 v44 v45)),(4,bx 110 [nil,nil,nil,nil])]) H fun H=>b3 H
  exact vE<|fE<|e3<|fX rfl<|n2 H
 refine qD (fun v2=>Z (G25 [p 6 (I v2.1)]) [(500000,K 152 l7 v2.2),(5,bx 110 [AV.os 12 0,AV.os 1012 0,AV.os 2012 0,AV.os 3012 0]),(3012,A 2 i64 v0.2.2.2 0),(2012,A 2 i64 v0.2.2.1 0),(1012,A 2 i64 v0.2.1 0),(12,A 2 i64 v0.1 0),(4,bx 110 [nil,nil,nil,nil])]) H fun v2 H=>vB<|fZs [12,1012,2012] (Z (G25 [p 6 (I v2.1)]) ((500000,K 152 l7 v2.2)::(5,bx 110 (Q66 v0.1 v0.2.1 v0.2.2.1))::W21 v0.2.2.2))<|lX (fun((v27,v28,v29,v30,v31,v32,v33):Int×List Int×Int×Int×List Int×List Int×List Int)=>Z (G25 [p 6 (I v27)]) ((500000,bx 152 (Q63 v28 v29 v30))::(5,bx 110 (Q66 v31 v32 v33))::W21 v0.2.2.2)) (v2.1,v2.2.1,v2.2.2.1,v2.2.2.2,v0.1,v0.2.1,v0.2.2.1) H fun _ g1 b1 e1 t1 ⟨v27,v28,v29,v30,v31,v32,v33⟩ H=>vQ<|qA (Z (G25 [p 6 (I v27),p 16 (B (decide (0<v27)))]) ((500000,bx 152 (Q63 v28 v29 v30))::(5,bx 110 (Q66 v31 v32 v33))::W21 v0.2.2.2))<|cD H (fun H=>?_) (fun H=>?_)
 ·refine vK<|fQ<|vQ<|vB<|qA (Z (G25 [p 6 (I v27),p 7 (I (v31.length:Int))]) ((500000,bx 152 (Q63 v28 v29 v30))::(5,bx 110 (Q66 v31 v32 v33))::W21 v0.2.2.2))<|zD (fun(v34,v35,v36,v37,v38,v39)=>Z (G25 [p 6 (I v27)]) ((5,bx 110 [AV.os 24 1,AV.os 32 1,AV.os 39 1,AV.os 3012 0])::(39,A 2 i64 (v34++[v35.1]) 1)::(42,A 2 i64 [v35.1] 0)::(500000,K 152 l7 v35.2)::(32,A 2 i64 (v36++[v37.1]) 1)::(35,A 2 i64 [v37.1] 0)::(24,A 2 i64 (v38++[v39.1]) 1)::(28,A 2 i64 [v39.1] 0)::W21 v0.2.2.2)) H fun⟨v34,v35,v36,v37,v38,v39⟩ H =>
   fK<|fQ <|
   zB (Z (G25 [p 6 (I (v27-1))]) ((5,bx 110 [AV.os 24 1,AV.os 32 1,AV.os 39 1,AV.os 3012 0])::(39,A 2 i64 (v34++[v35.1]) 1)::(42,A 2 i64 [v35.1] 0)::(500000,K 152 l7 v35.2)::(32,A 2 i64 (v36++[v37.1]) 1)::(35,A 2 i64 [v37.1] 0)::(24,A 2 i64 (v38++[v39.1]) 1)::(28,A 2 i64 [v39.1] 0)::W21 v0.2.2.2)) H fun H =>
   fzF 24 (Z (G25 [p 6 (I (v27-1))]) ((5,bx 110 [M i64 (v38++[v39.1]),AV.os 32 1,AV.os 39 1,AV.os 3012 0])::(39,A 2 i64 (v34++[v35.1]) 1)::(42,A 2 i64 [v35.1] 0)::(500000,K 152 l7 v35.2)::(32,A 2 i64 (v36++[v37.1]) 1)::(35,A 2 i64 [v37.1] 0)::(28,A 2 i64 [v39.1] 0)::W21 v0.2.2.2)) (by kernel_rfl) rfl<|fzF 32 (Z (G25 [p 6 (I (v27-1))]) ((5,bx 110 [M i64 (v38++[v39.1]),M i64 (v36++[v37.1]),AV.os 39 1,AV.os 3012 0])::(39,A 2 i64 (v34++[v35.1]) 1)::(42,A 2 i64 [v35.1] 0)::(500000,K 152 l7 v35.2)::(35,A 2 i64 [v37.1] 0)::(28,A 2 i64 [v39.1] 0)::W21 v0.2.2.2)) (by kernel_rfl) rfl<|fzF 39 (Z (G25 [p 6 (I (v27-1))]) ((5,bx 110 (Q66 (v38++[v39.1]) (v36++[v37.1]) (v34++[v35.1])))::(42,A 2 i64 [v35.1] 0)::(500000,K 152 l7 v35.2)::(35,A 2 i64 [v37.1] 0)::(28,A 2 i64 [v39.1] 0)::W21 v0.2.2.2)) (by kernel_rfl) rfl<|b1 H
 exact vE<|fE<|e1<|fX rfl<|n0 H
def F0d(r:Y31×l8):AV:=AV.agg (Q61 r.1.1 r.1.2.1 r.1.2.2)
def q0e(r:Y31×l8):IOT [.io 152 l7,.dat i64,.dat .bool]:=r.2
def F0g:Prop:=kE prog 171 [.io 152 l7,.dat i64,.dat .bool] E0a D0Y F0d q0e
def g0M[Alw](v152:List m7)(v98:List ByteArray):List r7×List Int×Int×Int->Option (Unit)
 | (v163,v164,v165,v166) =>
 gd (D0Y (((v152,v98,v163),v164,v165,v166)))<|some ()
def n0m[Alw](v98:List ByteArray)(v1:List r7):List Int×Int×Int×List m7×List m7×List m7×List ByteArray×List r7->Option (Unit)
 | (v149,v150,v151,v152,_v153,_v154,_v155,_v156) =>
 gd ((0+v1.length<=9223372036854775807/\(0+v1.length)*32<=140737488355328)/\True) <|
 gd (l3 ((v98.length:Int)-(1:Int))/\(([]++v1).length+[(ByteArray.mk #[(121:UInt8)],(2:Int),(v98.length:Int)-(1:Int))].length<=9223372036854775807/\(([]++v1).length+[(ByteArray.mk #[(121:UInt8)],(2:Int),(v98.length:Int)-(1:Int))].length)*32<=140737488355328)/\True)<|lt (([]++v1++[(ByteArray.mk #[(121:UInt8)],(2:Int),(v98.length:Int)-(1:Int))],[(ByteArray.mk #[(121:UInt8)],(2:Int),(v98.length:Int)-(1:Int))])) fun(v157,_v158) =>
 gd ((u88 (v149,v150,v151) 2).isSome=true/\True)<|lt (vl (u88 (v149,v150,v151) 2)) fun v159 =>
 if(v159.1==0)=true then
  gd (l3 ((v98.length:Int)-(1:Int))/\(u88 v159.2 ((v98.length:Int)-(1:Int))).isSome=true/\l3 ((1:Int)+(vl (u88 v159.2 ((v98.length:Int)-(1:Int)))).1)/\(v157.length+[(ByteArray.mk #[(122:UInt8)],(2:Int),(1:Int)+(vl (u88 v159.2 ((v98.length:Int)-(1:Int)))).1)].length<=9223372036854775807/\(v157.length+[(ByteArray.mk #[(122:UInt8)],(2:Int),(1:Int)+(vl (u88 v159.2 ((v98.length:Int)-(1:Int)))).1)].length)*32<=140737488355328)/\True)<|lt ((vl (u88 v159.2 ((v98.length:Int)-1)),v157++[(ByteArray.mk #[(122:UInt8)],(2:Int),(1:Int)+(vl (u88 v159.2 ((v98.length:Int)-(1:Int)))).1)],[(ByteArray.mk #[(122:UInt8)],(2:Int),(1:Int)+(vl (u88 v159.2 ((v98.length:Int)-(1:Int)))).1)])) fun(v160,v161,_v162) =>
  g0M v152 v98 (v161,v160.2.1,v160.2.2.1,v160.2.2.2)
 else
  g0M v152 v98 (v157,v159.2.1,v159.2.2.1,v159.2.2.2)
def k0r[Alw](v122:Int)(g8:Int×List Int×Int×Int×List m7×List m7×List m7×List ByteArray×List r7->Option (Unit)):List Int×Int×Int×List m7×List m7×List m7×List ByteArray×List r7->Option (Unit)
 | (v141,v142,v143,v144,v145,v146,v147,v148) =>
 gd (l3 (v122+1)/\True) <|
 g8 (v122+1,v141,v142,v143,v144,v145,v146,v147,v148)
def w0F[Alw](v98:List ByteArray)(a2:Bool)(v1:List r7)(g8:Int×List Int×Int×Int×List m7×List m7×List m7×List ByteArray×List r7->Option (Unit)):Int×List Int×Int×Int×List m7×List m7×List m7×List ByteArray×List r7->Option (Unit)
 | (v122,v123,v124,v125,v126,v127,v128,v129,v130) =>
 if(decide (v122 < (v126.length:Int)))=true then
  gd ((u88 (v123,v124,v125) 4).isSome=true/\(((vl (u88 (v123,v124,v125) 4)).1==0)=true/\True->ix v122 v126.length)/\(((vl (u88 (v123,v124,v125) 4)).1==0)=true/\True->v122.toNat<v126.length)/\(((v126.getD v122.toNat (d6 y165)).2.1==5)=false/\((vl (u88 (v123,v124,v125) 4)).1==0)=true/\True->ix v122 v126.length)/\(((v126.getD v122.toNat (d6 y165)).2.1==5)=false/\((vl (u88 (v123,v124,v125) 4)).1==0)=true/\True->v122.toNat<v126.length)/\True)<|lt (vl (u88 (v123,v124,v125) 4)) fun v131 =>
  if(v131.1==0&&((v126.getD v122.toNat (d6 y165)).2.1==5||(v126.getD v122.toNat (d6 y165)).2.1==6||a2))=true then
   gd (ix v122 v126.length/\v122.toNat<v126.length/\l3 ((v98.length:Int)-1)/\(u88 v131.2 ((v98.length:Int)-1)).isSome=true/\l3 (1+(vl (u88 v131.2 ((v98.length:Int)-1))).1)/\ix 0 (v126.getD v122.toNat (d6 y165)).2.2.length/\True)<|Alw.alp (fun((v132,v133,v134,v135,v136,v137,v138,v139,v140):Int×List Int×List Int×List Int×List m7×List m7×List m7×List ByteArray×List r7)=>(shp i64.pt ((v126.getD v122.toNat (d6 y165)).2.2.getD (Int.toNat (0:Int)) (0:Int)) v132/\(wf i64.pt ((v126.getD v122.toNat (d6 y165)).2.2.getD (Int.toNat (0:Int)) (0:Int))->wf i64.pt v132))/\(shp i64.sl (v126.getD v122.toNat (d6 y165)).2.2 v133/\(wf i64.sl (v126.getD v122.toNat (d6 y165)).2.2->wf i64.sl v133))/\(shp b8.sl (vl (u88 v131.2 ((v98.length:Int)-1))).2.1 v134/\(wf b8.sl (vl (u88 v131.2 ((v98.length:Int)-1))).2.1->wf b8.sl v134))/\(shp b8.sl v131.2.1 v135/\(wf b8.sl v131.2.1->wf b8.sl v135))/\(AllS (shp y165) v126 v136)/\(shp y165.sl v127 v137/\(wf y165.sl v127->wf y165.sl v137))/\(shp y165.sl v128 v138/\(wf y165.sl v128->wf y165.sl v138))/\(shp Ty.str.sl v129 v139/\(wf Ty.str.sl v129->wf Ty.str.sl v139))/\(shp y175.sl v130 v140/\(wf y175.sl v130->wf y175.sl v140))) fun((_v132,_v133,v134,_v135,v136,v137,v138,v139,v140):Int×List Int×List Int×List Int×List m7×List m7×List m7×List ByteArray×List r7) =>
   gd (True) <|
   k0r v122 g8 ((v134,(vl (u88 v131.2 ((v98.length:Int)-1))).2.2.1,(vl (u88 v131.2 ((v98.length:Int)-1))).2.2.2,v136,v137,v138,v139,v140))
  else
   k0r v122 g8 (v131.2.1,v131.2.2.1,v131.2.2.2,v126,v127,v128,v129,v130)
 else
  n0m v98 v1 (v123,v124,v125,v126,v127,v128,v129,v130)
def n0n[Alw](a2:Bool)(v1:List r7):List Int×Int×Int×List ByteArray×List m7×List m7×List m7×List ByteArray×List r7->Option (Unit)
 | (v95,v96,v97,v98,v99,v100,v101,v102,v103) =>
 lp (w0F v98 a2 v1) (0,v95,v96,v97,v99,v100,v101,v102,v103)
def q0I[Alw](v44:Int)(v50:List m7)(v51:List m7)(v52:List ByteArray)(v53:List r7)(g1:Int×List Int×Int×Int×List ByteArray×List m7×List m7×List m7×List ByteArray×List r7->Option (Unit)):List m7×List ByteArray×List Int×Int×Int->Option (Unit)
 | (v90,v91,v92,v93,v94) =>
 gd (l3 (v44-1)/\True) <|
 g1 (v44-1,v92,v93,v94,v91,v90,v50,v51,v52,v53)
def q0H[Alw](v44:Int)(v50:List m7)(v51:List m7)(v52:List ByteArray)(v53:List r7)(v48:List ByteArray)(v49:List m7)(v56:ByteArray)(v55:Int)(g1:Int×List Int×Int×Int×List ByteArray×List m7×List m7×List m7×List ByteArray×List r7->Option (Unit)):List Int×List Int×Int×Int->Option (Unit)
 | (v83,v84,v85,v86) =>
 gd ((0+v83.length<=9223372036854775807/\(0+v83.length)*8<=140737488355328)/\(([]++v83).length+[(v48.length:Int)].length<=9223372036854775807/\(([]++v83).length+[(v48.length:Int)].length)*8<=140737488355328)/\True) <|
 gd ((t0j (v48.length:Int)).isSome=true/\(ByteArray.mk #[110]).size+(vl (t0j (v48.length:Int))).size<=9223372036854775807/\(v48.length+[ByteArray.mk #[110]++vl (t0j (v48.length:Int))].length<=9223372036854775807/\(v48.length+[ByteArray.mk #[110]++vl (t0j (v48.length:Int))].length)*16<=140737488355328)/\True)<|lt (vl (t0j (v48.length:Int))) fun v87 =>
 gd ((v49.length+[(ByteArray.mk #[117]++v56,v55,[]++v83++[(v48.length:Int)])].length<=9223372036854775807/\(v49.length+[(ByteArray.mk #[117]++v56,v55,[]++v83++[(v48.length:Int)])].length)*48<=140737488355328)/\True)<|lt ((v49++[(ByteArray.mk #[117]++v56,v55,[]++v83++[(v48.length:Int)])],[(ByteArray.mk #[117]++v56,v55,[]++v83++[(v48.length:Int)])])) fun(v88,_v89) =>
 q0I v44 v50 v51 v52 v53 g1 (v88,v48++[ByteArray.mk #[110]++v87],v84,v85,v86)
def k0s[Alw](v71:Int)(v72:List Int)(v78:List Int)(v79:Int)(v80:Int)(g4:Int×List Int×List Int×Int×Int->Option (Unit)):Int->Option (Unit)
 | v82 =>
 gd ((0+v72.length<=9223372036854775807/\(0+v72.length)*8<=140737488355328)/\(([]++v72).length+[v82].length<=9223372036854775807/\(([]++v72).length+[v82].length)*8<=140737488355328)/\True) <|
 gd (l3 (v71+1)/\True) <|
 g4 (v71+1,[]++v72++[v82],v78,v79,v80)
def k0t[Alw](v71:Int)(v72:List Int)(v55:Int)(g4:Int×List Int×List Int×Int×Int->Option (Unit)):List Int×Int×Int×Int->Option (Unit)
 | (v78,v79,v80,v81) =>
 if(decide (5<=v55)&&v71==1)=true then
  k0s v71 v72 v78 v79 v80 g4 0
 else
  k0s v71 v72 v78 v79 v80 g4 v81
def w0G[Alw](v55:Int)(v48:List ByteArray)(v44:Int)(v50:List m7)(v51:List m7)(v52:List ByteArray)(v53:List r7)(v49:List m7)(v56:ByteArray)(g1:Int×List Int×Int×Int×List ByteArray×List m7×List m7×List m7×List ByteArray×List r7->Option (Unit))(g4:Int×List Int×List Int×Int×Int->Option (Unit)):Int×List Int×List Int×Int×Int->Option (Unit)
 | (v71,v72,v73,v74,v75) =>
 gd (ix v55 [(2:Int),(2:Int),(3:Int),(3:Int),(4:Int),(3:Int),(3:Int),(3:Int)].length/\v55.toNat<[(2:Int),(2:Int),(3:Int),(3:Int),(4:Int),(3:Int),(3:Int),(3:Int)].length/\l3 ([(2:Int),(2:Int),(3:Int),(3:Int),(4:Int),(3:Int),(3:Int),(3:Int)].getD v55.toNat (0:Int)-(1:Int))/\True) <|
 if(decide (v71<[(2:Int),(2:Int),(3:Int),(3:Int),(4:Int),(3:Int),(3:Int),(3:Int)].getD v55.toNat (0:Int)-(1:Int)))=true then
  gd (l3 ((v48.length:Int)-1)/\(u88 (v73,v74,v75) ((v48.length:Int)-1)).isSome=true/\l3 (1+(vl (u88 (v73,v74,v75) ((v48.length:Int)-1))).1)/\True)<|lt (vl (u88 (v73,v74,v75) ((v48.length:Int)-1))) fun v76 =>
  gd ((u88 v76.2 3).isSome=true/\True)<|lt (vl (u88 v76.2 3)) fun v77 =>
  if(v77.1==0)=true then
   gd (l3 ((v48.length:Int)-1)/\True) <|
   k0t v71 v72 v55 g4 ((v77.2.1,v77.2.2.1,v77.2.2.2,(v48.length:Int)-1))
  else
   k0t v71 v72 v55 g4 (v77.2.1,v77.2.2.1,v77.2.2.2,1+v76.1)
 else
  q0H v44 v50 v51 v52 v53 v48 v49 v56 v55 g1 (v72,v73,v74,v75)
def w0H[Alw](a2:Bool)(v1:List r7)(g1:Int×List Int×Int×Int×List ByteArray×List m7×List m7×List m7×List ByteArray×List r7->Option (Unit)):Int×List Int×Int×Int×List ByteArray×List m7×List m7×List m7×List ByteArray×List r7->Option (Unit)
 | (v44,v45,v46,v47,v48,v49,v50,v51,v52,v53) =>
 if(decide (0<v44))=true then
  gd ((u88 (v45,v46,v47) 12).isSome=true/\ix (vl (u88 (v45,v46,v47) 12)).1 [0,1,2,2,3,4,5,5,5,6,7,1].length/\(vl (u88 (v45,v46,v47) 12)).1.toNat<[0,1,2,2,3,4,5,5,5,6,7,1].length/\True)<|lt ((vl (u88 (v45,v46,v47) 12),[(0:Int),(1:Int),(2:Int),(2:Int),(3:Int),(4:Int),(5:Int),(5:Int),(5:Int),(6:Int),(7:Int),(1:Int)].getD (vl (u88 (v45,v46,v47) (12:Int))).1.toNat (0:Int))) fun(v54,v55) =>
  gd ((t0j (v49.length:Int)).isSome=true/\(ByteArray.mk #[117]).size+(vl (t0j (v49.length:Int))).size<=9223372036854775807/\True)<|lt (vl (t0j (v49.length:Int))) fun v56 =>
  lp (w0G v55 v48 v44 v50 v51 v52 v53 v49 v56 g1) (0,[],v54.2.1,v54.2.2.1,v54.2.2.2)
 else
  n0n a2 v1 (v45,v46,v47,v48,v49,v50,v51,v52,v53)
def D0u[Alw](a0:l8)(a1:Int)(a2:Bool):Option (Unit) :=
 lt ([ByteArray.mk #[110,99,107],ByteArray.mk #[110,97],ByteArray.mk #[110,98]]) fun v0 =>
 lt ([(ByteArray.mk #[(99:UInt8),(107:UInt8)],(1:Int),(0:Int)),(ByteArray.mk #[(97:UInt8)],(1:Int),(1:Int)),(ByteArray.mk #[(98:UInt8)],(1:Int),(2:Int))]) fun v1 =>
 gd ((0+v0.length<=9223372036854775807/\(0+v0.length)*16<=140737488355328)/\True) <|
 gd (l3 (a1-1)/\(u88 a0 (a1-1)).isSome=true/\l3 (2+(vl (u88 a0 (a1-1))).1)/\True)<|lt (vl (u88 a0 (a1-1))) fun v2 =>
 lp (w0H a2 v1) (2+v2.1,v2.2.1,v2.2.2.1,v2.2.2.2,[]++v0,[],[],[],[],[])
theorem L0r[Alw](hF:∀x,Xv.wfs [.io 152 l7,.dat i64,.dat .bool] x->E0a x->D0u x.1 x.2.1 x.2.2.1=some ()):F0g:=by
 refine y0X (f:=171) (ps:=[.io 152 l7,.dat i64,.dat .bool]) (pre:=E0a) (post:=D0Y) (R:=F0d) (Z:=q0e) (F:=fun x=>D0u x.1 x.2.1 x.2.2.1) tok [.cell 6 31] hF func171 ntmps171 rfl results171 (by kernel_rfl) rfl ?_;intro y ⟨a0,a1,a2,_⟩ r H hB Q hn hr;have:HT _ _:=⟨tc o88 (tc E0F tn)⟩;refine qA (Z (G14 a1 [p 2 (C a2),p 6 (R 6)]) [(6,bx 31 [nil,nil,nil]),(500000,K 152 l7 a0)])<|qC (fun v0=>Z (G14 a1 [p 2 (C a2),p 6 (R 6),p 7 (R 7)]) [(7,bx 31 [nil,AV.os 18 0,nil]),(18,A 9 Ty.str v0 0),(6,bx 31 [nil,nil,nil]),(500000,K 152 l7 a0)]) H fun v0 H=>qC (fun v1=>Z (G14 a1 [p 2 (C a2),p 6 (R 6),p 7 (R 7)]) (W42 v1 v0 a0)) H fun v1 H=>qA (Z (G14 a1 [p 2 (C a2),p 6 (R 6),p 7 (R 7),p 8 (O 25)]) ((25,A 2 i64 [2,2,3,3,4,3,3,3] 0)::W42 v1 v0 a0))<|qA (Z (G14 a1 [p 2 (C a2),p 6 (R 6),p 7 (R 7),p 8 (O 25),p 9 (O 26)]) ((26,A 165 y165 [] 0)::(25,A 2 i64 [2,2,3,3,4,3,3,3] 0)::W42 v1 v0 a0))<|qB (Z (G14 a1 [p 2 (C a2),p 6 (R 6),p 7 (R 7),p 8 (O 25),p 9 (O 26),p 10 (AV.os 27 1)]) ((27,A 9 Ty.str ([]++v0) 1)::(26,A 165 y165 [] 0)::(25,A 2 i64 [2,2,3,3,4,3,3,3] 0)::W42 v1 v0 a0)) H fun H=>jN r (fun((v95,v96,v97,v98,v99,v100,v101,v102,v103):List Int×Int×Int×List ByteArray×List m7×List m7×List m7×List ByteArray×List r7)=>Z (G30 a2 []) ((500000,bx 152 (Q63 v95 v96 v97))::(27,A 9 Ty.str v98 0)::(26,A 165 y165 v99 0)::W0 v100 v1 v0 v101 v102 v103)) (n0n a2 v1) (fun⟨v95,v96,v97,v98,v99,v100,v101,v102,v103⟩ H=>?_) (fun _ n0 e0 t0=>?_)
 ·refine jN r (fun((v149,v150,v151,v152,v153,v154,v155,v156):List Int×Int×Int×List m7×List m7×List m7×List ByteArray×List r7)=>Z (G28 [p 7 (R 7),p 9 (O 26),p 10 (O 27)]) ((500000,bx 152 (Q63 v149 v150 v151))::(27,A 9 Ty.str v98 0)::(26,A 165 y165 v152 0)::W0 v153 v1 v0 v154 v155 v156)) (n0m v98 v1) (fun⟨v149,v150,v151,v152,v153,v154,v155,v156⟩ H=>?_) (fun _ n7 e7 t7=>?_)
  ·refine qB (Z (G28 [p 9 (O 26),p 10 (O 27),p 17 (AV.os 146 1)]) ((146,A 175 y175 ([]++v1) 1)::(500000,bx 152 (Q63 v149 v150 v151))::(27,A 9 Ty.str v98 0)::(26,A 165 y165 v152 0)::W0 v153 v1 v0 v154 v155 v156)) H fun H=>qD (fun(v157,v158)=>Z (G28 [p 9 (O 26),p 10 (O 27),p 17 (AV.os 146 2)]) ((146,A 175 y175 v157 2)::(155,A 175 y175 v158 0)::(500000,bx 152 (Q63 v149 v150 v151))::(27,A 9 Ty.str v98 0)::(26,A 165 y165 v152 0)::W0 v153 v1 v0 v154 v155 v156)) H fun⟨v157,v158⟩ H =>
    jN r (fun((v163,v164,v165,v166):List r7×List Int×Int×Int)=>Z [p 6 (R 6),p 9 (O 26),p 10 (O 27),p 17 (O 146)] [(146,A 175 y175 v163 0),(500000,bx 152 (Q63 v164 v165 v166)),(27,A 9 Ty.str v98 0),(26,A 165 y165 v152 0),(6,bx 31 (Q61 v154 v155 v156))]) (g0M v152 v98) (fun⟨v163,v164,v165,v166⟩ H=>?_) (fun _ n10 e10 t10=>?_)
   ·refine qA (Z [p 6 (R 6)] [(6,bx 31 [AV.os 26 0,AV.os 27 0,AV.os 146 0]),(146,A 175 y175 v163 0),(500000,bx 152 (Q63 v164 v165 v166)),(27,A 9 Ty.str v98 0),(26,A 165 y165 v152 0)])<|vTT<|hr (((v152,v98,v163),v164,v165,v166)) (J5 H).1 (by kernel_rfl)
   refine qD (fun v159=>Z (G28 [p 9 (O 26),p 10 (O 27),p 17 (AV.os 146 2),p 159 (B (v159.1==0))]) ((500000,K 152 l7 v159.2)::(146,A 175 y175 v157 2)::(155,A 175 y175 v158 0)::(27,A 9 Ty.str v98 0)::(26,A 165 y165 v152 0)::W0 v153 v1 v0 v154 v155 v156)) H fun v159 H=>cD H (fun H=>?_) (fun H=>?_)
   ·refine zD (fun(v160,v161,v162)=>Z [p 6 (R 6),p 9 (O 26),p 10 (O 27),p 17 (AV.os 146 3)] ((146,A 175 y175 v161 3)::(168,A 175 y175 v162 0)::(500000,K 152 l7 v160.2)::(155,A 175 y175 v158 0)::(27,A 9 Ty.str v98 0)::(26,A 165 y165 v152 0)::W0 v153 v1 v0 v154 v155 v156)) H fun⟨v160,v161,v162⟩ H =>
     n10 H
   exact vK<|n10 H
  refine qA (Z (G30 a2 [p 16 (I 0)]) ((500000,bx 152 (Q63 v95 v96 v97))::(27,A 9 Ty.str v98 0)::(26,A 165 y165 v99 0)::W0 v100 v1 v0 v101 v102 v103))<|vB<|lX (fun((v122,v123,v124,v125,v126,v127,v128,v129,v130):Int×List Int×Int×Int×List m7×List m7×List m7×List ByteArray×List r7)=>Z (G30 a2 [p 16 (I v122)]) ((500000,bx 152 (Q63 v123 v124 v125))::(27,A 9 Ty.str v98 0)::(26,A 165 y165 v126 0)::W0 v127 v1 v0 v128 v129 v130)) (0,v95,v96,v97,v99,v100,v101,v102,v103) H fun _ g8 b8 e8 t8 ⟨v122,v123,v124,v125,v126,v127,v128,v129,v130⟩ H=>vQ<|qA (Z (G30 a2 [p 16 (I v122),p 109 (B (decide (v122 < (v126.length:Int))))]) ((500000,bx 152 (Q63 v123 v124 v125))::(27,A 9 Ty.str v98 0)::(26,A 165 y165 v126 0)::W0 v127 v1 v0 v128 v129 v130))<|cD H (fun H=>?_) (fun H=>?_)
  ·refine vK<|fQ<|jN r (fun((v141,v142,v143,v144,v145,v146,v147,v148):List Int×Int×Int×List m7×List m7×List m7×List ByteArray×List r7)=>Z (G30 a2 [p 16 (I v122)]) ((500000,bx 152 (Q63 v141 v142 v143))::(27,A 9 Ty.str v98 0)::(26,A 165 y165 v144 0)::W0 v145 v1 v0 v146 v147 v148)) (k0r v122 g8) (fun⟨v141,v142,v143,v144,v145,v146,v147,v148⟩ H=>?_) (fun _ n9 e9 t9=>?_)
   ·refine zB (Z (G30 a2 [p 16 (I (v122+1))]) ((500000,bx 152 (Q63 v141 v142 v143))::(27,A 9 Ty.str v98 0)::(26,A 165 y165 v144 0)::W0 v145 v1 v0 v146 v147 v148)) H fun H=>b8 H
   refine vB<|qD (fun v131=>Z (G30 a2 [p 16 (I v122),p 133 (B (v131.1==0&&((v126.getD v122.toNat (d6 y165)).2.1==5||(v126.getD v122.toNat (d6 y165)).2.1==6||a2)))]) ((500000,K 152 l7 v131.2)::(27,A 9 Ty.str v98 0)::(26,A 165 y165 v126 0)::W0 v127 v1 v0 v128 v129 v130)) H fun v131 H=>cD H (fun H=>?_) (fun H=>?_)
   ·refine zHD tok (HT.h) hB 12 [0,2,6,7,9,10,16] (Z [p 145 (N i64.pt ((v126.getD v122.toNat (d6 y165)).2.2.getD (Int.toNat (0:Int)) (0:Int))),p 144 (I ((1:Int)+(vl (u88 v131.2 ((v98.length:Int)-(1:Int)))).1)),p 143 (I (vl (u88 v131.2 ((v98.length:Int)-(1:Int)))).1),p 142 (I ((v98.length:Int)-(1:Int))),p 141 (I (v98.length:Int)),p 140 (O 27),p 139 (R 500000),p 138 (M i64 (v126.getD v122.toNat (d6 y165)).2.2),p 137 (AV.pel 26 0 v122.toNat 3 2),p 136 (AV.pel 26 0 v122.toNat 3 0),p 135 (I v122),p 134 (O 26),p 0 (R 500000),p 2 (C a2),p 6 (R 6),p 7 (R 7),p 9 (O 26),p 10 (O 27),p 16 (I v122),p 133 (B (v131.1==(0:Int)&&((v126.getD v122.toNat (d6 y165)).2.1==(5:Int)||(v126.getD v122.toNat (d6 y165)).2.1==(6:Int)||a2)))] ((500000,bx 152 (u1 false l7 (vl (u88 v131.2 ((v98.length:Int)-(1:Int)))).2))::(500000,K 152 l7 v131.2)::(27,A 9 Ty.str v98 0)::(26,A 165 y165 v126 0)::W0 v127 v1 v0 v128 v129 v130)) (fun((v132,v133,v134,v135,v136,v137,v138,v139,v140):Int×List Int×List Int×List Int×List m7×List m7×List m7×List ByteArray×List r7)=>Z [p 145 (N i64.pt v132),p 144 (I (1+(vl (u88 v131.2 ((v98.length:Int)-1))).1)),p 143 (I (vl (u88 v131.2 ((v98.length:Int)-1))).1),p 142 (I ((v98.length:Int)-1)),p 141 (I (v98.length:Int)),p 140 (O 27),p 139 (R 500000),p 138 (M i64 v133),p 137 (AV.pel 26 0 v122.toNat 3 2),p 136 (AV.pel 26 0 v122.toNat 3 0),p 135 (I v122),p 134 (O 26),p 0 (R 500000),p 2 (C a2),p 6 (R 6),p 7 (R 7),p 9 (O 26),p 10 (O 27),p 16 (I v122),p 133 (B (v131.1==0&&((v126.getD v122.toNat (d6 y165)).2.1==5||(v126.getD v122.toNat (d6 y165)).2.1==6||a2)))] ((500000,bx 152 (Q63 v134 (vl (u88 v131.2 ((v98.length:Int)-1))).2.2.1 (vl (u88 v131.2 ((v98.length:Int)-1))).2.2.2))::(500000,bx 152 (Q63 v135 v131.2.2.1 v131.2.2.2))::(27,A 9 Ty.str v98 0)::(26,A 165 y165 v136 0)::W0 v137 v1 v0 v138 v139 v140)) (fun((v132,v133,v134,v135,v136,v137,v138,v139,v140):Int×List Int×List Int×List Int×List m7×List m7×List m7×List ByteArray×List r7)=>Z (G30 a2 [p 16 (I v122)]) ((500000,bx 152 (Q63 v134 (vl (u88 v131.2 ((v98.length:Int)-1))).2.2.1 (vl (u88 v131.2 ((v98.length:Int)-1))).2.2.2))::(27,A 9 Ty.str v98 0)::(26,A 165 y165 v136 0)::W0 v137 v1 v0 v138 v139 v140)) (fun((v132,v133,v134,v135,v136,v137,v138,v139,v140):Int×List Int×List Int×List Int×List m7×List m7×List m7×List ByteArray×List r7)=>True) H (by kernel_rfl) (fun _ h=>by obtain⟨_,_,rfl,he,ho⟩:=h; obtain⟨_,_,rfl,⟨v132,rfl,h1⟩,⟨_,_,rfl,rfl,⟨_,_,rfl,rfl,⟨_,_,rfl,rfl,⟨_,_,rfl,rfl,⟨_,_,rfl,rfl,⟨_,_,rfl,rfl,⟨_,_,rfl,⟨v133,rfl,h2⟩,⟨_,_,rfl,rfl,⟨_,_,rfl,rfl,⟨_,_,rfl,rfl,⟨_,_,rfl,rfl,⟨_,_,rfl,rfl,⟨_,_,rfl,rfl,⟨_,_,rfl,rfl,⟨_,_,rfl,rfl,⟨_,_,rfl,rfl,⟨_,_,rfl,rfl,⟨_,_,rfl,rfl,⟨_,_,rfl,rfl,rfl⟩⟩⟩⟩⟩⟩⟩⟩⟩⟩⟩⟩⟩⟩⟩⟩⟩⟩⟩⟩:=he; obtain⟨_,_,rfl,⟨_,rfl,⟨_,_,rfl,⟨v134,rfl,h3⟩,⟨_,_,rfl,rfl,⟨_,_,rfl,rfl,rfl⟩⟩⟩⟩,⟨_,_,rfl,⟨_,rfl,⟨_,_,rfl,⟨v135,rfl,h4⟩,⟨_,_,rfl,rfl,⟨_,_,rfl,rfl,rfl⟩⟩⟩⟩,⟨_,_,rfl,rfl,⟨_,_,rfl,⟨v136,rfl,h5⟩,⟨_,_,rfl,⟨_,rfl,⟨_,_,rfl,⟨v137,rfl,h6⟩,⟨_,_,rfl,rfl,⟨_,_,rfl,rfl,rfl⟩⟩⟩⟩,⟨_,_,rfl,rfl,⟨_,_,rfl,rfl,⟨_,_,rfl,⟨_,rfl,⟨_,_,rfl,⟨v138,rfl,h7⟩,⟨_,_,rfl,⟨v139,rfl,h8⟩,⟨_,_,rfl,⟨v140,rfl,h9⟩,rfl⟩⟩⟩⟩,rfl⟩⟩⟩⟩⟩⟩⟩⟩:=ho; exact⟨⟨v132,v133,v134,v135,v136,v137,v138,v139,v140⟩,⟨h1,h2,h3,h4,h5,h6,h7,h8,h9⟩,rfl⟩) (fun _=>by kernel_rfl) fun⟨v132,v133,v134,v135,v136,v137,v138,v139,v140⟩ H=>gdC H fun H=>fK<|n9 H
   exact vK<|fK<|n9 H
  exact vE<|fE<|e8<|fX rfl<|n7 H
 refine qD (fun v2=>Z (G86 a2 (2+v2.1) []) [(500000,K 152 l7 v2.2),(27,A 9 Ty.str ([]++v0) 1),(26,A 165 y165 [] 0),(25,A 2 i64 [2,2,3,3,4,3,3,3] 0),(7,bx 31 [nil,AV.os 18 0,AV.os 23 0]),(23,A 175 y175 v1 0),(18,A 9 Ty.str v0 0),(6,bx 31 [nil,nil,nil])]) H fun v2 H=>vB<|lX (fun((v44,v45,v46,v47,v48,v49,v50,v51,v52,v53):Int×List Int×Int×Int×List ByteArray×List m7×List m7×List m7×List ByteArray×List r7)=>Z (G2 a2 v44 []) ((500000,bx 152 (Q63 v45 v46 v47))::(27,A 9 Ty.str v48 0)::(26,A 165 y165 v49 0)::(25,A 2 i64 [2,2,3,3,4,3,3,3] 0)::W0 v50 v1 v0 v51 v52 v53)) (2+v2.1,v2.2.1,v2.2.2.1,v2.2.2.2,[]++v0,[],[],[],[],[]) H fun _ g1 b1 e1 t1 ⟨v44,v45,v46,v47,v48,v49,v50,v51,v52,v53⟩ H=>vQ<|qA (Z (G2 a2 v44 [p 37 (B (decide (0<v44)))]) ((500000,bx 152 (Q63 v45 v46 v47))::(27,A 9 Ty.str v48 0)::(26,A 165 y165 v49 0)::(25,A 2 i64 [2,2,3,3,4,3,3,3] 0)::W0 v50 v1 v0 v51 v52 v53))<|cD H (fun H=>?_) (fun H=>?_)
 ·refine vK<|fQ<|jN r (fun((v90,v91,v92,v93,v94):List m7×List ByteArray×List Int×Int×Int)=>Z (G2 a2 v44 []) ((26,A 165 y165 v90 0)::(27,A 9 Ty.str v91 0)::(500000,bx 152 (Q63 v92 v93 v94))::(25,A 2 i64 [2,2,3,3,4,3,3,3] 0)::W0 v50 v1 v0 v51 v52 v53)) (q0I v44 v50 v51 v52 v53 g1) (fun⟨v90,v91,v92,v93,v94⟩ H=>?_) (fun _ n2 e2 t2=>?_)
  ·refine zB (Z (G2 a2 (v44-1) []) ((26,A 165 y165 v90 0)::(27,A 9 Ty.str v91 0)::(500000,bx 152 (Q63 v92 v93 v94))::(25,A 2 i64 [2,2,3,3,4,3,3,3] 0)::W0 v50 v1 v0 v51 v52 v53)) H fun H=>b1 H
  refine vB<|qD (fun(v54,v55)=>Z (G2 a2 v44 [p 12 (I v55)]) ((500000,K 152 l7 v54.2)::(40,A 2 i64 [0,1,2,2,3,4,5,5,5,6,7,1] 0)::(27,A 9 Ty.str v48 0)::(26,A 165 y165 v49 0)::(25,A 2 i64 [2,2,3,3,4,3,3,3] 0)::W0 v50 v1 v0 v51 v52 v53)) H fun w H=>?_
  obtain⟨v54,v55⟩:=w;refine qD (fun v56=>Z (G2 a2 v44 [p 12 (I v55),p 13 (R 13)]) ((13,bx 165 [S (ByteArray.mk #[117]++v56),I v55,nil])::(500000,K 152 l7 v54.2)::(40,A 2 i64 [0,1,2,2,3,4,5,5,5,6,7,1] 0)::(27,A 9 Ty.str v48 0)::(26,A 165 y165 v49 0)::(25,A 2 i64 [2,2,3,3,4,3,3,3] 0)::W0 v50 v1 v0 v51 v52 v53)) H fun v56 H=>jN r (fun((v83,v84,v85,v86):List Int×List Int×Int×Int)=>Z (G2 a2 v44 [p 13 (R 13)]) ((13,bx 165 [S (ByteArray.mk #[117]++v56),I v55,M i64 v83])::(500000,bx 152 (Q63 v84 v85 v86))::(27,A 9 Ty.str v48 0)::(26,A 165 y165 v49 0)::(25,A 2 i64 [2,2,3,3,4,3,3,3] 0)::W0 v50 v1 v0 v51 v52 v53)) (q0H v44 v50 v51 v52 v53 v48 v49 v56 v55 g1) (fun⟨v83,v84,v85,v86⟩ H=>?_) (fun _ n3 e3 t3=>?_)
  ·refine qB (Z (G2 a2 v44 [p 13 (R 13)]) ((13,bx 165 [S (ByteArray.mk #[117]++v56),I v55,AV.os 86 2])::(86,A 2 i64 ([]++v83++[(v48.length:Int)]) 2)::(92,A 2 i64 [(v48.length:Int)] 0)::(500000,bx 152 (Q63 v84 v85 v86))::(27,A 9 Ty.str v48 0)::(26,A 165 y165 v49 0)::(25,A 2 i64 [2,2,3,3,4,3,3,3] 0)::W0 v50 v1 v0 v51 v52 v53)) H fun H=>qD (fun v87=>Z (G86 a2 v44 [p 13 (R 13)]) ((27,A 9 Ty.str (v48++[ByteArray.mk #[110]++v87]) 1)::(100,A 9 Ty.str [ByteArray.mk #[110]++v87] 0)::(13,bx 165 [S (ByteArray.mk #[117]++v56),I v55,AV.os 86 2])::(86,A 2 i64 ([]++v83++[(v48.length:Int)]) 2)::(92,A 2 i64 [(v48.length:Int)] 0)::(500000,bx 152 (Q63 v84 v85 v86))::(26,A 165 y165 v49 0)::(25,A 2 i64 [2,2,3,3,4,3,3,3] 0)::W0 v50 v1 v0 v51 v52 v53)) H fun v87 H=>fZ 86 (Z (G86 a2 v44 [p 13 (R 13)]) ((27,A 9 Ty.str (v48++[ByteArray.mk #[110]++v87]) 1)::(100,A 9 Ty.str [ByteArray.mk #[110]++v87] 0)::(13,bx 165 [S (ByteArray.mk #[117]++v56),I v55,M i64 ([]++v83++[(v48.length:Int)])])::(92,A 2 i64 [(v48.length:Int)] 0)::(500000,bx 152 (Q63 v84 v85 v86))::(26,A 165 y165 v49 0)::(25,A 2 i64 [2,2,3,3,4,3,3,3] 0)::W0 v50 v1 v0 v51 v52 v53))<|zD (fun(v88,v89)=>Z [p 0 (R 500000),p 2 (C a2),p 6 (R 6),p 7 (R 7),p 8 (O 25),p 9 (AV.os 26 1),p 10 (AV.os 27 1),p 11 (I v44)] ((26,A 165 y165 v88 1)::(104,A 165 y165 v89 0)::(27,A 9 Ty.str (v48++[ByteArray.mk #[110]++v87]) 1)::(100,A 9 Ty.str [ByteArray.mk #[110]++v87] 0)::(13,bx 165 [S (ByteArray.mk #[117]++v56),I v55,M i64 ([]++v83++[(v48.length:Int)])])::(92,A 2 i64 [(v48.length:Int)] 0)::(500000,bx 152 (Q63 v84 v85 v86))::(25,A 2 i64 [2,2,3,3,4,3,3,3] 0)::W0 v50 v1 v0 v51 v52 v53)) H fun⟨v88,v89⟩ H =>
    fK<|n2 H
  refine qA (Z (G2 a2 v44 [p 12 (I v55),p 13 (R 13),p 14 (I 0)]) ((13,bx 165 [S (ByteArray.mk #[117]++v56),I v55,nil])::(500000,K 152 l7 v54.2)::(40,A 2 i64 [0,1,2,2,3,4,5,5,5,6,7,1] 0)::(27,A 9 Ty.str v48 0)::(26,A 165 y165 v49 0)::(25,A 2 i64 [2,2,3,3,4,3,3,3] 0)::W0 v50 v1 v0 v51 v52 v53))<|vB<|lX (fun((v71,v72,v73,v74,v75):Int×List Int×List Int×Int×Int)=>Z (G2 a2 v44 [p 12 (I v55),p 13 (R 13),p 14 (I v71)]) ((13,bx 165 [S (ByteArray.mk #[117]++v56),I v55,M i64 v72])::(500000,bx 152 (Q63 v73 v74 v75))::(27,A 9 Ty.str v48 0)::(26,A 165 y165 v49 0)::(25,A 2 i64 [2,2,3,3,4,3,3,3] 0)::W0 v50 v1 v0 v51 v52 v53)) (0,[],v54.2.1,v54.2.2.1,v54.2.2.2) H fun _ g4 b4 e4 t4 ⟨v71,v72,v73,v74,v75⟩ H=>vQ<|qB (Z (G2 a2 v44 [p 12 (I v55),p 13 (R 13),p 14 (I v71),p 57 (B (decide (v71<[(2:Int),(2:Int),(3:Int),(3:Int),(4:Int),(3:Int),(3:Int),(3:Int)].getD v55.toNat (0:Int)-(1:Int))))]) ((13,bx 165 [S (ByteArray.mk #[(117:UInt8)]++v56),I v55,M i64 v72])::(500000,bx 152 (Q63 v73 v74 v75))::(27,A 9 Ty.str v48 0)::(26,A 165 y165 v49 0)::(25,A 2 i64 [(2:Int),(2:Int),(3:Int),(3:Int),(4:Int),(3:Int),(3:Int),(3:Int)] 0)::W0 v50 v1 v0 v51 v52 v53)) H fun H=>cD H (fun H=>?_) (fun H=>?_)
  ·refine vK<|fQ<|vQ<|vB<|qD (fun v76=>Z (G2 a2 v44 [p 12 (I v55),p 13 (R 13),p 14 (I v71),p 15 (I (1+v76.1))]) ((500000,K 152 l7 v76.2)::(13,bx 165 [S (ByteArray.mk #[117]++v56),I v55,M i64 v72])::(27,A 9 Ty.str v48 0)::(26,A 165 y165 v49 0)::(25,A 2 i64 [2,2,3,3,4,3,3,3] 0)::W0 v50 v1 v0 v51 v52 v53)) H fun v76 H=>jN r (fun((v78,v79,v80,v81):List Int×Int×Int×Int)=>Z (G2 a2 v44 [p 12 (I v55),p 13 (R 13),p 14 (I v71),p 15 (I v81)]) ((500000,bx 152 (Q63 v78 v79 v80))::(13,bx 165 [S (ByteArray.mk #[117]++v56),I v55,M i64 v72])::(27,A 9 Ty.str v48 0)::(26,A 165 y165 v49 0)::(25,A 2 i64 [2,2,3,3,4,3,3,3] 0)::W0 v50 v1 v0 v51 v52 v53)) (k0t v71 v72 v55 g4) (fun⟨v78,v79,v80,v81⟩ H=>?_) (fun _ n5 e5 t5=>?_)
   ·refine jN r (fun(v82:Int)=>Z (G2 a2 v44 [p 12 (I v55),p 13 (R 13),p 14 (I v71),p 15 (I v82)]) ((500000,bx 152 (Q63 v78 v79 v80))::(13,bx 165 [S (ByteArray.mk #[117]++v56),I v55,M i64 v72])::(27,A 9 Ty.str v48 0)::(26,A 165 y165 v49 0)::(25,A 2 i64 [2,2,3,3,4,3,3,3] 0)::W0 v50 v1 v0 v51 v52 v53)) (k0s v71 v72 v78 v79 v80 g4) (fun v82 H=>?_) (fun _ n6 e6 t6=>?_)
    ·refine zB (Z (G2 a2 v44 [p 12 (I v55),p 13 (R 13),p 14 (I v71)]) ((13,bx 165 [S (ByteArray.mk #[117]++v56),I v55,AV.os 78 2])::(78,A 2 i64 ([]++v72++[v82]) 2)::(83,A 2 i64 [v82] 0)::(500000,bx 152 (Q63 v78 v79 v80))::(27,A 9 Ty.str v48 0)::(26,A 165 y165 v49 0)::(25,A 2 i64 [2,2,3,3,4,3,3,3] 0)::W0 v50 v1 v0 v51 v52 v53)) H fun H=>fK<|fQ<|zB (Z (G2 a2 v44 [p 12 (I v55),p 13 (R 13),p 14 (I (v71+1))]) ((13,bx 165 [S (ByteArray.mk #[117]++v56),I v55,AV.os 78 2])::(78,A 2 i64 ([]++v72++[v82]) 2)::(83,A 2 i64 [v82] 0)::(500000,bx 152 (Q63 v78 v79 v80))::(27,A 9 Ty.str v48 0)::(26,A 165 y165 v49 0)::(25,A 2 i64 [2,2,3,3,4,3,3,3] 0)::W0 v50 v1 v0 v51 v52 v53)) H fun H=>fzF 78 (Z (G2 a2 v44 [p 12 (I v55),p 13 (R 13),p 14 (I (v71+1))]) ((13,bx 165 [S (ByteArray.mk #[117]++v56),I v55,M i64 ([]++v72++[v82])])::(83,A 2 i64 [v82] 0)::(500000,bx 152 (Q63 v78 v79 v80))::(27,A 9 Ty.str v48 0)::(26,A 165 y165 v49 0)::(25,A 2 i64 [2,2,3,3,4,3,3,3] 0)::W0 v50 v1 v0 v51 v52 v53)) (by kernel_rfl) rfl<|b4 H
    refine qA (Z (G2 a2 v44 [p 12 (I v55),p 13 (R 13),p 14 (I v71),p 15 (I v81),p 77 (B (decide (5<=v55)&&v71==1))]) ((500000,bx 152 (Q63 v78 v79 v80))::(13,bx 165 [S (ByteArray.mk #[117]++v56),I v55,M i64 v72])::(27,A 9 Ty.str v48 0)::(26,A 165 y165 v49 0)::(25,A 2 i64 [2,2,3,3,4,3,3,3] 0)::W0 v50 v1 v0 v51 v52 v53))<|cD H (fun H=>?_) (fun H=>?_)
    ·refine zA (Z (G2 a2 v44 [p 12 (I v55),p 13 (R 13),p 14 (I v71),p 15 (I 0)]) ((500000,bx 152 (Q63 v78 v79 v80))::(13,bx 165 [S (ByteArray.mk #[117]++v56),I v55,M i64 v72])::(27,A 9 Ty.str v48 0)::(26,A 165 y165 v49 0)::(25,A 2 i64 [2,2,3,3,4,3,3,3] 0)::W0 v50 v1 v0 v51 v52 v53))<|n6 H
    exact vK<|n6 H
   refine qD (fun v77=>Z (G2 a2 v44 [p 12 (I v55),p 13 (R 13),p 14 (I v71),p 15 (I (1+v76.1)),p 68 (B (v77.1==0))]) ((500000,K 152 l7 v77.2)::(13,bx 165 [S (ByteArray.mk #[117]++v56),I v55,M i64 v72])::(27,A 9 Ty.str v48 0)::(26,A 165 y165 v49 0)::(25,A 2 i64 [2,2,3,3,4,3,3,3] 0)::W0 v50 v1 v0 v51 v52 v53)) H fun v77 H=>cD H (fun H=>?_) (fun H=>?_)
   ·refine zB (Z (G2 a2 v44 [p 12 (I v55),p 13 (R 13),p 14 (I v71),p 15 (I ((v48.length:Int)-1))]) ((500000,K 152 l7 v77.2)::(13,bx 165 [S (ByteArray.mk #[117]++v56),I v55,M i64 v72])::(27,A 9 Ty.str v48 0)::(26,A 165 y165 v49 0)::(25,A 2 i64 [2,2,3,3,4,3,3,3] 0)::W0 v50 v1 v0 v51 v52 v53)) H fun H=>n5 H
   exact vK<|n5 H
  exact vE<|fE<|e4<|fX rfl<|n3 H
 exact vE<|fE<|e1<|fX rfl<|n0 H
def A0D(r:Y34×l8):AV:=AV.agg [AV.ow 163 false y163 r.1.1,M y165 r.1.2.1.1,M Ty.str r.1.2.1.2.1,M y175 r.1.2.1.2.2,AV.ow 110 true l6 r.1.2.2]
def N7(r:Y34×l8):IOT [.io 152 l7,.dat i64,.dat .bool]:=r.2
def D0f:Prop:=kE prog 112 [.io 152 l7,.dat i64,.dat .bool] y0d z0W A0D N7
def r0b[Alw](v0:List m4×l8)(v1:Y31×l8):List x9×List Int×Int×Int->Option (Unit)
 | (v11,v12,v13,v14) =>
 gd (z0W (((v0.1,v1.1,v11),v12,v13,v14)))<|some ()
def x0C[Alw](v1:Y31×l8)(v0:List m4×l8)(g1:Int×List x9×List Int×Int×Int->Option (Unit)):Int×List x9×List Int×Int×Int->Option (Unit)
 | (v4,v5,v6,v7,v8) =>
 if(decide (v4 < (v1.1.2.1.length:Int)))=true then
  gd (((u71 v1.1 v4).isSome=true/\True)/\D0c ((v6,v7,v8),(↑(vl (u71 v1.1 v4)).length:Int),()))<|Alw.alp (wpE [Par.io 152 l7,Par.dat i64] D0X F0c y0b) fun(v9:(x9×l8)) =>
  gd ((v5.length+[v9.1].length<=9223372036854775807/\(v5.length+[v9.1].length)*96<=140737488355328)/\True) <|
  gd (l3 (v4+1)/\True)<|lt (vl (u71 v1.1 v4)) fun _v10 =>
  g1 ((v4+1,v5++[v9.1],(y0b v9).1,(y0b v9).2.1,(y0b v9).2.2))
 else
  r0b v0 v1 (v5,v6,v7,v8)
def D0z[Alw](a0:l8)(a1:Int)(a2:Bool):Option (Unit) :=
 gd ((B0L a0).isSome=true/\True)<|lt (vl (B0L a0)) fun v0 =>
 gd (True/\E0a (v0.2,a1,a2,()))<|Alw.alp (wpE [Par.io 152 l7,Par.dat i64,Par.dat Ty.bool] D0Y F0d q0e) fun(v1:(Y31×l8)) =>
 gd (True) <|
 lp (x0C v1 v0) ((0,[],(q0e v1).1,(q0e v1).2.1,(q0e v1).2.2))
theorem L0s[Alw](h172:F0f)(h171:F0g)(hF:∀x,Xv.wfs [.io 152 l7,.dat i64,.dat .bool] x->y0d x->D0z x.1 x.2.1 x.2.2.1=some ()):D0f:=by
 refine y0X (f:=112) (ps:=[.io 152 l7,.dat i64,.dat .bool]) (pre:=y0d) (post:=z0W) (R:=A0D) (Z:=N7) (F:=fun x=>D0z x.1 x.2.1 x.2.2.1) tok [.cell 6 34] hF func112 ntmps112 rfl results112 (by kernel_rfl) rfl ?_;intro y ⟨a0,a1,a2,_⟩ r H hB Q hn hr;have:HT _ _:=⟨tc o71 (tc I0v tn)⟩;refine qA (Z (G14 a1 [p 2 (C a2),p 6 (R 6)]) [(6,bx 34 [nil,nil,nil,nil,nil]),(500000,K 152 l7 a0)])<|qD (fun v0=>Z (G14 a1 [p 2 (C a2),p 6 (R 6),p 7 (R 7)]) [(7,bx 26 [AV.os 12 0]),(12,Ob.arr 163 false y163 v0.1 0),(500000,K 152 l7 v0.2),(6,bx 34 [nil,nil,nil,nil,nil])]) H fun v0 H=>vQ<|zE tok (HT.h) h171 3 [0,6,7,8] (fun(v1:Y31×l8)=>Z (G28 [p 7 (R 7),p 8 (R 8)]) ((8,bx 31 (u1 true y31 v1.1))::(500000,bx 152 (u1 false l7 (q0e v1)))::W18 v0.1)) (fun(v1:Y31×l8)=>True) H (fun _=>by kernel_rfl) fun v1 hp171 H=>gdC H fun H=>fQ<|qA (Z (G28 [p 7 (R 7),p 8 (R 8),p 9 (O 17)]) ((17,A 110 l6 [] 0)::(8,bx 31 (u1 true y31 v1.1))::(500000,bx 152 (u1 false l7 (q0e v1)))::W18 v0.1))<|jN r (fun((v11,v12,v13,v14):List x9×List Int×Int×Int)=>Z [p 6 (R 6),p 7 (R 7),p 8 (R 8),p 9 (O 17)] ((17,A 110 l6 v11 0)::(8,bx 31 (u1 true y31 v1.1))::(500000,bx 152 (Q63 v12 v13 v14))::W18 v0.1)) (r0b v0 v1) (fun⟨v11,v12,v13,v14⟩ H=>?_) (fun _ n0 e0 t0=>?_)
 ·refine qA (Z [p 6 (R 6)] [(6,bx 34 [AV.os 12 0,M y165 v1.1.1,M Ty.str v1.1.2.1,M y175 v1.1.2.2,AV.os 17 0]),(17,A 110 l6 v11 0),(8,bx 31 (u1 true y31 v1.1)),(500000,bx 152 (Q63 v12 v13 v14)),(7,bx 26 [AV.os 12 0]),(12,Ob.arr 163 false y163 v0.1 0)])<|vTT<|hr (((v0.1,v1.1,v11),v12,v13,v14)) (J5 H).1 (by kernel_rfl)
 refine qA (Z (G28 [p 7 (R 7),p 8 (R 8),p 9 (O 17),p 10 (I 0)]) ((17,A 110 l6 [] 0)::(8,bx 31 (u1 true y31 v1.1))::(500000,bx 152 (u1 false l7 (q0e v1)))::W18 v0.1))<|vB<|lX (fun((v4,v5,v6,v7,v8):Int×List x9×List Int×Int×Int)=>Z (G28 [p 7 (R 7),p 8 (R 8),p 9 (O 17),p 10 (I v4)]) ((17,A 110 l6 v5 0)::(8,bx 31 (u1 true y31 v1.1))::(500000,bx 152 [L b8 v6,J v7,J v8])::W18 v0.1)) ((0,[],(q0e v1).1,(q0e v1).2.1,(q0e v1).2.2)) H fun _ g1 b1 e1 t1 ⟨v4,v5,v6,v7,v8⟩ H=>vQ<|qA (Z (G28 [p 7 (R 7),p 8 (R 8),p 9 (O 17),p 10 (I v4),p 22 (B (decide (v4 < (v1.1.2.1.length:Int))))]) ((17,A 110 l6 v5 0)::(8,bx 31 (u1 true y31 v1.1))::(500000,bx 152 [L b8 v6,J v7,J v8])::W18 v0.1))<|cD H (fun H=>?_) (fun H=>?_)
 ·refine vK<|fQ<|vQ<|vB<|zE tok (HT.h) h172 6 [0,6,7,8,9,10] (fun(v9:x9×l8)=>Z (G28 [p 7 (R 7),p 8 (R 8),p 9 (AV.os 17 1),p 10 (I v4)]) ((17,A 110 l6 (v5++[v9.1]) 1)::(32,A 110 l6 [v9.1] 0)::(500000,bx 152 (u1 false l7 (y0b v9)))::(29,A 2 i64 (vl (u71 v1.1 v4)) 0)::(8,bx 31 (u1 true y31 v1.1))::W18 v0.1)) (fun(v9:x9×l8)=>(v5.length+[v9.1].length<=9223372036854775807/\(v5.length+[v9.1].length)*96<=140737488355328)/\True) H (fun _=>by kernel_rfl) fun v9 hp172 H=>gdC H fun H=>fK<|fQ<|zD (fun v10=>Z (G28 [p 7 (R 7),p 8 (R 8),p 9 (AV.os 17 1),p 10 (I (v4+1))]) ((17,A 110 l6 (v5++[v9.1]) 1)::(32,A 110 l6 [v9.1] 0)::(500000,bx 152 (u1 false l7 (y0b v9)))::(29,A 2 i64 v10 0)::(8,bx 31 (u1 true y31 v1.1))::W18 v0.1)) H fun v10 H=>b1 H
 exact vE<|fE<|e1<|fX rfl<|n0 H
abbrev E0b(x:w9 [.io 152 l7]):Prop:=sd x.1
def F0e(r:Y34×l8):AV:=AV.agg (Q0 r.1)
def A0C(r:Y34×l8):IOT [.io 152 l7]:=r.2
def F0h:Prop:=kE prog 111 [.io 152 l7] E0b D0Z F0e A0C
def d0I[Alw]:List Int×Int×Int×List x9×List m7×List ByteArray×List r7×List m4->Option (Unit)
 | (v39,v40,v41,v42,v43,v44,v45,v46) =>
 gd (D0Z (((v46,(v43,v44,v45),v42),v39,v40,v41)))<|some ()
def D0A[Alw](a0:l8):Option (Unit) :=
 gd (((u88 a0 (3:Int)).isSome=true/\True)/\y0d ((vl (u88 a0 (3:Int))).2,(6:Int),(vl (u88 a0 (3:Int))).1==(0:Int),()))<|Alw.alp (wpE [Par.io 152 l7,Par.dat i64,Par.dat Ty.bool] z0W A0D N7) fun(v0:(Y34×l8)) =>
 gd (True) <|
 gd ((u88 (N7 v0) (v0.1.2.2.length:Int)).isSome=true/\True)<|lt (vl (u88 (N7 v0) (v0.1.2.2.length:Int))) fun v1 =>
 gd ((u88 v1.2 20).isSome=true/\True)<|lt (vl (u88 v1.2 20)) fun v2 =>
 if(v2.1==0)=true then
  gd (((0:Int)<=(1:Int)/\(1:Int)<=(v0.1.2.2.length:Int)/\(v0.1.2.2.length:Int)<=(v0.1.2.2.length:Int))/\True) <|
  d0I ((v2.2.1,v2.2.2.1,v2.2.2.2,List.drop (Int.toNat (1:Int)) v0.1.2.2,v0.1.2.1.1,v0.1.2.1.2.1,v0.1.2.1.2.2,v0.1.1))
 else
  if(v2.1==1)=true then
   gd ((ix v1.1 v0.1.2.2.length/\v1.1.toNat<v0.1.2.2.length/\(J9 (v0.1.2.2.getD v1.1.toNat (d6 l6)).2.2.2).isSome=true/\((vl (J9 (v0.1.2.2.getD v1.1.toNat (d6 l6)).2.2.2)).length+[0].length<=9223372036854775807/\((vl (J9 (v0.1.2.2.getD v1.1.toNat (d6 l6)).2.2.2)).length+[0].length)*8<=140737488355328)/\ix v1.1 v0.1.2.2.length/\True)/\v1.1.toNat<v0.1.2.2.length/\True) <|
   d0I ((v2.2.1,v2.2.2.1,v2.2.2.2,v0.1.2.2.set v1.1.toNat ((v0.1.2.2.getD v1.1.toNat (d6 l6)).1,(v0.1.2.2.getD v1.1.toNat (d6 l6)).2.1,(v0.1.2.2.getD v1.1.toNat (d6 l6)).2.2.1,vl (J9 (v0.1.2.2.getD v1.1.toNat (d6 l6)).2.2.2)++[0]),v0.1.2.1.1,v0.1.2.1.2.1,v0.1.2.1.2.2,v0.1.1))
  else
   if(v2.1==2)=true then
    gd (ix v1.1 v0.1.2.2.length/\v1.1.toNat<v0.1.2.2.length/\ix 0 (v0.1.2.2.getD v1.1.toNat (d6 l6)).2.1.length/\True)<|Alw.alp (fun((v3,v4,v5,v6,v7,v8,v9,v10):Int×List Int×List Int×List m7×List ByteArray×List r7×List x9×List m4)=>(shp i64.pt ((v0.1.2.2.getD v1.1.toNat (d6 l6)).2.1.getD (Int.toNat (0:Int)) (0:Int)) v3/\(wf i64.pt ((v0.1.2.2.getD v1.1.toNat (d6 l6)).2.1.getD (Int.toNat (0:Int)) (0:Int))->wf i64.pt v3))/\(shp i64.sl (v0.1.2.2.getD v1.1.toNat (d6 l6)).2.1 v4/\(wf i64.sl (v0.1.2.2.getD v1.1.toNat (d6 l6)).2.1->wf i64.sl v4))/\(shp b8.sl v2.2.1 v5/\(wf b8.sl v2.2.1->wf b8.sl v5))/\(shp y165.sl v0.1.2.1.1 v6/\(wf y165.sl v0.1.2.1.1->wf y165.sl v6))/\(shp Ty.str.sl v0.1.2.1.2.1 v7/\(wf Ty.str.sl v0.1.2.1.2.1->wf Ty.str.sl v7))/\(shp y175.sl v0.1.2.1.2.2 v8/\(wf y175.sl v0.1.2.1.2.2->wf y175.sl v8))/\(AllS (shp l6) v0.1.2.2 v9)/\(AllS (shp y163) v0.1.1 v10)) fun((_v3,_v4,v5,v6,v7,v8,v9,v10):Int×List Int×List Int×List m7×List ByteArray×List r7×List x9×List m4) =>
    gd (True) <|
    d0I (v5,v2.2.2.1,v2.2.2.2,v9,v6,v7,v8,v10)
   else
    if(v2.1==3)=true then
     gd (ix v1.1 v0.1.2.2.length/\v1.1.toNat<v0.1.2.2.length/\(u88 v2.2 3).isSome=true/\ix (vl (u88 v2.2 3)).1 [-1,500,501].length/\(vl (u88 v2.2 3)).1.toNat<[-1,500,501].length/\ix 0 (v0.1.2.2.getD v1.1.toNat (d6 l6)).2.2.1.length/\True)<|Alw.alp (fun((v11,v12,v13,v14,v15,v16,v17,v18,v19):Int×List Int×List Int×List Int×List m7×List ByteArray×List r7×List x9×List m4)=>(shp i64.pt ((v0.1.2.2.getD v1.1.toNat (d6 l6)).2.2.1.getD (Int.toNat (0:Int)) (0:Int)) v11/\(wf i64.pt ((v0.1.2.2.getD v1.1.toNat (d6 l6)).2.2.1.getD (Int.toNat (0:Int)) (0:Int))->wf i64.pt v11))/\(shp i64.sl (v0.1.2.2.getD v1.1.toNat (d6 l6)).2.2.1 v12/\(wf i64.sl (v0.1.2.2.getD v1.1.toNat (d6 l6)).2.2.1->wf i64.sl v12))/\(shp b8.sl (vl (u88 v2.2 3)).2.1 v13/\(wf b8.sl (vl (u88 v2.2 3)).2.1->wf b8.sl v13))/\(shp b8.sl v2.2.1 v14/\(wf b8.sl v2.2.1->wf b8.sl v14))/\(shp y165.sl v0.1.2.1.1 v15/\(wf y165.sl v0.1.2.1.1->wf y165.sl v15))/\(shp Ty.str.sl v0.1.2.1.2.1 v16/\(wf Ty.str.sl v0.1.2.1.2.1->wf Ty.str.sl v16))/\(shp y175.sl v0.1.2.1.2.2 v17/\(wf y175.sl v0.1.2.1.2.2->wf y175.sl v17))/\(AllS (shp l6) v0.1.2.2 v18)/\(AllS (shp y163) v0.1.1 v19)) fun((_v11,_v12,v13,_v14,v15,v16,v17,v18,v19):Int×List Int×List Int×List Int×List m7×List ByteArray×List r7×List x9×List m4) =>
     gd (True) <|
     d0I ((v13,(vl (u88 v2.2 3)).2.2.1,(vl (u88 v2.2 3)).2.2.2,v18,v15,v16,v17,v19))
    else
     if(v2.1==4)=true then
      gd (ix v1.1 v0.1.2.2.length/\v1.1.toNat<v0.1.2.2.length/\ix v1.1 v0.1.2.2.length/\v1.1.toNat<v0.1.2.2.length/\l3 ((↑(v0.1.2.2.getD v1.1.toNat (d6 l6)).1.length:Int)-1)/\(u88 v2.2 5).isSome=true/\l3 ((vl (u88 v2.2 5)).1-1)/\ix ((↑(v0.1.2.2.getD v1.1.toNat (d6 l6)).1.length:Int)-1) (v0.1.2.2.getD v1.1.toNat (d6 l6)).1.length/\True)<|Alw.alp (fun((v20,v21,v22,v23,v24,v25,v26,v27,v28,v29):Int×List Int×List Int×List Int×List Int×List m7×List ByteArray×List r7×List x9×List m4)=>(shp i64.pt ((v0.1.2.2.getD v1.1.toNat (d6 l6)).1.getD ((↑(v0.1.2.2.getD v1.1.toNat (d6 l6)).1.length:Int)-1).toNat 0) v20/\(wf i64.pt ((v0.1.2.2.getD v1.1.toNat (d6 l6)).1.getD ((↑(v0.1.2.2.getD v1.1.toNat (d6 l6)).1.length:Int)-1).toNat 0)->wf i64.pt v20))/\(shp i64.sl (v0.1.2.2.getD v1.1.toNat (d6 l6)).1 v21/\(wf i64.sl (v0.1.2.2.getD v1.1.toNat (d6 l6)).1->wf i64.sl v21))/\(shp i64.sl (v0.1.2.2.getD v1.1.toNat (d6 l6)).1 v22/\(wf i64.sl (v0.1.2.2.getD v1.1.toNat (d6 l6)).1->wf i64.sl v22))/\(shp b8.sl (vl (u88 v2.2 5)).2.1 v23/\(wf b8.sl (vl (u88 v2.2 5)).2.1->wf b8.sl v23))/\(shp b8.sl v2.2.1 v24/\(wf b8.sl v2.2.1->wf b8.sl v24))/\(shp y165.sl v0.1.2.1.1 v25/\(wf y165.sl v0.1.2.1.1->wf y165.sl v25))/\(shp Ty.str.sl v0.1.2.1.2.1 v26/\(wf Ty.str.sl v0.1.2.1.2.1->wf Ty.str.sl v26))/\(shp y175.sl v0.1.2.1.2.2 v27/\(wf y175.sl v0.1.2.1.2.2->wf y175.sl v27))/\(AllS (shp l6) v0.1.2.2 v28)/\(AllS (shp y163) v0.1.1 v29)) fun((_v20,_v21,_v22,v23,_v24,v25,v26,v27,v28,v29):Int×List Int×List Int×List Int×List Int×List m7×List ByteArray×List r7×List x9×List m4) =>
      gd (True) <|
      d0I ((v23,(vl (u88 v2.2 5)).2.2.1,(vl (u88 v2.2 5)).2.2.2,v28,v25,v26,v27,v29))
     else
      if(v2.1==5)=true then
       gd (ix 0 v0.1.2.1.2.2.length/\True)<|Alw.alp (fun((v30,v31,v32,v33,v34,v35,v36,v37,v38):(Int×Int)×r7×List r7×List Int×List m7×List ByteArray×List r7×List x9×List m4)=>(shp (i64.pr i64).pt (v0.1.2.1.2.2.getD (Int.toNat (0:Int)) (d6 y175)).2 v30/\(wf (i64.pr i64).pt (v0.1.2.1.2.2.getD (Int.toNat (0:Int)) (d6 y175)).2->wf (i64.pr i64).pt v30))/\(shp y175.pt (v0.1.2.1.2.2.getD (Int.toNat (0:Int)) (d6 y175)) v31/\(wf y175.pt (v0.1.2.1.2.2.getD (Int.toNat (0:Int)) (d6 y175))->wf y175.pt v31))/\(shp y175.sl v0.1.2.1.2.2 v32/\(wf y175.sl v0.1.2.1.2.2->wf y175.sl v32))/\(shp b8.sl v2.2.1 v33/\(wf b8.sl v2.2.1->wf b8.sl v33))/\(shp y165.sl v0.1.2.1.1 v34/\(wf y165.sl v0.1.2.1.1->wf y165.sl v34))/\(shp Ty.str.sl v0.1.2.1.2.1 v35/\(wf Ty.str.sl v0.1.2.1.2.1->wf Ty.str.sl v35))/\(shp y175.sl v0.1.2.1.2.2 v36/\(wf y175.sl v0.1.2.1.2.2->wf y175.sl v36))/\(AllS (shp l6) v0.1.2.2 v37)/\(AllS (shp y163) v0.1.1 v38)) fun((_v30,_v31,_v32,v33,v34,v35,v36,v37,v38):(Int×Int)×r7×List r7×List Int×List m7×List ByteArray×List r7×List x9×List m4) =>
       gd (True) <|
       d0I (v33,v2.2.2.1,v2.2.2.2,v37,v34,v35,v36,v38)
      else
       d0I (v2.2.1,v2.2.2.1,v2.2.2.2,v0.1.2.2,v0.1.2.1.1,v0.1.2.1.2.1,v0.1.2.1.2.2,v0.1.1)
theorem L0t[Alw](h112:D0f)(hF:∀x,Xv.wfs [.io 152 l7] x->E0b x->D0A x.1=some ()):F0h:=by
 refine y0X (f:=111) (ps:=[.io 152 l7]) (pre:=E0b) (post:=D0Z) (R:=F0e) (Z:=A0C) (F:=fun x=>D0A x.1) tok [.cell 2 34] hF func111 ntmps111 rfl results111 (by kernel_rfl) rfl ?_;intro y ⟨a0,_⟩ r H hB Q hn hr;have:HT _ _:=⟨tc o88 (tc F0K tn)⟩;refine qA (Z (G24 []) [(2,bx 34 [nil,nil,nil,nil,nil]),(500000,K 152 l7 a0)])<|vQ<|zE tok (HT.h) h112 4 [0,2,3] (fun(v0:Y34×l8)=>Z (G24 [p 3 (R 3)]) [(3,bx 34 (Q9 v0.1.2.1)),(1009,A 110 l6 v0.1.2.2 0),(9,Ob.arr 163 false y163 v0.1.1 0),(500000,bx 152 (u1 false l7 (N7 v0))),(2,bx 34 [nil,nil,nil,nil,nil])]) (fun(v0:Y34×l8)=>True) H (fun _=>by kernel_rfl) fun v0 hp112 H=>gdC H fun H=>fQ<|qD (fun v1=>Z (G24 [p 3 (R 3),p 4 (I v1.1)]) ((500000,K 152 l7 v1.2)::(3,bx 34 (Q9 v0.1.2.1))::W3 v0.1.2.2 v0.1.1)) H fun v1 H=>jN r (fun((v39,v40,v41,v42,v43,v44,v45,v46):List Int×Int×Int×List x9×List m7×List ByteArray×List r7×List m4)=>Z (G13 []) [(3,bx 34 (Q64 v43 v44 v45)),(1009,A 110 l6 v42 0),(500000,bx 152 (Q63 v39 v40 v41)),(9,Ob.arr 163 false y163 v46 0),(2,bx 34 [nil,nil,nil,nil,nil])]) (d0I) (fun⟨v39,v40,v41,v42,v43,v44,v45,v46⟩ H=>?_) (fun _ n0 e0 t0=>?_)
 ·refine qA (Z [p 2 (R 2)] [(2,bx 34 (Q64 v43 v44 v45)),(3,bx 34 (Q64 v43 v44 v45)),(1009,A 110 l6 v42 0),(500000,bx 152 (Q63 v39 v40 v41)),(9,Ob.arr 163 false y163 v46 0)])<|vTT<|hr (((v46,(v43,v44,v45),v42),v39,v40,v41)) (J5 H).1 (by kernel_rfl)
 refine qD (fun v2=>Z (G24 [p 3 (R 3),p 4 (I v1.1),p 16 (I v2.1)]) ((500000,K 152 l7 v2.2)::(3,bx 34 (Q9 v0.1.2.1))::W3 v0.1.2.2 v0.1.1)) H fun v2 H=>vB<|qA (Z (G24 [p 3 (R 3),p 4 (I v1.1),p 16 (I v2.1),p 17 (B (v2.1==0))]) ((500000,K 152 l7 v2.2)::(3,bx 34 (Q9 v0.1.2.1))::W3 v0.1.2.2 v0.1.1))<|cD H (fun H=>?_) (fun H=>?_)
 ·refine zB (Z (G13 []) [(3,bx 34 [AV.os 9 0,M y165 v0.1.2.1.1,M Ty.str v0.1.2.1.2.1,M y175 v0.1.2.1.2.2,AV.os 1009 1]),(1009,A 110 l6 (List.drop (Int.toNat (1:Int)) v0.1.2.2) 1),(500000,K 152 l7 v2.2),(9,Ob.arr 163 false y163 v0.1.1 0),(2,bx 34 [nil,nil,nil,nil,nil])]) H fun H=>fK<|n0 H
 refine qA (Z (G24 [p 3 (R 3),p 4 (I v1.1),p 16 (I v2.1),p 23 (B (v2.1==1))]) ((500000,K 152 l7 v2.2)::(3,bx 34 (Q9 v0.1.2.1))::W3 v0.1.2.2 v0.1.1))<|cD H (fun H=>?_) (fun H=>?_)
 ·refine zFD tok (HT.h) 14 [34] [2,3] (Z (G13 []) [(1009,A 110 l6 (v0.1.2.2.set v1.1.toNat ((v0.1.2.2.getD v1.1.toNat (d6 l6)).1,(v0.1.2.2.getD v1.1.toNat (d6 l6)).2.1,(v0.1.2.2.getD v1.1.toNat (d6 l6)).2.2.1,vl (J9 (v0.1.2.2.getD v1.1.toNat (d6 l6)).2.2.2)++[0])) 0),(35,A 2 i64 [0] 0),(500000,K 152 l7 v2.2),(3,bx 34 (Q9 v0.1.2.1)),(9,Ob.arr 163 false y163 v0.1.1 0),(2,bx 34 [nil,nil,nil,nil,nil])]) H (by kernel_rfl) fun H=>fK<|n0 H
 refine qA (Z (G24 [p 3 (R 3),p 4 (I v1.1),p 16 (I v2.1),p 39 (B (v2.1==2))]) ((500000,K 152 l7 v2.2)::(3,bx 34 (Q9 v0.1.2.1))::W3 v0.1.2.2 v0.1.1))<|cD H (fun H=>?_) (fun H=>?_)
 ·refine zH tok (HT.h) hB 7 [2,3] (Z [p 47 (N i64.pt ((v0.1.2.2.getD v1.1.toNat (d6 l6)).2.1.getD (Int.toNat (0:Int)) (0:Int))),p 46 (M i64 (v0.1.2.2.getD v1.1.toNat (d6 l6)).2.1),p 45 (AV.pel 1009 0 v1.1.toNat 4 1),p 44 (AV.pel 1009 0 v1.1.toNat 4 0),p 43 (I v1.1),p 42 (O 1009),p 41 (AV.ptr 3 4),p 0 (R 500000),p 2 (R 2),p 3 (R 3),p 4 (I v1.1),p 16 (I v2.1),p 39 (B (v2.1==(2:Int)))] ((500000,K 152 l7 v2.2)::(3,bx 34 (Q9 v0.1.2.1))::W3 v0.1.2.2 v0.1.1)) (fun((v3,v4,v5,v6,v7,v8,v9,v10):Int×List Int×List Int×List m7×List ByteArray×List r7×List x9×List m4)=>Z [p 47 (N i64.pt v3),p 46 (M i64 v4),p 45 (AV.pel 1009 0 v1.1.toNat 4 1),p 44 (AV.pel 1009 0 v1.1.toNat 4 0),p 43 (I v1.1),p 42 (O 1009),p 41 (AV.ptr 3 4),p 0 (R 500000),p 2 (R 2),p 3 (R 3),p 4 (I v1.1),p 16 (I v2.1),p 39 (B (v2.1==2))] ((500000,bx 152 (Q63 v5 v2.2.2.1 v2.2.2.2))::(3,bx 34 (Q64 v6 v7 v8))::W3 v9 v10)) (fun((v3,v4,v5,v6,v7,v8,v9,v10):Int×List Int×List Int×List m7×List ByteArray×List r7×List x9×List m4)=>Z (G13 []) ((500000,bx 152 (Q63 v5 v2.2.2.1 v2.2.2.2))::(3,bx 34 (Q64 v6 v7 v8))::W3 v9 v10)) (fun((v3,v4,v5,v6,v7,v8,v9,v10):Int×List Int×List Int×List m7×List ByteArray×List r7×List x9×List m4)=>True) H (by kernel_rfl) (fun _ h=>by obtain⟨_,_,rfl,he,ho⟩:=h; obtain⟨_,_,rfl,⟨v3,rfl,h1⟩,⟨_,_,rfl,⟨v4,rfl,h2⟩,⟨_,_,rfl,rfl,⟨_,_,rfl,rfl,⟨_,_,rfl,rfl,⟨_,_,rfl,rfl,⟨_,_,rfl,rfl,⟨_,_,rfl,rfl,⟨_,_,rfl,rfl,⟨_,_,rfl,rfl,⟨_,_,rfl,rfl,⟨_,_,rfl,rfl,⟨_,_,rfl,rfl,rfl⟩⟩⟩⟩⟩⟩⟩⟩⟩⟩⟩⟩⟩:=he; obtain⟨_,_,rfl,⟨_,rfl,⟨_,_,rfl,⟨v5,rfl,h3⟩,⟨_,_,rfl,rfl,⟨_,_,rfl,rfl,rfl⟩⟩⟩⟩,⟨_,_,rfl,⟨_,rfl,⟨_,_,rfl,rfl,⟨_,_,rfl,⟨v6,rfl,h4⟩,⟨_,_,rfl,⟨v7,rfl,h5⟩,⟨_,_,rfl,⟨v8,rfl,h6⟩,⟨_,_,rfl,rfl,rfl⟩⟩⟩⟩⟩⟩,⟨_,_,rfl,⟨v9,rfl,h7⟩,⟨_,_,rfl,⟨v10,rfl,h8⟩,⟨_,_,rfl,⟨_,rfl,⟨_,_,rfl,rfl,⟨_,_,rfl,rfl,⟨_,_,rfl,rfl,⟨_,_,rfl,rfl,⟨_,_,rfl,rfl,rfl⟩⟩⟩⟩⟩⟩,rfl⟩⟩⟩⟩⟩:=ho; exact⟨⟨v3,v4,v5,v6,v7,v8,v9,v10⟩,⟨h1,h2,h3,h4,h5,h6,h7,h8⟩,rfl⟩) (fun _=>by kernel_rfl) fun⟨v3,v4,v5,v6,v7,v8,v9,v10⟩ H=>gdC H fun H=>fK<|n0 H
 refine qA (Z (G24 [p 3 (R 3),p 4 (I v1.1),p 16 (I v2.1),p 48 (B (v2.1==3))]) ((500000,K 152 l7 v2.2)::(3,bx 34 (Q9 v0.1.2.1))::W3 v0.1.2.2 v0.1.1))<|cD H (fun H=>?_) (fun H=>?_)
 ·refine zHD tok (HT.h) hB 12 [2,3] (Z [p 61 (N i64.pt ((v0.1.2.2.getD v1.1.toNat (d6 l6)).2.2.1.getD (Int.toNat (0:Int)) (0:Int))),p 60 (I ([(-1:Int),(500:Int),(501:Int)].getD (vl (u88 v2.2 (3:Int))).1.toNat (0:Int))),p 59 (AV.pel 56 0 (vl (u88 v2.2 (3:Int))).1.toNat 1 0),p 58 (I (vl (u88 v2.2 (3:Int))).1),p 57 (R 500000),p 56 (O 56),p 55 (M i64 (v0.1.2.2.getD v1.1.toNat (d6 l6)).2.2.1),p 54 (AV.pel 1009 0 v1.1.toNat 4 2),p 53 (AV.pel 1009 0 v1.1.toNat 4 0),p 52 (I v1.1),p 51 (O 1009),p 50 (AV.ptr 3 4),p 0 (R 500000),p 2 (R 2),p 3 (R 3),p 4 (I v1.1),p 16 (I v2.1),p 48 (B (v2.1==(3:Int)))] ((500000,bx 152 (u1 false l7 (vl (u88 v2.2 (3:Int))).2))::(56,A 2 i64 [(-1:Int),(500:Int),(501:Int)] 0)::(500000,K 152 l7 v2.2)::(3,bx 34 (Q9 v0.1.2.1))::W3 v0.1.2.2 v0.1.1)) (fun((v11,v12,v13,v14,v15,v16,v17,v18,v19):Int×List Int×List Int×List Int×List m7×List ByteArray×List r7×List x9×List m4)=>Z [p 61 (N i64.pt v11),p 60 (I ([-1,500,501].getD (vl (u88 v2.2 3)).1.toNat 0)),p 59 (AV.pel 56 0 (vl (u88 v2.2 3)).1.toNat 1 0),p 58 (I (vl (u88 v2.2 3)).1),p 57 (R 500000),p 56 (O 56),p 55 (M i64 v12),p 54 (AV.pel 1009 0 v1.1.toNat 4 2),p 53 (AV.pel 1009 0 v1.1.toNat 4 0),p 52 (I v1.1),p 51 (O 1009),p 50 (AV.ptr 3 4),p 0 (R 500000),p 2 (R 2),p 3 (R 3),p 4 (I v1.1),p 16 (I v2.1),p 48 (B (v2.1==3))] ((500000,bx 152 (Q63 v13 (vl (u88 v2.2 3)).2.2.1 (vl (u88 v2.2 3)).2.2.2))::(56,A 2 i64 [-1,500,501] 0)::(500000,bx 152 (Q63 v14 v2.2.2.1 v2.2.2.2))::(3,bx 34 (Q64 v15 v16 v17))::W3 v18 v19)) (fun((v11,v12,v13,v14,v15,v16,v17,v18,v19):Int×List Int×List Int×List Int×List m7×List ByteArray×List r7×List x9×List m4)=>Z (G13 []) ((500000,bx 152 (Q63 v13 (vl (u88 v2.2 3)).2.2.1 (vl (u88 v2.2 3)).2.2.2))::(56,A 2 i64 [-1,500,501] 0)::(3,bx 34 (Q64 v15 v16 v17))::W3 v18 v19)) (fun((v11,v12,v13,v14,v15,v16,v17,v18,v19):Int×List Int×List Int×List Int×List m7×List ByteArray×List r7×List x9×List m4)=>True) H (by kernel_rfl) (fun _ h=>by obtain⟨_,_,rfl,he,ho⟩:=h; obtain⟨_,_,rfl,⟨v11,rfl,h1⟩,⟨_,_,rfl,rfl,⟨_,_,rfl,rfl,⟨_,_,rfl,rfl,⟨_,_,rfl,rfl,⟨_,_,rfl,rfl,⟨_,_,rfl,⟨v12,rfl,h2⟩,⟨_,_,rfl,rfl,⟨_,_,rfl,rfl,⟨_,_,rfl,rfl,⟨_,_,rfl,rfl,⟨_,_,rfl,rfl,⟨_,_,rfl,rfl,⟨_,_,rfl,rfl,⟨_,_,rfl,rfl,⟨_,_,rfl,rfl,⟨_,_,rfl,rfl,⟨_,_,rfl,rfl,rfl⟩⟩⟩⟩⟩⟩⟩⟩⟩⟩⟩⟩⟩⟩⟩⟩⟩⟩:=he; obtain⟨_,_,rfl,⟨_,rfl,⟨_,_,rfl,⟨v13,rfl,h3⟩,⟨_,_,rfl,rfl,⟨_,_,rfl,rfl,rfl⟩⟩⟩⟩,⟨_,_,rfl,rfl,⟨_,_,rfl,⟨_,rfl,⟨_,_,rfl,⟨v14,rfl,h4⟩,⟨_,_,rfl,rfl,⟨_,_,rfl,rfl,rfl⟩⟩⟩⟩,⟨_,_,rfl,⟨_,rfl,⟨_,_,rfl,rfl,⟨_,_,rfl,⟨v15,rfl,h5⟩,⟨_,_,rfl,⟨v16,rfl,h6⟩,⟨_,_,rfl,⟨v17,rfl,h7⟩,⟨_,_,rfl,rfl,rfl⟩⟩⟩⟩⟩⟩,⟨_,_,rfl,⟨v18,rfl,h8⟩,⟨_,_,rfl,⟨v19,rfl,h9⟩,⟨_,_,rfl,⟨_,rfl,⟨_,_,rfl,rfl,⟨_,_,rfl,rfl,⟨_,_,rfl,rfl,⟨_,_,rfl,rfl,⟨_,_,rfl,rfl,rfl⟩⟩⟩⟩⟩⟩,rfl⟩⟩⟩⟩⟩⟩⟩:=ho; exact⟨⟨v11,v12,v13,v14,v15,v16,v17,v18,v19⟩,⟨h1,h2,h3,h4,h5,h6,h7,h8,h9⟩,rfl⟩) (fun _=>by kernel_rfl) fun⟨v11,v12,v13,v14,v15,v16,v17,v18,v19⟩ H=>gdC H fun H=>fK<|n0 H
 refine qA (Z (G24 [p 3 (R 3),p 4 (I v1.1),p 16 (I v2.1),p 62 (B (v2.1==4))]) ((500000,K 152 l7 v2.2)::(3,bx 34 (Q9 v0.1.2.1))::W3 v0.1.2.2 v0.1.1))<|cD H (fun H=>?_) (fun H=>?_)
 ·refine zHD tok (HT.h) hB 18 [2,3] (Z [p 81 (N i64.pt ((v0.1.2.2.getD v1.1.toNat (d6 l6)).1.getD ((↑(v0.1.2.2.getD v1.1.toNat (d6 l6)).1.length:Int)-1).toNat 0)),p 80 (I ((vl (u88 v2.2 5)).1-1)),p 79 (I (vl (u88 v2.2 5)).1),p 78 (R 500000),p 77 (I ((↑(v0.1.2.2.getD v1.1.toNat (d6 l6)).1.length:Int)-1)),p 76 (I (↑(v0.1.2.2.getD v1.1.toNat (d6 l6)).1.length:Int)),p 75 (M i64 (v0.1.2.2.getD v1.1.toNat (d6 l6)).1),p 74 (AV.pel 1009 0 v1.1.toNat 4 0),p 73 (AV.pel 1009 0 v1.1.toNat 4 0),p 72 (I v1.1),p 71 (O 1009),p 70 (AV.ptr 3 4),p 69 (M i64 (v0.1.2.2.getD v1.1.toNat (d6 l6)).1),p 68 (AV.pel 1009 0 v1.1.toNat 4 0),p 67 (AV.pel 1009 0 v1.1.toNat 4 0),p 66 (I v1.1),p 65 (O 1009),p 64 (AV.ptr 3 4),p 0 (R 500000),p 2 (R 2),p 3 (R 3),p 4 (I v1.1),p 16 (I v2.1),p 62 (B (v2.1==4))] ((500000,bx 152 (u1 false l7 (vl (u88 v2.2 5)).2))::(500000,K 152 l7 v2.2)::(3,bx 34 (Q9 v0.1.2.1))::W3 v0.1.2.2 v0.1.1)) (fun((v20,v21,v22,v23,v24,v25,v26,v27,v28,v29):Int×List Int×List Int×List Int×List Int×List m7×List ByteArray×List r7×List x9×List m4)=>Z [p 81 (N i64.pt v20),p 80 (I ((vl (u88 v2.2 5)).1-1)),p 79 (I (vl (u88 v2.2 5)).1),p 78 (R 500000),p 77 (I ((↑(v0.1.2.2.getD v1.1.toNat (d6 l6)).1.length:Int)-1)),p 76 (I (↑(v0.1.2.2.getD v1.1.toNat (d6 l6)).1.length:Int)),p 75 (M i64 v21),p 74 (AV.pel 1009 0 v1.1.toNat 4 0),p 73 (AV.pel 1009 0 v1.1.toNat 4 0),p 72 (I v1.1),p 71 (O 1009),p 70 (AV.ptr 3 4),p 69 (M i64 v22),p 68 (AV.pel 1009 0 v1.1.toNat 4 0),p 67 (AV.pel 1009 0 v1.1.toNat 4 0),p 66 (I v1.1),p 65 (O 1009),p 64 (AV.ptr 3 4),p 0 (R 500000),p 2 (R 2),p 3 (R 3),p 4 (I v1.1),p 16 (I v2.1),p 62 (B (v2.1==4))] ((500000,bx 152 (Q63 v23 (vl (u88 v2.2 5)).2.2.1 (vl (u88 v2.2 5)).2.2.2))::(500000,bx 152 (Q63 v24 v2.2.2.1 v2.2.2.2))::(3,bx 34 (Q64 v25 v26 v27))::W3 v28 v29)) (fun((v20,v21,v22,v23,v24,v25,v26,v27,v28,v29):Int×List Int×List Int×List Int×List Int×List m7×List ByteArray×List r7×List x9×List m4)=>Z (G13 []) ((500000,bx 152 (Q63 v23 (vl (u88 v2.2 5)).2.2.1 (vl (u88 v2.2 5)).2.2.2))::(3,bx 34 (Q64 v25 v26 v27))::W3 v28 v29)) (fun((v20,v21,v22,v23,v24,v25,v26,v27,v28,v29):Int×List Int×List Int×List Int×List Int×List m7×List ByteArray×List r7×List x9×List m4)=>True) H (by kernel_rfl) (fun _ h=>by obtain⟨_,_,rfl,he,ho⟩:=h; obtain⟨_,_,rfl,⟨v20,rfl,h1⟩,⟨_,_,rfl,rfl,⟨_,_,rfl,rfl,⟨_,_,rfl,rfl,⟨_,_,rfl,rfl,⟨_,_,rfl,rfl,⟨_,_,rfl,⟨v21,rfl,h2⟩,⟨_,_,rfl,rfl,⟨_,_,rfl,rfl,⟨_,_,rfl,rfl,⟨_,_,rfl,rfl,⟨_,_,rfl,rfl,⟨_,_,rfl,⟨v22,rfl,h3⟩,⟨_,_,rfl,rfl,⟨_,_,rfl,rfl,⟨_,_,rfl,rfl,⟨_,_,rfl,rfl,⟨_,_,rfl,rfl,⟨_,_,rfl,rfl,⟨_,_,rfl,rfl,⟨_,_,rfl,rfl,⟨_,_,rfl,rfl,⟨_,_,rfl,rfl,⟨_,_,rfl,rfl,rfl⟩⟩⟩⟩⟩⟩⟩⟩⟩⟩⟩⟩⟩⟩⟩⟩⟩⟩⟩⟩⟩⟩⟩⟩:=he; obtain⟨_,_,rfl,⟨_,rfl,⟨_,_,rfl,⟨v23,rfl,h4⟩,⟨_,_,rfl,rfl,⟨_,_,rfl,rfl,rfl⟩⟩⟩⟩,⟨_,_,rfl,⟨_,rfl,⟨_,_,rfl,⟨v24,rfl,h5⟩,⟨_,_,rfl,rfl,⟨_,_,rfl,rfl,rfl⟩⟩⟩⟩,⟨_,_,rfl,⟨_,rfl,⟨_,_,rfl,rfl,⟨_,_,rfl,⟨v25,rfl,h6⟩,⟨_,_,rfl,⟨v26,rfl,h7⟩,⟨_,_,rfl,⟨v27,rfl,h8⟩,⟨_,_,rfl,rfl,rfl⟩⟩⟩⟩⟩⟩,⟨_,_,rfl,⟨v28,rfl,h9⟩,⟨_,_,rfl,⟨v29,rfl,h10⟩,⟨_,_,rfl,⟨_,rfl,⟨_,_,rfl,rfl,⟨_,_,rfl,rfl,⟨_,_,rfl,rfl,⟨_,_,rfl,rfl,⟨_,_,rfl,rfl,rfl⟩⟩⟩⟩⟩⟩,rfl⟩⟩⟩⟩⟩⟩:=ho; exact⟨⟨v20,v21,v22,v23,v24,v25,v26,v27,v28,v29⟩,⟨h1,h2,h3,h4,h5,h6,h7,h8,h9,h10⟩,rfl⟩) (fun _=>by kernel_rfl) fun⟨v20,v21,v22,v23,v24,v25,v26,v27,v28,v29⟩ H=>gdC H fun H=>fK<|n0 H
 refine qA (Z (G13 [p 82 (B (v2.1==5))]) ((500000,K 152 l7 v2.2)::(3,bx 34 (Q9 v0.1.2.1))::W3 v0.1.2.2 v0.1.1))<|cD H (fun H=>?_) (fun H=>?_)
 ·refine zH tok (HT.h) hB 5 [2,3] (Z [p 88 (N (i64.pr i64).pt (v0.1.2.1.2.2.getD (Int.toNat (0:Int)) (d6 y175)).2),p 87 (N y175.pt (v0.1.2.1.2.2.getD (Int.toNat (0:Int)) (d6 y175))),p 86 (M y175 v0.1.2.1.2.2),p 85 (AV.ptr 3 3),p 84 (AV.ptr 3 1),p 2 (R 2),p 3 (R 3),p 82 (B (v2.1==(5:Int)))] ((500000,K 152 l7 v2.2)::(3,bx 34 (Q9 v0.1.2.1))::W3 v0.1.2.2 v0.1.1)) (fun((v30,v31,v32,v33,v34,v35,v36,v37,v38):(Int×Int)×r7×List r7×List Int×List m7×List ByteArray×List r7×List x9×List m4)=>Z [p 88 (N (i64.pr i64).pt v30),p 87 (N y175.pt v31),p 86 (M y175 v32),p 85 (AV.ptr 3 3),p 84 (AV.ptr 3 1),p 2 (R 2),p 3 (R 3),p 82 (B (v2.1==5))] ((500000,bx 152 (Q63 v33 v2.2.2.1 v2.2.2.2))::(3,bx 34 (Q64 v34 v35 v36))::W3 v37 v38)) (fun((v30,v31,v32,v33,v34,v35,v36,v37,v38):(Int×Int)×r7×List r7×List Int×List m7×List ByteArray×List r7×List x9×List m4)=>Z (G13 []) ((500000,bx 152 (Q63 v33 v2.2.2.1 v2.2.2.2))::(3,bx 34 (Q64 v34 v35 v36))::W3 v37 v38)) (fun((v30,v31,v32,v33,v34,v35,v36,v37,v38):(Int×Int)×r7×List r7×List Int×List m7×List ByteArray×List r7×List x9×List m4)=>True) H (by kernel_rfl) (fun _ h=>by obtain⟨_,_,rfl,he,ho⟩:=h; obtain⟨_,_,rfl,⟨v30,rfl,h1⟩,⟨_,_,rfl,⟨v31,rfl,h2⟩,⟨_,_,rfl,⟨v32,rfl,h3⟩,⟨_,_,rfl,rfl,⟨_,_,rfl,rfl,⟨_,_,rfl,rfl,⟨_,_,rfl,rfl,⟨_,_,rfl,rfl,rfl⟩⟩⟩⟩⟩⟩⟩⟩:=he; obtain⟨_,_,rfl,⟨_,rfl,⟨_,_,rfl,⟨v33,rfl,h4⟩,⟨_,_,rfl,rfl,⟨_,_,rfl,rfl,rfl⟩⟩⟩⟩,⟨_,_,rfl,⟨_,rfl,⟨_,_,rfl,rfl,⟨_,_,rfl,⟨v34,rfl,h5⟩,⟨_,_,rfl,⟨v35,rfl,h6⟩,⟨_,_,rfl,⟨v36,rfl,h7⟩,⟨_,_,rfl,rfl,rfl⟩⟩⟩⟩⟩⟩,⟨_,_,rfl,⟨v37,rfl,h8⟩,⟨_,_,rfl,⟨v38,rfl,h9⟩,⟨_,_,rfl,⟨_,rfl,⟨_,_,rfl,rfl,⟨_,_,rfl,rfl,⟨_,_,rfl,rfl,⟨_,_,rfl,rfl,⟨_,_,rfl,rfl,rfl⟩⟩⟩⟩⟩⟩,rfl⟩⟩⟩⟩⟩:=ho; exact⟨⟨v30,v31,v32,v33,v34,v35,v36,v37,v38⟩,⟨h1,h2,h3,h4,h5,h6,h7,h8,h9⟩,rfl⟩) (fun _=>by kernel_rfl) fun⟨v30,v31,v32,v33,v34,v35,v36,v37,v38⟩ H=>gdC H fun H=>fK<|n0 H
 exact vK<|fK<|n0 H
abbrev P54(x:w9 [.io 152 l7]):Prop:=sd x.1
def R54(r:Y34×l8):AV:=AV.agg (Q0 r.1)
def Z54(r:Y34×l8):IOT [.io 152 l7]:=r.2
def K54:Prop:=kE prog 54 [.io 152 l7] P54 T54 R54 Z54
def q0v[Alw](v0:Int×l8):Bool->Option (Unit)
 | v2 =>
 if v2=true then
  gd (True/\y0d (v0.2,(6:Int),true,()))<|Alw.alp (wpE [Par.io 152 l7,Par.dat i64,Par.dat Ty.bool] z0W A0D N7) fun(v3:(Y34×l8)) =>
  gd (True) <|
  gd (T54 (v3.1,N7 v3))<|some ()
 else
  gd (True/\y0d (v0.2,(6:Int),false,()))<|Alw.alp (wpE [Par.io 152 l7,Par.dat i64,Par.dat Ty.bool] z0W A0D N7) fun(v4:(Y34×l8)) =>
  gd (True) <|
  gd (T54 (v4.1,N7 v4))<|some ()
def u54[Alw](a0:l8):Option (Unit) :=
 gd ((u88 a0 12).isSome=true/\True)<|lt (vl (u88 a0 12)) fun v0 =>
 if(v0.1==0)=true then
  gd (True/\E0b (v0.2,()))<|Alw.alp (wpE [Par.io 152 l7] D0Z F0e A0C) fun(v1:(Y34×l8)) =>
  gd (True) <|
  gd (T54 (v1.1,A0C v1))<|some ()
 else
  if(v0.1==1)=true then
   q0v v0 (v0.1==1)
  else
   q0v v0 (v0.1==2)
theorem e54[Alw](h112:D0f)(h111:F0h)(hF:∀x,Xv.wfs [.io 152 l7] x->P54 x->u54 x.1=some ()):K54:=by
 refine y0X (f:=54) (ps:=[.io 152 l7]) (pre:=P54) (post:=T54) (R:=R54) (Z:=Z54) (F:=fun x=>u54 x.1) tok [.cell 2 34] hF func54 ntmps54 rfl results54 (by kernel_rfl) rfl ?_;intro y ⟨a0,_⟩ r H hB Q hn hr;have:HT _ _:=⟨tc o88 tn⟩;refine qA (Z (G24 []) [(2,bx 34 [nil,nil,nil,nil,nil]),(500000,K 152 l7 a0)])<|vQ<|qD (fun v0=>Z (G24 [p 4 (I v0.1)]) (W45 v0.2)) H fun v0 H=>vB<|qA (Z (G24 [p 4 (I v0.1),p 5 (B (v0.1==0))]) (W45 v0.2))<|cD H (fun H=>?_) (fun H=>?_)
 ·refine vQ<|zE tok (HT.h) h111 1 [2] (fun(v1:Y34×l8)=>Z [p 2 (R 2)] [(2,bx 34 (Q0 v1.1)),(500000,bx 152 (u1 false l7 (A0C v1)))]) (fun(v1:Y34×l8)=>True) H (fun _=>by kernel_rfl) fun v1 hp111 H=>gdC H fun H=>fQ<|vTT<|fDD<|fR<|hr (v1.1,A0C v1) (J5 H).1 (by kernel_rfl)
 refine jN r (fun(v2:Bool)=>Z (G24 [p 9 (B v2)]) (W45 v0.2)) (q0v v0) (fun v2 H=>?_) (fun _ n0 e0 t0=>?_)
 ·refine cD H (fun H=>?_) (fun H=>?_)
  ·refine vQ<|zE tok (HT.h) h112 1 [2] (fun(v3:Y34×l8)=>Z [p 2 (R 2)] [(2,bx 34 [AV.os 13 0,M y165 v3.1.2.1.1,M Ty.str v3.1.2.1.2.1,M y175 v3.1.2.1.2.2,AV.os 1013 0]),(1013,A 110 l6 v3.1.2.2 0),(13,Ob.arr 163 false y163 v3.1.1 0),(500000,bx 152 (u1 false l7 (N7 v3)))]) (fun(v3:Y34×l8)=>True) H (fun _=>by kernel_rfl) fun v3 hp112 H=>gdC H fun H=>fQ<|vTT<|fDD<|fR<|hr (v3.1,N7 v3) (J5 H).1 (by kernel_rfl)
  refine vK<|fK<|fQ<|vQ<|zE tok (HT.h) h112 1 [2] (fun(v4:Y34×l8)=>Z [p 2 (R 2)] [(2,bx 34 [AV.os 15 0,M y165 v4.1.2.1.1,M Ty.str v4.1.2.1.2.1,M y175 v4.1.2.1.2.2,AV.os 1015 0]),(1015,A 110 l6 v4.1.2.2 0),(15,Ob.arr 163 false y163 v4.1.1 0),(500000,bx 152 (u1 false l7 (N7 v4)))]) (fun(v4:Y34×l8)=>True) H (fun _=>by kernel_rfl) fun v4 hp112 H=>gdC H fun H=>fQ<|vTT<|hr (v4.1,N7 v4) (J5 H).1 (by kernel_rfl)
 refine qA (Z (G24 [p 4 (I v0.1),p 9 (B (v0.1==1))]) (W45 v0.2))<|cD H (fun H=>?_) (fun H=>?_)
 ·exact vK<|n0 H
 refine zA (Z (G24 [p 9 (B (v0.1==2))]) (W45 v0.2))<|n0 H
abbrev P80(x:w9 [.io 152 l7]):Prop:=sd x.1
def R80(r:Y34×l8):AV:=AV.agg (Q0 r.1)
def Z80(r:Y34×l8):IOT [.io 152 l7]:=r.2
def K80:Prop:=kE prog 80 [.io 152 l7] P80 T80 R80 Z80
def u80[Alw](a0:l8):Option (Unit) :=
 gd ((u88 a0 4).isSome=true/\True)<|lt (vl (u88 a0 4)) fun v0 =>
 if(v0.1==0)=true then
  gd (True/\P54 (v0.2,()))<|Alw.alp (wpE [Par.io 152 l7] T54 R54 Z54) fun(v1:(Y34×l8)) =>
  gd (True) <|
  gd (T80 (v1.1,Z54 v1))<|some ()
 else
  gd (True/\y0d (v0.2,(5:Int),true,()))<|Alw.alp (wpE [Par.io 152 l7,Par.dat i64,Par.dat Ty.bool] z0W A0D N7) fun(v2:(Y34×l8)) =>
  gd (True) <|
  gd (T80 (v2.1,N7 v2))<|some ()
theorem e80[Alw](h112:D0f)(h54:K54)(hF:∀x,Xv.wfs [.io 152 l7] x->P80 x->u80 x.1=some ()):K80:=by
 refine y0X (f:=80) (ps:=[.io 152 l7]) (pre:=P80) (post:=T80) (R:=R80) (Z:=Z80) (F:=fun x=>u80 x.1) tok [.cell 2 34] hF func80 ntmps80 rfl results80 (by kernel_rfl) rfl ?_;intro y ⟨a0,_⟩ r H hB Q hn hr;have:HT _ _:=⟨tc o88 tn⟩;refine qA (Z (G24 []) [(2,bx 34 [nil,nil,nil,nil,nil]),(500000,K 152 l7 a0)])<|vQ<|qD (fun v0=>Z (G24 [p 5 (B (v0.1==0))]) (W45 v0.2)) H fun v0 H=>cD H (fun H=>?_) (fun H=>?_)
 ·refine vQ<|zE tok (HT.h) h54 1 [2] (fun(v1:Y34×l8)=>Z [p 2 (R 2)] [(2,bx 34 (Q0 v1.1)),(500000,bx 152 (u1 false l7 (Z54 v1)))]) (fun(v1:Y34×l8)=>True) H (fun _=>by kernel_rfl) fun v1 hp54 H=>gdC H fun H=>fQ<|vTT<|fR<|hr (v1.1,Z54 v1) (J5 H).1 (by kernel_rfl)
 refine vK<|fQ<|vQ<|zE tok (HT.h) h112 1 [2] (fun(v2:Y34×l8)=>Z [p 2 (R 2)] [(2,bx 34 (Q9 v2.1.2.1)),(1009,A 110 l6 v2.1.2.2 0),(9,Ob.arr 163 false y163 v2.1.1 0),(500000,bx 152 (u1 false l7 (N7 v2)))]) (fun(v2:Y34×l8)=>True) H (fun _=>by kernel_rfl) fun v2 hp112 H=>gdC H fun H=>fQ<|vTT<|hr (v2.1,N7 v2) (J5 H).1 (by kernel_rfl)
abbrev P32(_x:w9 [.dat (b8.sl)]):Prop:=True
def R32(r:Y34×List Int):AV:=AV.tup [AV.agg (Q0 r.1),M i64 r.2]
def Z32(_r:Y34×List Int):IOT [.dat (b8.sl)]:=()
def K32:Prop:=kE prog 32 [.dat (b8.sl)] P32 T32 R32 Z32
def u32[Alw](a0:List Int):Option (Unit) :=
 gd ((u53 a0).isSome=true/\True)<|lt (vl (u53 a0)) fun v0 =>
 gd (True/\P80 (v0,()))<|Alw.alp (wpE [Par.io 152 l7] T80 R80 Z80) fun(v1:(Y34×l8)) =>
 gd (True) <|
 gd ((u55 (Z80 v1) v1.1).isSome=true/\True)<|lt (vl (u55 (Z80 v1) v1.1)) fun v2 =>
 gd (T32 (v1.1,v2.1))<|some ()
theorem e32[Alw](h80:K80)(hF:∀x,Xv.wfs [.dat (b8.sl)] x->P32 x->u32 x.1=some ()):K32:=by
 refine y0X (f:=32) (ps:=[.dat (b8.sl)]) (pre:=P32) (post:=T32) (R:=R32) (Z:=Z32) (F:=fun x=>u32 x.1) tok [.cell 2 34,.tmp 3] hF func32 ntmps32 rfl results32 (by kernel_rfl) rfl ?_;intro y ⟨a0,_⟩ r H hB Q hn hr;have:HT _ _:=⟨tc o55 (tc o53 tn)⟩;refine qA (Z [p 0 (L b8 a0),p 2 (R 2)] [(2,bx 34 [nil,nil,nil,nil,nil])])<|qD (fun v0=>Z [p 2 (R 2),p 4 (R 7)] [(7,bx 152 [L b8 v0.1,I v0.2.1,I v0.2.2]),(2,bx 34 [nil,nil,nil,nil,nil])]) H fun v0 H=>vQ<|zE tok (HT.h) h80 1 [2,4,5] (fun(v1:Y34×l8)=>Z [p 2 (R 2),p 4 (R 7),p 5 (R 5)] [(5,bx 34 (Q0 v1.1)),(7,bx 152 (u1 false l7 (Z80 v1))),(2,bx 34 [nil,nil,nil,nil,nil])]) (fun(v1:Y34×l8)=>True) H (fun _=>by kernel_rfl) fun v1 hp80 H=>gdC H fun H=>fQ<|qD (fun v2=>Z [p 2 (R 2),p 3 (O 13)] [(2,bx 34 (Q0 v1.1)),(13,A 2 i64 v2.1 0),(7,K 152 l7 v2.2),(5,bx 34 (Q0 v1.1))]) H fun v2 H=>vTT<|hr (v1.1,v2.1) (J5 H).1 (by kernel_rfl)
def F0l[Alw]:Unit->Option (Bool)
 | _ =>
 some true
def E0i[Alw](v27:Int)(g1:Int×List Int->Option (Bool)):List Int->Option (Bool)
 | v47 =>
 gd (l3 (v27+1)/\True) <|
 g1 (v27+1,v47)
def E0h[Alw](v38:Int)(v39:List Int)(v1:List (List Int)×Int)(v27:Int)(g3:Int×List Int->Option (Bool)):Unit->Option (Bool)
 | _ =>
 gd (l3 (v38+1)/\True) <|
 g3 ((v38+1,v39++[List.getD (v1.1.getD v27.toNat []) v38.toNat 0]))
def E0g[Alw](v38:Int)(v39:List Int)(v1:List (List Int)×Int)(v27:Int)(g3:Int×List Int->Option (Bool)):Int->Option (Bool)
 | v46 =>
 if(v46 != List.getD (v1.1.getD v27.toNat []) v38.toNat 0)=true then
  some false
 else
  E0h v38 v39 v1 v27 g3 ()
def E0e[Alw](v3:List Y48×Int)(v40:List Int×Int)(v0:Y34×List Int)(v1:List (List Int)×Int)(v27:Int)(v38:Int)(v39:List Int)(g3:Int×List Int->Option (Bool))(g6:Int×Int->Option (Bool)):Int×Int->Option (Bool)
 | (v43,v44) =>
 if(decide (v44 < (v40.1.length:Int)))=true then
  gd (ix v44 v40.1.length/\(decide (v40.1.getD v44.toNat 0<0)=false/\True->ix v44 v40.1.length)/\((decide (v40.1.getD v44.toNat 0<0)||decide ((v3.1.length:Int)<=v40.1.getD v44.toNat 0))=false/\True->ix v44 v40.1.length)/\((decide (v40.1.getD v44.toNat 0<0)||decide ((v3.1.length:Int)<=v40.1.getD v44.toNat 0))=false/\True->(u18 v0.2 (v40.1.getD v44.toNat 0)).isSome=true)/\((decide (v40.1.getD v44.toNat 0<0)||decide ((v3.1.length:Int)<=v40.1.getD v44.toNat 0)||vl (u18 v0.2 (v40.1.getD v44.toNat 0)))=false/\True->ix v44 v40.1.length)/\((decide (v40.1.getD v44.toNat 0<0)||decide ((v3.1.length:Int)<=v40.1.getD v44.toNat 0)||vl (u18 v0.2 (v40.1.getD v44.toNat 0)))=false/\True->ix (v40.1.getD v44.toNat 0) v3.1.length)/\((decide (v40.1.getD v44.toNat 0<0)||decide ((v3.1.length:Int)<=v40.1.getD v44.toNat 0)||vl (u18 v0.2 (v40.1.getD v44.toNat 0)))=false/\True->Int.toNat (v40.1.getD v44.toNat 0)<v3.1.length)/\((decide (v40.1.getD v44.toNat 0<0)||decide ((v3.1.length:Int)<=v40.1.getD v44.toNat 0)||vl (u18 v0.2 (v40.1.getD v44.toNat 0))||(v3.1.getD (Int.toNat (v40.1.getD v44.toNat 0)) (d6 y48)).1 != v43)=false/\True->ix v27 v1.1.length)/\((decide (v40.1.getD v44.toNat 0<0)||decide ((v3.1.length:Int)<=v40.1.getD v44.toNat 0)||vl (u18 v0.2 (v40.1.getD v44.toNat 0))||(v3.1.getD (Int.toNat (v40.1.getD v44.toNat 0)) (d6 y48)).1 != v43)=false/\True->v27.toNat<v1.1.length)/\((decide (v40.1.getD v44.toNat 0<0)||decide ((v3.1.length:Int)<=v40.1.getD v44.toNat 0)||vl (u18 v0.2 (v40.1.getD v44.toNat 0))||(v3.1.getD (Int.toNat (v40.1.getD v44.toNat 0)) (d6 y48)).1 != v43)=false/\True->(u18 (v1.1.getD v27.toNat []) v43).isSome=true)/\True) <|
  if(decide (v40.1.getD v44.toNat 0<0)||decide ((v3.1.length:Int)<=v40.1.getD v44.toNat 0)||vl (u18 v0.2 (v40.1.getD v44.toNat 0))||(v3.1.getD (Int.toNat (v40.1.getD v44.toNat 0)) (d6 y48)).1 != v43||!vl (u18 (v1.1.getD v27.toNat []) v43))=true then
   some false
  else
   gd (ix v44 v40.1.length/\ix (v40.1.getD v44.toNat 0) v3.1.length/\Int.toNat (v40.1.getD v44.toNat 0)<v3.1.length/\True)<|lt (v3.1.getD (Int.toNat (v40.1.getD v44.toNat 0)) (d6 y48)) fun v45 =>
   gd (l3 (v44+1)/\True) <|
   g6 (v45.2.1,v44+1)
 else
  E0g v38 v39 v1 v27 g3 v43
def E0f[Alw](v3:List Y48×Int)(v0:Y34×List Int)(v1:List (List Int)×Int)(v27:Int)(g1:Int×List Int->Option (Bool))(g3:Int×List Int->Option (Bool)):Int×List Int->Option (Bool)
 | (v38,v39) =>
 gd (ix v27 v1.1.length/\v27.toNat<v1.1.length/\True) <|
 if(decide (v38 < (↑(List.length (v1.1.getD v27.toNat [])):Int)))=true then
  gd (ix v27 v1.1.length/\v27.toNat<v1.1.length/\ix v38 (List.length (v1.1.getD v27.toNat []))/\True) <|
  gd ((u35 v0.1 v0.2 (List.getD (v1.1.getD v27.toNat []) v38.toNat 0)).isSome=true/\True)<|lt (vl (u35 v0.1 v0.2 (List.getD (v1.1.getD v27.toNat []) v38.toNat 0))) fun v40 =>
  gd (((v40.2 != 0||(v40.1.length:Int)==0)=false/\True->(u18 v39 (List.getD (v1.1.getD v27.toNat []) v38.toNat 0)).isSome=true)/\True) <|
  if(v40.2 != 0||(v40.1.length:Int)==0||vl (u18 v39 (List.getD (v1.1.getD v27.toNat []) v38.toNat 0)))=true then
   some false
  else
   gd ((v39.length+[List.getD (v1.1.getD v27.toNat []) v38.toNat 0].length<=9223372036854775807/\(v39.length+[List.getD (v1.1.getD v27.toNat []) v38.toNat 0].length)*8<=140737488355328)/\True) <|
   lp (E0e v3 v40 v0 v1 v27 v38 v39 g3) ((List.getD (v1.1.getD v27.toNat []) v38.toNat 0,0))
 else
  E0i v27 g1 v39
def F0k[Alw](v3:List Y48×Int)(v0:Y34×List Int)(v1:List (List Int)×Int)(g1:Int×List Int->Option (Bool)):Int×List Int->Option (Bool)
 | (v27,v28) =>
 if(decide (v27 < (v1.1.length:Int)))=true then
  lp (E0f v3 v0 v1 v27 g1) (0,v28)
 else
  F0l ()
def u6[Alw](a0:List Int):Option (Bool) :=
 gd ((u12 a0).isSome=true/\True) <|
 if(vl (u12 a0))=true then
  some true
 else
  gd (True/\P32 (a0,()))<|Alw.alp (wpE [Par.dat b8.sl] T32 R32 Z32) fun(v0:(Y34×List Int)) =>
  gd (True) <|
  gd ((u33 v0.1 v0.2).isSome=true/\True)<|lt (vl (u33 v0.1 v0.2)) fun v1 =>
  gd ((u34 v0.1 v0.2).isSome=true/\True)<|lt (vl (u34 v0.1 v0.2)) fun v2 =>
  if(v1.2 != v2.2||(v1.1.length:Int) != (v2.1.length:Int))=true then
   some false
  else
   if(v1.2 != 0)=true then
    some true
   else
    gd ((u19 v0.1).isSome=true/\True)<|lt (vl (u19 v0.1)) fun v3 =>
    lp (F0k v3 v0 v1) (0,[])
def k6[Alw]:Ct:=lct 6 [.dat (b8.sl)] (fun x=>u6 x.1) (fun r:Bool=>B r) (fun _=>())
theorem o6[Alw](h32:K32):Ok prog k6:=by
 refine okL [.tmp 2] func6 ntmps6 results6 ?_;intro y ⟨a0,_⟩ r H Q hn hr;have:HT _ _:=⟨tc o18 (tc o35 (tc o19 (tc o34 (tc o33 (tc o12 tn)))))⟩;refine qA (Z [p 0 (L b8 a0)] [])<|vQ<|qB (Z [p 0 (L b8 a0),p 20 (B (vl (u12 a0)))] []) H fun H=>cD H (fun H=>?_) (fun H=>?_)
 ·refine qA (Z [p 2 (B true)] [])<|vTT<|fR<|hr H
 refine vK<|fQ<|vQ<|zE tok (HT.h) h32 1 [3,4] (fun(v0:Y34×List Int)=>Z [p 3 (R 3),p 4 (M i64 v0.2)] [(3,bx 34 (Q0 v0.1))]) (fun(v0:Y34×List Int)=>True) H (fun _=>by kernel_rfl) fun v0 hp32 H=>gdC H fun H=>fQ<|qD (fun v1=>Z (G55 v0.2 [p 6 (I v1.2)]) (W49 v1.1 v0.1)) H fun v1 H=>qD (fun v2=>Z (G55 v0.2 [p 6 (I v1.2),p 7 (O 35),p 8 (I v2.2)]) ((35,A 35 i64.sl v2.1 0)::W49 v1.1 v0.1)) H fun v2 H=>vQ<|qA (Z (G55 v0.2 [p 6 (I v1.2),p 47 (B (v1.2 != v2.2||(v1.1.length:Int) != (v2.1.length:Int)))]) ((35,A 35 i64.sl v2.1 0)::W49 v1.1 v0.1))<|cD H (fun H=>?_) (fun H=>?_)
 ·refine qA (Z [p 2 (B false)] ((35,A 35 i64.sl v2.1 0)::W49 v1.1 v0.1))<|vTT<|fR<|hr H
 refine vK<|fQ<|vQ<|qA (Z (G55 v0.2 [p 49 (B (v1.2 != 0))]) ((35,A 35 i64.sl v2.1 0)::W49 v1.1 v0.1))<|cD H (fun H=>?_) (fun H=>?_)
 ·refine qA (Z [p 2 (B true)] ((35,A 35 i64.sl v2.1 0)::W49 v1.1 v0.1))<|vTT<|fR<|hr H
 refine vK<|fQ<|qD (fun v3=>Z (G55 v0.2 [p 9 (O 52)]) ((52,A 48 y48 v3.1 0)::(35,A 35 i64.sl v2.1 0)::W49 v1.1 v0.1)) H fun v3 H=>qA (Z (G55 v0.2 [p 9 (O 52),p 11 (O 55)]) ((55,A 2 i64 [] 0)::(52,A 48 y48 v3.1 0)::(35,A 35 i64.sl v2.1 0)::W49 v1.1 v0.1))<|jN r (fun(_:Unit)=>Z [] []) (F0l) (fun _ H=>?_) (fun _ n0 e0 t0=>?_)
 ·refine qA (Z [p 2 (B true)] [])<|vTT<|hr H
 refine qA (Z (G55 v0.2 [p 9 (O 52),p 11 (O 55),p 12 (I 0)]) ((55,A 2 i64 [] 0)::(52,A 48 y48 v3.1 0)::(35,A 35 i64.sl v2.1 0)::W49 v1.1 v0.1))<|vB<|lX (fun((v27,v28):Int×List Int)=>Z (G8 v0.2 v27 []) (W4 v28 v3.1 v1.1 v0.1)) (0,[]) H fun _ g1 b1 e1 t1 ⟨v27,v28⟩ H=>vQ<|qA (Z (G8 v0.2 v27 [p 59 (B (decide (v27 < (v1.1.length:Int))))]) (W4 v28 v3.1 v1.1 v0.1))<|cD H (fun H=>?_) (fun H=>?_)
 ·refine vK<|fQ<|jN r (fun(v47:List Int)=>Z (G8 v0.2 v27 []) (W4 v47 v3.1 v1.1 v0.1)) (E0i v27 g1) (fun v47 H=>?_) (fun _ n2 e2 t2=>?_)
  ·refine zB (Z (G8 v0.2 (v27+1) []) (W4 v47 v3.1 v1.1 v0.1)) H fun H=>b1 H
  refine vB<|qA (Z (G8 v0.2 v27 [p 13 (I 0)]) (W4 v28 v3.1 v1.1 v0.1))<|vB<|lX (fun((v38,v39):Int×List Int)=>Z (G8 v0.2 v27 [p 13 (I v38)]) (W4 v39 v3.1 v1.1 v0.1)) (0,v28) H fun _ g3 b3 e3 t3 ⟨v38,v39⟩ H=>vQ<|qB (Z (G8 v0.2 v27 [p 13 (I v38),p 68 (B (decide (v38 < (↑(List.length (v1.1.getD v27.toNat [])):Int))))]) (W4 v39 v3.1 v1.1 v0.1)) H fun H=>cD H (fun H=>?_) (fun H=>?_)
  ·refine vK<|fQ<|jN r (fun(_:Unit)=>Z (G8 v0.2 v27 [p 13 (I v38)]) (W4 (v39++[List.getD (v1.1.getD v27.toNat []) v38.toNat 0]) v3.1 v1.1 v0.1)) (E0h v38 v39 v1 v27 g3) (fun _ H=>?_) (fun _ n4 e4 t4=>?_)
   ·refine zB (Z (G8 v0.2 v27 [p 13 (I (v38+1))]) (W4 (v39++[List.getD (v1.1.getD v27.toNat []) v38.toNat 0]) v3.1 v1.1 v0.1)) H fun H=>b3 H
   refine vB<|qB (Z (G8 v0.2 v27 [p 13 (I v38),p 14 (I (List.getD (v1.1.getD v27.toNat []) v38.toNat 0))]) (W4 v39 v3.1 v1.1 v0.1)) H fun H=>qD (fun v40=>Z (G8 v0.2 v27 [p 13 (I v38),p 14 (I (List.getD (v1.1.getD v27.toNat []) v38.toNat 0)),p 15 (M i64 v40.1),p 16 (I v40.2)]) (W4 v39 v3.1 v1.1 v0.1)) H fun v40 H=>vQ<|qB (Z (G8 v0.2 v27 [p 13 (I v38),p 14 (I (List.getD (v1.1.getD v27.toNat []) v38.toNat 0)),p 15 (M i64 v40.1),p 96 (B (v40.2 != 0||(v40.1.length:Int)==0||vl (u18 v39 (List.getD (v1.1.getD v27.toNat []) v38.toNat 0))))]) (W4 v39 v3.1 v1.1 v0.1)) H fun H=>cD H (fun H=>?_) (fun H=>?_)
   ·refine qA (Z [p 2 (B false)] (W4 v39 v3.1 v1.1 v0.1))<|vTT<|fR<|fDD<|t4<|t3<|fDD<|fDD<|t2<|t1<|fDD<|t0<|hr H
   refine vK<|fQ<|qB (Z (G55 v0.2 [p 9 (O 52),p 11 (AV.os 55 1),p 12 (I v27),p 13 (I v38),p 14 (I (List.getD (v1.1.getD v27.toNat []) v38.toNat 0)),p 15 (M i64 v40.1)]) ((55,A 2 i64 (v39++[List.getD (v1.1.getD v27.toNat []) v38.toNat 0]) 1)::(99,A 2 i64 [List.getD (v1.1.getD v27.toNat []) v38.toNat 0] 0)::(52,A 48 y48 v3.1 0)::W49 v1.1 v0.1)) H fun H=>qA (Z (G55 v0.2 [p 9 (O 52),p 11 (AV.os 55 1),p 12 (I v27),p 13 (I v38),p 14 (I (List.getD (v1.1.getD v27.toNat []) v38.toNat 0)),p 15 (M i64 v40.1),p 17 (I (List.getD (v1.1.getD v27.toNat []) v38.toNat 0))]) ((55,A 2 i64 (v39++[List.getD (v1.1.getD v27.toNat []) v38.toNat 0]) 1)::(99,A 2 i64 [List.getD (v1.1.getD v27.toNat []) v38.toNat 0] 0)::(52,A 48 y48 v3.1 0)::W49 v1.1 v0.1))<|jN r (fun(v46:Int)=>Z (G8 v0.2 v27 [p 13 (I v38),p 14 (I (List.getD (v1.1.getD v27.toNat []) v38.toNat 0)),p 17 (I v46)]) (W4 (v39++[List.getD (v1.1.getD v27.toNat []) v38.toNat 0]) v3.1 v1.1 v0.1)) (E0g v38 v39 v1 v27 g3) (fun v46 H=>?_) (fun _ n5 e5 t5=>?_)
   ·refine qA (Z (G8 v0.2 v27 [p 13 (I v38),p 161 (B (v46 != List.getD (v1.1.getD v27.toNat []) v38.toNat 0))]) (W4 (v39++[List.getD (v1.1.getD v27.toNat []) v38.toNat 0]) v3.1 v1.1 v0.1))<|cD H (fun H=>?_) (fun H=>?_)
    ·refine qA (Z [p 2 (B false)] (W4 (v39++[List.getD (v1.1.getD v27.toNat []) v38.toNat 0]) v3.1 v1.1 v0.1))<|vTT<|fDD<|t4<|t3<|fDD<|fDD<|t2<|t1<|fDD<|t0<|hr H
    exact vK<|fK<|n4 H
   refine qA (Z (G55 v0.2 [p 9 (O 52),p 11 (AV.os 55 1),p 12 (I v27),p 13 (I v38),p 14 (I (List.getD (v1.1.getD v27.toNat []) v38.toNat 0)),p 15 (M i64 v40.1),p 17 (I (List.getD (v1.1.getD v27.toNat []) v38.toNat 0)),p 18 (I 0)]) ((55,A 2 i64 (v39++[List.getD (v1.1.getD v27.toNat []) v38.toNat 0]) 1)::(99,A 2 i64 [List.getD (v1.1.getD v27.toNat []) v38.toNat 0] 0)::(52,A 48 y48 v3.1 0)::W49 v1.1 v0.1))<|vB<|lX (fun((v43,v44):Int×Int)=>Z (G8 v0.2 v27 [p 13 (I v38),p 14 (I (List.getD (v1.1.getD v27.toNat []) v38.toNat 0)),p 15 (M i64 v40.1),p 17 (I v43),p 18 (I v44)]) (W4 (v39++[List.getD (v1.1.getD v27.toNat []) v38.toNat 0]) v3.1 v1.1 v0.1)) ((List.getD (v1.1.getD v27.toNat []) v38.toNat 0,0)) H fun _ g6 b6 e6 t6 ⟨v43,v44⟩ H=>vQ<|qA (Z (G8 v0.2 v27 [p 13 (I v38),p 14 (I (List.getD (v1.1.getD v27.toNat []) v38.toNat 0)),p 15 (M i64 v40.1),p 17 (I v43),p 18 (I v44),p 105 (B (decide (v44 < (v40.1.length:Int))))]) (W4 (v39++[List.getD (v1.1.getD v27.toNat []) v38.toNat 0]) v3.1 v1.1 v0.1))<|cD H (fun H=>?_) (fun H=>?_)
   ·refine vK<|fQ<|vQ<|vB<|vQ<|qB (Z (G8 v0.2 v27 [p 13 (I v38),p 14 (I (List.getD (v1.1.getD v27.toNat []) v38.toNat 0)),p 15 (M i64 v40.1),p 18 (I v44),p 150 (B (decide (v40.1.getD v44.toNat 0<0)||decide ((v3.1.length:Int)<=v40.1.getD v44.toNat 0)||vl (u18 v0.2 (v40.1.getD v44.toNat 0))||(v3.1.getD (Int.toNat (v40.1.getD v44.toNat 0)) (d6 y48)).1 != v43||!vl (u18 (v1.1.getD v27.toNat []) v43)))]) (W4 (v39++[List.getD (v1.1.getD v27.toNat []) v38.toNat 0]) v3.1 v1.1 v0.1)) H fun H=>cD H (fun H=>?_) (fun H=>?_)
    ·refine qA (Z [p 2 (B false)] (W4 (v39++[List.getD (v1.1.getD v27.toNat []) v38.toNat 0]) v3.1 v1.1 v0.1))<|vTT<|fR<|fDD<|fR<|t6<|fDD<|t5<|fDD<|t4<|t3<|fDD<|fDD<|t2<|t1<|fDD<|t0<|hr H
    refine vK<|fQ<|zD (fun v45=>Z (G8 v0.2 v27 [p 13 (I v38),p 14 (I (List.getD (v1.1.getD v27.toNat []) v38.toNat 0)),p 15 (M i64 v40.1),p 17 (I v45.2.1),p 18 (I v44)]) (W4 (v39++[List.getD (v1.1.getD v27.toNat []) v38.toNat 0]) v3.1 v1.1 v0.1)) H fun v45 H=>fK<|fQ<|zB (Z (G8 v0.2 v27 [p 13 (I v38),p 14 (I (List.getD (v1.1.getD v27.toNat []) v38.toNat 0)),p 15 (M i64 v40.1),p 17 (I v45.2.1),p 18 (I (v44+1))]) (W4 (v39++[List.getD (v1.1.getD v27.toNat []) v38.toNat 0]) v3.1 v1.1 v0.1)) H fun H=>b6 H
   exact vE<|fE<|e6<|fX rfl<|n5 H
  exact vE<|fE<|e3<|fX rfl<|fK<|n2 H
 exact vE<|fE<|e1<|fX rfl<|n0 H
end Go.Proofs.YtphnknndgfgepaaGreatDoor
end
