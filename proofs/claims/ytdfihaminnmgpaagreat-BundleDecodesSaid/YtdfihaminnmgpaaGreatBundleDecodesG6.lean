/- A part of this claim. No condition. -/
import Derived.Outline
import Derived.Test.YtdfihaminnmgpaaGreatProg
import Derived.WalkKit
import Derived.Below
import Derived.LoopTactic
import Derived.RegionTactic
import Derived.ChangeAlike
import Derived.BigRegion
import Derived.Deep.QuietTactic
import Derived.BigQuiet
import Derived.Lib.Hide
import Derived.WalkSpells
import Derived.WalkLawsBesides
import Derived.WalkSmall
import Derived.Laws.BytesString
import Derived.Laws.IdiomStrings
import Derived.Laws.BitsAllLaws
import Derived.Laws.AppendOwnNone
import Derived.PlainAid
import Derived.Laws.Tables
import Derived.Laws.CopyOwn
import Derived.Deep.WholeRow
import Derived.Laws.ResultCell
import Derived.Shelf.Bits.Mul64
import Derived.Handy
import Derived.ScopeJumps
import Derived.OwnWalk
import Derived.Deep.Slices
import Derived.ProofKit
import Derived.OpenShut
import Derived.ShutString
import Derived.ChangeOld
import Derived.Deep.LoopGhost
import Derived.Lib.SlBytesConst
import Derived.Test.YtdfihaminnmgpaaGreatBundleDecodesG5
set_option maxRecDepth 100000
set_option maxHeartbeats 2000000
set_option linter.unusedVariables false
set_option linter.unusedSimpArgs false
set_option linter.unnecessarySimpa false
namespace Go.Proofs.YtdfihaminnmgpaaGreat
open Go.RowKit
open BlkW renaming rows→CW_
open Bool renaming and_eq_true→P_,and_eq_false_iff→R_,or_eq_false_iff→T_,not_eq_false'→W_,not_eq_true'→Y_,or_eq_true→D_,and_true→AO_,false_and→BQ_,true_and→BU_
open Exit renaming exit→BS_,ret→DT_
open IntKind renaming i64→U_
open IntWalk renaming i32_in→AI_
open List renaming map→K_,drop→O_,take→Q_,map_replicate→S_,length_map→V_,map_append→X_,map_cons→A_,map_take→B_,map_drop→C_,map_nil→AM_,map_set→AN_,getElem?_eq_getElem→AP_,length_drop→AS_,getD_eq_getElem?_getD→AU_,length_append→AD_,eq_nil_of_length_eq_zero→BK_,length_take→BL_,getElem_mem→CN_,getD_cons_zero→BM_,getD_cons_succ→BY_,take_of_length_le→BJ_,mem_append→CA_
open Nat renaming le_refl→AE_,zero_le→CO_
open Tryz renaming prog→M_,func104→CP_,f104→CJ_
open Value renaming slice→AK_,int→AW_,bool→BI_,agg→CX_
open Weak renaming int→N_,nil→AV_,tup→AA_,rows→AH_,agg→AZ_,bool→AB_,any→AG_
open WeakL renaming refl→AQ_
theorem rw_4y (xs:List Int) (D:Nat→Rrf) (V:Nat→Int) (W:Nat→List Int) (H:Scr xs sc4 D V W) (hk:V 0=4∨V 0=5) (h9:In64 (V 0))  (hbad:(D 5).2=0)  (hc:checkE (⟨V 0,V 1,0,V 2,V 3,V 4,0,0,0,[],[],0,0,0,0,0,0,0,0⟩:Nod)=0):VM M_ 104 ([.ptr 100000 0 0]) ([(100000,.var (rrC xs (D 0)))]) (.tup [nod (⟨V 0,V 1,0,V 2,V 3,V 4,0,0,0,[],[],0,0,0,0,0,0,0,0⟩:Nod),i64 0]) ([(100000,.var (rrC xs (D 5)))]):=by
 have g0:=H.c 0 1 9
 have g1:=H.c 1 2 1024
 have g2:=H.c 2 3 1024
 have g3:=H.c 3 4 1024
 have g4:=H.c 4 5 1024
 clear H
 have oz2:=@tells_4 (V 0) hk
 have oz44:=@refCheck_v (Nod.mk (V 0) (V 1) 0 (V 2) (V 3) (V 4) 0 0 0 [] [] 0 0 0 0 0 0 0 0) k0_ k0_ h9
 exact VM.run (fn:=CJ_) (W:=[r_,.r [] [cm g0,cm g1],.r [] [cr oz2],.r [] [.row (sO z36_)],d_,.r [] [.row (sO z37_)],b_,.r [] [cm g2],.r [] [cm g3],.r [] [.row (sO z37_),f_,f_,f_,e_],b_,.r [] [cm g4],.r [] [.row (sO z38_)],d_,.r [] [.row (sO z38_)],d_,.r [] [.row (sO z38_)],d_,.r [] [.row (sO z38_)],d_,.r [] [.row (sO z38_)],d_,r_,d_,.r [] [ca oz44],r_,d_,r_]) (G:=[.drop [2,4,5],.weak 0 (AV.tup [AV.agg [i64 (V 0),i64 (V 1),i64 0,i64 (V 2),i64 (V 3),i64 (V 4),i64 0,i8 0,i8 0,AV.sl 1 [],AV.sl 1 [],i32 0,i64 0,i8 0,i32 0,i64 0,i8 0,i8 0,i8 0],i64 0]),.sort]) CP_ w_ (.c8 g0 g1 oz2 z3_ z7_ z36_ z1_ z9_<|.c8 z10_ z37_ z0_ g2 g3 z9_ z10_ z37_<|.c8 z6_ z6_ z6_ z0_ z0_ g4 z16_ z17_<|.c8 z38_ z1_ z18_ z19_ z39_ z1_ z3_ z7_<|.c8 z36_ z1_ z20_ z21_ z40_ z1_ z22_ z23_<|.d7 z41_ z1_ (h_ (((D 5).snd != 0)=false)) (show WeakL [AV.agg [i64 (V 0),i64 (V 1),i64 0,i64 (V 2),i64 (V 3),i64 (V 4),i64 0,i8 0,i8 0,AV.lit (AK_ none 0 0),AV.lit (AK_ none 0 0),i32 0,i64 0,i8 0,i32 0,i64 0,i8 0,i8 0,i8 0]] [AV.agg [i64 (Nod.mk (V 0) (V 1) 0 (V 2) (V 3) (V 4) 0 0 0 [] [] 0 0 0 0 0 0 0 0).kd,i64 (Nod.mk (V 0) (V 1) 0 (V 2) (V 3) (V 4) 0 0 0 [] [] 0 0 0 0 0 0 0 0).na,i64 (Nod.mk (V 0) (V 1) 0 (V 2) (V 3) (V 4) 0 0 0 [] [] 0 0 0 0 0 0 0 0).nb,i64 (Nod.mk (V 0) (V 1) 0 (V 2) (V 3) (V 4) 0 0 0 [] [] 0 0 0 0 0 0 0 0).nk,i64 (Nod.mk (V 0) (V 1) 0 (V 2) (V 3) (V 4) 0 0 0 [] [] 0 0 0 0 0 0 0 0).ns,i64 (Nod.mk (V 0) (V 1) 0 (V 2) (V 3) (V 4) 0 0 0 [] [] 0 0 0 0 0 0 0 0).np,i64 (Nod.mk (V 0) (V 1) 0 (V 2) (V 3) (V 4) 0 0 0 [] [] 0 0 0 0 0 0 0 0).no,i8 (Nod.mk (V 0) (V 1) 0 (V 2) (V 3) (V 4) 0 0 0 [] [] 0 0 0 0 0 0 0 0).za,i8 (Nod.mk (V 0) (V 1) 0 (V 2) (V 3) (V 4) 0 0 0 [] [] 0 0 0 0 0 0 0 0).zb,AV.sl 1 [],AV.sl 1 [],i32 (Nod.mk (V 0) (V 1) 0 (V 2) (V 3) (V 4) 0 0 0 [] [] 0 0 0 0 0 0 0 0).qm,i64 (Nod.mk (V 0) (V 1) 0 (V 2) (V 3) (V 4) 0 0 0 [] [] 0 0 0 0 0 0 0 0).qs,i8 (Nod.mk (V 0) (V 1) 0 (V 2) (V 3) (V 4) 0 0 0 [] [] 0 0 0 0 0 0 0 0).qz,i32 (Nod.mk (V 0) (V 1) 0 (V 2) (V 3) (V 4) 0 0 0 [] [] 0 0 0 0 0 0 0 0).rm,i64 (Nod.mk (V 0) (V 1) 0 (V 2) (V 3) (V 4) 0 0 0 [] [] 0 0 0 0 0 0 0 0).rs,i8 (Nod.mk (V 0) (V 1) 0 (V 2) (V 3) (V 4) 0 0 0 [] [] 0 0 0 0 0 0 0 0).rz,i8 (Nod.mk (V 0) (V 1) 0 (V 2) (V 3) (V 4) 0 0 0 [] [] 0 0 0 0 0 0 0 0).lo,i8 (Nod.mk (V 0) (V 1) 0 (V 2) (V 3) (V 4) 0 0 0 [] [] 0 0 0 0 0 0 0 0).hi]] from (.cons (AZ_ (.cons (.refl _) (.cons (.refl _) (.cons (.refl _) (.cons (.refl _) (.cons (.refl _) (.cons (.refl _) (.cons (.refl _) (.cons (.refl _) (.cons (.refl _) (.cons (AV_ _) (.cons (AV_ _) (.cons (.refl _) (.cons (.refl _) (.cons (.refl _) (.cons (.refl _) (.cons (.refl _) (.cons (.refl _) (.cons (.refl _) (.cons (.refl _) .nil)))))))))))))))))))) .nil)) oz44 (h_ ((checkE (Nod.mk (V 0) (V 1) 0 (V 2) (V 3) (V 4) 0 0 0 [] [] 0 0 0 0 0 0 0 0) != 0)=false)) (show Weak (AV.tup [AV.agg [i64 (V 0),i64 (V 1),i64 0,i64 (V 2),i64 (V 3),i64 (V 4),i64 0,i8 0,i8 0,AV.lit (AK_ none 0 0),AV.lit (AK_ none 0 0),i32 0,i64 0,i8 0,i32 0,i64 0,i8 0,i8 0,i8 0],i64 0]) (AV.tup [AV.agg [i64 (V 0),i64 (V 1),i64 0,i64 (V 2),i64 (V 3),i64 (V 4),i64 0,i8 0,i8 0,AV.sl 1 [],AV.sl 1 [],i32 0,i64 0,i8 0,i32 0,i64 0,i8 0,i8 0,i8 0],i64 0]) from (AA_ (.cons (AZ_ (.cons (.refl _) (.cons (.refl _) (.cons (.refl _) (.cons (.refl _) (.cons (.refl _) (.cons (.refl _) (.cons (.refl _) (.cons (.refl _) (.cons (.refl _) (.cons (AV_ _) (.cons (AV_ _) (.cons (.refl _) (.cons (.refl _) (.cons (.refl _) (.cons (.refl _) (.cons (.refl _) (.cons (.refl _) (.cons (.refl _) (.cons (.refl _) .nil)))))))))))))))))))) (.cons (.refl _) .nil)))))
def sc6:List Stp:=[.c 9,.c 1024,.c 1024,.o,.o,.c 2147483647,.c 62,.o,.c 2147483647,.c 62,.o,.o]
theorem z42_:[[bv true],[bv false],[bv false],[bv true],[bv false],[bv true]][(0:Nat)]? = some [bv true]:=rfl
theorem z43_:[[bv true],[bv false],[bv false],[bv true],[bv false],[bv true]][(1:Nat)]? = some [bv false]:=rfl
theorem z44_:[[bv true],[bv false],[bv false],[bv true],[bv false],[bv true]][(2:Nat)]? = some [bv false]:=rfl
theorem z45_:[[bv true],[bv false],[bv false],[bv true],[bv false],[bv true]][(3:Nat)]? = some [bv true]:=rfl
theorem z46_:[[bv true],[bv false],[bv false],[bv true],[bv false],[bv true]][(4:Nat)]? = some [bv false]:=rfl
theorem z47_:[[bv true],[bv false],[bv false],[bv true],[bv false],[bv true]][(5:Nat)]? = some [bv true]:=rfl
theorem rw_6b (xs:List Int) (D:Nat→Rrf) (V:Nat→Int) (W:Nat→List Int) (H:Scr xs sc6 D V W) (hk:V 0=6) (h9:In64 (V 0)) (h_qm:0≤V 5∧V 5≤2147483647) (h_rm:0≤V 8∧V 8≤2147483647) (hbad:(D 12).2≠0):VM M_ 104 ([.ptr 100000 0 0]) ([(100000,.var (rrC xs (D 0)))]) (.tup [.agg [i64 0,i64 0,i64 0,i64 0,i64 0,i64 0,i64 0,i8 0,i8 0,.sl 1 [],.sl 1 [],i32 0,i64 0,i8 0,i32 0,i64 0,i8 0,i8 0,i8 0],i64 (D 12).2]) ([(100000,.var (rrC xs (D 12)))]):=by
 have g0:=H.c 0 1 9
 have g1:=H.c 1 2 1024
 have g2:=H.c 2 3 1024
 have g3:=H.o 3 4
 have g4:=H.o 4 5
 have g5:=H.c 5 6 2147483647
 have g6:=H.c 6 7 62
 have g7:=H.o 7 8
 have g8:=H.c 8 9 2147483647
 have g9:=H.c 9 10 62
 have g10:=H.o 10 11
 have g11:=H.o 11 12
 clear H
 have oz2:=@tells_6 (V 0) hk
 exact VM.run (fn:=CJ_) (W:=[r_,.r [] [cm g0,cm g1],.r [] [cr oz2],.r [] [.row (sO z42_)],b_,.r [] [cm g2],.r [] [.row (sO z43_)],d_,.r [] [.row (sO z43_),e_,e_,e_,f_],d_,.r [] [.row (sO z43_)],d_,.r [] [.row (sO z45_)],b_,.r [] [cm g3],.r [] [.row (sO z42_)],b_,.r [] [cm g4],.r [] [.row (sO z46_)],d_,.r [] [.row (sO z47_)],b_,.r [] [cm g5,.n (V 5),cm g6,cm g7],.r [] [.row (sO z42_)],b_,.r [] [cm g8,.n (V 8),cm g9],.r [] [cm g10],.r [] [cm g11],r_,b_,r_]) (G:=[.drop [2,4,5],.weak 0 (AV.tup [AV.agg [i64 0,i64 0,i64 0,i64 0,i64 0,i64 0,i64 0,i8 0,i8 0,AV.sl 1 [],AV.sl 1 [],i32 0,i64 0,i8 0,i32 0,i64 0,i8 0,i8 0,i8 0],i64 (D 12).snd]),.sort]) CP_ w_ (.c8 g0 g1 oz2 z3_ z7_ z42_ z0_ g2<|.c8 z9_ z10_ z43_ z1_ z9_ z10_ z43_ z1_<|.c8 z1_ z1_ z1_ (c_ ((V 0==8)=false)) z16_ z17_ z44_ z1_<|.c8 z18_ z19_ z45_ z0_ g3 z3_ z7_ z42_<|.c8 z0_ g4 z20_ z21_ z46_ z1_ z22_ z23_<|.c8 z47_ z0_ g5 (AI_ (V 5) a_) g6 g7 z3_ z7_<|.c8 z42_ z0_ g8 (AI_ (V 8) a_) g9 g10 g11 (h_ (((D 12).snd != 0)=true))<|.d (show Weak (AV.tup [AV.agg [i64 0,i64 0,i64 0,i64 0,i64 0,i64 0,i64 0,i8 0,i8 0,AV.lit (AK_ none 0 0),AV.lit (AK_ none 0 0),i32 0,i64 0,i8 0,i32 0,i64 0,i8 0,i8 0,i8 0],i64 (D 12).snd]) (AV.tup [AV.agg [i64 0,i64 0,i64 0,i64 0,i64 0,i64 0,i64 0,i8 0,i8 0,AV.sl 1 [],AV.sl 1 [],i32 0,i64 0,i8 0,i32 0,i64 0,i8 0,i8 0,i8 0],i64 (D 12).snd]) from (AA_ (.cons (AZ_ (.cons (.refl _) (.cons (.refl _) (.cons (.refl _) (.cons (.refl _) (.cons (.refl _) (.cons (.refl _) (.cons (.refl _) (.cons (.refl _) (.cons (.refl _) (.cons (AV_ _) (.cons (AV_ _) (.cons (.refl _) (.cons (.refl _) (.cons (.refl _) (.cons (.refl _) (.cons (.refl _) (.cons (.refl _) (.cons (.refl _) (.cons (.refl _) .nil)))))))))))))))))))) (.cons (.refl _) .nil)))))
theorem rw_6c (xs:List Int) (D:Nat→Rrf) (V:Nat→Int) (W:Nat→List Int) (H:Scr xs sc6 D V W) (hk:V 0=6) (h9:In64 (V 0)) (h_qm:0≤V 5∧V 5≤2147483647) (h_rm:0≤V 8∧V 8≤2147483647) (hbad:(D 12).2=0)  (hc:checkE (⟨V 0,V 1,V 2,0,0,0,0,V 3,V 4,[],[],V 5,V 6,V 7,V 8,V 9,0,V 10,V 11⟩:Nod)≠0):VM M_ 104 ([.ptr 100000 0 0]) ([(100000,.var (rrC xs (D 0)))]) (.tup [.agg [i64 0,i64 0,i64 0,i64 0,i64 0,i64 0,i64 0,i8 0,i8 0,.sl 1 [],.sl 1 [],i32 0,i64 0,i8 0,i32 0,i64 0,i8 0,i8 0,i8 0],i64 (checkE (⟨V 0,V 1,V 2,0,0,0,0,V 3,V 4,[],[],V 5,V 6,V 7,V 8,V 9,0,V 10,V 11⟩:Nod))]) ([(100000,.var (rrC xs (D 12)))]):=by
 have g0:=H.c 0 1 9
 have g1:=H.c 1 2 1024
 have g2:=H.c 2 3 1024
 have g3:=H.o 3 4
 have g4:=H.o 4 5
 have g5:=H.c 5 6 2147483647
 have g6:=H.c 6 7 62
 have g7:=H.o 7 8
 have g8:=H.c 8 9 2147483647
 have g9:=H.c 9 10 62
 have g10:=H.o 10 11
 have g11:=H.o 11 12
 clear H
 have oz2:=@tells_6 (V 0) hk
 have oz57:=@refCheck_v (Nod.mk (V 0) (V 1) (V 2) 0 0 0 0 (V 3) (V 4) [] [] (V 5) (V 6) (V 7) (V 8) (V 9) 0 (V 10) (V 11)) k0_ k0_ h9
 exact VM.run (fn:=CJ_) (W:=[r_,.r [] [cm g0,cm g1],.r [] [cr oz2],.r [] [.row (sO z42_)],b_,.r [] [cm g2],.r [] [.row (sO z43_)],d_,.r [] [.row (sO z43_),e_,e_,e_,f_],d_,.r [] [.row (sO z43_)],d_,.r [] [.row (sO z45_)],b_,.r [] [cm g3],.r [] [.row (sO z42_)],b_,.r [] [cm g4],.r [] [.row (sO z46_)],d_,.r [] [.row (sO z47_)],b_,.r [] [cm g5,.n (V 5),cm g6,cm g7],.r [] [.row (sO z42_)],b_,.r [] [cm g8,.n (V 8),cm g9],.r [] [cm g10],.r [] [cm g11],r_,d_,.r [] [ca oz57],r_,b_,r_]) (G:=[.drop [2,4,5],.weak 0 (AV.tup [AV.agg [i64 0,i64 0,i64 0,i64 0,i64 0,i64 0,i64 0,i8 0,i8 0,AV.sl 1 [],AV.sl 1 [],i32 0,i64 0,i8 0,i32 0,i64 0,i8 0,i8 0,i8 0],i64 (checkE (Nod.mk (V 0) (V 1) (V 2) 0 0 0 0 (V 3) (V 4) [] [] (V 5) (V 6) (V 7) (V 8) (V 9) 0 (V 10) (V 11)))]),.sort]) CP_ w_ (.c8 g0 g1 oz2 z3_ z7_ z42_ z0_ g2<|.c8 z9_ z10_ z43_ z1_ z9_ z10_ z43_ z1_<|.c8 z1_ z1_ z1_ (c_ ((V 0==8)=false)) z16_ z17_ z44_ z1_<|.c8 z18_ z19_ z45_ z0_ g3 z3_ z7_ z42_<|.c8 z0_ g4 z20_ z21_ z46_ z1_ z22_ z23_<|.c8 z47_ z0_ g5 (AI_ (V 5) z_) g6 g7 z3_ z7_<|.c8 z42_ z0_ g8 (AI_ (V 8) z_) g9 g10 g11 (h_ (((D 12).snd != 0)=false))<|.d4 (show WeakL [AV.agg [i64 (V 0),i64 (V 1),i64 (V 2),i64 0,i64 0,i64 0,i64 0,i8 (V 3),i8 (V 4),AV.lit (AK_ none 0 0),AV.lit (AK_ none 0 0),i32 (V 5),i64 (V 6),i8 (V 7),i32 (V 8),i64 (V 9),i8 0,i8 (V 10),i8 (V 11)]] [AV.agg [i64 (Nod.mk (V 0) (V 1) (V 2) 0 0 0 0 (V 3) (V 4) [] [] (V 5) (V 6) (V 7) (V 8) (V 9) 0 (V 10) (V 11)).kd,i64 (Nod.mk (V 0) (V 1) (V 2) 0 0 0 0 (V 3) (V 4) [] [] (V 5) (V 6) (V 7) (V 8) (V 9) 0 (V 10) (V 11)).na,i64 (Nod.mk (V 0) (V 1) (V 2) 0 0 0 0 (V 3) (V 4) [] [] (V 5) (V 6) (V 7) (V 8) (V 9) 0 (V 10) (V 11)).nb,i64 (Nod.mk (V 0) (V 1) (V 2) 0 0 0 0 (V 3) (V 4) [] [] (V 5) (V 6) (V 7) (V 8) (V 9) 0 (V 10) (V 11)).nk,i64 (Nod.mk (V 0) (V 1) (V 2) 0 0 0 0 (V 3) (V 4) [] [] (V 5) (V 6) (V 7) (V 8) (V 9) 0 (V 10) (V 11)).ns,i64 (Nod.mk (V 0) (V 1) (V 2) 0 0 0 0 (V 3) (V 4) [] [] (V 5) (V 6) (V 7) (V 8) (V 9) 0 (V 10) (V 11)).np,i64 (Nod.mk (V 0) (V 1) (V 2) 0 0 0 0 (V 3) (V 4) [] [] (V 5) (V 6) (V 7) (V 8) (V 9) 0 (V 10) (V 11)).no,i8 (Nod.mk (V 0) (V 1) (V 2) 0 0 0 0 (V 3) (V 4) [] [] (V 5) (V 6) (V 7) (V 8) (V 9) 0 (V 10) (V 11)).za,i8 (Nod.mk (V 0) (V 1) (V 2) 0 0 0 0 (V 3) (V 4) [] [] (V 5) (V 6) (V 7) (V 8) (V 9) 0 (V 10) (V 11)).zb,AV.sl 1 [],AV.sl 1 [],i32 (Nod.mk (V 0) (V 1) (V 2) 0 0 0 0 (V 3) (V 4) [] [] (V 5) (V 6) (V 7) (V 8) (V 9) 0 (V 10) (V 11)).qm,i64 (Nod.mk (V 0) (V 1) (V 2) 0 0 0 0 (V 3) (V 4) [] [] (V 5) (V 6) (V 7) (V 8) (V 9) 0 (V 10) (V 11)).qs,i8 (Nod.mk (V 0) (V 1) (V 2) 0 0 0 0 (V 3) (V 4) [] [] (V 5) (V 6) (V 7) (V 8) (V 9) 0 (V 10) (V 11)).qz,i32 (Nod.mk (V 0) (V 1) (V 2) 0 0 0 0 (V 3) (V 4) [] [] (V 5) (V 6) (V 7) (V 8) (V 9) 0 (V 10) (V 11)).rm,i64 (Nod.mk (V 0) (V 1) (V 2) 0 0 0 0 (V 3) (V 4) [] [] (V 5) (V 6) (V 7) (V 8) (V 9) 0 (V 10) (V 11)).rs,i8 (Nod.mk (V 0) (V 1) (V 2) 0 0 0 0 (V 3) (V 4) [] [] (V 5) (V 6) (V 7) (V 8) (V 9) 0 (V 10) (V 11)).rz,i8 (Nod.mk (V 0) (V 1) (V 2) 0 0 0 0 (V 3) (V 4) [] [] (V 5) (V 6) (V 7) (V 8) (V 9) 0 (V 10) (V 11)).lo,i8 (Nod.mk (V 0) (V 1) (V 2) 0 0 0 0 (V 3) (V 4) [] [] (V 5) (V 6) (V 7) (V 8) (V 9) 0 (V 10) (V 11)).hi]] from (.cons (AZ_ (.cons (.refl _) (.cons (.refl _) (.cons (.refl _) (.cons (.refl _) (.cons (.refl _) (.cons (.refl _) (.cons (.refl _) (.cons (.refl _) (.cons (.refl _) (.cons (AV_ _) (.cons (AV_ _) (.cons (.refl _) (.cons (.refl _) (.cons (.refl _) (.cons (.refl _) (.cons (.refl _) (.cons (.refl _) (.cons (.refl _) (.cons (.refl _) .nil)))))))))))))))))))) .nil)) oz57 (h_ ((checkE (Nod.mk (V 0) (V 1) (V 2) 0 0 0 0 (V 3) (V 4) [] [] (V 5) (V 6) (V 7) (V 8) (V 9) 0 (V 10) (V 11)) != 0)=true)) (show Weak (AV.tup [AV.agg [i64 0,i64 0,i64 0,i64 0,i64 0,i64 0,i64 0,i8 0,i8 0,AV.lit (AK_ none 0 0),AV.lit (AK_ none 0 0),i32 0,i64 0,i8 0,i32 0,i64 0,i8 0,i8 0,i8 0],i64 (checkE (Nod.mk (V 0) (V 1) (V 2) 0 0 0 0 (V 3) (V 4) [] [] (V 5) (V 6) (V 7) (V 8) (V 9) 0 (V 10) (V 11)))]) (AV.tup [AV.agg [i64 0,i64 0,i64 0,i64 0,i64 0,i64 0,i64 0,i8 0,i8 0,AV.sl 1 [],AV.sl 1 [],i32 0,i64 0,i8 0,i32 0,i64 0,i8 0,i8 0,i8 0],i64 (checkE (Nod.mk (V 0) (V 1) (V 2) 0 0 0 0 (V 3) (V 4) [] [] (V 5) (V 6) (V 7) (V 8) (V 9) 0 (V 10) (V 11)))]) from (AA_ (.cons (AZ_ (.cons (.refl _) (.cons (.refl _) (.cons (.refl _) (.cons (.refl _) (.cons (.refl _) (.cons (.refl _) (.cons (.refl _) (.cons (.refl _) (.cons (.refl _) (.cons (AV_ _) (.cons (AV_ _) (.cons (.refl _) (.cons (.refl _) (.cons (.refl _) (.cons (.refl _) (.cons (.refl _) (.cons (.refl _) (.cons (.refl _) (.cons (.refl _) .nil)))))))))))))))))))) (.cons (.refl _) .nil)))))
theorem rw_6y (xs:List Int) (D:Nat→Rrf) (V:Nat→Int) (W:Nat→List Int) (H:Scr xs sc6 D V W) (hk:V 0=6) (h9:In64 (V 0)) (h_qm:0≤V 5∧V 5≤2147483647) (h_rm:0≤V 8∧V 8≤2147483647) (hbad:(D 12).2=0)  (hc:checkE (⟨V 0,V 1,V 2,0,0,0,0,V 3,V 4,[],[],V 5,V 6,V 7,V 8,V 9,0,V 10,V 11⟩:Nod)=0):VM M_ 104 ([.ptr 100000 0 0]) ([(100000,.var (rrC xs (D 0)))]) (.tup [nod (⟨V 0,V 1,V 2,0,0,0,0,V 3,V 4,[],[],V 5,V 6,V 7,V 8,V 9,0,V 10,V 11⟩:Nod),i64 0]) ([(100000,.var (rrC xs (D 12)))]):=by
 have g0:=H.c 0 1 9
 have g1:=H.c 1 2 1024
 have g2:=H.c 2 3 1024
 have g3:=H.o 3 4
 have g4:=H.o 4 5
 have g5:=H.c 5 6 2147483647
 have g6:=H.c 6 7 62
 have g7:=H.o 7 8
 have g8:=H.c 8 9 2147483647
 have g9:=H.c 9 10 62
 have g10:=H.o 10 11
 have g11:=H.o 11 12
 clear H
 have oz2:=@tells_6 (V 0) hk
 have oz57:=@refCheck_v (Nod.mk (V 0) (V 1) (V 2) 0 0 0 0 (V 3) (V 4) [] [] (V 5) (V 6) (V 7) (V 8) (V 9) 0 (V 10) (V 11)) k0_ k0_ h9
 exact VM.run (fn:=CJ_) (W:=[r_,.r [] [cm g0,cm g1],.r [] [cr oz2],.r [] [.row (sO z42_)],b_,.r [] [cm g2],.r [] [.row (sO z43_)],d_,.r [] [.row (sO z43_),e_,e_,e_,f_],d_,.r [] [.row (sO z43_)],d_,.r [] [.row (sO z45_)],b_,.r [] [cm g3],.r [] [.row (sO z42_)],b_,.r [] [cm g4],.r [] [.row (sO z46_)],d_,.r [] [.row (sO z47_)],b_,.r [] [cm g5,.n (V 5),cm g6,cm g7],.r [] [.row (sO z42_)],b_,.r [] [cm g8,.n (V 8),cm g9],.r [] [cm g10],.r [] [cm g11],r_,d_,.r [] [ca oz57],r_,d_,r_]) (G:=[.drop [2,4,5],.weak 0 (AV.tup [AV.agg [i64 (V 0),i64 (V 1),i64 (V 2),i64 0,i64 0,i64 0,i64 0,i8 (V 3),i8 (V 4),AV.sl 1 [],AV.sl 1 [],i32 (V 5),i64 (V 6),i8 (V 7),i32 (V 8),i64 (V 9),i8 0,i8 (V 10),i8 (V 11)],i64 0]),.sort]) CP_ w_ (.c8 g0 g1 oz2 z3_ z7_ z42_ z0_ g2<|.c8 z9_ z10_ z43_ z1_ z9_ z10_ z43_ z1_<|.c8 z1_ z1_ z1_ (c_ ((V 0==8)=false)) z16_ z17_ z44_ z1_<|.c8 z18_ z19_ z45_ z0_ g3 z3_ z7_ z42_<|.c8 z0_ g4 z20_ z21_ z46_ z1_ z22_ z23_<|.c8 z47_ z0_ g5 (AI_ (V 5) z_) g6 g7 z3_ z7_<|.c8 z42_ z0_ g8 (AI_ (V 8) z_) g9 g10 g11 (h_ (((D 12).snd != 0)=false))<|.d4 (show WeakL [AV.agg [i64 (V 0),i64 (V 1),i64 (V 2),i64 0,i64 0,i64 0,i64 0,i8 (V 3),i8 (V 4),AV.lit (AK_ none 0 0),AV.lit (AK_ none 0 0),i32 (V 5),i64 (V 6),i8 (V 7),i32 (V 8),i64 (V 9),i8 0,i8 (V 10),i8 (V 11)]] [AV.agg [i64 (Nod.mk (V 0) (V 1) (V 2) 0 0 0 0 (V 3) (V 4) [] [] (V 5) (V 6) (V 7) (V 8) (V 9) 0 (V 10) (V 11)).kd,i64 (Nod.mk (V 0) (V 1) (V 2) 0 0 0 0 (V 3) (V 4) [] [] (V 5) (V 6) (V 7) (V 8) (V 9) 0 (V 10) (V 11)).na,i64 (Nod.mk (V 0) (V 1) (V 2) 0 0 0 0 (V 3) (V 4) [] [] (V 5) (V 6) (V 7) (V 8) (V 9) 0 (V 10) (V 11)).nb,i64 (Nod.mk (V 0) (V 1) (V 2) 0 0 0 0 (V 3) (V 4) [] [] (V 5) (V 6) (V 7) (V 8) (V 9) 0 (V 10) (V 11)).nk,i64 (Nod.mk (V 0) (V 1) (V 2) 0 0 0 0 (V 3) (V 4) [] [] (V 5) (V 6) (V 7) (V 8) (V 9) 0 (V 10) (V 11)).ns,i64 (Nod.mk (V 0) (V 1) (V 2) 0 0 0 0 (V 3) (V 4) [] [] (V 5) (V 6) (V 7) (V 8) (V 9) 0 (V 10) (V 11)).np,i64 (Nod.mk (V 0) (V 1) (V 2) 0 0 0 0 (V 3) (V 4) [] [] (V 5) (V 6) (V 7) (V 8) (V 9) 0 (V 10) (V 11)).no,i8 (Nod.mk (V 0) (V 1) (V 2) 0 0 0 0 (V 3) (V 4) [] [] (V 5) (V 6) (V 7) (V 8) (V 9) 0 (V 10) (V 11)).za,i8 (Nod.mk (V 0) (V 1) (V 2) 0 0 0 0 (V 3) (V 4) [] [] (V 5) (V 6) (V 7) (V 8) (V 9) 0 (V 10) (V 11)).zb,AV.sl 1 [],AV.sl 1 [],i32 (Nod.mk (V 0) (V 1) (V 2) 0 0 0 0 (V 3) (V 4) [] [] (V 5) (V 6) (V 7) (V 8) (V 9) 0 (V 10) (V 11)).qm,i64 (Nod.mk (V 0) (V 1) (V 2) 0 0 0 0 (V 3) (V 4) [] [] (V 5) (V 6) (V 7) (V 8) (V 9) 0 (V 10) (V 11)).qs,i8 (Nod.mk (V 0) (V 1) (V 2) 0 0 0 0 (V 3) (V 4) [] [] (V 5) (V 6) (V 7) (V 8) (V 9) 0 (V 10) (V 11)).qz,i32 (Nod.mk (V 0) (V 1) (V 2) 0 0 0 0 (V 3) (V 4) [] [] (V 5) (V 6) (V 7) (V 8) (V 9) 0 (V 10) (V 11)).rm,i64 (Nod.mk (V 0) (V 1) (V 2) 0 0 0 0 (V 3) (V 4) [] [] (V 5) (V 6) (V 7) (V 8) (V 9) 0 (V 10) (V 11)).rs,i8 (Nod.mk (V 0) (V 1) (V 2) 0 0 0 0 (V 3) (V 4) [] [] (V 5) (V 6) (V 7) (V 8) (V 9) 0 (V 10) (V 11)).rz,i8 (Nod.mk (V 0) (V 1) (V 2) 0 0 0 0 (V 3) (V 4) [] [] (V 5) (V 6) (V 7) (V 8) (V 9) 0 (V 10) (V 11)).lo,i8 (Nod.mk (V 0) (V 1) (V 2) 0 0 0 0 (V 3) (V 4) [] [] (V 5) (V 6) (V 7) (V 8) (V 9) 0 (V 10) (V 11)).hi]] from (.cons (AZ_ (.cons (.refl _) (.cons (.refl _) (.cons (.refl _) (.cons (.refl _) (.cons (.refl _) (.cons (.refl _) (.cons (.refl _) (.cons (.refl _) (.cons (.refl _) (.cons (AV_ _) (.cons (AV_ _) (.cons (.refl _) (.cons (.refl _) (.cons (.refl _) (.cons (.refl _) (.cons (.refl _) (.cons (.refl _) (.cons (.refl _) (.cons (.refl _) .nil)))))))))))))))))))) .nil)) oz57 (h_ ((checkE (Nod.mk (V 0) (V 1) (V 2) 0 0 0 0 (V 3) (V 4) [] [] (V 5) (V 6) (V 7) (V 8) (V 9) 0 (V 10) (V 11)) != 0)=false)) (show Weak (AV.tup [AV.agg [i64 (V 0),i64 (V 1),i64 (V 2),i64 0,i64 0,i64 0,i64 0,i8 (V 3),i8 (V 4),AV.lit (AK_ none 0 0),AV.lit (AK_ none 0 0),i32 (V 5),i64 (V 6),i8 (V 7),i32 (V 8),i64 (V 9),i8 0,i8 (V 10),i8 (V 11)],i64 0]) (AV.tup [AV.agg [i64 (V 0),i64 (V 1),i64 (V 2),i64 0,i64 0,i64 0,i64 0,i8 (V 3),i8 (V 4),AV.sl 1 [],AV.sl 1 [],i32 (V 5),i64 (V 6),i8 (V 7),i32 (V 8),i64 (V 9),i8 0,i8 (V 10),i8 (V 11)],i64 0]) from (AA_ (.cons (AZ_ (.cons (.refl _) (.cons (.refl _) (.cons (.refl _) (.cons (.refl _) (.cons (.refl _) (.cons (.refl _) (.cons (.refl _) (.cons (.refl _) (.cons (.refl _) (.cons (AV_ _) (.cons (AV_ _) (.cons (.refl _) (.cons (.refl _) (.cons (.refl _) (.cons (.refl _) (.cons (.refl _) (.cons (.refl _) (.cons (.refl _) (.cons (.refl _) .nil)))))))))))))))))))) (.cons (.refl _) .nil)))))
def sc7:List Stp:=[.c 9,.c 1024,.o,.c 2147483647,.c 62,.o,.o,.o]
theorem z48_:[[bv false],[bv false],[bv false],[bv true],[bv false],[bv true]][(0:Nat)]? = some [bv false]:=rfl
theorem z49_:[[bv false],[bv false],[bv false],[bv true],[bv false],[bv true]][(1:Nat)]? = some [bv false]:=rfl
theorem z50_:[[bv false],[bv false],[bv false],[bv true],[bv false],[bv true]][(2:Nat)]? = some [bv false]:=rfl
theorem z51_:[[bv false],[bv false],[bv false],[bv true],[bv false],[bv true]][(3:Nat)]? = some [bv true]:=rfl
theorem z52_:[[bv false],[bv false],[bv false],[bv true],[bv false],[bv true]][(4:Nat)]? = some [bv false]:=rfl
theorem z53_:[[bv false],[bv false],[bv false],[bv true],[bv false],[bv true]][(5:Nat)]? = some [bv true]:=rfl
theorem rw_7b (xs:List Int) (D:Nat→Rrf) (V:Nat→Int) (W:Nat→List Int) (H:Scr xs sc7 D V W) (hk:V 0=7) (h9:In64 (V 0)) (h_qm:0≤V 3∧V 3≤2147483647) (hbad:(D 8).2≠0):VM M_ 104 ([.ptr 100000 0 0]) ([(100000,.var (rrC xs (D 0)))]) (.tup [.agg [i64 0,i64 0,i64 0,i64 0,i64 0,i64 0,i64 0,i8 0,i8 0,.sl 1 [],.sl 1 [],i32 0,i64 0,i8 0,i32 0,i64 0,i8 0,i8 0,i8 0],i64 (D 8).2]) ([(100000,.var (rrC xs (D 8)))]):=by
 have g0:=H.c 0 1 9
 have g1:=H.c 1 2 1024
 have g2:=H.o 2 3
 have g3:=H.c 3 4 2147483647
 have g4:=H.c 4 5 62
 have g5:=H.o 5 6
 have g6:=H.o 6 7
 have g7:=H.o 7 8
 clear H
 have oz2:=@tells_7 (V 0) hk
 exact VM.run (fn:=CJ_) (W:=[r_,.r [] [cm g0,cm g1],.r [] [cr oz2],.r [] [.row (sO z48_)],d_,.r [] [.row (sO z48_)],d_,.r [] [.row (sO z48_),e_,e_,e_,f_],d_,.r [] [.row (sO z48_)],d_,.r [] [.row (sO z51_)],b_,.r [] [cm g2],.r [] [.row (sO z48_)],d_,.r [] [.row (sO z48_)],d_,.r [] [.row (sO z53_)],b_,.r [] [cm g3,.n (V 3),cm g4,cm g5],.r [] [.row (sO z48_)],d_,.r [] [cm g6],.r [] [cm g7],r_,b_,r_]) (G:=[.drop [2,4,5],.weak 0 (AV.tup [AV.agg [i64 0,i64 0,i64 0,i64 0,i64 0,i64 0,i64 0,i8 0,i8 0,AV.sl 1 [],AV.sl 1 [],i32 0,i64 0,i8 0,i32 0,i64 0,i8 0,i8 0,i8 0],i64 (D 8).snd]),.sort]) CP_ w_ (.c8 g0 g1 oz2 z3_ z7_ z48_ z1_ z9_<|.c8 z10_ z49_ z1_ z9_ z10_ z49_ z1_ z1_<|.c8 z1_ z1_ (c_ ((V 0==8)=false)) z16_ z17_ z50_ z1_ z18_<|.c8 z19_ z51_ z0_ g2 z3_ z7_ z48_ z1_<|.c8 z20_ z21_ z52_ z1_ z22_ z23_ z53_ z0_<|.c8 g3 (AI_ (V 3) a_) g4 g5 z3_ z7_ z48_ z1_<|.d4 g6 g7 (h_ (((D 8).snd != 0)=true)) (show Weak (AV.tup [AV.agg [i64 0,i64 0,i64 0,i64 0,i64 0,i64 0,i64 0,i8 0,i8 0,AV.lit (AK_ none 0 0),AV.lit (AK_ none 0 0),i32 0,i64 0,i8 0,i32 0,i64 0,i8 0,i8 0,i8 0],i64 (D 8).snd]) (AV.tup [AV.agg [i64 0,i64 0,i64 0,i64 0,i64 0,i64 0,i64 0,i8 0,i8 0,AV.sl 1 [],AV.sl 1 [],i32 0,i64 0,i8 0,i32 0,i64 0,i8 0,i8 0,i8 0],i64 (D 8).snd]) from (AA_ (.cons (AZ_ (.cons (.refl _) (.cons (.refl _) (.cons (.refl _) (.cons (.refl _) (.cons (.refl _) (.cons (.refl _) (.cons (.refl _) (.cons (.refl _) (.cons (.refl _) (.cons (AV_ _) (.cons (AV_ _) (.cons (.refl _) (.cons (.refl _) (.cons (.refl _) (.cons (.refl _) (.cons (.refl _) (.cons (.refl _) (.cons (.refl _) (.cons (.refl _) .nil)))))))))))))))))))) (.cons (.refl _) .nil)))))
theorem rw_7c (xs:List Int) (D:Nat→Rrf) (V:Nat→Int) (W:Nat→List Int) (H:Scr xs sc7 D V W) (hk:V 0=7) (h9:In64 (V 0)) (h_qm:0≤V 3∧V 3≤2147483647) (hbad:(D 8).2=0)  (hc:checkE (⟨V 0,V 1,0,0,0,0,0,V 2,0,[],[],V 3,V 4,V 5,0,0,0,V 6,V 7⟩:Nod)≠0):VM M_ 104 ([.ptr 100000 0 0]) ([(100000,.var (rrC xs (D 0)))]) (.tup [.agg [i64 0,i64 0,i64 0,i64 0,i64 0,i64 0,i64 0,i8 0,i8 0,.sl 1 [],.sl 1 [],i32 0,i64 0,i8 0,i32 0,i64 0,i8 0,i8 0,i8 0],i64 (checkE (⟨V 0,V 1,0,0,0,0,0,V 2,0,[],[],V 3,V 4,V 5,0,0,0,V 6,V 7⟩:Nod))]) ([(100000,.var (rrC xs (D 8)))]):=by
 have g0:=H.c 0 1 9
 have g1:=H.c 1 2 1024
 have g2:=H.o 2 3
 have g3:=H.c 3 4 2147483647
 have g4:=H.c 4 5 62
 have g5:=H.o 5 6
 have g6:=H.o 6 7
 have g7:=H.o 7 8
 clear H
 have oz2:=@tells_7 (V 0) hk
 have oz52:=@refCheck_v (Nod.mk (V 0) (V 1) 0 0 0 0 0 (V 2) 0 [] [] (V 3) (V 4) (V 5) 0 0 0 (V 6) (V 7)) k0_ k0_ h9
 exact VM.run (fn:=CJ_) (W:=[r_,.r [] [cm g0,cm g1],.r [] [cr oz2],.r [] [.row (sO z48_)],d_,.r [] [.row (sO z48_)],d_,.r [] [.row (sO z48_),e_,e_,e_,f_],d_,.r [] [.row (sO z48_)],d_,.r [] [.row (sO z51_)],b_,.r [] [cm g2],.r [] [.row (sO z48_)],d_,.r [] [.row (sO z48_)],d_,.r [] [.row (sO z53_)],b_,.r [] [cm g3,.n (V 3),cm g4,cm g5],.r [] [.row (sO z48_)],d_,.r [] [cm g6],.r [] [cm g7],r_,d_,.r [] [ca oz52],r_,b_,r_]) (G:=[.drop [2,4,5],.weak 0 (AV.tup [AV.agg [i64 0,i64 0,i64 0,i64 0,i64 0,i64 0,i64 0,i8 0,i8 0,AV.sl 1 [],AV.sl 1 [],i32 0,i64 0,i8 0,i32 0,i64 0,i8 0,i8 0,i8 0],i64 (checkE (Nod.mk (V 0) (V 1) 0 0 0 0 0 (V 2) 0 [] [] (V 3) (V 4) (V 5) 0 0 0 (V 6) (V 7)))]),.sort]) CP_ w_ (.c8 g0 g1 oz2 z3_ z7_ z48_ z1_ z9_<|.c8 z10_ z49_ z1_ z9_ z10_ z49_ z1_ z1_<|.c8 z1_ z1_ (c_ ((V 0==8)=false)) z16_ z17_ z50_ z1_ z18_<|.c8 z19_ z51_ z0_ g2 z3_ z7_ z48_ z1_<|.c8 z20_ z21_ z52_ z1_ z22_ z23_ z53_ z0_<|.c8 g3 (AI_ (V 3) z_) g4 g5 z3_ z7_ z48_ z1_<|.d7 g6 g7 (h_ (((D 8).snd != 0)=false)) (show WeakL [AV.agg [i64 (V 0),i64 (V 1),i64 0,i64 0,i64 0,i64 0,i64 0,i8 (V 2),i8 0,AV.lit (AK_ none 0 0),AV.lit (AK_ none 0 0),i32 (V 3),i64 (V 4),i8 (V 5),i32 0,i64 0,i8 0,i8 (V 6),i8 (V 7)]] [AV.agg [i64 (Nod.mk (V 0) (V 1) 0 0 0 0 0 (V 2) 0 [] [] (V 3) (V 4) (V 5) 0 0 0 (V 6) (V 7)).kd,i64 (Nod.mk (V 0) (V 1) 0 0 0 0 0 (V 2) 0 [] [] (V 3) (V 4) (V 5) 0 0 0 (V 6) (V 7)).na,i64 (Nod.mk (V 0) (V 1) 0 0 0 0 0 (V 2) 0 [] [] (V 3) (V 4) (V 5) 0 0 0 (V 6) (V 7)).nb,i64 (Nod.mk (V 0) (V 1) 0 0 0 0 0 (V 2) 0 [] [] (V 3) (V 4) (V 5) 0 0 0 (V 6) (V 7)).nk,i64 (Nod.mk (V 0) (V 1) 0 0 0 0 0 (V 2) 0 [] [] (V 3) (V 4) (V 5) 0 0 0 (V 6) (V 7)).ns,i64 (Nod.mk (V 0) (V 1) 0 0 0 0 0 (V 2) 0 [] [] (V 3) (V 4) (V 5) 0 0 0 (V 6) (V 7)).np,i64 (Nod.mk (V 0) (V 1) 0 0 0 0 0 (V 2) 0 [] [] (V 3) (V 4) (V 5) 0 0 0 (V 6) (V 7)).no,i8 (Nod.mk (V 0) (V 1) 0 0 0 0 0 (V 2) 0 [] [] (V 3) (V 4) (V 5) 0 0 0 (V 6) (V 7)).za,i8 (Nod.mk (V 0) (V 1) 0 0 0 0 0 (V 2) 0 [] [] (V 3) (V 4) (V 5) 0 0 0 (V 6) (V 7)).zb,AV.sl 1 [],AV.sl 1 [],i32 (Nod.mk (V 0) (V 1) 0 0 0 0 0 (V 2) 0 [] [] (V 3) (V 4) (V 5) 0 0 0 (V 6) (V 7)).qm,i64 (Nod.mk (V 0) (V 1) 0 0 0 0 0 (V 2) 0 [] [] (V 3) (V 4) (V 5) 0 0 0 (V 6) (V 7)).qs,i8 (Nod.mk (V 0) (V 1) 0 0 0 0 0 (V 2) 0 [] [] (V 3) (V 4) (V 5) 0 0 0 (V 6) (V 7)).qz,i32 (Nod.mk (V 0) (V 1) 0 0 0 0 0 (V 2) 0 [] [] (V 3) (V 4) (V 5) 0 0 0 (V 6) (V 7)).rm,i64 (Nod.mk (V 0) (V 1) 0 0 0 0 0 (V 2) 0 [] [] (V 3) (V 4) (V 5) 0 0 0 (V 6) (V 7)).rs,i8 (Nod.mk (V 0) (V 1) 0 0 0 0 0 (V 2) 0 [] [] (V 3) (V 4) (V 5) 0 0 0 (V 6) (V 7)).rz,i8 (Nod.mk (V 0) (V 1) 0 0 0 0 0 (V 2) 0 [] [] (V 3) (V 4) (V 5) 0 0 0 (V 6) (V 7)).lo,i8 (Nod.mk (V 0) (V 1) 0 0 0 0 0 (V 2) 0 [] [] (V 3) (V 4) (V 5) 0 0 0 (V 6) (V 7)).hi]] from (.cons (AZ_ (.cons (.refl _) (.cons (.refl _) (.cons (.refl _) (.cons (.refl _) (.cons (.refl _) (.cons (.refl _) (.cons (.refl _) (.cons (.refl _) (.cons (.refl _) (.cons (AV_ _) (.cons (AV_ _) (.cons (.refl _) (.cons (.refl _) (.cons (.refl _) (.cons (.refl _) (.cons (.refl _) (.cons (.refl _) (.cons (.refl _) (.cons (.refl _) .nil)))))))))))))))))))) .nil)) oz52 (h_ ((checkE (Nod.mk (V 0) (V 1) 0 0 0 0 0 (V 2) 0 [] [] (V 3) (V 4) (V 5) 0 0 0 (V 6) (V 7)) != 0)=true)) (show Weak (AV.tup [AV.agg [i64 0,i64 0,i64 0,i64 0,i64 0,i64 0,i64 0,i8 0,i8 0,AV.lit (AK_ none 0 0),AV.lit (AK_ none 0 0),i32 0,i64 0,i8 0,i32 0,i64 0,i8 0,i8 0,i8 0],i64 (checkE (Nod.mk (V 0) (V 1) 0 0 0 0 0 (V 2) 0 [] [] (V 3) (V 4) (V 5) 0 0 0 (V 6) (V 7)))]) (AV.tup [AV.agg [i64 0,i64 0,i64 0,i64 0,i64 0,i64 0,i64 0,i8 0,i8 0,AV.sl 1 [],AV.sl 1 [],i32 0,i64 0,i8 0,i32 0,i64 0,i8 0,i8 0,i8 0],i64 (checkE (Nod.mk (V 0) (V 1) 0 0 0 0 0 (V 2) 0 [] [] (V 3) (V 4) (V 5) 0 0 0 (V 6) (V 7)))]) from (AA_ (.cons (AZ_ (.cons (.refl _) (.cons (.refl _) (.cons (.refl _) (.cons (.refl _) (.cons (.refl _) (.cons (.refl _) (.cons (.refl _) (.cons (.refl _) (.cons (.refl _) (.cons (AV_ _) (.cons (AV_ _) (.cons (.refl _) (.cons (.refl _) (.cons (.refl _) (.cons (.refl _) (.cons (.refl _) (.cons (.refl _) (.cons (.refl _) (.cons (.refl _) .nil)))))))))))))))))))) (.cons (.refl _) .nil)))))
theorem rw_7y (xs:List Int) (D:Nat→Rrf) (V:Nat→Int) (W:Nat→List Int) (H:Scr xs sc7 D V W) (hk:V 0=7) (h9:In64 (V 0)) (h_qm:0≤V 3∧V 3≤2147483647) (hbad:(D 8).2=0)  (hc:checkE (⟨V 0,V 1,0,0,0,0,0,V 2,0,[],[],V 3,V 4,V 5,0,0,0,V 6,V 7⟩:Nod)=0):VM M_ 104 ([.ptr 100000 0 0]) ([(100000,.var (rrC xs (D 0)))]) (.tup [nod (⟨V 0,V 1,0,0,0,0,0,V 2,0,[],[],V 3,V 4,V 5,0,0,0,V 6,V 7⟩:Nod),i64 0]) ([(100000,.var (rrC xs (D 8)))]):=by
 have g0:=H.c 0 1 9
 have g1:=H.c 1 2 1024
 have g2:=H.o 2 3
 have g3:=H.c 3 4 2147483647
 have g4:=H.c 4 5 62
 have g5:=H.o 5 6
 have g6:=H.o 6 7
 have g7:=H.o 7 8
 clear H
 have oz2:=@tells_7 (V 0) hk
 have oz52:=@refCheck_v (Nod.mk (V 0) (V 1) 0 0 0 0 0 (V 2) 0 [] [] (V 3) (V 4) (V 5) 0 0 0 (V 6) (V 7)) k0_ k0_ h9
 exact VM.run (fn:=CJ_) (W:=[r_,.r [] [cm g0,cm g1],.r [] [cr oz2],.r [] [.row (sO z48_)],d_,.r [] [.row (sO z48_)],d_,.r [] [.row (sO z48_),e_,e_,e_,f_],d_,.r [] [.row (sO z48_)],d_,.r [] [.row (sO z51_)],b_,.r [] [cm g2],.r [] [.row (sO z48_)],d_,.r [] [.row (sO z48_)],d_,.r [] [.row (sO z53_)],b_,.r [] [cm g3,.n (V 3),cm g4,cm g5],.r [] [.row (sO z48_)],d_,.r [] [cm g6],.r [] [cm g7],r_,d_,.r [] [ca oz52],r_,d_,r_]) (G:=[.drop [2,4,5],.weak 0 (AV.tup [AV.agg [i64 (V 0),i64 (V 1),i64 0,i64 0,i64 0,i64 0,i64 0,i8 (V 2),i8 0,AV.sl 1 [],AV.sl 1 [],i32 (V 3),i64 (V 4),i8 (V 5),i32 0,i64 0,i8 0,i8 (V 6),i8 (V 7)],i64 0]),.sort]) CP_ w_ (.c8 g0 g1 oz2 z3_ z7_ z48_ z1_ z9_<|.c8 z10_ z49_ z1_ z9_ z10_ z49_ z1_ z1_<|.c8 z1_ z1_ (c_ ((V 0==8)=false)) z16_ z17_ z50_ z1_ z18_<|.c8 z19_ z51_ z0_ g2 z3_ z7_ z48_ z1_<|.c8 z20_ z21_ z52_ z1_ z22_ z23_ z53_ z0_<|.c8 g3 (AI_ (V 3) z_) g4 g5 z3_ z7_ z48_ z1_<|.d7 g6 g7 (h_ (((D 8).snd != 0)=false)) (show WeakL [AV.agg [i64 (V 0),i64 (V 1),i64 0,i64 0,i64 0,i64 0,i64 0,i8 (V 2),i8 0,AV.lit (AK_ none 0 0),AV.lit (AK_ none 0 0),i32 (V 3),i64 (V 4),i8 (V 5),i32 0,i64 0,i8 0,i8 (V 6),i8 (V 7)]] [AV.agg [i64 (Nod.mk (V 0) (V 1) 0 0 0 0 0 (V 2) 0 [] [] (V 3) (V 4) (V 5) 0 0 0 (V 6) (V 7)).kd,i64 (Nod.mk (V 0) (V 1) 0 0 0 0 0 (V 2) 0 [] [] (V 3) (V 4) (V 5) 0 0 0 (V 6) (V 7)).na,i64 (Nod.mk (V 0) (V 1) 0 0 0 0 0 (V 2) 0 [] [] (V 3) (V 4) (V 5) 0 0 0 (V 6) (V 7)).nb,i64 (Nod.mk (V 0) (V 1) 0 0 0 0 0 (V 2) 0 [] [] (V 3) (V 4) (V 5) 0 0 0 (V 6) (V 7)).nk,i64 (Nod.mk (V 0) (V 1) 0 0 0 0 0 (V 2) 0 [] [] (V 3) (V 4) (V 5) 0 0 0 (V 6) (V 7)).ns,i64 (Nod.mk (V 0) (V 1) 0 0 0 0 0 (V 2) 0 [] [] (V 3) (V 4) (V 5) 0 0 0 (V 6) (V 7)).np,i64 (Nod.mk (V 0) (V 1) 0 0 0 0 0 (V 2) 0 [] [] (V 3) (V 4) (V 5) 0 0 0 (V 6) (V 7)).no,i8 (Nod.mk (V 0) (V 1) 0 0 0 0 0 (V 2) 0 [] [] (V 3) (V 4) (V 5) 0 0 0 (V 6) (V 7)).za,i8 (Nod.mk (V 0) (V 1) 0 0 0 0 0 (V 2) 0 [] [] (V 3) (V 4) (V 5) 0 0 0 (V 6) (V 7)).zb,AV.sl 1 [],AV.sl 1 [],i32 (Nod.mk (V 0) (V 1) 0 0 0 0 0 (V 2) 0 [] [] (V 3) (V 4) (V 5) 0 0 0 (V 6) (V 7)).qm,i64 (Nod.mk (V 0) (V 1) 0 0 0 0 0 (V 2) 0 [] [] (V 3) (V 4) (V 5) 0 0 0 (V 6) (V 7)).qs,i8 (Nod.mk (V 0) (V 1) 0 0 0 0 0 (V 2) 0 [] [] (V 3) (V 4) (V 5) 0 0 0 (V 6) (V 7)).qz,i32 (Nod.mk (V 0) (V 1) 0 0 0 0 0 (V 2) 0 [] [] (V 3) (V 4) (V 5) 0 0 0 (V 6) (V 7)).rm,i64 (Nod.mk (V 0) (V 1) 0 0 0 0 0 (V 2) 0 [] [] (V 3) (V 4) (V 5) 0 0 0 (V 6) (V 7)).rs,i8 (Nod.mk (V 0) (V 1) 0 0 0 0 0 (V 2) 0 [] [] (V 3) (V 4) (V 5) 0 0 0 (V 6) (V 7)).rz,i8 (Nod.mk (V 0) (V 1) 0 0 0 0 0 (V 2) 0 [] [] (V 3) (V 4) (V 5) 0 0 0 (V 6) (V 7)).lo,i8 (Nod.mk (V 0) (V 1) 0 0 0 0 0 (V 2) 0 [] [] (V 3) (V 4) (V 5) 0 0 0 (V 6) (V 7)).hi]] from (.cons (AZ_ (.cons (.refl _) (.cons (.refl _) (.cons (.refl _) (.cons (.refl _) (.cons (.refl _) (.cons (.refl _) (.cons (.refl _) (.cons (.refl _) (.cons (.refl _) (.cons (AV_ _) (.cons (AV_ _) (.cons (.refl _) (.cons (.refl _) (.cons (.refl _) (.cons (.refl _) (.cons (.refl _) (.cons (.refl _) (.cons (.refl _) (.cons (.refl _) .nil)))))))))))))))))))) .nil)) oz52 (h_ ((checkE (Nod.mk (V 0) (V 1) 0 0 0 0 0 (V 2) 0 [] [] (V 3) (V 4) (V 5) 0 0 0 (V 6) (V 7)) != 0)=false)) (show Weak (AV.tup [AV.agg [i64 (V 0),i64 (V 1),i64 0,i64 0,i64 0,i64 0,i64 0,i8 (V 2),i8 0,AV.lit (AK_ none 0 0),AV.lit (AK_ none 0 0),i32 (V 3),i64 (V 4),i8 (V 5),i32 0,i64 0,i8 0,i8 (V 6),i8 (V 7)],i64 0]) (AV.tup [AV.agg [i64 (V 0),i64 (V 1),i64 0,i64 0,i64 0,i64 0,i64 0,i8 (V 2),i8 0,AV.sl 1 [],AV.sl 1 [],i32 (V 3),i64 (V 4),i8 (V 5),i32 0,i64 0,i8 0,i8 (V 6),i8 (V 7)],i64 0]) from (AA_ (.cons (AZ_ (.cons (.refl _) (.cons (.refl _) (.cons (.refl _) (.cons (.refl _) (.cons (.refl _) (.cons (.refl _) (.cons (.refl _) (.cons (.refl _) (.cons (.refl _) (.cons (AV_ _) (.cons (AV_ _) (.cons (.refl _) (.cons (.refl _) (.cons (.refl _) (.cons (.refl _) (.cons (.refl _) (.cons (.refl _) (.cons (.refl _) (.cons (.refl _) .nil)))))))))))))))))))) (.cons (.refl _) .nil)))))
def sc8:List Stp:=[.c 9,.c 1024,.c 1024,.o]
theorem z54_:[[bv false],[bv false],[bv false],[bv true],[bv false],[bv false]][(0:Nat)]? = some [bv false]:=rfl
theorem z55_:[[bv false],[bv false],[bv false],[bv true],[bv false],[bv false]][(1:Nat)]? = some [bv false]:=rfl
theorem z56_:[[bv false],[bv false],[bv false],[bv true],[bv false],[bv false]][(2:Nat)]? = some [bv false]:=rfl
theorem z57_:[[bv false],[bv false],[bv false],[bv true],[bv false],[bv false]][(3:Nat)]? = some [bv true]:=rfl
theorem z58_:[[bv false],[bv false],[bv false],[bv true],[bv false],[bv false]][(4:Nat)]? = some [bv false]:=rfl
theorem z59_:[[bv false],[bv false],[bv false],[bv true],[bv false],[bv false]][(5:Nat)]? = some [bv false]:=rfl
theorem rw_8b (xs:List Int) (D:Nat→Rrf) (V:Nat→Int) (W:Nat→List Int) (H:Scr xs sc8 D V W) (hk:V 0=8) (h9:In64 (V 0))  (hbad:(D 4).2≠0):VM M_ 104 ([.ptr 100000 0 0]) ([(100000,.var (rrC xs (D 0)))]) (.tup [.agg [i64 0,i64 0,i64 0,i64 0,i64 0,i64 0,i64 0,i8 0,i8 0,.sl 1 [],.sl 1 [],i32 0,i64 0,i8 0,i32 0,i64 0,i8 0,i8 0,i8 0],i64 (D 4).2]) ([(100000,.var (rrC xs (D 4)))]):=by
 have g0:=H.c 0 1 9
 have g1:=H.c 1 2 1024
 have g2:=H.c 2 3 1024
 have g3:=H.o 3 4
 clear H
 have oz2:=@tells_8 (V 0) hk
 exact VM.run (fn:=CJ_) (W:=[r_,.r [] [cm g0,cm g1],.r [] [cr oz2],.r [] [.row (sO z54_)],d_,.r [] [.row (sO z54_)],d_,.r [] [.row (sO z54_),e_,e_,e_,f_],b_,.r [] [cm g2],.r [] [.row (sO z56_)],d_,.r [] [.row (sO z57_)],b_,.r [] [cm g3],.r [] [.row (sO z54_)],d_,.r [] [.row (sO z54_)],d_,.r [] [.row (sO z54_)],d_,r_,b_,r_]) (G:=[.drop [2,4,5],.weak 0 (AV.tup [AV.agg [i64 0,i64 0,i64 0,i64 0,i64 0,i64 0,i64 0,i8 0,i8 0,AV.sl 1 [],AV.sl 1 [],i32 0,i64 0,i8 0,i32 0,i64 0,i8 0,i8 0,i8 0],i64 (D 4).snd]),.sort]) CP_ w_ (.c8 g0 g1 oz2 z3_ z7_ z54_ z1_ z9_<|.c8 z10_ z55_ z1_ z9_ z10_ z55_ z1_ z1_<|.c8 z1_ z1_ (y_ ((V 0==8)=true)) g2 z16_ z17_ z56_ z1_<|.c8 z18_ z19_ z57_ z0_ g3 z3_ z7_ z54_<|.c8 z1_ z20_ z21_ z58_ z1_ z22_ z23_ z59_<|.d3 z1_ (h_ (((D 4).snd != 0)=true)) (show Weak (AV.tup [AV.agg [i64 0,i64 0,i64 0,i64 0,i64 0,i64 0,i64 0,i8 0,i8 0,AV.lit (AK_ none 0 0),AV.lit (AK_ none 0 0),i32 0,i64 0,i8 0,i32 0,i64 0,i8 0,i8 0,i8 0],i64 (D 4).snd]) (AV.tup [AV.agg [i64 0,i64 0,i64 0,i64 0,i64 0,i64 0,i64 0,i8 0,i8 0,AV.sl 1 [],AV.sl 1 [],i32 0,i64 0,i8 0,i32 0,i64 0,i8 0,i8 0,i8 0],i64 (D 4).snd]) from (AA_ (.cons (AZ_ (.cons (.refl _) (.cons (.refl _) (.cons (.refl _) (.cons (.refl _) (.cons (.refl _) (.cons (.refl _) (.cons (.refl _) (.cons (.refl _) (.cons (.refl _) (.cons (AV_ _) (.cons (AV_ _) (.cons (.refl _) (.cons (.refl _) (.cons (.refl _) (.cons (.refl _) (.cons (.refl _) (.cons (.refl _) (.cons (.refl _) (.cons (.refl _) .nil)))))))))))))))))))) (.cons (.refl _) .nil)))))
theorem rw_8c (xs:List Int) (D:Nat→Rrf) (V:Nat→Int) (W:Nat→List Int) (H:Scr xs sc8 D V W) (hk:V 0=8) (h9:In64 (V 0))  (hbad:(D 4).2=0)  (hc:checkE (⟨V 0,V 1,0,0,0,V 2,0,V 3,0,[],[],0,0,0,0,0,0,0,0⟩:Nod)≠0):VM M_ 104 ([.ptr 100000 0 0]) ([(100000,.var (rrC xs (D 0)))]) (.tup [.agg [i64 0,i64 0,i64 0,i64 0,i64 0,i64 0,i64 0,i8 0,i8 0,.sl 1 [],.sl 1 [],i32 0,i64 0,i8 0,i32 0,i64 0,i8 0,i8 0,i8 0],i64 (checkE (⟨V 0,V 1,0,0,0,V 2,0,V 3,0,[],[],0,0,0,0,0,0,0,0⟩:Nod))]) ([(100000,.var (rrC xs (D 4)))]):=by
 have g0:=H.c 0 1 9
 have g1:=H.c 1 2 1024
 have g2:=H.c 2 3 1024
 have g3:=H.o 3 4
 clear H
 have oz2:=@tells_8 (V 0) hk
 have oz43:=@refCheck_v (Nod.mk (V 0) (V 1) 0 0 0 (V 2) 0 (V 3) 0 [] [] 0 0 0 0 0 0 0 0) k0_ k0_ h9
 exact VM.run (fn:=CJ_) (W:=[r_,.r [] [cm g0,cm g1],.r [] [cr oz2],.r [] [.row (sO z54_)],d_,.r [] [.row (sO z54_)],d_,.r [] [.row (sO z54_),e_,e_,e_,f_],b_,.r [] [cm g2],.r [] [.row (sO z56_)],d_,.r [] [.row (sO z57_)],b_,.r [] [cm g3],.r [] [.row (sO z54_)],d_,.r [] [.row (sO z54_)],d_,.r [] [.row (sO z54_)],d_,r_,d_,.r [] [ca oz43],r_,b_,r_]) (G:=[.drop [2,4,5],.weak 0 (AV.tup [AV.agg [i64 0,i64 0,i64 0,i64 0,i64 0,i64 0,i64 0,i8 0,i8 0,AV.sl 1 [],AV.sl 1 [],i32 0,i64 0,i8 0,i32 0,i64 0,i8 0,i8 0,i8 0],i64 (checkE (Nod.mk (V 0) (V 1) 0 0 0 (V 2) 0 (V 3) 0 [] [] 0 0 0 0 0 0 0 0))]),.sort]) CP_ w_ (.c8 g0 g1 oz2 z3_ z7_ z54_ z1_ z9_<|.c8 z10_ z55_ z1_ z9_ z10_ z55_ z1_ z1_<|.c8 z1_ z1_ (y_ ((V 0==8)=true)) g2 z16_ z17_ z56_ z1_<|.c8 z18_ z19_ z57_ z0_ g3 z3_ z7_ z54_<|.c8 z1_ z20_ z21_ z58_ z1_ z22_ z23_ z59_<|.d6 z1_ (h_ (((D 4).snd != 0)=false)) (show WeakL [AV.agg [i64 (V 0),i64 (V 1),i64 0,i64 0,i64 0,i64 (V 2),i64 0,i8 (V 3),i8 0,AV.lit (AK_ none 0 0),AV.lit (AK_ none 0 0),i32 0,i64 0,i8 0,i32 0,i64 0,i8 0,i8 0,i8 0]] [AV.agg [i64 (Nod.mk (V 0) (V 1) 0 0 0 (V 2) 0 (V 3) 0 [] [] 0 0 0 0 0 0 0 0).kd,i64 (Nod.mk (V 0) (V 1) 0 0 0 (V 2) 0 (V 3) 0 [] [] 0 0 0 0 0 0 0 0).na,i64 (Nod.mk (V 0) (V 1) 0 0 0 (V 2) 0 (V 3) 0 [] [] 0 0 0 0 0 0 0 0).nb,i64 (Nod.mk (V 0) (V 1) 0 0 0 (V 2) 0 (V 3) 0 [] [] 0 0 0 0 0 0 0 0).nk,i64 (Nod.mk (V 0) (V 1) 0 0 0 (V 2) 0 (V 3) 0 [] [] 0 0 0 0 0 0 0 0).ns,i64 (Nod.mk (V 0) (V 1) 0 0 0 (V 2) 0 (V 3) 0 [] [] 0 0 0 0 0 0 0 0).np,i64 (Nod.mk (V 0) (V 1) 0 0 0 (V 2) 0 (V 3) 0 [] [] 0 0 0 0 0 0 0 0).no,i8 (Nod.mk (V 0) (V 1) 0 0 0 (V 2) 0 (V 3) 0 [] [] 0 0 0 0 0 0 0 0).za,i8 (Nod.mk (V 0) (V 1) 0 0 0 (V 2) 0 (V 3) 0 [] [] 0 0 0 0 0 0 0 0).zb,AV.sl 1 [],AV.sl 1 [],i32 (Nod.mk (V 0) (V 1) 0 0 0 (V 2) 0 (V 3) 0 [] [] 0 0 0 0 0 0 0 0).qm,i64 (Nod.mk (V 0) (V 1) 0 0 0 (V 2) 0 (V 3) 0 [] [] 0 0 0 0 0 0 0 0).qs,i8 (Nod.mk (V 0) (V 1) 0 0 0 (V 2) 0 (V 3) 0 [] [] 0 0 0 0 0 0 0 0).qz,i32 (Nod.mk (V 0) (V 1) 0 0 0 (V 2) 0 (V 3) 0 [] [] 0 0 0 0 0 0 0 0).rm,i64 (Nod.mk (V 0) (V 1) 0 0 0 (V 2) 0 (V 3) 0 [] [] 0 0 0 0 0 0 0 0).rs,i8 (Nod.mk (V 0) (V 1) 0 0 0 (V 2) 0 (V 3) 0 [] [] 0 0 0 0 0 0 0 0).rz,i8 (Nod.mk (V 0) (V 1) 0 0 0 (V 2) 0 (V 3) 0 [] [] 0 0 0 0 0 0 0 0).lo,i8 (Nod.mk (V 0) (V 1) 0 0 0 (V 2) 0 (V 3) 0 [] [] 0 0 0 0 0 0 0 0).hi]] from (.cons (AZ_ (.cons (.refl _) (.cons (.refl _) (.cons (.refl _) (.cons (.refl _) (.cons (.refl _) (.cons (.refl _) (.cons (.refl _) (.cons (.refl _) (.cons (.refl _) (.cons (AV_ _) (.cons (AV_ _) (.cons (.refl _) (.cons (.refl _) (.cons (.refl _) (.cons (.refl _) (.cons (.refl _) (.cons (.refl _) (.cons (.refl _) (.cons (.refl _) .nil)))))))))))))))))))) .nil)) oz43 (h_ ((checkE (Nod.mk (V 0) (V 1) 0 0 0 (V 2) 0 (V 3) 0 [] [] 0 0 0 0 0 0 0 0) != 0)=true)) (show Weak (AV.tup [AV.agg [i64 0,i64 0,i64 0,i64 0,i64 0,i64 0,i64 0,i8 0,i8 0,AV.lit (AK_ none 0 0),AV.lit (AK_ none 0 0),i32 0,i64 0,i8 0,i32 0,i64 0,i8 0,i8 0,i8 0],i64 (checkE (Nod.mk (V 0) (V 1) 0 0 0 (V 2) 0 (V 3) 0 [] [] 0 0 0 0 0 0 0 0))]) (AV.tup [AV.agg [i64 0,i64 0,i64 0,i64 0,i64 0,i64 0,i64 0,i8 0,i8 0,AV.sl 1 [],AV.sl 1 [],i32 0,i64 0,i8 0,i32 0,i64 0,i8 0,i8 0,i8 0],i64 (checkE (Nod.mk (V 0) (V 1) 0 0 0 (V 2) 0 (V 3) 0 [] [] 0 0 0 0 0 0 0 0))]) from (AA_ (.cons (AZ_ (.cons (.refl _) (.cons (.refl _) (.cons (.refl _) (.cons (.refl _) (.cons (.refl _) (.cons (.refl _) (.cons (.refl _) (.cons (.refl _) (.cons (.refl _) (.cons (AV_ _) (.cons (AV_ _) (.cons (.refl _) (.cons (.refl _) (.cons (.refl _) (.cons (.refl _) (.cons (.refl _) (.cons (.refl _) (.cons (.refl _) (.cons (.refl _) .nil)))))))))))))))))))) (.cons (.refl _) .nil)))))
theorem rw_8y (xs:List Int) (D:Nat→Rrf) (V:Nat→Int) (W:Nat→List Int) (H:Scr xs sc8 D V W) (hk:V 0=8) (h9:In64 (V 0))  (hbad:(D 4).2=0)  (hc:checkE (⟨V 0,V 1,0,0,0,V 2,0,V 3,0,[],[],0,0,0,0,0,0,0,0⟩:Nod)=0):VM M_ 104 ([.ptr 100000 0 0]) ([(100000,.var (rrC xs (D 0)))]) (.tup [nod (⟨V 0,V 1,0,0,0,V 2,0,V 3,0,[],[],0,0,0,0,0,0,0,0⟩:Nod),i64 0]) ([(100000,.var (rrC xs (D 4)))]):=by
 have g0:=H.c 0 1 9
 have g1:=H.c 1 2 1024
 have g2:=H.c 2 3 1024
 have g3:=H.o 3 4
 clear H
 have oz2:=@tells_8 (V 0) hk
 have oz43:=@refCheck_v (Nod.mk (V 0) (V 1) 0 0 0 (V 2) 0 (V 3) 0 [] [] 0 0 0 0 0 0 0 0) k0_ k0_ h9
 exact VM.run (fn:=CJ_) (W:=[r_,.r [] [cm g0,cm g1],.r [] [cr oz2],.r [] [.row (sO z54_)],d_,.r [] [.row (sO z54_)],d_,.r [] [.row (sO z54_),e_,e_,e_,f_],b_,.r [] [cm g2],.r [] [.row (sO z56_)],d_,.r [] [.row (sO z57_)],b_,.r [] [cm g3],.r [] [.row (sO z54_)],d_,.r [] [.row (sO z54_)],d_,.r [] [.row (sO z54_)],d_,r_,d_,.r [] [ca oz43],r_,d_,r_]) (G:=[.drop [2,4,5],.weak 0 (AV.tup [AV.agg [i64 (V 0),i64 (V 1),i64 0,i64 0,i64 0,i64 (V 2),i64 0,i8 (V 3),i8 0,AV.sl 1 [],AV.sl 1 [],i32 0,i64 0,i8 0,i32 0,i64 0,i8 0,i8 0,i8 0],i64 0]),.sort]) CP_ w_ (.c8 g0 g1 oz2 z3_ z7_ z54_ z1_ z9_<|.c8 z10_ z55_ z1_ z9_ z10_ z55_ z1_ z1_<|.c8 z1_ z1_ (y_ ((V 0==8)=true)) g2 z16_ z17_ z56_ z1_<|.c8 z18_ z19_ z57_ z0_ g3 z3_ z7_ z54_<|.c8 z1_ z20_ z21_ z58_ z1_ z22_ z23_ z59_<|.d6 z1_ (h_ (((D 4).snd != 0)=false)) (show WeakL [AV.agg [i64 (V 0),i64 (V 1),i64 0,i64 0,i64 0,i64 (V 2),i64 0,i8 (V 3),i8 0,AV.lit (AK_ none 0 0),AV.lit (AK_ none 0 0),i32 0,i64 0,i8 0,i32 0,i64 0,i8 0,i8 0,i8 0]] [AV.agg [i64 (Nod.mk (V 0) (V 1) 0 0 0 (V 2) 0 (V 3) 0 [] [] 0 0 0 0 0 0 0 0).kd,i64 (Nod.mk (V 0) (V 1) 0 0 0 (V 2) 0 (V 3) 0 [] [] 0 0 0 0 0 0 0 0).na,i64 (Nod.mk (V 0) (V 1) 0 0 0 (V 2) 0 (V 3) 0 [] [] 0 0 0 0 0 0 0 0).nb,i64 (Nod.mk (V 0) (V 1) 0 0 0 (V 2) 0 (V 3) 0 [] [] 0 0 0 0 0 0 0 0).nk,i64 (Nod.mk (V 0) (V 1) 0 0 0 (V 2) 0 (V 3) 0 [] [] 0 0 0 0 0 0 0 0).ns,i64 (Nod.mk (V 0) (V 1) 0 0 0 (V 2) 0 (V 3) 0 [] [] 0 0 0 0 0 0 0 0).np,i64 (Nod.mk (V 0) (V 1) 0 0 0 (V 2) 0 (V 3) 0 [] [] 0 0 0 0 0 0 0 0).no,i8 (Nod.mk (V 0) (V 1) 0 0 0 (V 2) 0 (V 3) 0 [] [] 0 0 0 0 0 0 0 0).za,i8 (Nod.mk (V 0) (V 1) 0 0 0 (V 2) 0 (V 3) 0 [] [] 0 0 0 0 0 0 0 0).zb,AV.sl 1 [],AV.sl 1 [],i32 (Nod.mk (V 0) (V 1) 0 0 0 (V 2) 0 (V 3) 0 [] [] 0 0 0 0 0 0 0 0).qm,i64 (Nod.mk (V 0) (V 1) 0 0 0 (V 2) 0 (V 3) 0 [] [] 0 0 0 0 0 0 0 0).qs,i8 (Nod.mk (V 0) (V 1) 0 0 0 (V 2) 0 (V 3) 0 [] [] 0 0 0 0 0 0 0 0).qz,i32 (Nod.mk (V 0) (V 1) 0 0 0 (V 2) 0 (V 3) 0 [] [] 0 0 0 0 0 0 0 0).rm,i64 (Nod.mk (V 0) (V 1) 0 0 0 (V 2) 0 (V 3) 0 [] [] 0 0 0 0 0 0 0 0).rs,i8 (Nod.mk (V 0) (V 1) 0 0 0 (V 2) 0 (V 3) 0 [] [] 0 0 0 0 0 0 0 0).rz,i8 (Nod.mk (V 0) (V 1) 0 0 0 (V 2) 0 (V 3) 0 [] [] 0 0 0 0 0 0 0 0).lo,i8 (Nod.mk (V 0) (V 1) 0 0 0 (V 2) 0 (V 3) 0 [] [] 0 0 0 0 0 0 0 0).hi]] from (.cons (AZ_ (.cons (.refl _) (.cons (.refl _) (.cons (.refl _) (.cons (.refl _) (.cons (.refl _) (.cons (.refl _) (.cons (.refl _) (.cons (.refl _) (.cons (.refl _) (.cons (AV_ _) (.cons (AV_ _) (.cons (.refl _) (.cons (.refl _) (.cons (.refl _) (.cons (.refl _) (.cons (.refl _) (.cons (.refl _) (.cons (.refl _) (.cons (.refl _) .nil)))))))))))))))))))) .nil)) oz43 (h_ ((checkE (Nod.mk (V 0) (V 1) 0 0 0 (V 2) 0 (V 3) 0 [] [] 0 0 0 0 0 0 0 0) != 0)=false)) (show Weak (AV.tup [AV.agg [i64 (V 0),i64 (V 1),i64 0,i64 0,i64 0,i64 (V 2),i64 0,i8 (V 3),i8 0,AV.lit (AK_ none 0 0),AV.lit (AK_ none 0 0),i32 0,i64 0,i8 0,i32 0,i64 0,i8 0,i8 0,i8 0],i64 0]) (AV.tup [AV.agg [i64 (V 0),i64 (V 1),i64 0,i64 0,i64 0,i64 (V 2),i64 0,i8 (V 3),i8 0,AV.sl 1 [],AV.sl 1 [],i32 0,i64 0,i8 0,i32 0,i64 0,i8 0,i8 0,i8 0],i64 0]) from (AA_ (.cons (AZ_ (.cons (.refl _) (.cons (.refl _) (.cons (.refl _) (.cons (.refl _) (.cons (.refl _) (.cons (.refl _) (.cons (.refl _) (.cons (.refl _) (.cons (.refl _) (.cons (AV_ _) (.cons (AV_ _) (.cons (.refl _) (.cons (.refl _) (.cons (.refl _) (.cons (.refl _) (.cons (.refl _) (.cons (.refl _) (.cons (.refl _) (.cons (.refl _) .nil)))))))))))))))))))) (.cons (.refl _) .nil)))))
def sc9:List Stp:=[.c 9,.c 1024]
theorem z60_:[[bv false],[bv false],[bv false],[bv false],[bv false],[bv false]][(0:Nat)]? = some [bv false]:=rfl
theorem z61_:[[bv false],[bv false],[bv false],[bv false],[bv false],[bv false]][(1:Nat)]? = some [bv false]:=rfl
theorem z62_:[[bv false],[bv false],[bv false],[bv false],[bv false],[bv false]][(2:Nat)]? = some [bv false]:=rfl
theorem z63_:[[bv false],[bv false],[bv false],[bv false],[bv false],[bv false]][(3:Nat)]? = some [bv false]:=rfl
theorem z64_:[[bv false],[bv false],[bv false],[bv false],[bv false],[bv false]][(4:Nat)]? = some [bv false]:=rfl
theorem z65_:[[bv false],[bv false],[bv false],[bv false],[bv false],[bv false]][(5:Nat)]? = some [bv false]:=rfl
theorem rw_9b (xs:List Int) (D:Nat→Rrf) (V:Nat→Int) (W:Nat→List Int) (H:Scr xs sc9 D V W) (hk:V 0<1∨8<V 0) (h9:In64 (V 0))  (hbad:(D 2).2≠0):VM M_ 104 ([.ptr 100000 0 0]) ([(100000,.var (rrC xs (D 0)))]) (.tup [.agg [i64 0,i64 0,i64 0,i64 0,i64 0,i64 0,i64 0,i8 0,i8 0,.sl 1 [],.sl 1 [],i32 0,i64 0,i8 0,i32 0,i64 0,i8 0,i8 0,i8 0],i64 (D 2).2]) ([(100000,.var (rrC xs (D 2)))]):=by
 have g0:=H.c 0 1 9
 have g1:=H.c 1 2 1024
 clear H
 have oz2:=@tells_9 (V 0) hk
 exact VM.run (fn:=CJ_) (W:=[r_,.r [] [cm g0,cm g1],.r [] [cr oz2],.r [] [.row (sO z60_)],d_,.r [] [.row (sO z60_)],d_,.r [] [.row (sO z60_),e_,e_,e_,f_],d_,.r [] [.row (sO z60_)],d_,.r [] [.row (sO z60_)],d_,.r [] [.row (sO z60_)],d_,.r [] [.row (sO z60_)],d_,.r [] [.row (sO z60_)],d_,r_,b_,r_]) (G:=[.drop [2,4,5],.weak 0 (AV.tup [AV.agg [i64 0,i64 0,i64 0,i64 0,i64 0,i64 0,i64 0,i8 0,i8 0,AV.sl 1 [],AV.sl 1 [],i32 0,i64 0,i8 0,i32 0,i64 0,i8 0,i8 0,i8 0],i64 (D 2).snd]),.sort]) CP_ w_ (.c8 g0 g1 oz2 z3_ z7_ z60_ z1_ z9_<|.c8 z10_ z61_ z1_ z9_ z10_ z61_ z1_ z1_<|.c8 z1_ z1_ (c_ ((V 0==8)=false)) z16_ z17_ z62_ z1_ z18_<|.c8 z19_ z63_ z1_ z3_ z7_ z60_ z1_ z20_<|.c8 z21_ z64_ z1_ z22_ z23_ z65_ z1_ (h_ (((D 2).snd != 0)=true))<|.d (show Weak (AV.tup [AV.agg [i64 0,i64 0,i64 0,i64 0,i64 0,i64 0,i64 0,i8 0,i8 0,AV.lit (AK_ none 0 0),AV.lit (AK_ none 0 0),i32 0,i64 0,i8 0,i32 0,i64 0,i8 0,i8 0,i8 0],i64 (D 2).snd]) (AV.tup [AV.agg [i64 0,i64 0,i64 0,i64 0,i64 0,i64 0,i64 0,i8 0,i8 0,AV.sl 1 [],AV.sl 1 [],i32 0,i64 0,i8 0,i32 0,i64 0,i8 0,i8 0,i8 0],i64 (D 2).snd]) from (AA_ (.cons (AZ_ (.cons (.refl _) (.cons (.refl _) (.cons (.refl _) (.cons (.refl _) (.cons (.refl _) (.cons (.refl _) (.cons (.refl _) (.cons (.refl _) (.cons (.refl _) (.cons (AV_ _) (.cons (AV_ _) (.cons (.refl _) (.cons (.refl _) (.cons (.refl _) (.cons (.refl _) (.cons (.refl _) (.cons (.refl _) (.cons (.refl _) (.cons (.refl _) .nil)))))))))))))))))))) (.cons (.refl _) .nil)))))
theorem rw_9c (xs:List Int) (D:Nat→Rrf) (V:Nat→Int) (W:Nat→List Int) (H:Scr xs sc9 D V W) (hk:V 0<1∨8<V 0) (h9:In64 (V 0))  (hbad:(D 2).2=0)  (hc:checkE (⟨V 0,V 1,0,0,0,0,0,0,0,[],[],0,0,0,0,0,0,0,0⟩:Nod)≠0):VM M_ 104 ([.ptr 100000 0 0]) ([(100000,.var (rrC xs (D 0)))]) (.tup [.agg [i64 0,i64 0,i64 0,i64 0,i64 0,i64 0,i64 0,i8 0,i8 0,.sl 1 [],.sl 1 [],i32 0,i64 0,i8 0,i32 0,i64 0,i8 0,i8 0,i8 0],i64 (checkE (⟨V 0,V 1,0,0,0,0,0,0,0,[],[],0,0,0,0,0,0,0,0⟩:Nod))]) ([(100000,.var (rrC xs (D 2)))]):=by
 have g0:=H.c 0 1 9
 have g1:=H.c 1 2 1024
 clear H
 have oz2:=@tells_9 (V 0) hk
 have oz41:=@refCheck_v (Nod.mk (V 0) (V 1) 0 0 0 0 0 0 0 [] [] 0 0 0 0 0 0 0 0) k0_ k0_ h9
 exact VM.run (fn:=CJ_) (W:=[r_,.r [] [cm g0,cm g1],.r [] [cr oz2],.r [] [.row (sO z60_)],d_,.r [] [.row (sO z60_)],d_,.r [] [.row (sO z60_),e_,e_,e_,f_],d_,.r [] [.row (sO z60_)],d_,.r [] [.row (sO z60_)],d_,.r [] [.row (sO z60_)],d_,.r [] [.row (sO z60_)],d_,.r [] [.row (sO z60_)],d_,r_,d_,.r [] [ca oz41],r_,b_,r_]) (G:=[.drop [2,4,5],.weak 0 (AV.tup [AV.agg [i64 0,i64 0,i64 0,i64 0,i64 0,i64 0,i64 0,i8 0,i8 0,AV.sl 1 [],AV.sl 1 [],i32 0,i64 0,i8 0,i32 0,i64 0,i8 0,i8 0,i8 0],i64 (checkE (Nod.mk (V 0) (V 1) 0 0 0 0 0 0 0 [] [] 0 0 0 0 0 0 0 0))]),.sort]) CP_ w_ (.c8 g0 g1 oz2 z3_ z7_ z60_ z1_ z9_<|.c8 z10_ z61_ z1_ z9_ z10_ z61_ z1_ z1_<|.c8 z1_ z1_ (c_ ((V 0==8)=false)) z16_ z17_ z62_ z1_ z18_<|.c8 z19_ z63_ z1_ z3_ z7_ z60_ z1_ z20_<|.c8 z21_ z64_ z1_ z22_ z23_ z65_ z1_ (h_ (((D 2).snd != 0)=false))<|.d4 (show WeakL [AV.agg [i64 (V 0),i64 (V 1),i64 0,i64 0,i64 0,i64 0,i64 0,i8 0,i8 0,AV.lit (AK_ none 0 0),AV.lit (AK_ none 0 0),i32 0,i64 0,i8 0,i32 0,i64 0,i8 0,i8 0,i8 0]] [AV.agg [i64 (Nod.mk (V 0) (V 1) 0 0 0 0 0 0 0 [] [] 0 0 0 0 0 0 0 0).kd,i64 (Nod.mk (V 0) (V 1) 0 0 0 0 0 0 0 [] [] 0 0 0 0 0 0 0 0).na,i64 (Nod.mk (V 0) (V 1) 0 0 0 0 0 0 0 [] [] 0 0 0 0 0 0 0 0).nb,i64 (Nod.mk (V 0) (V 1) 0 0 0 0 0 0 0 [] [] 0 0 0 0 0 0 0 0).nk,i64 (Nod.mk (V 0) (V 1) 0 0 0 0 0 0 0 [] [] 0 0 0 0 0 0 0 0).ns,i64 (Nod.mk (V 0) (V 1) 0 0 0 0 0 0 0 [] [] 0 0 0 0 0 0 0 0).np,i64 (Nod.mk (V 0) (V 1) 0 0 0 0 0 0 0 [] [] 0 0 0 0 0 0 0 0).no,i8 (Nod.mk (V 0) (V 1) 0 0 0 0 0 0 0 [] [] 0 0 0 0 0 0 0 0).za,i8 (Nod.mk (V 0) (V 1) 0 0 0 0 0 0 0 [] [] 0 0 0 0 0 0 0 0).zb,AV.sl 1 [],AV.sl 1 [],i32 (Nod.mk (V 0) (V 1) 0 0 0 0 0 0 0 [] [] 0 0 0 0 0 0 0 0).qm,i64 (Nod.mk (V 0) (V 1) 0 0 0 0 0 0 0 [] [] 0 0 0 0 0 0 0 0).qs,i8 (Nod.mk (V 0) (V 1) 0 0 0 0 0 0 0 [] [] 0 0 0 0 0 0 0 0).qz,i32 (Nod.mk (V 0) (V 1) 0 0 0 0 0 0 0 [] [] 0 0 0 0 0 0 0 0).rm,i64 (Nod.mk (V 0) (V 1) 0 0 0 0 0 0 0 [] [] 0 0 0 0 0 0 0 0).rs,i8 (Nod.mk (V 0) (V 1) 0 0 0 0 0 0 0 [] [] 0 0 0 0 0 0 0 0).rz,i8 (Nod.mk (V 0) (V 1) 0 0 0 0 0 0 0 [] [] 0 0 0 0 0 0 0 0).lo,i8 (Nod.mk (V 0) (V 1) 0 0 0 0 0 0 0 [] [] 0 0 0 0 0 0 0 0).hi]] from (.cons (AZ_ (.cons (.refl _) (.cons (.refl _) (.cons (.refl _) (.cons (.refl _) (.cons (.refl _) (.cons (.refl _) (.cons (.refl _) (.cons (.refl _) (.cons (.refl _) (.cons (AV_ _) (.cons (AV_ _) (.cons (.refl _) (.cons (.refl _) (.cons (.refl _) (.cons (.refl _) (.cons (.refl _) (.cons (.refl _) (.cons (.refl _) (.cons (.refl _) .nil)))))))))))))))))))) .nil)) oz41 (h_ ((checkE (Nod.mk (V 0) (V 1) 0 0 0 0 0 0 0 [] [] 0 0 0 0 0 0 0 0) != 0)=true)) (show Weak (AV.tup [AV.agg [i64 0,i64 0,i64 0,i64 0,i64 0,i64 0,i64 0,i8 0,i8 0,AV.lit (AK_ none 0 0),AV.lit (AK_ none 0 0),i32 0,i64 0,i8 0,i32 0,i64 0,i8 0,i8 0,i8 0],i64 (checkE (Nod.mk (V 0) (V 1) 0 0 0 0 0 0 0 [] [] 0 0 0 0 0 0 0 0))]) (AV.tup [AV.agg [i64 0,i64 0,i64 0,i64 0,i64 0,i64 0,i64 0,i8 0,i8 0,AV.sl 1 [],AV.sl 1 [],i32 0,i64 0,i8 0,i32 0,i64 0,i8 0,i8 0,i8 0],i64 (checkE (Nod.mk (V 0) (V 1) 0 0 0 0 0 0 0 [] [] 0 0 0 0 0 0 0 0))]) from (AA_ (.cons (AZ_ (.cons (.refl _) (.cons (.refl _) (.cons (.refl _) (.cons (.refl _) (.cons (.refl _) (.cons (.refl _) (.cons (.refl _) (.cons (.refl _) (.cons (.refl _) (.cons (AV_ _) (.cons (AV_ _) (.cons (.refl _) (.cons (.refl _) (.cons (.refl _) (.cons (.refl _) (.cons (.refl _) (.cons (.refl _) (.cons (.refl _) (.cons (.refl _) .nil)))))))))))))))))))) (.cons (.refl _) .nil)))))
theorem rw_9y (xs:List Int) (D:Nat→Rrf) (V:Nat→Int) (W:Nat→List Int) (H:Scr xs sc9 D V W) (hk:V 0<1∨8<V 0) (h9:In64 (V 0))  (hbad:(D 2).2=0)  (hc:checkE (⟨V 0,V 1,0,0,0,0,0,0,0,[],[],0,0,0,0,0,0,0,0⟩:Nod)=0):VM M_ 104 ([.ptr 100000 0 0]) ([(100000,.var (rrC xs (D 0)))]) (.tup [nod (⟨V 0,V 1,0,0,0,0,0,0,0,[],[],0,0,0,0,0,0,0,0⟩:Nod),i64 0]) ([(100000,.var (rrC xs (D 2)))]):=by
 have g0:=H.c 0 1 9
 have g1:=H.c 1 2 1024
 clear H
 have oz2:=@tells_9 (V 0) hk
 have oz41:=@refCheck_v (Nod.mk (V 0) (V 1) 0 0 0 0 0 0 0 [] [] 0 0 0 0 0 0 0 0) k0_ k0_ h9
 exact VM.run (fn:=CJ_) (W:=[r_,.r [] [cm g0,cm g1],.r [] [cr oz2],.r [] [.row (sO z60_)],d_,.r [] [.row (sO z60_)],d_,.r [] [.row (sO z60_),e_,e_,e_,f_],d_,.r [] [.row (sO z60_)],d_,.r [] [.row (sO z60_)],d_,.r [] [.row (sO z60_)],d_,.r [] [.row (sO z60_)],d_,.r [] [.row (sO z60_)],d_,r_,d_,.r [] [ca oz41],r_,d_,r_]) (G:=[.drop [2,4,5],.weak 0 (AV.tup [AV.agg [i64 (V 0),i64 (V 1),i64 0,i64 0,i64 0,i64 0,i64 0,i8 0,i8 0,AV.sl 1 [],AV.sl 1 [],i32 0,i64 0,i8 0,i32 0,i64 0,i8 0,i8 0,i8 0],i64 0]),.sort]) CP_ w_ (.c8 g0 g1 oz2 z3_ z7_ z60_ z1_ z9_<|.c8 z10_ z61_ z1_ z9_ z10_ z61_ z1_ z1_<|.c8 z1_ z1_ (c_ ((V 0==8)=false)) z16_ z17_ z62_ z1_ z18_<|.c8 z19_ z63_ z1_ z3_ z7_ z60_ z1_ z20_<|.c8 z21_ z64_ z1_ z22_ z23_ z65_ z1_ (h_ (((D 2).snd != 0)=false))<|.d4 (show WeakL [AV.agg [i64 (V 0),i64 (V 1),i64 0,i64 0,i64 0,i64 0,i64 0,i8 0,i8 0,AV.lit (AK_ none 0 0),AV.lit (AK_ none 0 0),i32 0,i64 0,i8 0,i32 0,i64 0,i8 0,i8 0,i8 0]] [AV.agg [i64 (Nod.mk (V 0) (V 1) 0 0 0 0 0 0 0 [] [] 0 0 0 0 0 0 0 0).kd,i64 (Nod.mk (V 0) (V 1) 0 0 0 0 0 0 0 [] [] 0 0 0 0 0 0 0 0).na,i64 (Nod.mk (V 0) (V 1) 0 0 0 0 0 0 0 [] [] 0 0 0 0 0 0 0 0).nb,i64 (Nod.mk (V 0) (V 1) 0 0 0 0 0 0 0 [] [] 0 0 0 0 0 0 0 0).nk,i64 (Nod.mk (V 0) (V 1) 0 0 0 0 0 0 0 [] [] 0 0 0 0 0 0 0 0).ns,i64 (Nod.mk (V 0) (V 1) 0 0 0 0 0 0 0 [] [] 0 0 0 0 0 0 0 0).np,i64 (Nod.mk (V 0) (V 1) 0 0 0 0 0 0 0 [] [] 0 0 0 0 0 0 0 0).no,i8 (Nod.mk (V 0) (V 1) 0 0 0 0 0 0 0 [] [] 0 0 0 0 0 0 0 0).za,i8 (Nod.mk (V 0) (V 1) 0 0 0 0 0 0 0 [] [] 0 0 0 0 0 0 0 0).zb,AV.sl 1 [],AV.sl 1 [],i32 (Nod.mk (V 0) (V 1) 0 0 0 0 0 0 0 [] [] 0 0 0 0 0 0 0 0).qm,i64 (Nod.mk (V 0) (V 1) 0 0 0 0 0 0 0 [] [] 0 0 0 0 0 0 0 0).qs,i8 (Nod.mk (V 0) (V 1) 0 0 0 0 0 0 0 [] [] 0 0 0 0 0 0 0 0).qz,i32 (Nod.mk (V 0) (V 1) 0 0 0 0 0 0 0 [] [] 0 0 0 0 0 0 0 0).rm,i64 (Nod.mk (V 0) (V 1) 0 0 0 0 0 0 0 [] [] 0 0 0 0 0 0 0 0).rs,i8 (Nod.mk (V 0) (V 1) 0 0 0 0 0 0 0 [] [] 0 0 0 0 0 0 0 0).rz,i8 (Nod.mk (V 0) (V 1) 0 0 0 0 0 0 0 [] [] 0 0 0 0 0 0 0 0).lo,i8 (Nod.mk (V 0) (V 1) 0 0 0 0 0 0 0 [] [] 0 0 0 0 0 0 0 0).hi]] from (.cons (AZ_ (.cons (.refl _) (.cons (.refl _) (.cons (.refl _) (.cons (.refl _) (.cons (.refl _) (.cons (.refl _) (.cons (.refl _) (.cons (.refl _) (.cons (.refl _) (.cons (AV_ _) (.cons (AV_ _) (.cons (.refl _) (.cons (.refl _) (.cons (.refl _) (.cons (.refl _) (.cons (.refl _) (.cons (.refl _) (.cons (.refl _) (.cons (.refl _) .nil)))))))))))))))))))) .nil)) oz41 (h_ ((checkE (Nod.mk (V 0) (V 1) 0 0 0 0 0 0 0 [] [] 0 0 0 0 0 0 0 0) != 0)=false)) (show Weak (AV.tup [AV.agg [i64 (V 0),i64 (V 1),i64 0,i64 0,i64 0,i64 0,i64 0,i8 0,i8 0,AV.lit (AK_ none 0 0),AV.lit (AK_ none 0 0),i32 0,i64 0,i8 0,i32 0,i64 0,i8 0,i8 0,i8 0],i64 0]) (AV.tup [AV.agg [i64 (V 0),i64 (V 1),i64 0,i64 0,i64 0,i64 0,i64 0,i8 0,i8 0,AV.sl 1 [],AV.sl 1 [],i32 0,i64 0,i8 0,i32 0,i64 0,i8 0,i8 0,i8 0],i64 0]) from (AA_ (.cons (AZ_ (.cons (.refl _) (.cons (.refl _) (.cons (.refl _) (.cons (.refl _) (.cons (.refl _) (.cons (.refl _) (.cons (.refl _) (.cons (.refl _) (.cons (.refl _) (.cons (AV_ _) (.cons (AV_ _) (.cons (.refl _) (.cons (.refl _) (.cons (.refl _) (.cons (.refl _) (.cons (.refl _) (.cons (.refl _) (.cons (.refl _) (.cons (.refl _) .nil)))))))))))))))))))) (.cons (.refl _) .nil)))))
theorem toS_2 (xs:List Int) (r:Rrf):(toS xs r).2=r.2:=by
 unfold toS;split
 ·rename_i h;exact h.symm
 ·rfl
def Stp.S:Stp→Rst→Int→Rst
 | .c m,z,_=>cntS z m
 | .o,z,_=>smlS z 1
 | .s,z,p=>smlS z p
 | .w,z,p=>widS z p
def Stp.R (xs:List Int):Stp→Rrf→Int→Rrf
 | .c m,r,_=>cntR xs r m
 | .o,r,_=>smlR xs r 1
 | .s,r,p=>smlR xs r p
 | .w,r,p=>widR xs r p
def Stp.V:Stp→Rst→Int
 | .c m,z=>cntV z m
 | .o,z=>oneV z
 | _,_=>0
def Stp.W:Stp→Rst→Int→List Int
 | .s,z,p=>smlV z p
 | .w,z,p=>widV z p
 | _,_,_=>[]
def scS (l:List Stp) (s:Rst):Nat→Rst×Int
 | 0=>(s,0)
 | k+1=>((l.getD k .o).S (scS l s k).1 (scS l s k).2,(l.getD k .o).V (scS l s k).1)
def scR (l:List Stp) (xs:List Int) (r:Rrf):Nat→Rrf
 | 0=>r
 | k+1=>(l.getD k .o).R xs (scR l xs r k) (scS l (toS xs r) k).2
def scV (l:List Stp) (s:Rst) (k:Nat):Int:=(l.getD k .o).V (scS l s k).1
def scW (l:List Stp) (s:Rst) (k:Nat):List Int:=(l.getD k .o).W (scS l s k).1 (scS l s k).2
theorem scR_s (l:List Stp) (xs:List Int) (r:Rrf) (k:Nat):toS xs (scR l xs r k)=(scS l (toS xs r) k).1:=by
 induction k with
 | zero=>rfl
 | succ k ih =>
  rw[scR,scS]
  dsimp only
  rw[←ih]
  cases l.getD k .o
  ·exact toS_cnt xs _ _
  ·exact toS_sml xs _ _
  ·exact toS_sml xs _ _
  ·exact toS_wid xs _ _
theorem scR_in (l:List Stp) {xs:List Int} {r:Rrf} (h:Rrf.In xs r) (k:Nat):Rrf.In xs (scR l xs r k):=by
 induction k with
 | zero=>exact h
 | succ k ih =>
  rw[scR]
  cases l.getD k .o
  ·exact cntR_in ih _
  ·exact smlR_in ih _
  ·exact smlR_in ih _
  ·exact widR_in ih _
def Stp.ok:Stp→Bool
 | .c m=>decide (0≤m)&&decide (m≤2147483647)
 | _=>true
def Stp.lst:Stp→Bool
 | .s=>true
 | .w=>true
 | _=>false
theorem sc_of {l:List Stp} (hl:l.all Stp.ok=true) (h0:(l.getD 0 .o).lst=false) {xs:List Int} {r:Rrf} (h:Rrf.In xs r):Scr xs l (scR l xs r) (scV l (toS xs r)) (scW l (toS xs r)):=by
 intro k hk
 have i:=scR_in l h k
 have e:=scR_s l xs r k
 have hm:(l.getD k .o)∈l:=by rw[AU_,AP_ hk];exact CN_ hk
 have okm:=List.all_eq_true.1 hl _ hm
 have p:(l.getD k .o).lst=true→scV l (toS xs r) (k-1)=(scS l (toS xs r) k).2:=fun q=>by
  cases k with
  | zero=>rw[h0] at q;cases q
  | succ k=>rfl
 rw[scR]
 unfold scV at *
 unfold scW
 generalize l.getD k .o=t at okm p ⊢
 cases t with
 | c m =>
  simp only[Stp.ok,P_,E_] at okm
  have:=rcnt_v xs (scR l xs r k) m i okm.1 okm.2
  rw[e] at this;exact this
 | o=>have:=rone_v xs (scR l xs r k) i;rw[e] at this;exact this
 | s =>
  have:=rsmall_v xs (scR l xs r k) (scS l (toS xs r) k).2 i
  rw[e] at this;dsimp only[SpV];rw[p rfl];exact this
 | w =>
  have:=rwide_v xs (scR l xs r k) (scS l (toS xs r) k).2 i
  rw[e] at this;dsimp only[SpV];rw[p rfl];exact this
theorem s1_s (s:Rst):ts_1 s=(scS sc1 s 16).1:=by simp only[ts_1,lstS,lst1,sclS,scS,sc1,BY_,BM_,Stp.S,Stp.V]
theorem s1_n (s:Rst):tn_1 s nod0=(⟨scV sc1 s 0,scV sc1 s 1,0,scV sc1 s 2,scV sc1 s 3,scV sc1 s 4,scV sc1 s 5,scV sc1 s 6,0,scW sc1 s 8,scW sc1 s 10,scV sc1 s 11,scV sc1 s 12,scV sc1 s 13,0,0,0,scV sc1 s 14,scV sc1 s 15⟩:Nod):=by simp only[tn_1,lstW,lstB,lst1,lstS,sclM,sclH,sclS,scV,scW,scS,sc1,BY_,BM_,Stp.S,Stp.V,Stp.W];rfl
theorem rtake_1v (xs:List Int) (r:Rrf) (i0:Rrf.In xs r) (hf:(toS xs r).Fit) (hk:cntV (toS xs r) 9=1):VM M_ 104 [.ptr 100000 0 0] [(100000,.var (rrC xs r))] (.tup [nod (takeR (toS xs r)).1,i64 (takeR (toS xs r)).2]) [(100000,.var (rrC xs (scR sc1 xs r 16)))]:=by
 have e1:takeS (toS xs r)=ts_1 (toS xs r):=by unfold takeS;rw[i_ hk]
 have e2:takeN (toS xs r)=tn_1 (toS xs r) nod0:=by unfold takeN;rw[i_ hk]
 have e4:(takeS (toS xs r)).2=(scR sc1 xs r 16).2:=by rw[e1,s1_s,←scR_s,toS_2]
 have e5:=e2.trans (s1_n (toS xs r))
 have bound:=takeN_le hf
 have h9:In64 (cntV (toS xs r) 9):=by have:=cntV_rng (m:=9) (toS_in i0) x_;exact ⟨by omega,by omega⟩
 have H:=sc_of (l:=sc1) x_ rfl i0
 unfold takeR
 rw[e4,e5]
 rw[e5] at bound
 by_cases hb:(scR sc1 xs r 16).2=0
 ·rw[j_ t1_]
  split
  ·rename_i hc;exact rw_1c xs (scR sc1 xs r) (scV sc1 (toS xs r)) (scW sc1 (toS xs r)) H hk h9 (cntV_rng (m:=2147483647) r2_ x_) hb bound.1 bound.2 hc
  ·rename_i hc;exact rw_1y xs (scR sc1 xs r) (scV sc1 (toS xs r)) (scW sc1 (toS xs r)) H hk h9 (cntV_rng (m:=2147483647) r2_ x_) hb bound.1 bound.2 (Classical.not_not.1 hc)
 ·rw[i_ hb];exact rw_1b xs (scR sc1 xs r) (scV sc1 (toS xs r)) (scW sc1 (toS xs r)) H hk h9 (cntV_rng (m:=2147483647) r2_ x_) hb
theorem s2_s (s:Rst):ts_2 s=(scS sc2 s 15).1:=by simp only[ts_2,lstS,lst1,sclS,scS,sc2,BY_,BM_,Stp.S,Stp.V]
theorem s2_n (s:Rst):tn_2 s nod0=(⟨scV sc2 s 0,scV sc2 s 1,0,scV sc2 s 2,scV sc2 s 3,scV sc2 s 4,0,scV sc2 s 5,0,scW sc2 s 7,scW sc2 s 9,scV sc2 s 10,scV sc2 s 11,scV sc2 s 12,0,0,0,scV sc2 s 13,scV sc2 s 14⟩:Nod):=by simp only[tn_2,lstW,lstB,lst1,lstS,sclM,sclH,sclS,scV,scW,scS,sc2,BY_,BM_,Stp.S,Stp.V,Stp.W];rfl
theorem rtake_2v (xs:List Int) (r:Rrf) (i0:Rrf.In xs r) (hf:(toS xs r).Fit) (hk:cntV (toS xs r) 9=2):VM M_ 104 [.ptr 100000 0 0] [(100000,.var (rrC xs r))] (.tup [nod (takeR (toS xs r)).1,i64 (takeR (toS xs r)).2]) [(100000,.var (rrC xs (scR sc2 xs r 15)))]:=by
 have e1:takeS (toS xs r)=ts_2 (toS xs r):=by unfold takeS;rw[j_ a_,i_ hk]
 have e2:takeN (toS xs r)=tn_2 (toS xs r) nod0:=by unfold takeN;rw[j_ a_,i_ hk]
 have e4:(takeS (toS xs r)).2=(scR sc2 xs r 15).2:=by rw[e1,s2_s,←scR_s,toS_2]
 have e5:=e2.trans (s2_n (toS xs r))
 have bound:=takeN_le hf
 have h9:In64 (cntV (toS xs r) 9):=by have:=cntV_rng (m:=9) (toS_in i0) x_;exact ⟨by omega,by omega⟩
 have H:=sc_of (l:=sc2) x_ rfl i0
 unfold takeR
 rw[e4,e5]
 rw[e5] at bound
 by_cases hb:(scR sc2 xs r 15).2=0
 ·rw[j_ t1_]
  split
  ·rename_i hc;exact rw_2c xs (scR sc2 xs r) (scV sc2 (toS xs r)) (scW sc2 (toS xs r)) H hk h9 (cntV_rng (m:=2147483647) q2_ x_) hb bound.1 bound.2 hc
  ·rename_i hc;exact rw_2y xs (scR sc2 xs r) (scV sc2 (toS xs r)) (scW sc2 (toS xs r)) H hk h9 (cntV_rng (m:=2147483647) q2_ x_) hb bound.1 bound.2 (Classical.not_not.1 hc)
 ·rw[i_ hb];exact rw_2b xs (scR sc2 xs r) (scV sc2 (toS xs r)) (scW sc2 (toS xs r)) H hk h9 (cntV_rng (m:=2147483647) q2_ x_) hb
theorem s3_s (s:Rst):ts_3 s=(scS sc3 s 13).1:=by simp only[ts_3,lstS,lst1,sclS,scS,sc3,BY_,BM_,Stp.S,Stp.V]
theorem s3_n (s:Rst):tn_3 s nod0=(⟨scV sc3 s 0,scV sc3 s 1,0,0,0,0,scV sc3 s 2,scV sc3 s 3,0,scW sc3 s 5,scW sc3 s 7,scV sc3 s 8,scV sc3 s 9,scV sc3 s 10,0,0,0,scV sc3 s 11,scV sc3 s 12⟩:Nod):=by simp only[tn_3,lstW,lstB,lst1,lstS,sclM,sclH,sclS,scV,scW,scS,sc3,BY_,BM_,Stp.S,Stp.V,Stp.W];rfl
theorem rtake_3v (xs:List Int) (r:Rrf) (i0:Rrf.In xs r) (hf:(toS xs r).Fit) (hk:cntV (toS xs r) 9=3):VM M_ 104 [.ptr 100000 0 0] [(100000,.var (rrC xs r))] (.tup [nod (takeR (toS xs r)).1,i64 (takeR (toS xs r)).2]) [(100000,.var (rrC xs (scR sc3 xs r 13)))]:=by
 have e1:takeS (toS xs r)=ts_3 (toS xs r):=by unfold takeS;rw[j_ a_,j_ a_,i_ hk]
 have e2:takeN (toS xs r)=tn_3 (toS xs r) nod0:=by unfold takeN;rw[j_ a_,j_ a_,i_ hk]
 have e4:(takeS (toS xs r)).2=(scR sc3 xs r 13).2:=by rw[e1,s3_s,←scR_s,toS_2]
 have e5:=e2.trans (s3_n (toS xs r))
 have bound:=takeN_le hf
 have h9:In64 (cntV (toS xs r) 9):=by have:=cntV_rng (m:=9) (toS_in i0) x_;exact ⟨by omega,by omega⟩
 have H:=sc_of (l:=sc3) x_ rfl i0
 unfold takeR
 rw[e4,e5]
 rw[e5] at bound
 by_cases hb:(scR sc3 xs r 13).2=0
 ·rw[j_ t1_]
  split
  ·rename_i hc;exact rw_3c xs (scR sc3 xs r) (scV sc3 (toS xs r)) (scW sc3 (toS xs r)) H hk h9 (cntV_rng (m:=2147483647) v2_ x_) hb bound.1 bound.2 hc
  ·rename_i hc;exact rw_3y xs (scR sc3 xs r) (scV sc3 (toS xs r)) (scW sc3 (toS xs r)) H hk h9 (cntV_rng (m:=2147483647) v2_ x_) hb bound.1 bound.2 (Classical.not_not.1 hc)
 ·rw[i_ hb];exact rw_3b xs (scR sc3 xs r) (scV sc3 (toS xs r)) (scW sc3 (toS xs r)) H hk h9 (cntV_rng (m:=2147483647) v2_ x_) hb
theorem s4_s (s:Rst):ts_4 s=(scS sc4 s 5).1:=by simp only[ts_4,lstS,lst1,sclS,scS,sc4,BY_,BM_,Stp.S,Stp.V]
theorem s4_n (s:Rst):tn_4 s nod0=(⟨scV sc4 s 0,scV sc4 s 1,0,scV sc4 s 2,scV sc4 s 3,scV sc4 s 4,0,0,0,[],[],0,0,0,0,0,0,0,0⟩:Nod):=by simp only[tn_4,lstW,lstB,lst1,lstS,sclM,sclH,sclS,scV,scW,scS,sc4,BY_,BM_,Stp.S,Stp.V,Stp.W];rfl
theorem rtake_4v (xs:List Int) (r:Rrf) (i0:Rrf.In xs r) (hf:(toS xs r).Fit) (hk:cntV (toS xs r) 9=4∨cntV (toS xs r) 9=5):VM M_ 104 [.ptr 100000 0 0] [(100000,.var (rrC xs r))] (.tup [nod (takeR (toS xs r)).1,i64 (takeR (toS xs r)).2]) [(100000,.var (rrC xs (scR sc4 xs r 5)))]:=by
 have e1:takeS (toS xs r)=ts_4 (toS xs r):=by unfold takeS;rw[j_ a_,j_ a_,j_ a_,i_ hk]
 have e2:takeN (toS xs r)=tn_4 (toS xs r) nod0:=by unfold takeN;rw[j_ a_,j_ a_,j_ a_,i_ hk]
 have e4:(takeS (toS xs r)).2=(scR sc4 xs r 5).2:=by rw[e1,s4_s,←scR_s,toS_2]
 have e5:=e2.trans (s4_n (toS xs r))
 have bound:=takeN_le hf
 have h9:In64 (cntV (toS xs r) 9):=by have:=cntV_rng (m:=9) (toS_in i0) x_;exact ⟨by omega,by omega⟩
 have H:=sc_of (l:=sc4) x_ rfl i0
 unfold takeR
 rw[e4,e5]
 rw[e5] at bound
 by_cases hb:(scR sc4 xs r 5).2=0
 ·rw[j_ t1_]
  split
  ·rename_i hc;exact rw_4c xs (scR sc4 xs r) (scV sc4 (toS xs r)) (scW sc4 (toS xs r)) H hk h9  hb hc
  ·rename_i hc;exact rw_4y xs (scR sc4 xs r) (scV sc4 (toS xs r)) (scW sc4 (toS xs r)) H hk h9  hb (Classical.not_not.1 hc)
 ·rw[i_ hb];exact rw_4b xs (scR sc4 xs r) (scV sc4 (toS xs r)) (scW sc4 (toS xs r)) H hk h9  hb
theorem s6_s (s:Rst):ts_6 s=(scS sc6 s 12).1:=by simp only[ts_6,lstS,lst1,sclS,scS,sc6,BY_,BM_,Stp.S,Stp.V]
theorem s6_n (s:Rst):tn_6 s nod0=(⟨scV sc6 s 0,scV sc6 s 1,scV sc6 s 2,0,0,0,0,scV sc6 s 3,scV sc6 s 4,[],[],scV sc6 s 5,scV sc6 s 6,scV sc6 s 7,scV sc6 s 8,scV sc6 s 9,0,scV sc6 s 10,scV sc6 s 11⟩:Nod):=by simp only[tn_6,lstW,lstB,lst1,lstS,sclM,sclH,sclS,scV,scW,scS,sc6,BY_,BM_,Stp.S,Stp.V,Stp.W];rfl
theorem rtake_6v (xs:List Int) (r:Rrf) (i0:Rrf.In xs r) (hf:(toS xs r).Fit) (hk:cntV (toS xs r) 9=6):VM M_ 104 [.ptr 100000 0 0] [(100000,.var (rrC xs r))] (.tup [nod (takeR (toS xs r)).1,i64 (takeR (toS xs r)).2]) [(100000,.var (rrC xs (scR sc6 xs r 12)))]:=by
 have e1:takeS (toS xs r)=ts_6 (toS xs r):=by unfold takeS;rw[j_ a_,j_ a_,j_ a_,j_ a_,i_ hk]
 have e2:takeN (toS xs r)=tn_6 (toS xs r) nod0:=by unfold takeN;rw[j_ a_,j_ a_,j_ a_,j_ a_,i_ hk]
 have e4:(takeS (toS xs r)).2=(scR sc6 xs r 12).2:=by rw[e1,s6_s,←scR_s,toS_2]
 have e5:=e2.trans (s6_n (toS xs r))
 have bound:=takeN_le hf
 have h9:In64 (cntV (toS xs r) 9):=by have:=cntV_rng (m:=9) (toS_in i0) x_;exact ⟨by omega,by omega⟩
 have H:=sc_of (l:=sc6) x_ rfl i0
 unfold takeR
 rw[e4,e5]
 rw[e5] at bound
 by_cases hb:(scR sc6 xs r 12).2=0
 ·rw[j_ t1_]
  split
  ·rename_i hc;exact rw_6c xs (scR sc6 xs r) (scV sc6 (toS xs r)) (scW sc6 (toS xs r)) H hk h9 (cntV_rng (m:=2147483647) u2_ x_) (cntV_rng (m:=2147483647) t2_ x_) hb hc
  ·rename_i hc;exact rw_6y xs (scR sc6 xs r) (scV sc6 (toS xs r)) (scW sc6 (toS xs r)) H hk h9 (cntV_rng (m:=2147483647) u2_ x_) (cntV_rng (m:=2147483647) t2_ x_) hb (Classical.not_not.1 hc)
 ·rw[i_ hb];exact rw_6b xs (scR sc6 xs r) (scV sc6 (toS xs r)) (scW sc6 (toS xs r)) H hk h9 (cntV_rng (m:=2147483647) u2_ x_) (cntV_rng (m:=2147483647) t2_ x_) hb
theorem s7_s (s:Rst):ts_7 s=(scS sc7 s 8).1:=by simp only[ts_7,lstS,lst1,sclS,scS,sc7,BY_,BM_,Stp.S,Stp.V]
theorem s7_n (s:Rst):tn_7 s nod0=(⟨scV sc7 s 0,scV sc7 s 1,0,0,0,0,0,scV sc7 s 2,0,[],[],scV sc7 s 3,scV sc7 s 4,scV sc7 s 5,0,0,0,scV sc7 s 6,scV sc7 s 7⟩:Nod):=by simp only[tn_7,lstW,lstB,lst1,lstS,sclM,sclH,sclS,scV,scW,scS,sc7,BY_,BM_,Stp.S,Stp.V,Stp.W];rfl
theorem rtake_7v (xs:List Int) (r:Rrf) (i0:Rrf.In xs r) (hf:(toS xs r).Fit) (hk:cntV (toS xs r) 9=7):VM M_ 104 [.ptr 100000 0 0] [(100000,.var (rrC xs r))] (.tup [nod (takeR (toS xs r)).1,i64 (takeR (toS xs r)).2]) [(100000,.var (rrC xs (scR sc7 xs r 8)))]:=by
 have e1:takeS (toS xs r)=ts_7 (toS xs r):=by unfold takeS;rw[j_ a_,j_ a_,j_ a_,j_ a_,j_ a_,i_ hk]
 have e2:takeN (toS xs r)=tn_7 (toS xs r) nod0:=by unfold takeN;rw[j_ a_,j_ a_,j_ a_,j_ a_,j_ a_,i_ hk]
 have e4:(takeS (toS xs r)).2=(scR sc7 xs r 8).2:=by rw[e1,s7_s,←scR_s,toS_2]
 have e5:=e2.trans (s7_n (toS xs r))
 have bound:=takeN_le hf
 have h9:In64 (cntV (toS xs r) 9):=by have:=cntV_rng (m:=9) (toS_in i0) x_;exact ⟨by omega,by omega⟩
 have H:=sc_of (l:=sc7) x_ rfl i0
 unfold takeR
 rw[e4,e5]
 rw[e5] at bound
 by_cases hb:(scR sc7 xs r 8).2=0
 ·rw[j_ t1_]
  split
  ·rename_i hc;exact rw_7c xs (scR sc7 xs r) (scV sc7 (toS xs r)) (scW sc7 (toS xs r)) H hk h9 (cntV_rng (m:=2147483647) s2_ x_) hb hc
  ·rename_i hc;exact rw_7y xs (scR sc7 xs r) (scV sc7 (toS xs r)) (scW sc7 (toS xs r)) H hk h9 (cntV_rng (m:=2147483647) s2_ x_) hb (Classical.not_not.1 hc)
 ·rw[i_ hb];exact rw_7b xs (scR sc7 xs r) (scV sc7 (toS xs r)) (scW sc7 (toS xs r)) H hk h9 (cntV_rng (m:=2147483647) s2_ x_) hb
theorem s8_s (s:Rst):ts_8 s=(scS sc8 s 4).1:=by simp only[ts_8,lstS,lst1,sclS,scS,sc8,BY_,BM_,Stp.S,Stp.V]
theorem s8_n (s:Rst):tn_8 s nod0=(⟨scV sc8 s 0,scV sc8 s 1,0,0,0,scV sc8 s 2,0,scV sc8 s 3,0,[],[],0,0,0,0,0,0,0,0⟩:Nod):=by simp only[tn_8,lstW,lstB,lst1,lstS,sclM,sclH,sclS,scV,scW,scS,sc8,BY_,BM_,Stp.S,Stp.V,Stp.W];rfl
theorem rtake_8v (xs:List Int) (r:Rrf) (i0:Rrf.In xs r) (hf:(toS xs r).Fit) (hk:cntV (toS xs r) 9=8):VM M_ 104 [.ptr 100000 0 0] [(100000,.var (rrC xs r))] (.tup [nod (takeR (toS xs r)).1,i64 (takeR (toS xs r)).2]) [(100000,.var (rrC xs (scR sc8 xs r 4)))]:=by
 have e1:takeS (toS xs r)=ts_8 (toS xs r):=by unfold takeS;rw[j_ a_,j_ a_,j_ a_,j_ a_,j_ a_,j_ a_,i_ hk]
 have e2:takeN (toS xs r)=tn_8 (toS xs r) nod0:=by unfold takeN;rw[j_ a_,j_ a_,j_ a_,j_ a_,j_ a_,j_ a_,i_ hk]
 have e4:(takeS (toS xs r)).2=(scR sc8 xs r 4).2:=by rw[e1,s8_s,←scR_s,toS_2]
 have e5:=e2.trans (s8_n (toS xs r))
 have bound:=takeN_le hf
 have h9:In64 (cntV (toS xs r) 9):=by have:=cntV_rng (m:=9) (toS_in i0) x_;exact ⟨by omega,by omega⟩
 have H:=sc_of (l:=sc8) x_ rfl i0
 unfold takeR
 rw[e4,e5]
 rw[e5] at bound
 by_cases hb:(scR sc8 xs r 4).2=0
 ·rw[j_ t1_]
  split
  ·rename_i hc;exact rw_8c xs (scR sc8 xs r) (scV sc8 (toS xs r)) (scW sc8 (toS xs r)) H hk h9  hb hc
  ·rename_i hc;exact rw_8y xs (scR sc8 xs r) (scV sc8 (toS xs r)) (scW sc8 (toS xs r)) H hk h9  hb (Classical.not_not.1 hc)
 ·rw[i_ hb];exact rw_8b xs (scR sc8 xs r) (scV sc8 (toS xs r)) (scW sc8 (toS xs r)) H hk h9  hb
theorem s9_s (s:Rst):ts_9 s=(scS sc9 s 2).1:=by simp only[ts_9,lstS,lst1,sclS,scS,sc9,BY_,BM_,Stp.S,Stp.V]
theorem s9_n (s:Rst):tn_9 s nod0=(⟨scV sc9 s 0,scV sc9 s 1,0,0,0,0,0,0,0,[],[],0,0,0,0,0,0,0,0⟩:Nod):=by simp only[tn_9,lstW,lstB,lst1,lstS,sclM,sclH,sclS,scV,scW,scS,sc9,BY_,BM_,Stp.S,Stp.V,Stp.W];rfl
theorem rtake_9v (xs:List Int) (r:Rrf) (i0:Rrf.In xs r) (hf:(toS xs r).Fit) (hk:cntV (toS xs r) 9<1∨8<cntV (toS xs r) 9):VM M_ 104 [.ptr 100000 0 0] [(100000,.var (rrC xs r))] (.tup [nod (takeR (toS xs r)).1,i64 (takeR (toS xs r)).2]) [(100000,.var (rrC xs (scR sc9 xs r 2)))]:=by
 have e1:takeS (toS xs r)=ts_9 (toS xs r):=by unfold takeS;rw[j_ a_,j_ a_,j_ a_,j_ a_,j_ a_,j_ a_,j_ a_]
 have e2:takeN (toS xs r)=tn_9 (toS xs r) nod0:=by unfold takeN;rw[j_ a_,j_ a_,j_ a_,j_ a_,j_ a_,j_ a_,j_ a_]
 have e4:(takeS (toS xs r)).2=(scR sc9 xs r 2).2:=by rw[e1,s9_s,←scR_s,toS_2]
 have e5:=e2.trans (s9_n (toS xs r))
 have bound:=takeN_le hf
 have h9:In64 (cntV (toS xs r) 9):=by have:=cntV_rng (m:=9) (toS_in i0) x_;exact ⟨by omega,by omega⟩
 have H:=sc_of (l:=sc9) x_ rfl i0
 unfold takeR
 rw[e4,e5]
 rw[e5] at bound
 by_cases hb:(scR sc9 xs r 2).2=0
 ·rw[j_ t1_]
  split
  ·rename_i hc;exact rw_9c xs (scR sc9 xs r) (scV sc9 (toS xs r)) (scW sc9 (toS xs r)) H hk h9  hb hc
  ·rename_i hc;exact rw_9y xs (scR sc9 xs r) (scV sc9 (toS xs r)) (scW sc9 (toS xs r)) H hk h9  hb (Classical.not_not.1 hc)
 ·rw[i_ hb];exact rw_9b xs (scR sc9 xs r) (scV sc9 (toS xs r)) (scW sc9 (toS xs r)) H hk h9  hb
def takeRr (xs:List Int) (r:Rrf):Rrf :=
 if cntV (toS xs r) 9=1 then scR sc1 xs r 16 else
 if cntV (toS xs r) 9=2 then scR sc2 xs r 15 else
 if cntV (toS xs r) 9=3 then scR sc3 xs r 13 else
 if cntV (toS xs r) 9=4∨cntV (toS xs r) 9=5 then scR sc4 xs r 5 else
 if cntV (toS xs r) 9=6 then scR sc6 xs r 12 else
 if cntV (toS xs r) 9=7 then scR sc7 xs r 8 else
 if cntV (toS xs r) 9=8 then scR sc8 xs r 4 else
 scR sc9 xs r 2
theorem takeRr_all (xs:List Int) (r:Rrf):(Rrf.In xs r→Rrf.In xs (takeRr xs r))∧toS xs (takeRr xs r)=takeS (toS xs r)∧(Rrf.In xs r→(toS xs r).Fit→VM M_ 104 [.ptr 100000 0 0] [(100000,.var (rrC xs r))] (.tup [nod (takeR (toS xs r)).1,i64 (takeR (toS xs r)).2]) [(100000,.var (rrC xs (takeRr xs r)))]):=by
 unfold takeRr takeS
 by_cases k1:cntV (toS xs r) 9=1
 ·rw[i_ k1,i_ k1];exact ⟨fun h=>scR_in _ h _,scR_s _ _ _ _,fun h hf=>rtake_1v xs r h hf k1⟩
 rw[j_ k1,j_ k1]
 by_cases k2:cntV (toS xs r) 9=2
 ·rw[i_ k2,i_ k2];exact ⟨fun h=>scR_in _ h _,scR_s _ _ _ _,fun h hf=>rtake_2v xs r h hf k2⟩
 rw[j_ k2,j_ k2]
 by_cases k3:cntV (toS xs r) 9=3
 ·rw[i_ k3,i_ k3];exact ⟨fun h=>scR_in _ h _,scR_s _ _ _ _,fun h hf=>rtake_3v xs r h hf k3⟩
 rw[j_ k3,j_ k3]
 by_cases k4:cntV (toS xs r) 9=4∨cntV (toS xs r) 9=5
 ·rw[i_ k4,i_ k4];exact ⟨fun h=>scR_in _ h _,scR_s _ _ _ _,fun h hf=>rtake_4v xs r h hf k4⟩
 rw[j_ k4,j_ k4]
 by_cases k6:cntV (toS xs r) 9=6
 ·rw[i_ k6,i_ k6];exact ⟨fun h=>scR_in _ h _,scR_s _ _ _ _,fun h hf=>rtake_6v xs r h hf k6⟩
 rw[j_ k6,j_ k6]
 by_cases k7:cntV (toS xs r) 9=7
 ·rw[i_ k7,i_ k7];exact ⟨fun h=>scR_in _ h _,scR_s _ _ _ _,fun h hf=>rtake_7v xs r h hf k7⟩
 rw[j_ k7,j_ k7]
 by_cases k8:cntV (toS xs r) 9=8
 ·rw[i_ k8,i_ k8];exact ⟨fun h=>scR_in _ h _,scR_s _ _ _ _,fun h hf=>rtake_8v xs r h hf k8⟩
 rw[j_ k8,j_ k8]
 exact ⟨fun h=>scR_in _ h _,scR_s _ _ _ _,fun h hf=>rtake_9v xs r h hf a_⟩
theorem takeRr_in {xs:List Int} {r:Rrf} (h:Rrf.In xs r):Rrf.In xs (takeRr xs r):=(takeRr_all xs r).1 h
theorem takeRr_s (xs:List Int) (r:Rrf):toS xs (takeRr xs r)=takeS (toS xs r):=(takeRr_all xs r).2.1
theorem rtake_v (xs:List Int) (r:Rrf) (h:Rrf.In xs r) (hf:(toS xs r).Fit):VM M_ 104 [.ptr 100000 0 0] [(100000,.var (rrC xs r))] (.tup [nod (takeR (toS xs r)).1,i64 (takeR (toS xs r)).2]) [(100000,.var (rrC xs (takeRr xs r)))]:=(takeRr_all xs r).2.2 h hf
def tkR (xs:List Int) (r:Rrf):Nat→Rrf
 | 0=>r
 | k+1=>takeRr xs (tkR xs r k)
theorem tkR_in {xs:List Int} {r:Rrf} (h:Rrf.In xs r) (k:Nat):Rrf.In xs (tkR xs r k):=by
 induction k with
 | zero=>exact h
 | succ k ih=>exact takeRr_in ih
theorem tkR_s (xs:List Int) (r:Rrf) (k:Nat):toS xs (tkR xs r k)=tkS (toS xs r) k:=by
 induction k with
 | zero=>rfl
 | succ k ih=>rw[tkR,takeRr_s,ih];rfl
noncomputable def rtkb_y_I (xs:List Int) (r:Rrf) (k:Nat):VS:=stt 65 [(0,.ptr 100000 0 0),(2,.ptr 2 0 0),(4,.ptr 4 0 0),(5,i64 (cntV (toS xs r) 8)),(6,i64 k)] [(2,.var [.any,.any,.any,.any,.any]),(4,.var [.own 900,bv false,ints .i8 [],ints .i32 [],i32 0]),(900,.slc 56 19 ((tkL (toS xs (cntR xs r 8)) k).map nodC)),(100000,.var (rrC xs (tkR xs (cntR xs r 8) k)))]
noncomputable def rtkb_y_Z (xs:List Int) (r:Rrf):VS:=rtkb_y_I xs r ((cntV (toS xs r) 8).toNat)
theorem rtkb_y_s (xs:List Int) (r:Rrf) (h:Rrf.In xs r) (hf:(toS xs r).Fit) (hh:∀ k,k<(cntV (toS xs r) 8).toNat→(takeR (toS xs (tkR xs (cntR xs r 8) k))).2=0) (k:Nat) (hk:k<(cntV (toS xs r) 8).toNat):VT M_ (fnC Tryz.f65 [1,1,1,0,1,0,0]) (rtkb_y_I xs r k) .normal (rtkb_y_I xs r (k+1)):=by
 have q:=cntV_rng (m:=8) (toS_in h) x_
 have q0:=tkR_in (cntR_in h 8) k
 have q1:=tkL_len (toS xs (cntR xs r 8)) k
 have q6:=tkR_s xs (cntR xs r 8) k
 have q7:(toS xs (tkR xs (cntR xs r 8) k)).Fit:=by rw[q6];exact tkS_fit q1_ k
 have q2:=hh k hk
 have oz1:=@rtake_v (xs) (tkR xs (cntR xs r 8) k) q0 q7
 exact tR_ [r_,b_,.r [] [cm oz1],r_,d_,r_,.r [] [.n ((↑k:Int)+1)]] [.any (rg [(7,2),(11,12),(25,6)]),.drop [7,28],.ren 29 900,.weak 6 (i64 (↑(k+1):Int)),.blk 900 (Blk.slc 56 19 (K_ nodC (tkL (toS xs (cntR xs r 8)) (k+1)))),.blk 100000 (Blk.var [AV.sl 1 (K_ (row1 .u8) xs),i64 (↑(tkR xs (cntR xs r 8) (k+1)).fst:Int),i64 (tkR xs (cntR xs r 8) (k+1)).snd]),.sort] (.c8 (decide_eq_true (p:=((↑k:Int)<cntV (toS xs r) 8)) a_) oz1 (h_ (((takeR (toS xs (tkR xs (cntR xs r 8) k))).snd != 0)=false)) (h_ (((K_ nodC (tkL (toS xs (cntR xs r 8)) k)).length+1)*168≤140737488355328)) (h_ ((K_ nodC (tkL (toS xs (cntR xs r 8)) k)).length+1≤9223372036854775807)) (i6n ((↑k:Int)+1) a_) (wS_ k) (show BlkW (Blk.slc 56 19 (K_ nodC (tkL (toS xs (cntR xs r 8)) k)++[[i64 (takeR (toS xs (tkR xs (cntR xs r 8) k))).fst.kd,i64 (takeR (toS xs (tkR xs (cntR xs r 8) k))).fst.na,i64 (takeR (toS xs (tkR xs (cntR xs r 8) k))).fst.nb,i64 (takeR (toS xs (tkR xs (cntR xs r 8) k))).fst.nk,i64 (takeR (toS xs (tkR xs (cntR xs r 8) k))).fst.ns,i64 (takeR (toS xs (tkR xs (cntR xs r 8) k))).fst.np,i64 (takeR (toS xs (tkR xs (cntR xs r 8) k))).fst.no,i8 (takeR (toS xs (tkR xs (cntR xs r 8) k))).fst.za,i8 (takeR (toS xs (tkR xs (cntR xs r 8) k))).fst.zb,AV.sl 1 (K_ (row1 .i8) (takeR (toS xs (tkR xs (cntR xs r 8) k))).fst.w),AV.sl 1 (K_ (row1 .i32) (takeR (toS xs (tkR xs (cntR xs r 8) k))).fst.b),i32 (takeR (toS xs (tkR xs (cntR xs r 8) k))).fst.qm,i64 (takeR (toS xs (tkR xs (cntR xs r 8) k))).fst.qs,i8 (takeR (toS xs (tkR xs (cntR xs r 8) k))).fst.qz,i32 (takeR (toS xs (tkR xs (cntR xs r 8) k))).fst.rm,i64 (takeR (toS xs (tkR xs (cntR xs r 8) k))).fst.rs,i8 (takeR (toS xs (tkR xs (cntR xs r 8) k))).fst.rz,i8 (takeR (toS xs (tkR xs (cntR xs r 8) k))).fst.lo,i8 (takeR (toS xs (tkR xs (cntR xs r 8) k))).fst.hi]])) (Blk.slc 56 19 (K_ nodC (tkL (toS xs (cntR xs r 8)) (k+1)))) from (CW_ (e:=56) (z:=19) (rows_to (nodC) (r:=K_ nodC (tkL (toS xs (cntR xs r 8)) k)++[[i64 (takeR (toS xs (tkR xs (cntR xs r 8) k))).fst.kd,i64 (takeR (toS xs (tkR xs (cntR xs r 8) k))).fst.na,i64 (takeR (toS xs (tkR xs (cntR xs r 8) k))).fst.nb,i64 (takeR (toS xs (tkR xs (cntR xs r 8) k))).fst.nk,i64 (takeR (toS xs (tkR xs (cntR xs r 8) k))).fst.ns,i64 (takeR (toS xs (tkR xs (cntR xs r 8) k))).fst.np,i64 (takeR (toS xs (tkR xs (cntR xs r 8) k))).fst.no,i8 (takeR (toS xs (tkR xs (cntR xs r 8) k))).fst.za,i8 (takeR (toS xs (tkR xs (cntR xs r 8) k))).fst.zb,AV.sl 1 (K_ (row1 .i8) (takeR (toS xs (tkR xs (cntR xs r 8) k))).fst.w),AV.sl 1 (K_ (row1 .i32) (takeR (toS xs (tkR xs (cntR xs r 8) k))).fst.b),i32 (takeR (toS xs (tkR xs (cntR xs r 8) k))).fst.qm,i64 (takeR (toS xs (tkR xs (cntR xs r 8) k))).fst.qs,i8 (takeR (toS xs (tkR xs (cntR xs r 8) k))).fst.qz,i32 (takeR (toS xs (tkR xs (cntR xs r 8) k))).fst.rm,i64 (takeR (toS xs (tkR xs (cntR xs r 8) k))).fst.rs,i8 (takeR (toS xs (tkR xs (cntR xs r 8) k))).fst.rz,i8 (takeR (toS xs (tkR xs (cntR xs r 8) k))).fst.lo,i8 (takeR (toS xs (tkR xs (cntR xs r 8) k))).fst.hi]]) (l:=tkL (toS xs (cntR xs r 8)) k++[Nod.mk (takeR (toS xs (tkR xs (cntR xs r 8) k))).fst.kd (takeR (toS xs (tkR xs (cntR xs r 8) k))).fst.na (takeR (toS xs (tkR xs (cntR xs r 8) k))).fst.nb (takeR (toS xs (tkR xs (cntR xs r 8) k))).fst.nk (takeR (toS xs (tkR xs (cntR xs r 8) k))).fst.ns (takeR (toS xs (tkR xs (cntR xs r 8) k))).fst.np (takeR (toS xs (tkR xs (cntR xs r 8) k))).fst.no (takeR (toS xs (tkR xs (cntR xs r 8) k))).fst.za (takeR (toS xs (tkR xs (cntR xs r 8) k))).fst.zb (takeR (toS xs (tkR xs (cntR xs r 8) k))).fst.w (takeR (toS xs (tkR xs (cntR xs r 8) k))).fst.b (takeR (toS xs (tkR xs (cntR xs r 8) k))).fst.qm (takeR (toS xs (tkR xs (cntR xs r 8) k))).fst.qs (takeR (toS xs (tkR xs (cntR xs r 8) k))).fst.qz (takeR (toS xs (tkR xs (cntR xs r 8) k))).fst.rm (takeR (toS xs (tkR xs (cntR xs r 8) k))).fst.rs (takeR (toS xs (tkR xs (cntR xs r 8) k))).fst.rz (takeR (toS xs (tkR xs (cntR xs r 8) k))).fst.lo (takeR (toS xs (tkR xs (cntR xs r 8) k))).fst.hi]) (m:=tkL (toS xs (cntR xs r 8)) (k+1)) b1_ (show (tkL (toS xs (cntR xs r 8)) k++[Nod.mk (takeR (toS xs (tkR xs (cntR xs r 8) k))).fst.kd (takeR (toS xs (tkR xs (cntR xs r 8) k))).fst.na (takeR (toS xs (tkR xs (cntR xs r 8) k))).fst.nb (takeR (toS xs (tkR xs (cntR xs r 8) k))).fst.nk (takeR (toS xs (tkR xs (cntR xs r 8) k))).fst.ns (takeR (toS xs (tkR xs (cntR xs r 8) k))).fst.np (takeR (toS xs (tkR xs (cntR xs r 8) k))).fst.no (takeR (toS xs (tkR xs (cntR xs r 8) k))).fst.za (takeR (toS xs (tkR xs (cntR xs r 8) k))).fst.zb (takeR (toS xs (tkR xs (cntR xs r 8) k))).fst.w (takeR (toS xs (tkR xs (cntR xs r 8) k))).fst.b (takeR (toS xs (tkR xs (cntR xs r 8) k))).fst.qm (takeR (toS xs (tkR xs (cntR xs r 8) k))).fst.qs (takeR (toS xs (tkR xs (cntR xs r 8) k))).fst.qz (takeR (toS xs (tkR xs (cntR xs r 8) k))).fst.rm (takeR (toS xs (tkR xs (cntR xs r 8) k))).fst.rs (takeR (toS xs (tkR xs (cntR xs r 8) k))).fst.rz (takeR (toS xs (tkR xs (cntR xs r 8) k))).fst.lo (takeR (toS xs (tkR xs (cntR xs r 8) k))).fst.hi])=(tkL (toS xs (cntR xs r 8)) (k+1)) from (by (have w:=congrArg (fun z=>tkL (toS xs (cntR xs r 8)) k++[(takeR z).1]) q6;exact w))))))<|.d (show BlkW (Blk.var [AV.sl 1 (K_ (row1 .u8) xs),i64 (↑(takeRr xs (tkR xs (cntR xs r 8) k)).fst:Int),i64 (takeRr xs (tkR xs (cntR xs r 8) k)).snd]) (Blk.var [AV.sl 1 (K_ (row1 .u8) xs),i64 (↑(tkR xs (cntR xs r 8) (k+1)).fst:Int),i64 (tkR xs (cntR xs r 8) (k+1)).snd]) from (BlkW.var (m:=[AV.sl 1 (K_ (row1 .u8) xs),i64 (↑(tkR xs (cntR xs r 8) (k+1)).fst:Int),i64 (tkR xs (cntR xs r 8) (k+1)).snd]) (.cons (.refl _) (.cons (N_ t0_) (.cons (N_ t0_) .nil))))))
theorem rtkb_y_e (xs:List Int) (r:Rrf) (h:Rrf.In xs r) (hf:(toS xs r).Fit) (hh:∀ k,k<(cntV (toS xs r) 8).toNat→(takeR (toS xs (tkR xs (cntR xs r 8) k))).2=0):VT M_ (fnC Tryz.f65 [1,1,1,0,1,0,0]) (rtkb_y_I xs r ((cntV (toS xs r) 8).toNat)) (.exit 0) (rtkb_y_Z xs r):=by
 exact tR_ [r_,d_] [.any [11,12,13],.sort] (.d (decide_eq_false (p:=((↑(cntV (toS xs r) 8).toNat:Int)<cntV (toS xs r) 8)) a_))
theorem rtkb_y (xs:List Int) (r:Rrf) (h:Rrf.In xs r) (hf:(toS xs r).Fit) (hh:∀ k,k<(cntV (toS xs r) 8).toNat→(takeR (toS xs (tkR xs (cntR xs r 8) k))).2=0):VT M_ (fnC Tryz.f65 [1,1,1,0,1,0]) (rtkb_y_I xs r 0) (.exit 0) (rtkb_y_Z xs r) :=
 VT.loop (fun k=>rtkb_y_I xs r k) ((cntV (toS xs r) 8).toNat) (fun k hk=>rtkb_y_s xs r h hf hh k hk) (rtkb_y_e xs r h hf hh) c0_
noncomputable def rtkb_n_I (xs:List Int) (r:Rrf) (m:Nat) (k:Nat):VS:=stt 65 [(0,.ptr 100000 0 0),(2,.ptr 2 0 0),(4,.ptr 4 0 0),(5,i64 (cntV (toS xs r) 8)),(6,i64 k)] [(2,.var [.any,.any,.any,.any,.any]),(4,.var [.own 900,bv false,ints .i8 [],ints .i32 [],i32 0]),(900,.slc 56 19 ((tkL (toS xs (cntR xs r 8)) k).map nodC)),(100000,.var (rrC xs (tkR xs (cntR xs r 8) k)))]
noncomputable def rtkb_n_Z (xs:List Int) (r:Rrf) (m:Nat):VS:=stt 65 [(2,.ptr 2 0 0),(3,i64 (takeR (toS xs (tkR xs (cntR xs r 8) m))).2)] [(2,.var [nilv,bv false,nilv,nilv,i32 0]),(100000,.var (rrC xs (tkR xs (cntR xs r 8) (m+1))))]
theorem rtkb_n_s (xs:List Int) (r:Rrf) (m:Nat) (h:Rrf.In xs r) (hf:(toS xs r).Fit) (hm:m<(cntV (toS xs r) 8).toNat) (hg:(takeR (toS xs (tkR xs (cntR xs r 8) m))).2≠0) (hh:∀ k,k<m→(takeR (toS xs (tkR xs (cntR xs r 8) k))).2=0) (k:Nat) (hk:k<m):VT M_ (fnC Tryz.f65 [1,1,1,0,1,0,0]) (rtkb_n_I xs r m k) .normal (rtkb_n_I xs r m (k+1)):=by
 have q:=cntV_rng (m:=8) (toS_in h) x_
 have q0:=tkR_in (cntR_in h 8) k
 have q1:=tkL_len (toS xs (cntR xs r 8)) k
 have q6:=tkR_s xs (cntR xs r 8) k
 have q7:(toS xs (tkR xs (cntR xs r 8) k)).Fit:=by rw[q6];exact tkS_fit q1_ k
 have q2:=hh k hk
 have oz1:=@rtake_v (xs) (tkR xs (cntR xs r 8) k) q0 q7
 exact tR_ [r_,b_,.r [] [cm oz1],r_,d_,r_,.r [] [.n ((↑k:Int)+1)]] [.any (rg [(7,2),(11,12),(25,6)]),.drop [7,28],.ren 29 900,.weak 6 (i64 (↑(k+1):Int)),.blk 900 (Blk.slc 56 19 (K_ nodC (tkL (toS xs (cntR xs r 8)) (k+1)))),.blk 100000 (Blk.var [AV.sl 1 (K_ (row1 .u8) xs),i64 (↑(tkR xs (cntR xs r 8) (k+1)).fst:Int),i64 (tkR xs (cntR xs r 8) (k+1)).snd]),.sort] (.c8 (decide_eq_true (p:=((↑k:Int)<cntV (toS xs r) 8)) a_) oz1 (h_ (((takeR (toS xs (tkR xs (cntR xs r 8) k))).snd != 0)=false)) (h_ (((K_ nodC (tkL (toS xs (cntR xs r 8)) k)).length+1)*168≤140737488355328)) (h_ ((K_ nodC (tkL (toS xs (cntR xs r 8)) k)).length+1≤9223372036854775807)) (i6n ((↑k:Int)+1) a_) (wS_ k) (show BlkW (Blk.slc 56 19 (K_ nodC (tkL (toS xs (cntR xs r 8)) k)++[[i64 (takeR (toS xs (tkR xs (cntR xs r 8) k))).fst.kd,i64 (takeR (toS xs (tkR xs (cntR xs r 8) k))).fst.na,i64 (takeR (toS xs (tkR xs (cntR xs r 8) k))).fst.nb,i64 (takeR (toS xs (tkR xs (cntR xs r 8) k))).fst.nk,i64 (takeR (toS xs (tkR xs (cntR xs r 8) k))).fst.ns,i64 (takeR (toS xs (tkR xs (cntR xs r 8) k))).fst.np,i64 (takeR (toS xs (tkR xs (cntR xs r 8) k))).fst.no,i8 (takeR (toS xs (tkR xs (cntR xs r 8) k))).fst.za,i8 (takeR (toS xs (tkR xs (cntR xs r 8) k))).fst.zb,AV.sl 1 (K_ (row1 .i8) (takeR (toS xs (tkR xs (cntR xs r 8) k))).fst.w),AV.sl 1 (K_ (row1 .i32) (takeR (toS xs (tkR xs (cntR xs r 8) k))).fst.b),i32 (takeR (toS xs (tkR xs (cntR xs r 8) k))).fst.qm,i64 (takeR (toS xs (tkR xs (cntR xs r 8) k))).fst.qs,i8 (takeR (toS xs (tkR xs (cntR xs r 8) k))).fst.qz,i32 (takeR (toS xs (tkR xs (cntR xs r 8) k))).fst.rm,i64 (takeR (toS xs (tkR xs (cntR xs r 8) k))).fst.rs,i8 (takeR (toS xs (tkR xs (cntR xs r 8) k))).fst.rz,i8 (takeR (toS xs (tkR xs (cntR xs r 8) k))).fst.lo,i8 (takeR (toS xs (tkR xs (cntR xs r 8) k))).fst.hi]])) (Blk.slc 56 19 (K_ nodC (tkL (toS xs (cntR xs r 8)) (k+1)))) from (CW_ (e:=56) (z:=19) (rows_to (nodC) (r:=K_ nodC (tkL (toS xs (cntR xs r 8)) k)++[[i64 (takeR (toS xs (tkR xs (cntR xs r 8) k))).fst.kd,i64 (takeR (toS xs (tkR xs (cntR xs r 8) k))).fst.na,i64 (takeR (toS xs (tkR xs (cntR xs r 8) k))).fst.nb,i64 (takeR (toS xs (tkR xs (cntR xs r 8) k))).fst.nk,i64 (takeR (toS xs (tkR xs (cntR xs r 8) k))).fst.ns,i64 (takeR (toS xs (tkR xs (cntR xs r 8) k))).fst.np,i64 (takeR (toS xs (tkR xs (cntR xs r 8) k))).fst.no,i8 (takeR (toS xs (tkR xs (cntR xs r 8) k))).fst.za,i8 (takeR (toS xs (tkR xs (cntR xs r 8) k))).fst.zb,AV.sl 1 (K_ (row1 .i8) (takeR (toS xs (tkR xs (cntR xs r 8) k))).fst.w),AV.sl 1 (K_ (row1 .i32) (takeR (toS xs (tkR xs (cntR xs r 8) k))).fst.b),i32 (takeR (toS xs (tkR xs (cntR xs r 8) k))).fst.qm,i64 (takeR (toS xs (tkR xs (cntR xs r 8) k))).fst.qs,i8 (takeR (toS xs (tkR xs (cntR xs r 8) k))).fst.qz,i32 (takeR (toS xs (tkR xs (cntR xs r 8) k))).fst.rm,i64 (takeR (toS xs (tkR xs (cntR xs r 8) k))).fst.rs,i8 (takeR (toS xs (tkR xs (cntR xs r 8) k))).fst.rz,i8 (takeR (toS xs (tkR xs (cntR xs r 8) k))).fst.lo,i8 (takeR (toS xs (tkR xs (cntR xs r 8) k))).fst.hi]]) (l:=tkL (toS xs (cntR xs r 8)) k++[Nod.mk (takeR (toS xs (tkR xs (cntR xs r 8) k))).fst.kd (takeR (toS xs (tkR xs (cntR xs r 8) k))).fst.na (takeR (toS xs (tkR xs (cntR xs r 8) k))).fst.nb (takeR (toS xs (tkR xs (cntR xs r 8) k))).fst.nk (takeR (toS xs (tkR xs (cntR xs r 8) k))).fst.ns (takeR (toS xs (tkR xs (cntR xs r 8) k))).fst.np (takeR (toS xs (tkR xs (cntR xs r 8) k))).fst.no (takeR (toS xs (tkR xs (cntR xs r 8) k))).fst.za (takeR (toS xs (tkR xs (cntR xs r 8) k))).fst.zb (takeR (toS xs (tkR xs (cntR xs r 8) k))).fst.w (takeR (toS xs (tkR xs (cntR xs r 8) k))).fst.b (takeR (toS xs (tkR xs (cntR xs r 8) k))).fst.qm (takeR (toS xs (tkR xs (cntR xs r 8) k))).fst.qs (takeR (toS xs (tkR xs (cntR xs r 8) k))).fst.qz (takeR (toS xs (tkR xs (cntR xs r 8) k))).fst.rm (takeR (toS xs (tkR xs (cntR xs r 8) k))).fst.rs (takeR (toS xs (tkR xs (cntR xs r 8) k))).fst.rz (takeR (toS xs (tkR xs (cntR xs r 8) k))).fst.lo (takeR (toS xs (tkR xs (cntR xs r 8) k))).fst.hi]) (m:=tkL (toS xs (cntR xs r 8)) (k+1)) b1_ (show (tkL (toS xs (cntR xs r 8)) k++[Nod.mk (takeR (toS xs (tkR xs (cntR xs r 8) k))).fst.kd (takeR (toS xs (tkR xs (cntR xs r 8) k))).fst.na (takeR (toS xs (tkR xs (cntR xs r 8) k))).fst.nb (takeR (toS xs (tkR xs (cntR xs r 8) k))).fst.nk (takeR (toS xs (tkR xs (cntR xs r 8) k))).fst.ns (takeR (toS xs (tkR xs (cntR xs r 8) k))).fst.np (takeR (toS xs (tkR xs (cntR xs r 8) k))).fst.no (takeR (toS xs (tkR xs (cntR xs r 8) k))).fst.za (takeR (toS xs (tkR xs (cntR xs r 8) k))).fst.zb (takeR (toS xs (tkR xs (cntR xs r 8) k))).fst.w (takeR (toS xs (tkR xs (cntR xs r 8) k))).fst.b (takeR (toS xs (tkR xs (cntR xs r 8) k))).fst.qm (takeR (toS xs (tkR xs (cntR xs r 8) k))).fst.qs (takeR (toS xs (tkR xs (cntR xs r 8) k))).fst.qz (takeR (toS xs (tkR xs (cntR xs r 8) k))).fst.rm (takeR (toS xs (tkR xs (cntR xs r 8) k))).fst.rs (takeR (toS xs (tkR xs (cntR xs r 8) k))).fst.rz (takeR (toS xs (tkR xs (cntR xs r 8) k))).fst.lo (takeR (toS xs (tkR xs (cntR xs r 8) k))).fst.hi])=(tkL (toS xs (cntR xs r 8)) (k+1)) from (by (have w:=congrArg (fun z=>tkL (toS xs (cntR xs r 8)) k++[(takeR z).1]) q6;exact w))))))<|.d (show BlkW (Blk.var [AV.sl 1 (K_ (row1 .u8) xs),i64 (↑(takeRr xs (tkR xs (cntR xs r 8) k)).fst:Int),i64 (takeRr xs (tkR xs (cntR xs r 8) k)).snd]) (Blk.var [AV.sl 1 (K_ (row1 .u8) xs),i64 (↑(tkR xs (cntR xs r 8) (k+1)).fst:Int),i64 (tkR xs (cntR xs r 8) (k+1)).snd]) from (BlkW.var (m:=[AV.sl 1 (K_ (row1 .u8) xs),i64 (↑(tkR xs (cntR xs r 8) (k+1)).fst:Int),i64 (tkR xs (cntR xs r 8) (k+1)).snd]) (.cons (.refl _) (.cons (N_ t0_) (.cons (N_ t0_) .nil))))))
theorem rtkb_n_e (xs:List Int) (r:Rrf) (m:Nat) (h:Rrf.In xs r) (hf:(toS xs r).Fit) (hm:m<(cntV (toS xs r) 8).toNat) (hg:(takeR (toS xs (tkR xs (cntR xs r 8) m))).2≠0) (hh:∀ k,k<m→(takeR (toS xs (tkR xs (cntR xs r 8) k))).2=0):VT M_ (fnC Tryz.f65 [1,1,1,0,1,0,0]) (rtkb_n_I xs r m (m)) (.ret) (rtkb_n_Z xs r m):=by
 have q:=cntV_rng (m:=8) (toS_in h) x_
 have q0:=tkR_in (cntR_in h 8) m
 have q1:=tkL_len (toS xs (cntR xs r 8)) m
 have q6:=tkR_s xs (cntR xs r 8) m
 have q7:(toS xs (tkR xs (cntR xs r 8) m)).Fit:=by rw[q6];exact tkS_fit q1_ m
 have oz1:=@rtake_v (xs) (tkR xs (cntR xs r 8) m) q0 q7
 exact tR_ [r_,b_,.r [] [cm oz1],r_,b_,r_] [.any (rg [(0,1),(4,5),(11,3),(16,9)]),.drop [4,900,7],.blk 100000 (Blk.var [AV.sl 1 (K_ (row1 .u8) xs),i64 (↑(tkR xs (cntR xs r 8) (m+1)).fst:Int),i64 (tkR xs (cntR xs r 8) (m+1)).snd]),.sort] (.d4 (decide_eq_true (p:=((↑m:Int)<cntV (toS xs r) 8)) a_) oz1 (h_ (((takeR (toS xs (tkR xs (cntR xs r 8) m))).snd != 0)=true)) (show BlkW (Blk.var [AV.sl 1 (K_ (row1 .u8) xs),i64 (↑(takeRr xs (tkR xs (cntR xs r 8) m)).fst:Int),i64 (takeRr xs (tkR xs (cntR xs r 8) m)).snd]) (Blk.var [AV.sl 1 (K_ (row1 .u8) xs),i64 (↑(tkR xs (cntR xs r 8) (m+1)).fst:Int),i64 (tkR xs (cntR xs r 8) (m+1)).snd]) from (BlkW.var (m:=[AV.sl 1 (K_ (row1 .u8) xs),i64 (↑(tkR xs (cntR xs r 8) (m+1)).fst:Int),i64 (tkR xs (cntR xs r 8) (m+1)).snd]) (.cons (.refl _) (.cons (N_ t0_) (.cons (N_ t0_) .nil))))))
theorem rtkb_n (xs:List Int) (r:Rrf) (m:Nat) (h:Rrf.In xs r) (hf:(toS xs r).Fit) (hm:m<(cntV (toS xs r) 8).toNat) (hg:(takeR (toS xs (tkR xs (cntR xs r 8) m))).2≠0) (hh:∀ k,k<m→(takeR (toS xs (tkR xs (cntR xs r 8) k))).2=0):VT M_ (fnC Tryz.f65 [1,1,1,0,1,0]) (rtkb_n_I xs r m 0) (.ret) (rtkb_n_Z xs r m) :=
 VT.loop (fun k=>rtkb_n_I xs r m k) (m) (fun k hk=>rtkb_n_s xs r m h hf hm hg hh k hk) (rtkb_n_e xs r m h hf hm hg hh) c0_
theorem rptake_f (xs:List Int) (r:Rrf) (m:Nat) (h:Rrf.In xs r) (hf:(toS xs r).Fit) (hm:m<(cntV (toS xs r) 8).toNat) (hg:(takeR (toS xs (tkR xs (cntR xs r 8) m))).2≠0) (hh:∀ k,k<m→(takeR (toS xs (tkR xs (cntR xs r 8) k))).2=0):VM M_ 65 ([.ptr 100000 0 0]) ([(100000,.var (rrC xs r))]) (.tup [.agg [.sl 19 [],bv false,.sl 1 [],.sl 1 [],i32 0],i64 (takeR (toS xs (tkR xs (cntR xs r 8) m))).2]) ([(100000,.var (rrC xs (tkR xs (cntR xs r 8) (m+1))))]):=by
 have q:=cntV_rng (m:=8) (toS_in h) x_
 have q0:=tkR_in (cntR_in h 8) m
 have q1:=tkL_len (toS xs (cntR xs r 8)) m
 have q6:=tkR_s xs (cntR xs r 8) m
 have q7:(toS xs (tkR xs (cntR xs r 8) m)).Fit:=by rw[q6];exact tkS_fit q1_ m
 have i2:=cntR_in q0 1
 have i3:=widR_in (cntR_in (smlR_in (cntR_in i2 16384) 0) 16384) 0
 have q9:=cntV_rng (m:=2147483647) (toS_in i3) x_
 have oz0:=@rcnt_v (xs) (r) (8) h a_ a_
 have oz5:=@rtkb_n (xs) (r) (m) h hf hm hg hh
 exact mR_ [r_,r_,.r [] [cm oz0],r_,.code [.any [3,9,10],.weak 6 (i64 (↑0:Int)),.nilc 900 56 19 4 0,.blk 2 (Blk.var [AV.any,AV.any,AV.any,AV.any,AV.any]),.blk 4 (Blk.var [AV.own 900,bv false,AV.sl 1 [],AV.sl 1 [],i32 0]),.blk 100000 (Blk.var [AV.sl 1 (K_ (row1 .u8) xs),i64 (↑(tkR xs (cntR xs r 8) 0).fst:Int),i64 (tkR xs (cntR xs r 8) 0).snd]),.sort] (DT_) (zO oz5)] [.drop [2],.weak 0 (AV.tup [AV.agg [AV.sl 19 [],bv false,AV.sl 1 [],AV.sl 1 [],i32 0],i64 (takeR (toS xs (tkR xs (cntR xs r 8) m))).snd]),.sort] _ Tryz.func65 (.d7 oz0 w0_ (show BlkW (Blk.var [AV.lit (AK_ none (0:Nat) (0:Nat)),bv false,AV.lit (AK_ none (0:Nat) (0:Nat)),AV.lit (AK_ none (0:Nat) (0:Nat)),i32 (0:Int)]) (Blk.var [AV.any,AV.any,AV.any,AV.any,AV.any]) from (BlkW.var (m:=[AV.any,AV.any,AV.any,AV.any,AV.any]) (.cons (AG_ _) (.cons (AG_ _) (.cons (AG_ _) (.cons (AG_ _) (.cons (AG_ _) .nil))))))) (show BlkW (Blk.var [AV.own (900:Nat),bv false,AV.lit (AK_ none (0:Nat) (0:Nat)),AV.lit (AK_ none (0:Nat) (0:Nat)),i32 (0:Int)]) (Blk.var [AV.own (900:Nat),bv false,AV.sl (1:Nat) [],AV.sl (1:Nat) [],i32 (0:Int)]) from (BlkW.var (m:=[AV.own 900,bv false,AV.sl 1 [],AV.sl 1 [],i32 0]) (.cons (.refl _) (.cons (.refl _) (.cons (AV_ _) (.cons (AV_ _) (.cons (.refl _) .nil))))))) (show BlkW (Blk.var [AV.sl 1 (K_ (row1 .u8) xs),i64 (↑(cntR xs r 8).fst:Int),i64 (cntR xs r 8).snd]) (Blk.var [AV.sl 1 (K_ (row1 .u8) xs),i64 (↑(tkR xs (cntR xs r 8) 0).fst:Int),i64 (tkR xs (cntR xs r 8) 0).snd]) from (BlkW.var (m:=[AV.sl 1 (K_ (row1 .u8) xs),i64 (↑(tkR xs (cntR xs r 8) 0).fst:Int),i64 (tkR xs (cntR xs r 8) 0).snd]) (.cons (.refl _) (.cons (N_ t0_) (.cons (N_ t0_) .nil))))) oz5 (show Weak (AV.tup [AV.agg [AV.lit (AK_ none 0 0),bv false,AV.lit (AK_ none 0 0),AV.lit (AK_ none 0 0),i32 0],i64 (takeR (toS xs (tkR xs (cntR xs r 8) m))).snd]) (AV.tup [AV.agg [AV.sl 19 [],bv false,AV.sl 1 [],AV.sl 1 [],i32 0],i64 (takeR (toS xs (tkR xs (cntR xs r 8) m))).snd]) from (AA_ (.cons (AZ_ (.cons (AV_ _) (.cons (.refl _) (.cons (AV_ _) (.cons (AV_ _) (.cons (.refl _) .nil)))))) (.cons (.refl _) .nil)))))
theorem rptake_nb (xs:List Int) (r:Rrf) (h:Rrf.In xs r) (hf:(toS xs r).Fit) (hh:∀ k,k<(cntV (toS xs r) 8).toNat→(takeR (toS xs (tkR xs (cntR xs r 8) k))).2=0) (hx:cntV (toS xs (tkR xs (cntR xs r 8) (cntV (toS xs r) 8).toNat)) 1≠1) (hb:(cntR xs (tkR xs (cntR xs r 8) (cntV (toS xs r) 8).toNat) 1).2≠0):VM M_ 65 ([.ptr 100000 0 0]) ([(100000,.var (rrC xs r))]) (.tup [.agg [.sl 19 [],bv false,.sl 1 [],.sl 1 [],i32 0],i64 (cntR xs (tkR xs (cntR xs r 8) (cntV (toS xs r) 8).toNat) 1).2]) ([(100000,.var (rrC xs (cntR xs (tkR xs (cntR xs r 8) (cntV (toS xs r) 8).toNat) 1)))]):=by
 have q:=cntV_rng (m:=8) (toS_in h) x_
 have q0:=tkR_in (cntR_in h 8) (cntV (toS xs r) 8).toNat
 have q1:=tkL_len (toS xs (cntR xs r 8)) (cntV (toS xs r) 8).toNat
 have q6:=tkR_s xs (cntR xs r 8) (cntV (toS xs r) 8).toNat
 have q7:(toS xs (tkR xs (cntR xs r 8) (cntV (toS xs r) 8).toNat)).Fit:=by rw[q6];exact tkS_fit q1_ (cntV (toS xs r) 8).toNat
 have i2:=cntR_in q0 1
 have i3:=widR_in (cntR_in (smlR_in (cntR_in i2 16384) (cntV (toS xs (cntR xs (tkR xs (cntR xs r 8) (cntV (toS xs r) 8).toNat) 1)) 16384)) 16384) (cntV (toS xs (smlR xs (cntR xs (cntR xs (tkR xs (cntR xs r 8) (cntV (toS xs r) 8).toNat) 1) 16384) (cntV (toS xs (cntR xs (tkR xs (cntR xs r 8) (cntV (toS xs r) 8).toNat) 1)) 16384))) 16384)
 have q9:=cntV_rng (m:=2147483647) (toS_in i3) x_
 have oz0:=@rcnt_v (xs) (r) (8) h a_ a_
 have oz5:=@rtkb_y (xs) (r) h hf hh
 have oz6:=@rcnt_v (xs) (tkR xs (cntR xs r 8) (cntV (toS xs r) 8).toNat) (1) q0 a_ a_
 exact mR_ [r_,r_,.r [] [cm oz0],r_,.code [.any [3,9,10],.weak 6 (i64 (↑0:Int)),.nilc 900 56 19 4 0,.blk 2 (Blk.var [AV.any,AV.any,AV.any,AV.any,AV.any]),.blk 4 (Blk.var [AV.own 900,bv false,AV.sl 1 [],AV.sl 1 [],i32 0]),.blk 100000 (Blk.var [AV.sl 1 (K_ (row1 .u8) xs),i64 (↑(tkR xs (cntR xs r 8) 0).fst:Int),i64 (tkR xs (cntR xs r 8) 0).snd]),.sort] (BS_ 0) (zO oz5),.r [] [cm oz6],r_,d_,r_,b_,r_] [.drop [2,4,900],.weak 0 (AV.tup [AV.agg [AV.sl 19 [],bv false,AV.sl 1 [],AV.sl 1 [],i32 0],i64 (cntR xs (tkR xs (cntR xs r 8) (cntV (toS xs r) 8).toNat) 1).snd]),.sort] _ Tryz.func65 (.c8 oz0 w0_ (show BlkW (Blk.var [AV.lit (AK_ none (0:Nat) (0:Nat)),bv false,AV.lit (AK_ none (0:Nat) (0:Nat)),AV.lit (AK_ none (0:Nat) (0:Nat)),i32 (0:Int)]) (Blk.var [AV.any,AV.any,AV.any,AV.any,AV.any]) from (BlkW.var (m:=[AV.any,AV.any,AV.any,AV.any,AV.any]) (.cons (AG_ _) (.cons (AG_ _) (.cons (AG_ _) (.cons (AG_ _) (.cons (AG_ _) .nil))))))) (show BlkW (Blk.var [AV.own (900:Nat),bv false,AV.lit (AK_ none (0:Nat) (0:Nat)),AV.lit (AK_ none (0:Nat) (0:Nat)),i32 (0:Int)]) (Blk.var [AV.own (900:Nat),bv false,AV.sl (1:Nat) [],AV.sl (1:Nat) [],i32 (0:Int)]) from (BlkW.var (m:=[AV.own 900,bv false,AV.sl 1 [],AV.sl 1 [],i32 0]) (.cons (.refl _) (.cons (.refl _) (.cons (AV_ _) (.cons (AV_ _) (.cons (.refl _) .nil))))))) (show BlkW (Blk.var [AV.sl 1 (K_ (row1 .u8) xs),i64 (↑(cntR xs r 8).fst:Int),i64 (cntR xs r 8).snd]) (Blk.var [AV.sl 1 (K_ (row1 .u8) xs),i64 (↑(tkR xs (cntR xs r 8) 0).fst:Int),i64 (tkR xs (cntR xs r 8) 0).snd]) from (BlkW.var (m:=[AV.sl 1 (K_ (row1 .u8) xs),i64 (↑(tkR xs (cntR xs r 8) 0).fst:Int),i64 (tkR xs (cntR xs r 8) 0).snd]) (.cons (.refl _) (.cons (N_ t0_) (.cons (N_ t0_) .nil))))) oz5 oz6 (c_ ((cntV (toS xs (tkR xs (cntR xs r 8) (cntV (toS xs r) 8).toNat)) 1==1)=false))<|.d2 (h_ (((cntR xs (tkR xs (cntR xs r 8) (cntV (toS xs r) 8).toNat) 1).snd != 0)=true)) (show Weak (AV.tup [AV.agg [AV.lit (AK_ none 0 0),bv false,AV.lit (AK_ none 0 0),AV.lit (AK_ none 0 0),i32 0],i64 (cntR xs (tkR xs (cntR xs r 8) (cntV (toS xs r) 8).toNat) 1).snd]) (AV.tup [AV.agg [AV.sl 19 [],bv false,AV.sl 1 [],AV.sl 1 [],i32 0],i64 (cntR xs (tkR xs (cntR xs r 8) (cntV (toS xs r) 8).toNat) 1).snd]) from (AA_ (.cons (AZ_ (.cons (AV_ _) (.cons (.refl _) (.cons (AV_ _) (.cons (AV_ _) (.cons (.refl _) .nil)))))) (.cons (.refl _) .nil)))))
theorem rptake_ny (xs:List Int) (r:Rrf) (h:Rrf.In xs r) (hf:(toS xs r).Fit) (hh:∀ k,k<(cntV (toS xs r) 8).toNat→(takeR (toS xs (tkR xs (cntR xs r 8) k))).2=0) (hx:cntV (toS xs (tkR xs (cntR xs r 8) (cntV (toS xs r) 8).toNat)) 1≠1) (hb:(cntR xs (tkR xs (cntR xs r 8) (cntV (toS xs r) 8).toNat) 1).2=0):VM M_ 65 ([.ptr 100000 0 0]) ([(100000,.var (rrC xs r))]) (.tup [.agg [.sl 19 ((tkL (toS xs (cntR xs r 8)) (cntV (toS xs r) 8).toNat).map nodC),bv (cntV (toS xs (tkR xs (cntR xs r 8) (cntV (toS xs r) 8).toNat)) 1==1),ints .i8 [],ints .i32 [],i32 0],i64 0]) ([(100000,.var (rrC xs (cntR xs (tkR xs (cntR xs r 8) (cntV (toS xs r) 8).toNat) 1)))]):=by
 have q:=cntV_rng (m:=8) (toS_in h) x_
 have q0:=tkR_in (cntR_in h 8) (cntV (toS xs r) 8).toNat
 have q1:=tkL_len (toS xs (cntR xs r 8)) (cntV (toS xs r) 8).toNat
 have q6:=tkR_s xs (cntR xs r 8) (cntV (toS xs r) 8).toNat
 have q7:(toS xs (tkR xs (cntR xs r 8) (cntV (toS xs r) 8).toNat)).Fit:=by rw[q6];exact tkS_fit q1_ (cntV (toS xs r) 8).toNat
 have i2:=cntR_in q0 1
 have i3:=widR_in (cntR_in (smlR_in (cntR_in i2 16384) (cntV (toS xs (cntR xs (tkR xs (cntR xs r 8) (cntV (toS xs r) 8).toNat) 1)) 16384)) 16384) (cntV (toS xs (smlR xs (cntR xs (cntR xs (tkR xs (cntR xs r 8) (cntV (toS xs r) 8).toNat) 1) 16384) (cntV (toS xs (cntR xs (tkR xs (cntR xs r 8) (cntV (toS xs r) 8).toNat) 1)) 16384))) 16384)
 have q9:=cntV_rng (m:=2147483647) (toS_in i3) x_
 have oz0:=@rcnt_v (xs) (r) (8) h a_ a_
 have oz5:=@rtkb_y (xs) (r) h hf hh
 have oz6:=@rcnt_v (xs) (tkR xs (cntR xs r 8) (cntV (toS xs r) 8).toNat) (1) q0 a_ a_
 exact mR_ [r_,r_,.r [] [cm oz0],r_,.code [.any [3,9,10],.weak 6 (i64 (↑0:Int)),.nilc 900 56 19 4 0,.blk 2 (Blk.var [AV.any,AV.any,AV.any,AV.any,AV.any]),.blk 4 (Blk.var [AV.own 900,bv false,AV.sl 1 [],AV.sl 1 [],i32 0]),.blk 100000 (Blk.var [AV.sl 1 (K_ (row1 .u8) xs),i64 (↑(tkR xs (cntR xs r 8) 0).fst:Int),i64 (tkR xs (cntR xs r 8) 0).snd]),.sort] (BS_ 0) (zO oz5),.r [] [cm oz6],r_,d_,r_,d_,r_] [.frz 900,.drop [2,4],.sort] _ Tryz.func65 (.c8 oz0 w0_ (show BlkW (Blk.var [AV.lit (AK_ none (0:Nat) (0:Nat)),bv false,AV.lit (AK_ none (0:Nat) (0:Nat)),AV.lit (AK_ none (0:Nat) (0:Nat)),i32 (0:Int)]) (Blk.var [AV.any,AV.any,AV.any,AV.any,AV.any]) from (BlkW.var (m:=[AV.any,AV.any,AV.any,AV.any,AV.any]) (.cons (AG_ _) (.cons (AG_ _) (.cons (AG_ _) (.cons (AG_ _) (.cons (AG_ _) .nil))))))) (show BlkW (Blk.var [AV.own (900:Nat),bv false,AV.lit (AK_ none (0:Nat) (0:Nat)),AV.lit (AK_ none (0:Nat) (0:Nat)),i32 (0:Int)]) (Blk.var [AV.own (900:Nat),bv false,AV.sl (1:Nat) [],AV.sl (1:Nat) [],i32 (0:Int)]) from (BlkW.var (m:=[AV.own 900,bv false,AV.sl 1 [],AV.sl 1 [],i32 0]) (.cons (.refl _) (.cons (.refl _) (.cons (AV_ _) (.cons (AV_ _) (.cons (.refl _) .nil))))))) (show BlkW (Blk.var [AV.sl 1 (K_ (row1 .u8) xs),i64 (↑(cntR xs r 8).fst:Int),i64 (cntR xs r 8).snd]) (Blk.var [AV.sl 1 (K_ (row1 .u8) xs),i64 (↑(tkR xs (cntR xs r 8) 0).fst:Int),i64 (tkR xs (cntR xs r 8) 0).snd]) from (BlkW.var (m:=[AV.sl 1 (K_ (row1 .u8) xs),i64 (↑(tkR xs (cntR xs r 8) 0).fst:Int),i64 (tkR xs (cntR xs r 8) 0).snd]) (.cons (.refl _) (.cons (N_ t0_) (.cons (N_ t0_) .nil))))) oz5 oz6 (c_ ((cntV (toS xs (tkR xs (cntR xs r 8) (cntV (toS xs r) 8).toNat)) 1==1)=false))<|.d (h_ (((cntR xs (tkR xs (cntR xs r 8) (cntV (toS xs r) 8).toNat) 1).snd != 0)=false)))
theorem rptake_yb (xs:List Int) (r:Rrf) (h:Rrf.In xs r) (hf:(toS xs r).Fit) (hh:∀ k,k<(cntV (toS xs r) 8).toNat→(takeR (toS xs (tkR xs (cntR xs r 8) k))).2=0) (hx:cntV (toS xs (tkR xs (cntR xs r 8) (cntV (toS xs r) 8).toNat)) 1=1) (hb:(cntR xs (widR xs (cntR xs (smlR xs (cntR xs (cntR xs (tkR xs (cntR xs r 8) (cntV (toS xs r) 8).toNat) 1) 16384) (cntV (toS xs (cntR xs (tkR xs (cntR xs r 8) (cntV (toS xs r) 8).toNat) 1)) 16384)) 16384) (cntV (toS xs (smlR xs (cntR xs (cntR xs (tkR xs (cntR xs r 8) (cntV (toS xs r) 8).toNat) 1) 16384) (cntV (toS xs (cntR xs (tkR xs (cntR xs r 8) (cntV (toS xs r) 8).toNat) 1)) 16384))) 16384)) 2147483647).2≠0):VM M_ 65 ([.ptr 100000 0 0]) ([(100000,.var (rrC xs r))]) (.tup [.agg [.sl 19 [],bv false,.sl 1 [],.sl 1 [],i32 0],i64 (cntR xs (widR xs (cntR xs (smlR xs (cntR xs (cntR xs (tkR xs (cntR xs r 8) (cntV (toS xs r) 8).toNat) 1) 16384) (cntV (toS xs (cntR xs (tkR xs (cntR xs r 8) (cntV (toS xs r) 8).toNat) 1)) 16384)) 16384) (cntV (toS xs (smlR xs (cntR xs (cntR xs (tkR xs (cntR xs r 8) (cntV (toS xs r) 8).toNat) 1) 16384) (cntV (toS xs (cntR xs (tkR xs (cntR xs r 8) (cntV (toS xs r) 8).toNat) 1)) 16384))) 16384)) 2147483647).2]) ([(100000,.var (rrC xs (cntR xs (widR xs (cntR xs (smlR xs (cntR xs (cntR xs (tkR xs (cntR xs r 8) (cntV (toS xs r) 8).toNat) 1) 16384) (cntV (toS xs (cntR xs (tkR xs (cntR xs r 8) (cntV (toS xs r) 8).toNat) 1)) 16384)) 16384) (cntV (toS xs (smlR xs (cntR xs (cntR xs (tkR xs (cntR xs r 8) (cntV (toS xs r) 8).toNat) 1) 16384) (cntV (toS xs (cntR xs (tkR xs (cntR xs r 8) (cntV (toS xs r) 8).toNat) 1)) 16384))) 16384)) 2147483647)))]):=by
 have q:=cntV_rng (m:=8) (toS_in h) x_
 have q0:=tkR_in (cntR_in h 8) (cntV (toS xs r) 8).toNat
 have q1:=tkL_len (toS xs (cntR xs r 8)) (cntV (toS xs r) 8).toNat
 have q6:=tkR_s xs (cntR xs r 8) (cntV (toS xs r) 8).toNat
 have q7:(toS xs (tkR xs (cntR xs r 8) (cntV (toS xs r) 8).toNat)).Fit:=by rw[q6];exact tkS_fit q1_ (cntV (toS xs r) 8).toNat
 have i2:=cntR_in q0 1
 have i3:=widR_in (cntR_in (smlR_in (cntR_in i2 16384) (cntV (toS xs (cntR xs (tkR xs (cntR xs r 8) (cntV (toS xs r) 8).toNat) 1)) 16384)) 16384) (cntV (toS xs (smlR xs (cntR xs (cntR xs (tkR xs (cntR xs r 8) (cntV (toS xs r) 8).toNat) 1) 16384) (cntV (toS xs (cntR xs (tkR xs (cntR xs r 8) (cntV (toS xs r) 8).toNat) 1)) 16384))) 16384)
 have q9:=cntV_rng (m:=2147483647) (toS_in i3) x_
 have oz0:=@rcnt_v (xs) (r) (8) h a_ a_
 have oz5:=@rtkb_y (xs) (r) h hf hh
 have oz6:=@rcnt_v (xs) (tkR xs (cntR xs r 8) (cntV (toS xs r) 8).toNat) (1) q0 a_ a_
 have oz8:=@rcnt_v (xs) (cntR xs (tkR xs (cntR xs r 8) (cntV (toS xs r) 8).toNat) 1) (16384) i2 a_ a_
 have oz9:=@rsmall_v (xs) (cntR xs (cntR xs (tkR xs (cntR xs r 8) (cntV (toS xs r) 8).toNat) 1) 16384) (cntV (toS xs (cntR xs (tkR xs (cntR xs r 8) (cntV (toS xs r) 8).toNat) 1)) 16384) x0_
 have oz10:=@rcnt_v (xs) (smlR xs (cntR xs (cntR xs (tkR xs (cntR xs r 8) (cntV (toS xs r) 8).toNat) 1) 16384) (cntV (toS xs (cntR xs (tkR xs (cntR xs r 8) (cntV (toS xs r) 8).toNat) 1)) 16384)) (16384) x0_ a_ a_
 have oz11:=@rwide_v (xs) (cntR xs (smlR xs (cntR xs (cntR xs (tkR xs (cntR xs r 8) (cntV (toS xs r) 8).toNat) 1) 16384) (cntV (toS xs (cntR xs (tkR xs (cntR xs r 8) (cntV (toS xs r) 8).toNat) 1)) 16384)) 16384) (cntV (toS xs (smlR xs (cntR xs (cntR xs (tkR xs (cntR xs r 8) (cntV (toS xs r) 8).toNat) 1) 16384) (cntV (toS xs (cntR xs (tkR xs (cntR xs r 8) (cntV (toS xs r) 8).toNat) 1)) 16384))) 16384) x0_
 have oz12:=@rcnt_v (xs) (widR xs (cntR xs (smlR xs (cntR xs (cntR xs (tkR xs (cntR xs r 8) (cntV (toS xs r) 8).toNat) 1) 16384) (cntV (toS xs (cntR xs (tkR xs (cntR xs r 8) (cntV (toS xs r) 8).toNat) 1)) 16384)) 16384) (cntV (toS xs (smlR xs (cntR xs (cntR xs (tkR xs (cntR xs r 8) (cntV (toS xs r) 8).toNat) 1) 16384) (cntV (toS xs (cntR xs (tkR xs (cntR xs r 8) (cntV (toS xs r) 8).toNat) 1)) 16384))) 16384)) (2147483647) i3 a_ a_
 have oz13:=(AI_ (cntV (toS xs (widR xs (cntR xs (smlR xs (cntR xs (cntR xs (tkR xs (cntR xs r 8) (cntV (toS xs r) 8).toNat) 1) 16384) (cntV (toS xs (cntR xs (tkR xs (cntR xs r 8) (cntV (toS xs r) 8).toNat) 1)) 16384)) 16384) (cntV (toS xs (smlR xs (cntR xs (cntR xs (tkR xs (cntR xs r 8) (cntV (toS xs r) 8).toNat) 1) 16384) (cntV (toS xs (cntR xs (tkR xs (cntR xs r 8) (cntV (toS xs r) 8).toNat) 1)) 16384))) 16384))) 2147483647) a_)
 exact mR_ [r_,r_,.r [] [cm oz0],r_,.code [.any [3,9,10],.weak 6 (i64 (↑0:Int)),.nilc 900 56 19 4 0,.blk 2 (Blk.var [AV.any,AV.any,AV.any,AV.any,AV.any]),.blk 4 (Blk.var [AV.own 900,bv false,AV.sl 1 [],AV.sl 1 [],i32 0]),.blk 100000 (Blk.var [AV.sl 1 (K_ (row1 .u8) xs),i64 (↑(tkR xs (cntR xs r 8) 0).fst:Int),i64 (tkR xs (cntR xs r 8) 0).snd]),.sort] (BS_ 0) (zO oz5),.r [] [cm oz6],r_,b_,.r [] [cm oz8,cm oz9],.r [] [cm oz10,cm oz11],.r [] [cm oz12,.n (nO oz13)],r_,b_,r_] [.drop [2,4,900],.weak 0 (AV.tup [AV.agg [AV.sl 19 [],bv false,AV.sl 1 [],AV.sl 1 [],i32 0],i64 (cntR xs (widR xs (cntR xs (smlR xs (cntR xs (cntR xs (tkR xs (cntR xs r 8) (cntV (toS xs r) 8).toNat) 1) 16384) (cntV (toS xs (cntR xs (tkR xs (cntR xs r 8) (cntV (toS xs r) 8).toNat) 1)) 16384)) 16384) (cntV (toS xs (smlR xs (cntR xs (cntR xs (tkR xs (cntR xs r 8) (cntV (toS xs r) 8).toNat) 1) 16384) (cntV (toS xs (cntR xs (tkR xs (cntR xs r 8) (cntV (toS xs r) 8).toNat) 1)) 16384))) 16384)) 2147483647).snd]),.sort] _ Tryz.func65 (.c8 oz0 w0_ (show BlkW (Blk.var [AV.lit (AK_ none (0:Nat) (0:Nat)),bv false,AV.lit (AK_ none (0:Nat) (0:Nat)),AV.lit (AK_ none (0:Nat) (0:Nat)),i32 (0:Int)]) (Blk.var [AV.any,AV.any,AV.any,AV.any,AV.any]) from (BlkW.var (m:=[AV.any,AV.any,AV.any,AV.any,AV.any]) (.cons (AG_ _) (.cons (AG_ _) (.cons (AG_ _) (.cons (AG_ _) (.cons (AG_ _) .nil))))))) (show BlkW (Blk.var [AV.own (900:Nat),bv false,AV.lit (AK_ none (0:Nat) (0:Nat)),AV.lit (AK_ none (0:Nat) (0:Nat)),i32 (0:Int)]) (Blk.var [AV.own (900:Nat),bv false,AV.sl (1:Nat) [],AV.sl (1:Nat) [],i32 (0:Int)]) from (BlkW.var (m:=[AV.own 900,bv false,AV.sl 1 [],AV.sl 1 [],i32 0]) (.cons (.refl _) (.cons (.refl _) (.cons (AV_ _) (.cons (AV_ _) (.cons (.refl _) .nil))))))) (show BlkW (Blk.var [AV.sl 1 (K_ (row1 .u8) xs),i64 (↑(cntR xs r 8).fst:Int),i64 (cntR xs r 8).snd]) (Blk.var [AV.sl 1 (K_ (row1 .u8) xs),i64 (↑(tkR xs (cntR xs r 8) 0).fst:Int),i64 (tkR xs (cntR xs r 8) 0).snd]) from (BlkW.var (m:=[AV.sl 1 (K_ (row1 .u8) xs),i64 (↑(tkR xs (cntR xs r 8) 0).fst:Int),i64 (tkR xs (cntR xs r 8) 0).snd]) (.cons (.refl _) (.cons (N_ t0_) (.cons (N_ t0_) .nil))))) oz5 oz6 (y_ ((cntV (toS xs (tkR xs (cntR xs r 8) (cntV (toS xs r) 8).toNat)) 1==1)=true))<|.d8 oz8 oz9 oz10 oz11 oz12 oz13 (h_ (((cntR xs (widR xs (cntR xs (smlR xs (cntR xs (cntR xs (tkR xs (cntR xs r 8) (cntV (toS xs r) 8).toNat) 1) 16384) (cntV (toS xs (cntR xs (tkR xs (cntR xs r 8) (cntV (toS xs r) 8).toNat) 1)) 16384)) 16384) (cntV (toS xs (smlR xs (cntR xs (cntR xs (tkR xs (cntR xs r 8) (cntV (toS xs r) 8).toNat) 1) 16384) (cntV (toS xs (cntR xs (tkR xs (cntR xs r 8) (cntV (toS xs r) 8).toNat) 1)) 16384))) 16384)) 2147483647).snd != 0)=true)) (show Weak (AV.tup [AV.agg [AV.lit (AK_ none 0 0),bv false,AV.lit (AK_ none 0 0),AV.lit (AK_ none 0 0),i32 0],i64 (cntR xs (widR xs (cntR xs (smlR xs (cntR xs (cntR xs (tkR xs (cntR xs r 8) (cntV (toS xs r) 8).toNat) 1) 16384) (cntV (toS xs (cntR xs (tkR xs (cntR xs r 8) (cntV (toS xs r) 8).toNat) 1)) 16384)) 16384) (cntV (toS xs (smlR xs (cntR xs (cntR xs (tkR xs (cntR xs r 8) (cntV (toS xs r) 8).toNat) 1) 16384) (cntV (toS xs (cntR xs (tkR xs (cntR xs r 8) (cntV (toS xs r) 8).toNat) 1)) 16384))) 16384)) 2147483647).snd]) (AV.tup [AV.agg [AV.sl 19 [],bv false,AV.sl 1 [],AV.sl 1 [],i32 0],i64 (cntR xs (widR xs (cntR xs (smlR xs (cntR xs (cntR xs (tkR xs (cntR xs r 8) (cntV (toS xs r) 8).toNat) 1) 16384) (cntV (toS xs (cntR xs (tkR xs (cntR xs r 8) (cntV (toS xs r) 8).toNat) 1)) 16384)) 16384) (cntV (toS xs (smlR xs (cntR xs (cntR xs (tkR xs (cntR xs r 8) (cntV (toS xs r) 8).toNat) 1) 16384) (cntV (toS xs (cntR xs (tkR xs (cntR xs r 8) (cntV (toS xs r) 8).toNat) 1)) 16384))) 16384)) 2147483647).snd]) from (AA_ (.cons (AZ_ (.cons (AV_ _) (.cons (.refl _) (.cons (AV_ _) (.cons (AV_ _) (.cons (.refl _) .nil)))))) (.cons (.refl _) .nil)))))
theorem rptake_yy (xs:List Int) (r:Rrf) (h:Rrf.In xs r) (hf:(toS xs r).Fit) (hh:∀ k,k<(cntV (toS xs r) 8).toNat→(takeR (toS xs (tkR xs (cntR xs r 8) k))).2=0) (hx:cntV (toS xs (tkR xs (cntR xs r 8) (cntV (toS xs r) 8).toNat)) 1=1) (hb:(cntR xs (widR xs (cntR xs (smlR xs (cntR xs (cntR xs (tkR xs (cntR xs r 8) (cntV (toS xs r) 8).toNat) 1) 16384) (cntV (toS xs (cntR xs (tkR xs (cntR xs r 8) (cntV (toS xs r) 8).toNat) 1)) 16384)) 16384) (cntV (toS xs (smlR xs (cntR xs (cntR xs (tkR xs (cntR xs r 8) (cntV (toS xs r) 8).toNat) 1) 16384) (cntV (toS xs (cntR xs (tkR xs (cntR xs r 8) (cntV (toS xs r) 8).toNat) 1)) 16384))) 16384)) 2147483647).2=0):VM M_ 65 ([.ptr 100000 0 0]) ([(100000,.var (rrC xs r))]) (.tup [.agg [.sl 19 ((tkL (toS xs (cntR xs r 8)) (cntV (toS xs r) 8).toNat).map nodC),bv (cntV (toS xs (tkR xs (cntR xs r 8) (cntV (toS xs r) 8).toNat)) 1==1),ints .i8 (smlV (toS xs (cntR xs (cntR xs (tkR xs (cntR xs r 8) (cntV (toS xs r) 8).toNat) 1) 16384)) (cntV (toS xs (cntR xs (tkR xs (cntR xs r 8) (cntV (toS xs r) 8).toNat) 1)) 16384)),ints .i32 (widV (toS xs (cntR xs (smlR xs (cntR xs (cntR xs (tkR xs (cntR xs r 8) (cntV (toS xs r) 8).toNat) 1) 16384) (cntV (toS xs (cntR xs (tkR xs (cntR xs r 8) (cntV (toS xs r) 8).toNat) 1)) 16384)) 16384)) (cntV (toS xs (smlR xs (cntR xs (cntR xs (tkR xs (cntR xs r 8) (cntV (toS xs r) 8).toNat) 1) 16384) (cntV (toS xs (cntR xs (tkR xs (cntR xs r 8) (cntV (toS xs r) 8).toNat) 1)) 16384))) 16384)),i32 (cntV (toS xs (widR xs (cntR xs (smlR xs (cntR xs (cntR xs (tkR xs (cntR xs r 8) (cntV (toS xs r) 8).toNat) 1) 16384) (cntV (toS xs (cntR xs (tkR xs (cntR xs r 8) (cntV (toS xs r) 8).toNat) 1)) 16384)) 16384) (cntV (toS xs (smlR xs (cntR xs (cntR xs (tkR xs (cntR xs r 8) (cntV (toS xs r) 8).toNat) 1) 16384) (cntV (toS xs (cntR xs (tkR xs (cntR xs r 8) (cntV (toS xs r) 8).toNat) 1)) 16384))) 16384))) 2147483647)],i64 0]) ([(100000,.var (rrC xs (cntR xs (widR xs (cntR xs (smlR xs (cntR xs (cntR xs (tkR xs (cntR xs r 8) (cntV (toS xs r) 8).toNat) 1) 16384) (cntV (toS xs (cntR xs (tkR xs (cntR xs r 8) (cntV (toS xs r) 8).toNat) 1)) 16384)) 16384) (cntV (toS xs (smlR xs (cntR xs (cntR xs (tkR xs (cntR xs r 8) (cntV (toS xs r) 8).toNat) 1) 16384) (cntV (toS xs (cntR xs (tkR xs (cntR xs r 8) (cntV (toS xs r) 8).toNat) 1)) 16384))) 16384)) 2147483647)))]):=by
 have q:=cntV_rng (m:=8) (toS_in h) x_
 have q0:=tkR_in (cntR_in h 8) (cntV (toS xs r) 8).toNat
 have q1:=tkL_len (toS xs (cntR xs r 8)) (cntV (toS xs r) 8).toNat
 have q6:=tkR_s xs (cntR xs r 8) (cntV (toS xs r) 8).toNat
 have q7:(toS xs (tkR xs (cntR xs r 8) (cntV (toS xs r) 8).toNat)).Fit:=by rw[q6];exact tkS_fit q1_ (cntV (toS xs r) 8).toNat
 have i2:=cntR_in q0 1
 have i3:=widR_in (cntR_in (smlR_in (cntR_in i2 16384) (cntV (toS xs (cntR xs (tkR xs (cntR xs r 8) (cntV (toS xs r) 8).toNat) 1)) 16384)) 16384) (cntV (toS xs (smlR xs (cntR xs (cntR xs (tkR xs (cntR xs r 8) (cntV (toS xs r) 8).toNat) 1) 16384) (cntV (toS xs (cntR xs (tkR xs (cntR xs r 8) (cntV (toS xs r) 8).toNat) 1)) 16384))) 16384)
 have q9:=cntV_rng (m:=2147483647) (toS_in i3) x_
 have oz0:=@rcnt_v (xs) (r) (8) h a_ a_
 have oz5:=@rtkb_y (xs) (r) h hf hh
 have oz6:=@rcnt_v (xs) (tkR xs (cntR xs r 8) (cntV (toS xs r) 8).toNat) (1) q0 a_ a_
 have oz8:=@rcnt_v (xs) (cntR xs (tkR xs (cntR xs r 8) (cntV (toS xs r) 8).toNat) 1) (16384) i2 a_ a_
 have oz9:=@rsmall_v (xs) (cntR xs (cntR xs (tkR xs (cntR xs r 8) (cntV (toS xs r) 8).toNat) 1) 16384) (cntV (toS xs (cntR xs (tkR xs (cntR xs r 8) (cntV (toS xs r) 8).toNat) 1)) 16384) x0_
 have oz10:=@rcnt_v (xs) (smlR xs (cntR xs (cntR xs (tkR xs (cntR xs r 8) (cntV (toS xs r) 8).toNat) 1) 16384) (cntV (toS xs (cntR xs (tkR xs (cntR xs r 8) (cntV (toS xs r) 8).toNat) 1)) 16384)) (16384) x0_ a_ a_
 have oz11:=@rwide_v (xs) (cntR xs (smlR xs (cntR xs (cntR xs (tkR xs (cntR xs r 8) (cntV (toS xs r) 8).toNat) 1) 16384) (cntV (toS xs (cntR xs (tkR xs (cntR xs r 8) (cntV (toS xs r) 8).toNat) 1)) 16384)) 16384) (cntV (toS xs (smlR xs (cntR xs (cntR xs (tkR xs (cntR xs r 8) (cntV (toS xs r) 8).toNat) 1) 16384) (cntV (toS xs (cntR xs (tkR xs (cntR xs r 8) (cntV (toS xs r) 8).toNat) 1)) 16384))) 16384) x0_
 have oz12:=@rcnt_v (xs) (widR xs (cntR xs (smlR xs (cntR xs (cntR xs (tkR xs (cntR xs r 8) (cntV (toS xs r) 8).toNat) 1) 16384) (cntV (toS xs (cntR xs (tkR xs (cntR xs r 8) (cntV (toS xs r) 8).toNat) 1)) 16384)) 16384) (cntV (toS xs (smlR xs (cntR xs (cntR xs (tkR xs (cntR xs r 8) (cntV (toS xs r) 8).toNat) 1) 16384) (cntV (toS xs (cntR xs (tkR xs (cntR xs r 8) (cntV (toS xs r) 8).toNat) 1)) 16384))) 16384)) (2147483647) i3 a_ a_
 have oz13:=(AI_ (cntV (toS xs (widR xs (cntR xs (smlR xs (cntR xs (cntR xs (tkR xs (cntR xs r 8) (cntV (toS xs r) 8).toNat) 1) 16384) (cntV (toS xs (cntR xs (tkR xs (cntR xs r 8) (cntV (toS xs r) 8).toNat) 1)) 16384)) 16384) (cntV (toS xs (smlR xs (cntR xs (cntR xs (tkR xs (cntR xs r 8) (cntV (toS xs r) 8).toNat) 1) 16384) (cntV (toS xs (cntR xs (tkR xs (cntR xs r 8) (cntV (toS xs r) 8).toNat) 1)) 16384))) 16384))) 2147483647) a_)
 exact mR_ [r_,r_,.r [] [cm oz0],r_,.code [.any [3,9,10],.weak 6 (i64 (↑0:Int)),.nilc 900 56 19 4 0,.blk 2 (Blk.var [AV.any,AV.any,AV.any,AV.any,AV.any]),.blk 4 (Blk.var [AV.own 900,bv false,AV.sl 1 [],AV.sl 1 [],i32 0]),.blk 100000 (Blk.var [AV.sl 1 (K_ (row1 .u8) xs),i64 (↑(tkR xs (cntR xs r 8) 0).fst:Int),i64 (tkR xs (cntR xs r 8) 0).snd]),.sort] (BS_ 0) (zO oz5),.r [] [cm oz6],r_,b_,.r [] [cm oz8,cm oz9],.r [] [cm oz10,cm oz11],.r [] [cm oz12,.n (nO oz13)],r_,d_,r_] [.frz 900,.drop [2,4],.sort] _ Tryz.func65 (.c8 oz0 w0_ (show BlkW (Blk.var [AV.lit (AK_ none (0:Nat) (0:Nat)),bv false,AV.lit (AK_ none (0:Nat) (0:Nat)),AV.lit (AK_ none (0:Nat) (0:Nat)),i32 (0:Int)]) (Blk.var [AV.any,AV.any,AV.any,AV.any,AV.any]) from (BlkW.var (m:=[AV.any,AV.any,AV.any,AV.any,AV.any]) (.cons (AG_ _) (.cons (AG_ _) (.cons (AG_ _) (.cons (AG_ _) (.cons (AG_ _) .nil))))))) (show BlkW (Blk.var [AV.own (900:Nat),bv false,AV.lit (AK_ none (0:Nat) (0:Nat)),AV.lit (AK_ none (0:Nat) (0:Nat)),i32 (0:Int)]) (Blk.var [AV.own (900:Nat),bv false,AV.sl (1:Nat) [],AV.sl (1:Nat) [],i32 (0:Int)]) from (BlkW.var (m:=[AV.own 900,bv false,AV.sl 1 [],AV.sl 1 [],i32 0]) (.cons (.refl _) (.cons (.refl _) (.cons (AV_ _) (.cons (AV_ _) (.cons (.refl _) .nil))))))) (show BlkW (Blk.var [AV.sl 1 (K_ (row1 .u8) xs),i64 (↑(cntR xs r 8).fst:Int),i64 (cntR xs r 8).snd]) (Blk.var [AV.sl 1 (K_ (row1 .u8) xs),i64 (↑(tkR xs (cntR xs r 8) 0).fst:Int),i64 (tkR xs (cntR xs r 8) 0).snd]) from (BlkW.var (m:=[AV.sl 1 (K_ (row1 .u8) xs),i64 (↑(tkR xs (cntR xs r 8) 0).fst:Int),i64 (tkR xs (cntR xs r 8) 0).snd]) (.cons (.refl _) (.cons (N_ t0_) (.cons (N_ t0_) .nil))))) oz5 oz6 (y_ ((cntV (toS xs (tkR xs (cntR xs r 8) (cntV (toS xs r) 8).toNat)) 1==1)=true))<|.d7 oz8 oz9 oz10 oz11 oz12 oz13 (h_ (((cntR xs (widR xs (cntR xs (smlR xs (cntR xs (cntR xs (tkR xs (cntR xs r 8) (cntV (toS xs r) 8).toNat) 1) 16384) (cntV (toS xs (cntR xs (tkR xs (cntR xs r 8) (cntV (toS xs r) 8).toNat) 1)) 16384)) 16384) (cntV (toS xs (smlR xs (cntR xs (cntR xs (tkR xs (cntR xs r 8) (cntV (toS xs r) 8).toNat) 1) 16384) (cntV (toS xs (cntR xs (tkR xs (cntR xs r 8) (cntV (toS xs r) 8).toNat) 1)) 16384))) 16384)) 2147483647).snd != 0)=false)))
def takeRB (xs:List Int):Nat→Rrf→Rrf
 | 0,r=>r
 | n+1,r=>if (takeR (toS xs r)).2≠0 then takeRr xs r else takeRB xs n (takeRr xs r)
theorem takeRB_in {xs:List Int}:∀ {n:Nat} {r:Rrf},Rrf.In xs r→Rrf.In xs (takeRB xs n r):=by
 intro n
 induction n with
 | zero=>intro r h;exact h
 | succ n ih =>
  intro r h
  rw[takeRB]
  split
  ·exact takeRr_in h
  ·exact ih (takeRr_in h)
theorem takeRB_s (xs:List Int):∀ (n:Nat) (r:Rrf),toS xs (takeRB xs n r)=(takeB n (toS xs r)).2:=by
 intro n
 induction n with
 | zero=>intro r;rfl
 | succ n ih =>
  intro r
  rw[takeRB,takeB]
  by_cases h:(takeR (toS xs r)).2≠0
  ·rw[i_ h,i_ h];exact takeRr_s xs r
  ·rw[j_ h,j_ h,ih,takeRr_s]
theorem tkR_succ (xs:List Int) (r:Rrf) (k:Nat):tkR xs r (k+1)=tkR xs (takeRr xs r) k:=by
 induction k with
 | zero=>rfl
 | succ k ih=>rw[tkR,ih];rfl
theorem takeRB_n {xs:List Int} {n:Nat}:∀ {r:Rrf} {m:Nat},m<n→(takeR (toS xs (tkR xs r m))).2≠0→(∀ k,k<m→(takeR (toS xs (tkR xs r k))).2=0)→takeRB xs n r=tkR xs r (m+1):=by
 induction n with
 | zero=>intro r m hm;omega
 | succ n ih =>
  intro r m hm hf h
  cases m with
  | zero=>rw[takeRB,i_ (by exact hf)];rfl
  | succ m =>
   have h0:(takeR (toS xs r)).2=0:=h 0 a_
   rw[takeRB,j_ a3_,tkR_succ xs r (m+1)]
   rw[tkR_succ] at hf
   refine ih a_ hf fun k hk=>?_
   rw[←tkR_succ];exact h (k+1) a_
def exR (xs:List Int) (r:Rrf):Rrf:=if cntV (toS xs r) 1=1 then cntR xs (widR xs (cntR xs (smlR xs (cntR xs (cntR xs r 1) 16384) (cntV (toS xs (cntR xs r 1)) 16384)) 16384) (cntV (toS xs (smlR xs (cntR xs (cntR xs r 1) 16384) (cntV (toS xs (cntR xs r 1)) 16384))) 16384)) 2147483647 else cntR xs r 1
theorem exR_in {xs:List Int} {r:Rrf} (h:Rrf.In xs r):Rrf.In xs (exR xs r):=by
 unfold exR
 split
 ·exact cntR_in (widR_in (cntR_in (smlR_in (cntR_in (cntR_in h _) _) _) _) _) _
 ·exact cntR_in h _
theorem exR_s (xs:List Int) (r:Rrf):toS xs (exR xs r)=exS (toS xs r):=by
 unfold exR exS
 by_cases h:cntV (toS xs r) 1=1
 ·rw[i_ h,i_ h];simp only[lstS,lst1,toS_cnt,toS_sml,toS_wid]
 ·rw[j_ h,j_ h,toS_cnt]
def blkRr (xs:List Int) (r:Rrf):Rrf:=if (takeB (cntV (toS xs r) 8).toNat (cntS (toS xs r) 8)).1≠0 then takeRB xs (cntV (toS xs r) 8).toNat (cntR xs r 8) else exR xs (tkR xs (cntR xs r 8) (cntV (toS xs r) 8).toNat)
theorem tkR_n (xs:List Int) (r:Rrf) (k:Nat):(takeR (toS xs (tkR xs (cntR xs r 8) k))).2=(takeR (tkS (cntS (toS xs r) 8) k)).2:=by rw[tkR_s,toS_cnt]
theorem blkRr_in {xs:List Int} {r:Rrf} (h:Rrf.In xs r):Rrf.In xs (blkRr xs r):=by
 unfold blkRr
 split
 ·exact takeRB_in (cntR_in h 8)
 ·exact exR_in (tkR_in (cntR_in h 8) _)
theorem blkRr_s (xs:List Int) (r:Rrf):toS xs (blkRr xs r)=(blkT (toS xs r)).2:=by
 unfold blkRr blkT
 by_cases h:(takeB (cntV (toS xs r) 8).toNat (cntS (toS xs r) 8)).1≠0
 ·rw[i_ h,i_ h,takeRB_s,toS_cnt]
 ·rw[j_ h,j_ h,exR_s,tkR_s,toS_cnt]
  unfold stB
  split<;>rfl
theorem rptake_v (xs:List Int) (r:Rrf) (h:Rrf.In xs r) (hf:(toS xs r).Fit):VM M_ 65 [.ptr 100000 0 0] [(100000,.var (rrC xs r))] (.tup [blc (blkT (toS xs r)).1.1,i64 (blkT (toS xs r)).1.2]) [(100000,.var (rrC xs (blkRr xs r)))]:=by
 rcases blkT_cases (toS xs r) with ⟨m,hm,hg,hh⟩|⟨hh,hb⟩|⟨hh,hb⟩
 ·have hh2:∀ k,k<m→(takeR (toS xs (tkR xs (cntR xs r 8) k))).2=0:=fun k hk=>by rw[tkR_n];exact hh k hk
  have hg2:(takeR (toS xs (tkR xs (cntR xs r 8) m))).2≠0:=by rw[tkR_n];exact hg
  have e:blkRr xs r=tkR xs (cntR xs r 8) (m+1):=by
   unfold blkRr;rw[takeB_n hm hg hh,i_ (by exact hg),takeRB_n hm hg2 hh2]
  rw[blkT_f hm hg hh,e,←tkR_n]
  exact rptake_f xs r m h hf hm hg2 hh2
 ·have hh2:∀ k,k<(cntV (toS xs r) 8).toNat→(takeR (toS xs (tkR xs (cntR xs r 8) k))).2=0:=fun k hk=>by rw[tkR_n];exact hh k hk
  have e:blkRr xs r=exR xs (tkR xs (cntR xs r 8) (cntV (toS xs r) 8).toNat):=by
   unfold blkRr;rw[takeB_y hh,j_ v0_]
  have es:stB (toS xs r)=toS xs (tkR xs (cntR xs r 8) (cntV (toS xs r) 8).toNat):=by unfold stB;rw[tkR_s,toS_cnt]
  have e2:exS (stB (toS xs r))=toS xs (exR xs (tkR xs (cntR xs r 8) (cntV (toS xs r) 8).toNat)):=by rw[es,exR_s]
  rw[blkT_b hh hb,e]
  rw[e2,toS_2] at hb ⊢
  unfold exR at hb ⊢
  by_cases hx:cntV (toS xs (tkR xs (cntR xs r 8) (cntV (toS xs r) 8).toNat)) 1=1
  ·rw[i_ hx] at hb ⊢;exact rptake_yb xs r h hf hh2 hx hb
  ·rw[j_ hx] at hb ⊢;exact rptake_nb xs r h hf hh2 hx hb
 ·have hh2:∀ k,k<(cntV (toS xs r) 8).toNat→(takeR (toS xs (tkR xs (cntR xs r 8) k))).2=0:=fun k hk=>by rw[tkR_n];exact hh k hk
  have e:blkRr xs r=exR xs (tkR xs (cntR xs r 8) (cntV (toS xs r) 8).toNat):=by
   unfold blkRr;rw[takeB_y hh,j_ v0_]
  have es:stB (toS xs r)=toS xs (tkR xs (cntR xs r 8) (cntV (toS xs r) 8).toNat):=by unfold stB;rw[tkR_s,toS_cnt]
  have e2:exS (stB (toS xs r))=toS xs (exR xs (tkR xs (cntR xs r 8) (cntV (toS xs r) 8).toNat)):=by rw[es,exR_s]
  have en:nodesT (toS xs r)=tkL (toS xs (cntR xs r 8)) (cntV (toS xs r) 8).toNat:=by unfold nodesT;rw[toS_cnt]
  rw[blkT_y hh hb,e,en]
  rw[e2,toS_2] at hb
  unfold exN
  rw[es]
  unfold exR at hb ⊢
  by_cases hx:cntV (toS xs (tkR xs (cntR xs r 8) (cntV (toS xs r) 8).toNat)) 1=1
  ·rw[i_ hx] at hb ⊢
   rw[i_ hx]
   have q:=rptake_yy xs r h hf hh2 hx hb
   rw[show (cntV (toS xs (tkR xs (cntR xs r 8) (cntV (toS xs r) 8).toNat)) 1==1)=true from by simpa using hx] at q
   simp only[lstW,lstB,lst1,lstS,toS_cnt,toS_sml,toS_wid] at q ⊢
   exact q
  ·rw[j_ hx] at hb ⊢
   rw[j_ hx]
   have q:=rptake_ny xs r h hf hh2 hx hb
   rw[show (cntV (toS xs (tkR xs (cntR xs r 8) (cntV (toS xs r) 8).toNat)) 1==1)=false from by simpa using hx] at q
   exact q
def mkS (s:Rst):Nat→Rst
 | 0=>s
 | k+1=>(blkT (mkS s k)).2
def mkL (s:Rst):Nat→List Blc
 | 0=>[]
 | k+1=>mkL s k++[(blkT (mkS s k)).1.1]
theorem mkS_fit {s:Rst} (h:s.Fit) (k:Nat):(mkS s k).Fit:=by
 induction k with
 | zero=>exact h
 | succ k ih=>exact blkT_fit ih
theorem mkL_len (s:Rst) (k:Nat):(mkL s k).length=k:=by
 induction k with
 | zero=>rfl
 | succ k ih=>rw[mkL,AD_,ih];rfl
def mkR (xs:List Int) (r:Rrf):Nat→Rrf
 | 0=>r
 | k+1=>blkRr xs (mkR xs r k)
theorem mkR_in {xs:List Int} {r:Rrf} (h:Rrf.In xs r) (k:Nat):Rrf.In xs (mkR xs r k):=by
 induction k with
 | zero=>exact h
 | succ k ih=>exact blkRr_in ih
theorem mkR_s (xs:List Int) (r:Rrf) (k:Nat):toS xs (mkR xs r k)=mkS (toS xs r) k:=by
 induction k with
 | zero=>rfl
 | succ k ih=>rw[mkR,blkRr_s,ih];rfl
noncomputable def ptm_y_I (s:Rst) (k:Nat):VS:=stt 44 [(0,.ptr 100000 0 0),(2,.ptr 2 0 0),(4,.ptr 4 0 0),(5,.ptr 5 0 0),(18,i64 (cntV s 6)),(19,i64 k)] [(2,.var [.any]),(4,.var [.ptr 100000 0 0]),(5,.var [.own 900]),(900,.slc 51 5 ((mkL (cntS s 6) k).map blcC)),(100000,.var (rdC (mkS (cntS s 6) k)))]
noncomputable def ptm_y_Z (s:Rst):VS:=ptm_y_I s ((cntV s 6).toNat)
theorem ptm_y_s (s:Rst) (h:s.Fit) (hh:∀ k,k<(cntV s 6).toNat→(blkT (mkS (cntS s 6) k)).1.2=0) (k:Nat) (hk:k<(cntV s 6).toNat):VT M_ (fnC Tryz.f60 [1,1,1,1,1,0,1,0,0]) (ptm_y_I s k) .normal (ptm_y_I s (k+1)):=by
 have q:=cntV_rng (m:=6) h.i x_
 have q0:=mkS_fit (cnt_fit h 6) k
 have q1:=mkL_len (cntS s 6) k
 have q2:=hh k hk
 have oz1:=@ptake_v (mkS (cntS s 6) k) q0
 exact tR_ [r_,b_,.r [] [cm oz1],r_,d_,r_,.r [] [.n ((↑k:Int)+1)]] [.any (rg [(7,2),(20,8),(30,7)]),.drop [7,33],.ren 34 900,.weak 19 (i64 (↑(k+1):Int)),.blk 900 (Blk.slc 51 5 (K_ blcC (mkL (cntS s 6) (k+1)))),.blk 100000 (Blk.var [AV.sl 1 (K_ (row1 .u8) (mkS (cntS s 6) (k+1)).fst),i64 (mkS (cntS s 6) (k+1)).snd]),.sort] (.c8 (decide_eq_true (p:=((↑k:Int)<cntV s 6)) a_) oz1 (h_ (((blkT (mkS (cntS s 6) k)).fst.snd != 0)=false)) (h_ (((K_ blcC (mkL (cntS s 6) k)).length+1)*88≤140737488355328)) (h_ ((K_ blcC (mkL (cntS s 6) k)).length+1≤9223372036854775807)) (i6n ((↑k:Int)+1) a_) (wS_ k) (show BlkW (Blk.slc 51 5 (K_ blcC (mkL (cntS s 6) k)++[[AV.sl 19 (K_ nodC (blkT (mkS (cntS s 6) k)).fst.fst.n),bv (blkT (mkS (cntS s 6) k)).fst.fst.ex,AV.sl 1 (K_ (row1 .i8) (blkT (mkS (cntS s 6) k)).fst.fst.w),AV.sl 1 (K_ (row1 .i32) (blkT (mkS (cntS s 6) k)).fst.fst.b),i32 (blkT (mkS (cntS s 6) k)).fst.fst.nd]])) (Blk.slc 51 5 (K_ blcC (mkL (cntS s 6) (k+1)))) from (CW_ (e:=51) (z:=5) (rows_to (blcC) (r:=K_ blcC (mkL (cntS s 6) k)++[[AV.sl 19 (K_ nodC (blkT (mkS (cntS s 6) k)).fst.fst.n),bv (blkT (mkS (cntS s 6) k)).fst.fst.ex,AV.sl 1 (K_ (row1 .i8) (blkT (mkS (cntS s 6) k)).fst.fst.w),AV.sl 1 (K_ (row1 .i32) (blkT (mkS (cntS s 6) k)).fst.fst.b),i32 (blkT (mkS (cntS s 6) k)).fst.fst.nd]]) (l:=mkL (cntS s 6) k++[Blc.mk (blkT (mkS (cntS s 6) k)).fst.fst.n (blkT (mkS (cntS s 6) k)).fst.fst.ex (blkT (mkS (cntS s 6) k)).fst.fst.w (blkT (mkS (cntS s 6) k)).fst.fst.b (blkT (mkS (cntS s 6) k)).fst.fst.nd]) (m:=mkL (cntS s 6) (k+1)) d1_ (show (mkL (cntS s 6) k++[Blc.mk (blkT (mkS (cntS s 6) k)).fst.fst.n (blkT (mkS (cntS s 6) k)).fst.fst.ex (blkT (mkS (cntS s 6) k)).fst.fst.w (blkT (mkS (cntS s 6) k)).fst.fst.b (blkT (mkS (cntS s 6) k)).fst.fst.nd])=(mkL (cntS s 6) (k+1)) from t0_))))<|.d (show BlkW (Blk.var [AV.sl 1 (K_ (row1 .u8) (blkT (mkS (cntS s 6) k)).snd.fst),i64 (blkT (mkS (cntS s 6) k)).snd.snd]) (Blk.var [AV.sl 1 (K_ (row1 .u8) (mkS (cntS s 6) (k+1)).fst),i64 (mkS (cntS s 6) (k+1)).snd]) from (BlkW.var (m:=[AV.sl 1 (K_ (row1 .u8) (mkS (cntS s 6) (k+1)).fst),i64 (mkS (cntS s 6) (k+1)).snd]) (.cons (AH_ (rows_to (row1 .u8) (r:=K_ (row1 .u8) (blkT (mkS (cntS s 6) k)).snd.fst) (l:=(blkT (mkS (cntS s 6) k)).snd.fst) (m:=(mkS (cntS s 6) (k+1)).fst) rfl (show ((blkT (mkS (cntS s 6) k)).snd.fst)=((mkS (cntS s 6) (k+1)).fst) from t0_))) (.cons (N_ t0_) .nil)))))
theorem ptm_y_e (s:Rst) (h:s.Fit) (hh:∀ k,k<(cntV s 6).toNat→(blkT (mkS (cntS s 6) k)).1.2=0):VT M_ (fnC Tryz.f60 [1,1,1,1,1,0,1,0,0]) (ptm_y_I s ((cntV s 6).toNat)) (.exit 0) (ptm_y_Z s):=by
 exact tR_ [r_,d_] [.any [20],.sort] (.d (decide_eq_false (p:=((↑(cntV s 6).toNat:Int)<cntV s 6)) a_))
theorem ptm_y (s:Rst) (h:s.Fit) (hh:∀ k,k<(cntV s 6).toNat→(blkT (mkS (cntS s 6) k)).1.2=0):VT M_ (fnC Tryz.f60 [1,1,1,1,1,0,1,0]) (ptm_y_I s 0) (.exit 0) (ptm_y_Z s) :=
 VT.loop (fun k=>ptm_y_I s k) ((cntV s 6).toNat) (fun k hk=>ptm_y_s s h hh k hk) (ptm_y_e s h hh) c0_
noncomputable def ptm_n_I (s:Rst) (m:Nat) (k:Nat):VS:=stt 44 [(0,.ptr 100000 0 0),(2,.ptr 2 0 0),(4,.ptr 4 0 0),(5,.ptr 5 0 0),(18,i64 (cntV s 6)),(19,i64 k)] [(2,.var [.any]),(4,.var [.ptr 100000 0 0]),(5,.var [.own 900]),(900,.slc 51 5 ((mkL (cntS s 6) k).map blcC)),(100000,.var (rdC (mkS (cntS s 6) k)))]
noncomputable def ptm_n_Z (s:Rst) (m:Nat):VS:=stt 44 [(2,.ptr 2 0 0),(3,i64 (blkT (mkS (cntS s 6) m)).1.2)] [(2,.var [nilv]),(100000,.var (rdC (mkS (cntS s 6) (m+1))))]
theorem ptm_n_s (s:Rst) (m:Nat) (h:s.Fit) (hm:m<(cntV s 6).toNat) (hf:(blkT (mkS (cntS s 6) m)).1.2≠0) (hh:∀ k,k<m→(blkT (mkS (cntS s 6) k)).1.2=0) (k:Nat) (hk:k<m):VT M_ (fnC Tryz.f60 [1,1,1,1,1,0,1,0,0]) (ptm_n_I s m k) .normal (ptm_n_I s m (k+1)):=by
 have q:=cntV_rng (m:=6) h.i x_
 have q0:=mkS_fit (cnt_fit h 6) k
 have q1:=mkL_len (cntS s 6) k
 have q2:=hh k hk
 have oz1:=@ptake_v (mkS (cntS s 6) k) q0
 exact tR_ [r_,b_,.r [] [cm oz1],r_,d_,r_,.r [] [.n ((↑k:Int)+1)]] [.any (rg [(7,2),(20,8),(30,7)]),.drop [7,33],.ren 34 900,.weak 19 (i64 (↑(k+1):Int)),.blk 900 (Blk.slc 51 5 (K_ blcC (mkL (cntS s 6) (k+1)))),.blk 100000 (Blk.var [AV.sl 1 (K_ (row1 .u8) (mkS (cntS s 6) (k+1)).fst),i64 (mkS (cntS s 6) (k+1)).snd]),.sort] (.c8 (decide_eq_true (p:=((↑k:Int)<cntV s 6)) a_) oz1 (h_ (((blkT (mkS (cntS s 6) k)).fst.snd != 0)=false)) (h_ (((K_ blcC (mkL (cntS s 6) k)).length+1)*88≤140737488355328)) (h_ ((K_ blcC (mkL (cntS s 6) k)).length+1≤9223372036854775807)) (i6n ((↑k:Int)+1) a_) (wS_ k) (show BlkW (Blk.slc 51 5 (K_ blcC (mkL (cntS s 6) k)++[[AV.sl 19 (K_ nodC (blkT (mkS (cntS s 6) k)).fst.fst.n),bv (blkT (mkS (cntS s 6) k)).fst.fst.ex,AV.sl 1 (K_ (row1 .i8) (blkT (mkS (cntS s 6) k)).fst.fst.w),AV.sl 1 (K_ (row1 .i32) (blkT (mkS (cntS s 6) k)).fst.fst.b),i32 (blkT (mkS (cntS s 6) k)).fst.fst.nd]])) (Blk.slc 51 5 (K_ blcC (mkL (cntS s 6) (k+1)))) from (CW_ (e:=51) (z:=5) (rows_to (blcC) (r:=K_ blcC (mkL (cntS s 6) k)++[[AV.sl 19 (K_ nodC (blkT (mkS (cntS s 6) k)).fst.fst.n),bv (blkT (mkS (cntS s 6) k)).fst.fst.ex,AV.sl 1 (K_ (row1 .i8) (blkT (mkS (cntS s 6) k)).fst.fst.w),AV.sl 1 (K_ (row1 .i32) (blkT (mkS (cntS s 6) k)).fst.fst.b),i32 (blkT (mkS (cntS s 6) k)).fst.fst.nd]]) (l:=mkL (cntS s 6) k++[Blc.mk (blkT (mkS (cntS s 6) k)).fst.fst.n (blkT (mkS (cntS s 6) k)).fst.fst.ex (blkT (mkS (cntS s 6) k)).fst.fst.w (blkT (mkS (cntS s 6) k)).fst.fst.b (blkT (mkS (cntS s 6) k)).fst.fst.nd]) (m:=mkL (cntS s 6) (k+1)) d1_ (show (mkL (cntS s 6) k++[Blc.mk (blkT (mkS (cntS s 6) k)).fst.fst.n (blkT (mkS (cntS s 6) k)).fst.fst.ex (blkT (mkS (cntS s 6) k)).fst.fst.w (blkT (mkS (cntS s 6) k)).fst.fst.b (blkT (mkS (cntS s 6) k)).fst.fst.nd])=(mkL (cntS s 6) (k+1)) from t0_))))<|.d (show BlkW (Blk.var [AV.sl 1 (K_ (row1 .u8) (blkT (mkS (cntS s 6) k)).snd.fst),i64 (blkT (mkS (cntS s 6) k)).snd.snd]) (Blk.var [AV.sl 1 (K_ (row1 .u8) (mkS (cntS s 6) (k+1)).fst),i64 (mkS (cntS s 6) (k+1)).snd]) from (BlkW.var (m:=[AV.sl 1 (K_ (row1 .u8) (mkS (cntS s 6) (k+1)).fst),i64 (mkS (cntS s 6) (k+1)).snd]) (.cons (AH_ (rows_to (row1 .u8) (r:=K_ (row1 .u8) (blkT (mkS (cntS s 6) k)).snd.fst) (l:=(blkT (mkS (cntS s 6) k)).snd.fst) (m:=(mkS (cntS s 6) (k+1)).fst) rfl (show ((blkT (mkS (cntS s 6) k)).snd.fst)=((mkS (cntS s 6) (k+1)).fst) from t0_))) (.cons (N_ t0_) .nil)))))
theorem ptm_n_e (s:Rst) (m:Nat) (h:s.Fit) (hm:m<(cntV s 6).toNat) (hf:(blkT (mkS (cntS s 6) m)).1.2≠0) (hh:∀ k,k<m→(blkT (mkS (cntS s 6) k)).1.2=0):VT M_ (fnC Tryz.f60 [1,1,1,1,1,0,1,0,0]) (ptm_n_I s m (m)) (.ret) (ptm_n_Z s m):=by
 have q:=cntV_rng (m:=6) h.i x_
 have q0:=mkS_fit (cnt_fit h 6) m
 have q1:=mkL_len (cntS s 6) m
 have oz1:=@ptake_v (mkS (cntS s 6) m) q0
 exact tR_ [r_,b_,.r [] [cm oz1],r_,b_,r_] [.any (rg [(0,1),(4,2),(7,2),(18,12)]),.drop [4,5,900,7],.blk 100000 (Blk.var [AV.sl 1 (K_ (row1 .u8) (mkS (cntS s 6) (m+1)).fst),i64 (mkS (cntS s 6) (m+1)).snd]),.sort] (.d4 (decide_eq_true (p:=((↑m:Int)<cntV s 6)) a_) oz1 (h_ (((blkT (mkS (cntS s 6) m)).fst.snd != 0)=true)) (show BlkW (Blk.var [AV.sl 1 (K_ (row1 .u8) (blkT (mkS (cntS s 6) m)).snd.fst),i64 (blkT (mkS (cntS s 6) m)).snd.snd]) (Blk.var [AV.sl 1 (K_ (row1 .u8) (mkS (cntS s 6) (m+1)).fst),i64 (mkS (cntS s 6) (m+1)).snd]) from (BlkW.var (m:=[AV.sl 1 (K_ (row1 .u8) (mkS (cntS s 6) (m+1)).fst),i64 (mkS (cntS s 6) (m+1)).snd]) (.cons (AH_ (rows_to (row1 .u8) (r:=K_ (row1 .u8) (blkT (mkS (cntS s 6) m)).snd.fst) (l:=(blkT (mkS (cntS s 6) m)).snd.fst) (m:=(mkS (cntS s 6) (m+1)).fst) rfl (show ((blkT (mkS (cntS s 6) m)).snd.fst)=((mkS (cntS s 6) (m+1)).fst) from t0_))) (.cons (N_ t0_) .nil)))))
theorem ptm_n (s:Rst) (m:Nat) (h:s.Fit) (hm:m<(cntV s 6).toNat) (hf:(blkT (mkS (cntS s 6) m)).1.2≠0) (hh:∀ k,k<m→(blkT (mkS (cntS s 6) k)).1.2=0):VT M_ (fnC Tryz.f60 [1,1,1,1,1,0,1,0]) (ptm_n_I s m 0) (.ret) (ptm_n_Z s m) :=
 VT.loop (fun k=>ptm_n_I s m k) (m) (fun k hk=>ptm_n_s s m h hm hf hh k hk) (ptm_n_e s m h hm hf hh) c0_
theorem ptmod_f (s:Rst) (m:Nat) (h:s.Fit) (hm:m<(cntV s 6).toNat) (hf:(blkT (mkS (cntS s 6) m)).1.2≠0) (hh:∀ k,k<m→(blkT (mkS (cntS s 6) k)).1.2=0):VM M_ 60 ([.ptr 100000 0 0]) ([(100000,.var (rdC s))]) (.tup [.agg [.sl 5 []],i64 (blkT (mkS (cntS s 6) m)).1.2]) ([(100000,.var (rdC (mkS (cntS s 6) (m+1))))]):=by
 have q:=cntV_rng (m:=6) h.i x_
 have q0:=mkS_fit (cnt_fit h 6) (cntV s 6).toNat
 have q1:=mkL_len (cntS s 6) (cntV s 6).toNat
 have qi:=h.i
 have qe:=q0.e
 have oz1:=@tnum_1 (s) (0) (6) qi a_ a_
 have oz5:=@ptm_n (s) (m) h hm hf hh
 exact mR_ [r_,r_,d_,r_,r_,.r [] [.callm [(100000,100000),(6,100001)] [] (rM oz1) (oM oz1)],r_,.code [.any [3,6,10,11,13,14,15,16,17],.drop [6],.weak 19 (i64 (↑0:Int)),.nilc 900 51 5 5 0,.blk 2 (Blk.var [AV.any]),.blk 100000 (Blk.var [AV.sl 1 (K_ (row1 .u8) (mkS (cntS s 6) 0).fst),i64 (mkS (cntS s 6) 0).snd]),.sort] (DT_) (zO oz5)] [.drop [2],.weak 0 (AV.tup [AV.agg [AV.sl 5 []],i64 (blkT (mkS (cntS s 6) m)).fst.snd]),.sort] _ Tryz.func60 (.d7 z1_ oz1 w0_ (show BlkW (Blk.var [AV.lit (AK_ none (0:Nat) (0:Nat))]) (Blk.var [AV.any]) from (BlkW.var (m:=[AV.any]) (.cons (AG_ _) .nil))) (show BlkW (Blk.var [AV.sl 1 (K_ (row1 .u8) (cntS s 6).fst),i64 (cntS s 6).snd]) (Blk.var [AV.sl 1 (K_ (row1 .u8) (mkS (cntS s 6) 0).fst),i64 (mkS (cntS s 6) 0).snd]) from (BlkW.var (m:=[AV.sl 1 (K_ (row1 .u8) (mkS (cntS s 6) 0).fst),i64 (mkS (cntS s 6) 0).snd]) (.cons (AH_ (rows_to (row1 .u8) (r:=K_ (row1 .u8) (cntS s 6).fst) (l:=(cntS s 6).fst) (m:=(mkS (cntS s 6) 0).fst) rfl (show ((cntS s 6).fst)=((mkS (cntS s 6) 0).fst) from t0_))) (.cons (N_ t0_) .nil)))) oz5 (show Weak (AV.tup [AV.agg [AV.lit (AK_ none 0 0)],i64 (blkT (mkS (cntS s 6) m)).fst.snd]) (AV.tup [AV.agg [AV.sl 5 []],i64 (blkT (mkS (cntS s 6) m)).fst.snd]) from (AA_ (.cons (AZ_ (.cons (AV_ _) .nil)) (.cons (.refl _) .nil)))))
theorem ptmod_b (s:Rst) (h:s.Fit) (hh:∀ k,k<(cntV s 6).toNat→(blkT (mkS (cntS s 6) k)).1.2=0) (hb:(mkS (cntS s 6) (cntV s 6).toNat).2≠0):VM M_ 60 ([.ptr 100000 0 0]) ([(100000,.var (rdC s))]) (.tup [.agg [.sl 5 []],i64 (mkS (cntS s 6) (cntV s 6).toNat).2]) ([(100000,.var (rdC (mkS (cntS s 6) (cntV s 6).toNat)))]):=by
 have q:=cntV_rng (m:=6) h.i x_
 have q0:=mkS_fit (cnt_fit h 6) (cntV s 6).toNat
 have q1:=mkL_len (cntS s 6) (cntV s 6).toNat
 have qi:=h.i
 have qe:=q0.e
 have oz1:=@tnum_1 (s) (0) (6) qi a_ a_
 have oz5:=@ptm_y (s) h hh
 have oz6:=@bad_v (mkS (cntS s 6) (cntV s 6).toNat) qe
 exact mR_ [r_,r_,d_,r_,r_,.r [] [.callm [(100000,100000),(6,100001)] [] (rM oz1) (oM oz1)],r_,.code [.any [3,6,10,11,13,14,15,16,17],.drop [6],.weak 19 (i64 (↑0:Int)),.nilc 900 51 5 5 0,.blk 2 (Blk.var [AV.any]),.blk 100000 (Blk.var [AV.sl 1 (K_ (row1 .u8) (mkS (cntS s 6) 0).fst),i64 (mkS (cntS s 6) 0).snd]),.sort] (BS_ 0) (zO oz5),.r [] [cm oz6],r_,b_,r_] [.drop [2,4,5,900],.weak 0 (AV.tup [AV.agg [AV.sl 5 []],i64 (mkS (cntS s 6) (cntV s 6).toNat).snd]),.sort] _ Tryz.func60 (.c8 z1_ oz1 w0_ (show BlkW (Blk.var [AV.lit (AK_ none (0:Nat) (0:Nat))]) (Blk.var [AV.any]) from (BlkW.var (m:=[AV.any]) (.cons (AG_ _) .nil))) (show BlkW (Blk.var [AV.sl 1 (K_ (row1 .u8) (cntS s 6).fst),i64 (cntS s 6).snd]) (Blk.var [AV.sl 1 (K_ (row1 .u8) (mkS (cntS s 6) 0).fst),i64 (mkS (cntS s 6) 0).snd]) from (BlkW.var (m:=[AV.sl 1 (K_ (row1 .u8) (mkS (cntS s 6) 0).fst),i64 (mkS (cntS s 6) 0).snd]) (.cons (AH_ (rows_to (row1 .u8) (r:=K_ (row1 .u8) (cntS s 6).fst) (l:=(cntS s 6).fst) (m:=(mkS (cntS s 6) 0).fst) rfl (show ((cntS s 6).fst)=((mkS (cntS s 6) 0).fst) from t0_))) (.cons (N_ t0_) .nil)))) oz5 oz6 (h_ (((mkS (cntS s 6) (cntV s 6).toNat).snd != 0)=true))<|.d (show Weak (AV.tup [AV.agg [AV.lit (AK_ none 0 0)],i64 (mkS (cntS s 6) (cntV s 6).toNat).snd]) (AV.tup [AV.agg [AV.sl 5 []],i64 (mkS (cntS s 6) (cntV s 6).toNat).snd]) from (AA_ (.cons (AZ_ (.cons (AV_ _) .nil)) (.cons (.refl _) .nil)))))
theorem ptmod_y (s:Rst) (h:s.Fit) (hh:∀ k,k<(cntV s 6).toNat→(blkT (mkS (cntS s 6) k)).1.2=0) (hb:(mkS (cntS s 6) (cntV s 6).toNat).2=0):VM M_ 60 ([.ptr 100000 0 0]) ([(100000,.var (rdC s))]) (.tup [.agg [.sl 5 ((mkL (cntS s 6) (cntV s 6).toNat).map blcC)],i64 0]) ([(100000,.var (rdC (mkS (cntS s 6) (cntV s 6).toNat)))]):=by
 have q:=cntV_rng (m:=6) h.i x_
 have q0:=mkS_fit (cnt_fit h 6) (cntV s 6).toNat
 have q1:=mkL_len (cntS s 6) (cntV s 6).toNat
 have qi:=h.i
 have qe:=q0.e
 have oz1:=@tnum_1 (s) (0) (6) qi a_ a_
 have oz5:=@ptm_y (s) h hh
 have oz6:=@bad_v (mkS (cntS s 6) (cntV s 6).toNat) qe
 exact mR_ [r_,r_,d_,r_,r_,.r [] [.callm [(100000,100000),(6,100001)] [] (rM oz1) (oM oz1)],r_,.code [.any [3,6,10,11,13,14,15,16,17],.drop [6],.weak 19 (i64 (↑0:Int)),.nilc 900 51 5 5 0,.blk 2 (Blk.var [AV.any]),.blk 100000 (Blk.var [AV.sl 1 (K_ (row1 .u8) (mkS (cntS s 6) 0).fst),i64 (mkS (cntS s 6) 0).snd]),.sort] (BS_ 0) (zO oz5),.r [] [cm oz6],r_,d_,r_] [.frz 900,.drop [2,4,5],.sort] _ Tryz.func60 (.d8 z1_ oz1 w0_ (show BlkW (Blk.var [AV.lit (AK_ none (0:Nat) (0:Nat))]) (Blk.var [AV.any]) from (BlkW.var (m:=[AV.any]) (.cons (AG_ _) .nil))) (show BlkW (Blk.var [AV.sl 1 (K_ (row1 .u8) (cntS s 6).fst),i64 (cntS s 6).snd]) (Blk.var [AV.sl 1 (K_ (row1 .u8) (mkS (cntS s 6) 0).fst),i64 (mkS (cntS s 6) 0).snd]) from (BlkW.var (m:=[AV.sl 1 (K_ (row1 .u8) (mkS (cntS s 6) 0).fst),i64 (mkS (cntS s 6) 0).snd]) (.cons (AH_ (rows_to (row1 .u8) (r:=K_ (row1 .u8) (cntS s 6).fst) (l:=(cntS s 6).fst) (m:=(mkS (cntS s 6) 0).fst) rfl (show ((cntS s 6).fst)=((mkS (cntS s 6) 0).fst) from t0_))) (.cons (N_ t0_) .nil)))) oz5 oz6 (h_ (((mkS (cntS s 6) (cntV s 6).toNat).snd != 0)=false)))
noncomputable def rtm_y_I (xs:List Int) (r:Rrf) (k:Nat):VS:=stt 42 [(0,.ptr 100000 0 0),(2,.ptr 2 0 0),(4,.ptr 4 0 0),(5,i64 (cntV (toS xs r) 6)),(6,i64 k)] [(2,.var [.any]),(4,.var [.own 900]),(900,.slc 51 5 ((mkL (toS xs (cntR xs r 6)) k).map blcC)),(100000,.var (rrC xs (mkR xs (cntR xs r 6) k)))]
noncomputable def rtm_y_Z (xs:List Int) (r:Rrf):VS:=rtm_y_I xs r ((cntV (toS xs r) 6).toNat)
theorem rtm_y_s (xs:List Int) (r:Rrf) (h:Rrf.In xs r) (hf:(toS xs r).Fit) (hh:∀ k,k<(cntV (toS xs r) 6).toNat→(blkT (toS xs (mkR xs (cntR xs r 6) k))).1.2=0) (k:Nat) (hk:k<(cntV (toS xs r) 6).toNat):VT M_ (fnC Tryz.f35 [1,1,1,0,1,0,0]) (rtm_y_I xs r k) .normal (rtm_y_I xs r (k+1)):=by
 have q:=cntV_rng (m:=6) (toS_in h) x_
 have q0:=mkR_in (cntR_in h 6) k
 have q1:=mkL_len (toS xs (cntR xs r 6)) k
 have q6:=mkR_s xs (cntR xs r 6) k
 have q7:(toS xs (mkR xs (cntR xs r 6) k)).Fit:=by rw[q6];exact mkS_fit d2_ k
 have q2:=hh k hk
 have oz1:=@rptake_v (xs) (mkR xs (cntR xs r 6) k) q0 q7
 exact tR_ [r_,b_,.r [] [cm oz1],r_,d_,r_,.r [] [.n ((↑k:Int)+1)]] [.any (rg [(7,2),(11,12),(25,6)]),.drop [7,28],.ren 29 900,.weak 6 (i64 (↑(k+1):Int)),.blk 900 (Blk.slc 51 5 (K_ blcC (mkL (toS xs (cntR xs r 6)) (k+1)))),.blk 100000 (Blk.var [AV.sl 1 (K_ (row1 .u8) xs),i64 (↑(mkR xs (cntR xs r 6) (k+1)).fst:Int),i64 (mkR xs (cntR xs r 6) (k+1)).snd]),.sort] (.c8 (decide_eq_true (p:=((↑k:Int)<cntV (toS xs r) 6)) a_) oz1 (h_ (((blkT (toS xs (mkR xs (cntR xs r 6) k))).fst.snd != 0)=false)) (h_ (((K_ blcC (mkL (toS xs (cntR xs r 6)) k)).length+1)*88≤140737488355328)) (h_ ((K_ blcC (mkL (toS xs (cntR xs r 6)) k)).length+1≤9223372036854775807)) (i6n ((↑k:Int)+1) a_) (wS_ k) (show BlkW (Blk.slc 51 5 (K_ blcC (mkL (toS xs (cntR xs r 6)) k)++[[AV.sl 19 (K_ nodC (blkT (toS xs (mkR xs (cntR xs r 6) k))).fst.fst.n),bv (blkT (toS xs (mkR xs (cntR xs r 6) k))).fst.fst.ex,AV.sl 1 (K_ (row1 .i8) (blkT (toS xs (mkR xs (cntR xs r 6) k))).fst.fst.w),AV.sl 1 (K_ (row1 .i32) (blkT (toS xs (mkR xs (cntR xs r 6) k))).fst.fst.b),i32 (blkT (toS xs (mkR xs (cntR xs r 6) k))).fst.fst.nd]])) (Blk.slc 51 5 (K_ blcC (mkL (toS xs (cntR xs r 6)) (k+1)))) from (CW_ (e:=51) (z:=5) (rows_to (blcC) (r:=K_ blcC (mkL (toS xs (cntR xs r 6)) k)++[[AV.sl 19 (K_ nodC (blkT (toS xs (mkR xs (cntR xs r 6) k))).fst.fst.n),bv (blkT (toS xs (mkR xs (cntR xs r 6) k))).fst.fst.ex,AV.sl 1 (K_ (row1 .i8) (blkT (toS xs (mkR xs (cntR xs r 6) k))).fst.fst.w),AV.sl 1 (K_ (row1 .i32) (blkT (toS xs (mkR xs (cntR xs r 6) k))).fst.fst.b),i32 (blkT (toS xs (mkR xs (cntR xs r 6) k))).fst.fst.nd]]) (l:=mkL (toS xs (cntR xs r 6)) k++[Blc.mk (blkT (toS xs (mkR xs (cntR xs r 6) k))).fst.fst.n (blkT (toS xs (mkR xs (cntR xs r 6) k))).fst.fst.ex (blkT (toS xs (mkR xs (cntR xs r 6) k))).fst.fst.w (blkT (toS xs (mkR xs (cntR xs r 6) k))).fst.fst.b (blkT (toS xs (mkR xs (cntR xs r 6) k))).fst.fst.nd]) (m:=mkL (toS xs (cntR xs r 6)) (k+1)) d1_ (show (mkL (toS xs (cntR xs r 6)) k++[Blc.mk (blkT (toS xs (mkR xs (cntR xs r 6) k))).fst.fst.n (blkT (toS xs (mkR xs (cntR xs r 6) k))).fst.fst.ex (blkT (toS xs (mkR xs (cntR xs r 6) k))).fst.fst.w (blkT (toS xs (mkR xs (cntR xs r 6) k))).fst.fst.b (blkT (toS xs (mkR xs (cntR xs r 6) k))).fst.fst.nd])=(mkL (toS xs (cntR xs r 6)) (k+1)) from (by (have w:=congrArg (fun z=>mkL (toS xs (cntR xs r 6)) k++[(blkT z).1.1]) q6;exact w))))))<|.d (show BlkW (Blk.var [AV.sl 1 (K_ (row1 .u8) xs),i64 (↑(blkRr xs (mkR xs (cntR xs r 6) k)).fst:Int),i64 (blkRr xs (mkR xs (cntR xs r 6) k)).snd]) (Blk.var [AV.sl 1 (K_ (row1 .u8) xs),i64 (↑(mkR xs (cntR xs r 6) (k+1)).fst:Int),i64 (mkR xs (cntR xs r 6) (k+1)).snd]) from (BlkW.var (m:=[AV.sl 1 (K_ (row1 .u8) xs),i64 (↑(mkR xs (cntR xs r 6) (k+1)).fst:Int),i64 (mkR xs (cntR xs r 6) (k+1)).snd]) (.cons (.refl _) (.cons (N_ t0_) (.cons (N_ t0_) .nil))))))
theorem rtm_y_e (xs:List Int) (r:Rrf) (h:Rrf.In xs r) (hf:(toS xs r).Fit) (hh:∀ k,k<(cntV (toS xs r) 6).toNat→(blkT (toS xs (mkR xs (cntR xs r 6) k))).1.2=0):VT M_ (fnC Tryz.f35 [1,1,1,0,1,0,0]) (rtm_y_I xs r ((cntV (toS xs r) 6).toNat)) (.exit 0) (rtm_y_Z xs r):=by
 exact tR_ [r_,d_] [.any [11,12,13],.sort] (.d (decide_eq_false (p:=((↑(cntV (toS xs r) 6).toNat:Int)<cntV (toS xs r) 6)) a_))
theorem rtm_y (xs:List Int) (r:Rrf) (h:Rrf.In xs r) (hf:(toS xs r).Fit) (hh:∀ k,k<(cntV (toS xs r) 6).toNat→(blkT (toS xs (mkR xs (cntR xs r 6) k))).1.2=0):VT M_ (fnC Tryz.f35 [1,1,1,0,1,0]) (rtm_y_I xs r 0) (.exit 0) (rtm_y_Z xs r) :=
 VT.loop (fun k=>rtm_y_I xs r k) ((cntV (toS xs r) 6).toNat) (fun k hk=>rtm_y_s xs r h hf hh k hk) (rtm_y_e xs r h hf hh) c0_
noncomputable def rtm_n_I (xs:List Int) (r:Rrf) (m:Nat) (k:Nat):VS:=stt 42 [(0,.ptr 100000 0 0),(2,.ptr 2 0 0),(4,.ptr 4 0 0),(5,i64 (cntV (toS xs r) 6)),(6,i64 k)] [(2,.var [.any]),(4,.var [.own 900]),(900,.slc 51 5 ((mkL (toS xs (cntR xs r 6)) k).map blcC)),(100000,.var (rrC xs (mkR xs (cntR xs r 6) k)))]
noncomputable def rtm_n_Z (xs:List Int) (r:Rrf) (m:Nat):VS:=stt 42 [(2,.ptr 2 0 0),(3,i64 (blkT (toS xs (mkR xs (cntR xs r 6) m))).1.2)] [(2,.var [nilv]),(100000,.var (rrC xs (mkR xs (cntR xs r 6) (m+1))))]
theorem rtm_n_s (xs:List Int) (r:Rrf) (m:Nat) (h:Rrf.In xs r) (hf:(toS xs r).Fit) (hm:m<(cntV (toS xs r) 6).toNat) (hg:(blkT (toS xs (mkR xs (cntR xs r 6) m))).1.2≠0) (hh:∀ k,k<m→(blkT (toS xs (mkR xs (cntR xs r 6) k))).1.2=0) (k:Nat) (hk:k<m):VT M_ (fnC Tryz.f35 [1,1,1,0,1,0,0]) (rtm_n_I xs r m k) .normal (rtm_n_I xs r m (k+1)):=by
 have q:=cntV_rng (m:=6) (toS_in h) x_
 have q0:=mkR_in (cntR_in h 6) k
 have q1:=mkL_len (toS xs (cntR xs r 6)) k
 have q6:=mkR_s xs (cntR xs r 6) k
 have q7:(toS xs (mkR xs (cntR xs r 6) k)).Fit:=by rw[q6];exact mkS_fit d2_ k
 have q2:=hh k hk
 have oz1:=@rptake_v (xs) (mkR xs (cntR xs r 6) k) q0 q7
 exact tR_ [r_,b_,.r [] [cm oz1],r_,d_,r_,.r [] [.n ((↑k:Int)+1)]] [.any (rg [(7,2),(11,12),(25,6)]),.drop [7,28],.ren 29 900,.weak 6 (i64 (↑(k+1):Int)),.blk 900 (Blk.slc 51 5 (K_ blcC (mkL (toS xs (cntR xs r 6)) (k+1)))),.blk 100000 (Blk.var [AV.sl 1 (K_ (row1 .u8) xs),i64 (↑(mkR xs (cntR xs r 6) (k+1)).fst:Int),i64 (mkR xs (cntR xs r 6) (k+1)).snd]),.sort] (.c8 (decide_eq_true (p:=((↑k:Int)<cntV (toS xs r) 6)) a_) oz1 (h_ (((blkT (toS xs (mkR xs (cntR xs r 6) k))).fst.snd != 0)=false)) (h_ (((K_ blcC (mkL (toS xs (cntR xs r 6)) k)).length+1)*88≤140737488355328)) (h_ ((K_ blcC (mkL (toS xs (cntR xs r 6)) k)).length+1≤9223372036854775807)) (i6n ((↑k:Int)+1) a_) (wS_ k) (show BlkW (Blk.slc 51 5 (K_ blcC (mkL (toS xs (cntR xs r 6)) k)++[[AV.sl 19 (K_ nodC (blkT (toS xs (mkR xs (cntR xs r 6) k))).fst.fst.n),bv (blkT (toS xs (mkR xs (cntR xs r 6) k))).fst.fst.ex,AV.sl 1 (K_ (row1 .i8) (blkT (toS xs (mkR xs (cntR xs r 6) k))).fst.fst.w),AV.sl 1 (K_ (row1 .i32) (blkT (toS xs (mkR xs (cntR xs r 6) k))).fst.fst.b),i32 (blkT (toS xs (mkR xs (cntR xs r 6) k))).fst.fst.nd]])) (Blk.slc 51 5 (K_ blcC (mkL (toS xs (cntR xs r 6)) (k+1)))) from (CW_ (e:=51) (z:=5) (rows_to (blcC) (r:=K_ blcC (mkL (toS xs (cntR xs r 6)) k)++[[AV.sl 19 (K_ nodC (blkT (toS xs (mkR xs (cntR xs r 6) k))).fst.fst.n),bv (blkT (toS xs (mkR xs (cntR xs r 6) k))).fst.fst.ex,AV.sl 1 (K_ (row1 .i8) (blkT (toS xs (mkR xs (cntR xs r 6) k))).fst.fst.w),AV.sl 1 (K_ (row1 .i32) (blkT (toS xs (mkR xs (cntR xs r 6) k))).fst.fst.b),i32 (blkT (toS xs (mkR xs (cntR xs r 6) k))).fst.fst.nd]]) (l:=mkL (toS xs (cntR xs r 6)) k++[Blc.mk (blkT (toS xs (mkR xs (cntR xs r 6) k))).fst.fst.n (blkT (toS xs (mkR xs (cntR xs r 6) k))).fst.fst.ex (blkT (toS xs (mkR xs (cntR xs r 6) k))).fst.fst.w (blkT (toS xs (mkR xs (cntR xs r 6) k))).fst.fst.b (blkT (toS xs (mkR xs (cntR xs r 6) k))).fst.fst.nd]) (m:=mkL (toS xs (cntR xs r 6)) (k+1)) d1_ (show (mkL (toS xs (cntR xs r 6)) k++[Blc.mk (blkT (toS xs (mkR xs (cntR xs r 6) k))).fst.fst.n (blkT (toS xs (mkR xs (cntR xs r 6) k))).fst.fst.ex (blkT (toS xs (mkR xs (cntR xs r 6) k))).fst.fst.w (blkT (toS xs (mkR xs (cntR xs r 6) k))).fst.fst.b (blkT (toS xs (mkR xs (cntR xs r 6) k))).fst.fst.nd])=(mkL (toS xs (cntR xs r 6)) (k+1)) from (by (have w:=congrArg (fun z=>mkL (toS xs (cntR xs r 6)) k++[(blkT z).1.1]) q6;exact w))))))<|.d (show BlkW (Blk.var [AV.sl 1 (K_ (row1 .u8) xs),i64 (↑(blkRr xs (mkR xs (cntR xs r 6) k)).fst:Int),i64 (blkRr xs (mkR xs (cntR xs r 6) k)).snd]) (Blk.var [AV.sl 1 (K_ (row1 .u8) xs),i64 (↑(mkR xs (cntR xs r 6) (k+1)).fst:Int),i64 (mkR xs (cntR xs r 6) (k+1)).snd]) from (BlkW.var (m:=[AV.sl 1 (K_ (row1 .u8) xs),i64 (↑(mkR xs (cntR xs r 6) (k+1)).fst:Int),i64 (mkR xs (cntR xs r 6) (k+1)).snd]) (.cons (.refl _) (.cons (N_ t0_) (.cons (N_ t0_) .nil))))))
theorem rtm_n_e (xs:List Int) (r:Rrf) (m:Nat) (h:Rrf.In xs r) (hf:(toS xs r).Fit) (hm:m<(cntV (toS xs r) 6).toNat) (hg:(blkT (toS xs (mkR xs (cntR xs r 6) m))).1.2≠0) (hh:∀ k,k<m→(blkT (toS xs (mkR xs (cntR xs r 6) k))).1.2=0):VT M_ (fnC Tryz.f35 [1,1,1,0,1,0,0]) (rtm_n_I xs r m (m)) (.ret) (rtm_n_Z xs r m):=by
 have q:=cntV_rng (m:=6) (toS_in h) x_
 have q0:=mkR_in (cntR_in h 6) m
 have q1:=mkL_len (toS xs (cntR xs r 6)) m
 have q6:=mkR_s xs (cntR xs r 6) m
 have q7:(toS xs (mkR xs (cntR xs r 6) m)).Fit:=by rw[q6];exact mkS_fit d2_ m
 have oz1:=@rptake_v (xs) (mkR xs (cntR xs r 6) m) q0 q7
 exact tR_ [r_,b_,.r [] [cm oz1],r_,b_,r_] [.any (rg [(0,1),(4,5),(11,3),(16,9)]),.drop [4,900,7],.blk 100000 (Blk.var [AV.sl 1 (K_ (row1 .u8) xs),i64 (↑(mkR xs (cntR xs r 6) (m+1)).fst:Int),i64 (mkR xs (cntR xs r 6) (m+1)).snd]),.sort] (.d4 (decide_eq_true (p:=((↑m:Int)<cntV (toS xs r) 6)) a_) oz1 (h_ (((blkT (toS xs (mkR xs (cntR xs r 6) m))).fst.snd != 0)=true)) (show BlkW (Blk.var [AV.sl 1 (K_ (row1 .u8) xs),i64 (↑(blkRr xs (mkR xs (cntR xs r 6) m)).fst:Int),i64 (blkRr xs (mkR xs (cntR xs r 6) m)).snd]) (Blk.var [AV.sl 1 (K_ (row1 .u8) xs),i64 (↑(mkR xs (cntR xs r 6) (m+1)).fst:Int),i64 (mkR xs (cntR xs r 6) (m+1)).snd]) from (BlkW.var (m:=[AV.sl 1 (K_ (row1 .u8) xs),i64 (↑(mkR xs (cntR xs r 6) (m+1)).fst:Int),i64 (mkR xs (cntR xs r 6) (m+1)).snd]) (.cons (.refl _) (.cons (N_ t0_) (.cons (N_ t0_) .nil))))))
theorem rtm_n (xs:List Int) (r:Rrf) (m:Nat) (h:Rrf.In xs r) (hf:(toS xs r).Fit) (hm:m<(cntV (toS xs r) 6).toNat) (hg:(blkT (toS xs (mkR xs (cntR xs r 6) m))).1.2≠0) (hh:∀ k,k<m→(blkT (toS xs (mkR xs (cntR xs r 6) k))).1.2=0):VT M_ (fnC Tryz.f35 [1,1,1,0,1,0]) (rtm_n_I xs r m 0) (.ret) (rtm_n_Z xs r m) :=
 VT.loop (fun k=>rtm_n_I xs r m k) (m) (fun k hk=>rtm_n_s xs r m h hf hm hg hh k hk) (rtm_n_e xs r m h hf hm hg hh) c0_
theorem rtmod_f (xs:List Int) (r:Rrf) (m:Nat) (h:Rrf.In xs r) (hf:(toS xs r).Fit) (hm:m<(cntV (toS xs r) 6).toNat) (hg:(blkT (toS xs (mkR xs (cntR xs r 6) m))).1.2≠0) (hh:∀ k,k<m→(blkT (toS xs (mkR xs (cntR xs r 6) k))).1.2=0):VM M_ 35 ([.ptr 100000 0 0]) ([(100000,.var (rrC xs r))]) (.tup [.agg [.sl 5 []],i64 (blkT (toS xs (mkR xs (cntR xs r 6) m))).1.2]) ([(100000,.var (rrC xs (mkR xs (cntR xs r 6) (m+1))))]):=by
 have q:=cntV_rng (m:=6) (toS_in h) x_
 have q0:=mkR_in (cntR_in h 6) m
 have q1:=mkL_len (toS xs (cntR xs r 6)) m
 have q6:=mkR_s xs (cntR xs r 6) m
 have q7:(toS xs (mkR xs (cntR xs r 6) m)).Fit:=by rw[q6];exact mkS_fit d2_ m
 have oz0:=@rcnt_v (xs) (r) (6) h a_ a_
 have oz4:=@rtm_n (xs) (r) (m) h hf hm hg hh
 exact mR_ [r_,r_,.r [] [cm oz0],r_,.code [.any [3,9,10],.weak 6 (i64 (↑0:Int)),.nilc 900 51 5 4 0,.blk 2 (Blk.var [AV.any]),.blk 100000 (Blk.var [AV.sl 1 (K_ (row1 .u8) xs),i64 (↑(mkR xs (cntR xs r 6) 0).fst:Int),i64 (mkR xs (cntR xs r 6) 0).snd]),.sort] (DT_) (zO oz4)] [.drop [2],.weak 0 (AV.tup [AV.agg [AV.sl 5 []],i64 (blkT (toS xs (mkR xs (cntR xs r 6) m))).fst.snd]),.sort] _ Tryz.func35 (.d6 oz0 w0_ (show BlkW (Blk.var [AV.lit (AK_ none (0:Nat) (0:Nat))]) (Blk.var [AV.any]) from (BlkW.var (m:=[AV.any]) (.cons (AG_ _) .nil))) (show BlkW (Blk.var [AV.sl 1 (K_ (row1 .u8) xs),i64 (↑(cntR xs r 6).fst:Int),i64 (cntR xs r 6).snd]) (Blk.var [AV.sl 1 (K_ (row1 .u8) xs),i64 (↑(mkR xs (cntR xs r 6) 0).fst:Int),i64 (mkR xs (cntR xs r 6) 0).snd]) from (BlkW.var (m:=[AV.sl 1 (K_ (row1 .u8) xs),i64 (↑(mkR xs (cntR xs r 6) 0).fst:Int),i64 (mkR xs (cntR xs r 6) 0).snd]) (.cons (.refl _) (.cons (N_ t0_) (.cons (N_ t0_) .nil))))) oz4 (show Weak (AV.tup [AV.agg [AV.lit (AK_ none 0 0)],i64 (blkT (toS xs (mkR xs (cntR xs r 6) m))).fst.snd]) (AV.tup [AV.agg [AV.sl 5 []],i64 (blkT (toS xs (mkR xs (cntR xs r 6) m))).fst.snd]) from (AA_ (.cons (AZ_ (.cons (AV_ _) .nil)) (.cons (.refl _) .nil)))))
theorem rtmod_b (xs:List Int) (r:Rrf) (h:Rrf.In xs r) (hf:(toS xs r).Fit) (hh:∀ k,k<(cntV (toS xs r) 6).toNat→(blkT (toS xs (mkR xs (cntR xs r 6) k))).1.2=0) (hb:(mkR xs (cntR xs r 6) (cntV (toS xs r) 6).toNat).2≠0):VM M_ 35 ([.ptr 100000 0 0]) ([(100000,.var (rrC xs r))]) (.tup [.agg [.sl 5 []],i64 (mkR xs (cntR xs r 6) (cntV (toS xs r) 6).toNat).2]) ([(100000,.var (rrC xs (mkR xs (cntR xs r 6) (cntV (toS xs r) 6).toNat)))]):=by
 have q:=cntV_rng (m:=6) (toS_in h) x_
 have q0:=mkR_in (cntR_in h 6) (cntV (toS xs r) 6).toNat
 have q1:=mkL_len (toS xs (cntR xs r 6)) (cntV (toS xs r) 6).toNat
 have q6:=mkR_s xs (cntR xs r 6) (cntV (toS xs r) 6).toNat
 have q7:(toS xs (mkR xs (cntR xs r 6) (cntV (toS xs r) 6).toNat)).Fit:=by rw[q6];exact mkS_fit d2_ (cntV (toS xs r) 6).toNat
 have oz0:=@rcnt_v (xs) (r) (6) h a_ a_
 have oz4:=@rtm_y (xs) (r) h hf hh
 exact mR_ [r_,r_,.r [] [cm oz0],r_,.code [.any [3,9,10],.weak 6 (i64 (↑0:Int)),.nilc 900 51 5 4 0,.blk 2 (Blk.var [AV.any]),.blk 100000 (Blk.var [AV.sl 1 (K_ (row1 .u8) xs),i64 (↑(mkR xs (cntR xs r 6) 0).fst:Int),i64 (mkR xs (cntR xs r 6) 0).snd]),.sort] (BS_ 0) (zO oz4),r_,b_,r_] [.drop [2,4,900],.weak 0 (AV.tup [AV.agg [AV.sl 5 []],i64 (mkR xs (cntR xs r 6) (cntV (toS xs r) 6).toNat).snd]),.sort] _ Tryz.func35 (.d7 oz0 w0_ (show BlkW (Blk.var [AV.lit (AK_ none (0:Nat) (0:Nat))]) (Blk.var [AV.any]) from (BlkW.var (m:=[AV.any]) (.cons (AG_ _) .nil))) (show BlkW (Blk.var [AV.sl 1 (K_ (row1 .u8) xs),i64 (↑(cntR xs r 6).fst:Int),i64 (cntR xs r 6).snd]) (Blk.var [AV.sl 1 (K_ (row1 .u8) xs),i64 (↑(mkR xs (cntR xs r 6) 0).fst:Int),i64 (mkR xs (cntR xs r 6) 0).snd]) from (BlkW.var (m:=[AV.sl 1 (K_ (row1 .u8) xs),i64 (↑(mkR xs (cntR xs r 6) 0).fst:Int),i64 (mkR xs (cntR xs r 6) 0).snd]) (.cons (.refl _) (.cons (N_ t0_) (.cons (N_ t0_) .nil))))) oz4 (h_ (((mkR xs (cntR xs r 6) (cntV (toS xs r) 6).toNat).snd != 0)=true)) (show Weak (AV.tup [AV.agg [AV.lit (AK_ none 0 0)],i64 (mkR xs (cntR xs r 6) (cntV (toS xs r) 6).toNat).snd]) (AV.tup [AV.agg [AV.sl 5 []],i64 (mkR xs (cntR xs r 6) (cntV (toS xs r) 6).toNat).snd]) from (AA_ (.cons (AZ_ (.cons (AV_ _) .nil)) (.cons (.refl _) .nil)))))
theorem rtmod_y (xs:List Int) (r:Rrf) (h:Rrf.In xs r) (hf:(toS xs r).Fit) (hh:∀ k,k<(cntV (toS xs r) 6).toNat→(blkT (toS xs (mkR xs (cntR xs r 6) k))).1.2=0) (hb:(mkR xs (cntR xs r 6) (cntV (toS xs r) 6).toNat).2=0):VM M_ 35 ([.ptr 100000 0 0]) ([(100000,.var (rrC xs r))]) (.tup [.agg [.sl 5 ((mkL (toS xs (cntR xs r 6)) (cntV (toS xs r) 6).toNat).map blcC)],i64 0]) ([(100000,.var (rrC xs (mkR xs (cntR xs r 6) (cntV (toS xs r) 6).toNat)))]):=by
 have q:=cntV_rng (m:=6) (toS_in h) x_
 have q0:=mkR_in (cntR_in h 6) (cntV (toS xs r) 6).toNat
 have q1:=mkL_len (toS xs (cntR xs r 6)) (cntV (toS xs r) 6).toNat
 have q6:=mkR_s xs (cntR xs r 6) (cntV (toS xs r) 6).toNat
 have q7:(toS xs (mkR xs (cntR xs r 6) (cntV (toS xs r) 6).toNat)).Fit:=by rw[q6];exact mkS_fit d2_ (cntV (toS xs r) 6).toNat
 have oz0:=@rcnt_v (xs) (r) (6) h a_ a_
 have oz4:=@rtm_y (xs) (r) h hf hh
 exact mR_ [r_,r_,.r [] [cm oz0],r_,.code [.any [3,9,10],.weak 6 (i64 (↑0:Int)),.nilc 900 51 5 4 0,.blk 2 (Blk.var [AV.any]),.blk 100000 (Blk.var [AV.sl 1 (K_ (row1 .u8) xs),i64 (↑(mkR xs (cntR xs r 6) 0).fst:Int),i64 (mkR xs (cntR xs r 6) 0).snd]),.sort] (BS_ 0) (zO oz4),r_,d_,r_] [.frz 900,.drop [2,4],.sort] _ Tryz.func35 (.d6 oz0 w0_ (show BlkW (Blk.var [AV.lit (AK_ none (0:Nat) (0:Nat))]) (Blk.var [AV.any]) from (BlkW.var (m:=[AV.any]) (.cons (AG_ _) .nil))) (show BlkW (Blk.var [AV.sl 1 (K_ (row1 .u8) xs),i64 (↑(cntR xs r 6).fst:Int),i64 (cntR xs r 6).snd]) (Blk.var [AV.sl 1 (K_ (row1 .u8) xs),i64 (↑(mkR xs (cntR xs r 6) 0).fst:Int),i64 (mkR xs (cntR xs r 6) 0).snd]) from (BlkW.var (m:=[AV.sl 1 (K_ (row1 .u8) xs),i64 (↑(mkR xs (cntR xs r 6) 0).fst:Int),i64 (mkR xs (cntR xs r 6) 0).snd]) (.cons (.refl _) (.cons (N_ t0_) (.cons (N_ t0_) .nil))))) oz4 (h_ (((mkR xs (cntR xs r 6) (cntV (toS xs r) 6).toNat).snd != 0)=false)))
def takeM:Nat→Rst→Int×Rst
 | 0,s=>(0,s)
 | n+1,s=>if (blkT s).1.2≠0 then ((blkT s).1.2,(blkT s).2) else takeM n (blkT s).2
theorem mkS_succ (s:Rst) (k:Nat):mkS s (k+1)=mkS (blkT s).2 k:=by
 induction k with
 | zero=>rfl
 | succ k ih=>rw[mkS,ih];rfl
theorem takeM_y {n:Nat}:∀ {s:Rst},(∀ k,k<n→(blkT (mkS s k)).1.2=0)→takeM n s=(0,mkS s n):=by
 induction n with
 | zero=>intro s _;rfl
 | succ n ih =>
  intro s h
  have h0:(blkT s).1.2=0:=h 0 a_
  rw[takeM,j_ a3_,mkS_succ]
  refine ih fun k hk=>?_
  rw[←mkS_succ];exact h (k+1) a_
theorem takeM_n {n:Nat}:∀ {s:Rst} {m:Nat},m<n→(blkT (mkS s m)).1.2≠0→(∀ k,k<m→(blkT (mkS s k)).1.2=0)→takeM n s=((blkT (mkS s m)).1.2,mkS s (m+1)):=by
 induction n with
 | zero=>intro s m hm;omega
 | succ n ih =>
  intro s m hm hf h
  cases m with
  | zero=>rw[takeM,i_ (by exact hf)];rfl
  | succ m =>
   have h0:(blkT s).1.2=0:=h 0 a_
   rw[takeM,j_ a3_,mkS_succ s m,mkS_succ s (m+1)]
   rw[mkS_succ] at hf
   refine ih a_ hf fun k hk=>?_
   rw[←mkS_succ];exact h (k+1) a_
def mdlT (s:Rst):(List Blc×Int)×Rst :=
 if (takeM (cntV s 6).toNat (cntS s 6)).1≠0 then (([],(takeM (cntV s 6).toNat (cntS s 6)).1),(takeM (cntV s 6).toNat (cntS s 6)).2)
 else if (mkS (cntS s 6) (cntV s 6).toNat).2≠0 then (([],(mkS (cntS s 6) (cntV s 6).toNat).2),mkS (cntS s 6) (cntV s 6).toNat) else ((mkL (cntS s 6) (cntV s 6).toNat,0),mkS (cntS s 6) (cntV s 6).toNat)
theorem ptmod_v (s:Rst) (h:s.Fit):VM M_ 60 [.ptr 100000 0 0] [(100000,.var (rdC s))] (.tup [.agg [.sl 5 ((mdlT s).1.1.map blcC)],i64 (mdlT s).1.2]) [(100000,.var (rdC (mdlT s).2))]:=by
 unfold mdlT
 rcases first_of (n:=(cntV s 6).toNat) (p:=fun k=>(blkT (mkS (cntS s 6) k)).1.2=0) with hh|⟨m,hm,hf,hh⟩
 ·rw[takeM_y hh,j_ v0_]
  by_cases hb:(mkS (cntS s 6) (cntV s 6).toNat).2=0
  ·rw[j_ t1_];exact ptmod_y s h hh hb
  ·rw[i_ hb];exact ptmod_b s h hh hb
 ·rw[takeM_n hm hf hh,i_ (by exact hf)];exact ptmod_f s m h hm hf hh
theorem rtmod_v (xs:List Int) (r:Rrf) (h:Rrf.In xs r) (hf:(toS xs r).Fit):∃ q,Rrf.In xs q∧toS xs q=(mdlT (toS xs r)).2∧VM M_ 35 [.ptr 100000 0 0] [(100000,.var (rrC xs r))] (.tup [.agg [.sl 5 ((mdlT (toS xs r)).1.1.map blcC)],i64 (mdlT (toS xs r)).1.2]) [(100000,.var (rrC xs q))]:=by
 have e:∀ k,toS xs (mkR xs (cntR xs r 6) k)=mkS (cntS (toS xs r) 6) k:=fun k=>by rw[mkR_s,toS_cnt]
 have i:=mkR_in (cntR_in h 6)
 unfold mdlT
 rcases first_of (n:=(cntV (toS xs r) 6).toNat) (p:=fun k=>(blkT (mkS (cntS (toS xs r) 6) k)).1.2=0) with hh|⟨m,hm,hg,hh⟩
 ·have h2:∀ k,k<(cntV (toS xs r) 6).toNat→(blkT (toS xs (mkR xs (cntR xs r 6) k))).1.2=0:=fun k hk=>by rw[e];exact hh k hk
  rw[takeM_y hh,j_ v0_]
  by_cases hb:(mkR xs (cntR xs r 6) (cntV (toS xs r) 6).toNat).2=0
  ·rw[j_ (by rw[←e,toS_2];simpa using hb)]
   refine ⟨_,i _,e _,?_⟩
   have q:=rtmod_y xs r h hf h2 hb
   rw[toS_cnt] at q
   exact q
  ·rw[i_ (by rw[←e,toS_2];exact hb)]
   refine ⟨_,i _,e _,?_⟩
   rw[←e,toS_2]
   exact rtmod_b xs r h hf h2 hb
 ·have h2:∀ k,k<m→(blkT (toS xs (mkR xs (cntR xs r 6) k))).1.2=0:=fun k hk=>by rw[e];exact hh k hk
  have g2:(blkT (toS xs (mkR xs (cntR xs r 6) m))).1.2≠0:=by rw[e];exact hg
  rw[takeM_n hm hg hh,i_ (by exact hg)]
  refine ⟨_,i _,e _,?_⟩
  rw[←e]
  exact rtmod_f xs r m h hf hm g2 h2
structure SB (x:Blc):Prop where
 l:x.n.length≤100
 n:∀ n∈x.n,n.w.length≤100000∧n.b.length≤100000
 w:x.w.length≤100000
 b:x.b.length≤100000
theorem tkL_le {s:Rst} (h:s.Fit) (n:Nat):∀ y∈tkL s n,y.w.length≤100000∧y.b.length≤100000:=by
 induction n with
 | zero=>intro y hy;cases hy
 | succ n ih =>
  intro y hy
  rw[tkL,CA_] at hy
  rcases hy with hy|hy
  ·exact ih y hy
  ·rw[List.mem_singleton.1 hy]
   have q:=takeN_le (tkS_fit h n)
   unfold takeR
   split
   ·exact ⟨CO_ _,CO_ _⟩
   ·split
    ·exact ⟨CO_ _,CO_ _⟩
    ·exact q
theorem blkT_SB {s:Rst} (h:s.Fit):SB (blkT s).1.1:=by
 have q:=cntV_rng (m:=8) h.i x_
 rcases blkT_cases s with ⟨m,hm,hf,hh⟩|⟨hh,hb⟩|⟨hh,hb⟩
 ·rw[blkT_f hm hf hh];exact ⟨CO_ _,fun y hy=>(List.not_mem_nil hy).elim,CO_ _,CO_ _⟩
 ·rw[blkT_b hh hb];exact ⟨CO_ _,fun y hy=>(List.not_mem_nil hy).elim,CO_ _,CO_ _⟩
 ·have sm:=tkL_le (cnt_fit h 8) (cntV s 8).toNat
  rw[blkT_y hh hb]
  have en:(exN (stB s) (nodesT s)).n=nodesT s:=by unfold exN;split<;>rfl
  have ln:(nodesT s).length=(cntV s 8).toNat:=tkL_len _ _
  have st:=(tkS_fit (cnt_fit h 8) (cntV s 8).toNat)
  refine ⟨by rw[en,ln];omega,by rw[en];exact sm,?_,?_⟩
  ·unfold exN
   split
   ·exact lstW_le (cnt_fit st 1)
   ·exact CO_ _
  ·unfold exN
   split
   ·exact lstB_le (cnt_fit st 1)
   ·exact CO_ _
theorem takeM_fit {n:Nat}:∀ {s:Rst},s.Fit→(takeM n s).2.Fit:=by
 induction n with
 | zero=>intro s h;exact h
 | succ n ih =>
  intro s h
  rw[takeM]
  split
  ·exact blkT_fit h
  ·exact ih (blkT_fit h)
theorem mdlT_fit {s:Rst} (h:s.Fit):(mdlT s).2.Fit:=by
 unfold mdlT
 split
 ·exact takeM_fit (cnt_fit h 6)
 ·split
  ·exact mkS_fit (cnt_fit h 6) _
  ·exact mkS_fit (cnt_fit h 6) _
def muS (s:Rst):Nat→Rst
 | 0=>s
 | k+1=>(mdlT (muS s k)).2
def muL (s:Rst):Nat→List Mdl
 | 0=>[]
 | k+1=>muL s k++[⟨(mdlT (muS s k)).1.1⟩]
theorem muS_fit {s:Rst} (h:s.Fit) (k:Nat):(muS s k).Fit:=by
 induction k with
 | zero=>exact h
 | succ k ih=>exact mdlT_fit ih
theorem muL_len (s:Rst) (k:Nat):(muL s k).length=k:=by
 induction k with
 | zero=>rfl
 | succ k ih=>rw[muL,AD_,ih];rfl
def endE (s:Rst):Int:=if s.2≠0 then s.2 else if 0<s.1.length then 24 else 0
abbrev hRo_ (f:Nat) (xs:List Int) (r:Rrf) (v:Int) (q:Rrf):Prop:=VM M_ f [.ptr 100000 0 0] [(100000,.var (rrC xs r))] (i64 v) [(100000,.var (rrC xs q))]
theorem end_v (s:Rst):hDo_ 61 s (endE s) s:=by
 unfold endE
 split
 ·rename_i h;exact end_e s h
 ·rename_i h
  have h:s.2=0:=Classical.not_not.1 h
  obtain ⟨l,e⟩:=s
  subst h
  split
  ·rename_i g;exact end_m l g
  ·rename_i g
   have:l=[]:=BK_ (by dsimp only at g;omega)
   subst this;exact end_z
noncomputable def ptk_y_I (A B C D N:Int) (s:Rst) (k:Nat):VS:=stt 40 [(0,.ptr 100000 0 0),(2,.ptr 2 0 0),(4,.ptr 4 0 0),(18,i64 N),(19,i64 k)] [(2,.var [.any,.any,.any,.any,.any]),(4,.var [i64 A,i64 B,i64 C,i64 D,.own 900]),(900,.slc 44 1 ((muL s k).map mdlC)),(100000,.var (rdC (muS s k)))]
noncomputable def ptk_y_Z (A B C D N:Int) (s:Rst):VS:=ptk_y_I A B C D N s (N.toNat)
theorem ptk_y_s (A B C D N:Int) (s:Rst) (h:s.Fit) (hN:0≤N∧N≤3) (hh:∀ k,k<N.toNat→(mdlT (muS s k)).1.2=0) (k:Nat) (hk:k<N.toNat):VT M_ (fnC Tryz.f28 [1,1,0,1,0,0]) (ptk_y_I A B C D N s k) .normal (ptk_y_I A B C D N s (k+1)):=by
 have q0:=muS_fit h k
 have q1:=muL_len s k
 have q2:=hh k hk
 have oz1:=@ptmod_v (muS s k) q0
 exact tR_ [r_,b_,.r [] [cm oz1],r_,d_,r_,.r [] [.n ((↑k:Int)+1)]] [.any (rg [(5,2),(20,8),(30,7)]),.drop [5,33],.ren 34 900,.weak 19 (i64 (↑(k+1):Int)),.blk 900 (Blk.slc 44 1 (K_ mdlC (muL s (k+1)))),.blk 100000 (Blk.var [AV.sl 1 (K_ (row1 .u8) (muS s (k+1)).fst),i64 (muS s (k+1)).snd]),.sort] (.c8 (decide_eq_true (p:=((↑k:Int)<N)) a_) oz1 (h_ (((mdlT (muS s k)).fst.snd != 0)=false)) (h_ (((K_ mdlC (muL s k)).length+1)*24≤140737488355328)) (h_ ((K_ mdlC (muL s k)).length+1≤9223372036854775807)) (i6n ((↑k:Int)+1) a_) (wS_ k) (show BlkW (Blk.slc 44 1 (K_ mdlC (muL s k)++[[AV.sl 5 (K_ blcC (mdlT (muS s k)).fst.fst)]])) (Blk.slc 44 1 (K_ mdlC (muL s (k+1)))) from (CW_ (e:=44) (z:=1) (rows_to (mdlC) (r:=K_ mdlC (muL s k)++[[AV.sl 5 (K_ blcC (mdlT (muS s k)).fst.fst)]]) (l:=muL s k++[Mdl.mk (mdlT (muS s k)).fst.fst]) (m:=muL s (k+1)) c1_ (show (muL s k++[Mdl.mk (mdlT (muS s k)).fst.fst])=(muL s (k+1)) from t0_))))<|.d (show BlkW (Blk.var [AV.sl 1 (K_ (row1 .u8) (mdlT (muS s k)).snd.fst),i64 (mdlT (muS s k)).snd.snd]) (Blk.var [AV.sl 1 (K_ (row1 .u8) (muS s (k+1)).fst),i64 (muS s (k+1)).snd]) from (BlkW.var (m:=[AV.sl 1 (K_ (row1 .u8) (muS s (k+1)).fst),i64 (muS s (k+1)).snd]) (.cons (AH_ (rows_to (row1 .u8) (r:=K_ (row1 .u8) (mdlT (muS s k)).snd.fst) (l:=(mdlT (muS s k)).snd.fst) (m:=(muS s (k+1)).fst) rfl (show ((mdlT (muS s k)).snd.fst)=((muS s (k+1)).fst) from t0_))) (.cons (N_ t0_) .nil)))))
theorem ptk_y_e (A B C D N:Int) (s:Rst) (h:s.Fit) (hN:0≤N∧N≤3) (hh:∀ k,k<N.toNat→(mdlT (muS s k)).1.2=0):VT M_ (fnC Tryz.f28 [1,1,0,1,0,0]) (ptk_y_I A B C D N s (N.toNat)) (.exit 0) (ptk_y_Z A B C D N s):=by
 exact tR_ [r_,d_] [.any [20],.sort] (.d (decide_eq_false (p:=((↑N.toNat:Int)<N)) a_))
theorem ptk_y (A B C D N:Int) (s:Rst) (h:s.Fit) (hN:0≤N∧N≤3) (hh:∀ k,k<N.toNat→(mdlT (muS s k)).1.2=0):VT M_ (fnC Tryz.f28 [1,1,0,1,0]) (ptk_y_I A B C D N s 0) (.exit 0) (ptk_y_Z A B C D N s) :=
 VT.loop (fun k=>ptk_y_I A B C D N s k) (N.toNat) (fun k hk=>ptk_y_s A B C D N s h hN hh k hk) (ptk_y_e A B C D N s h hN hh) c0_
noncomputable def ptk_n_I (A B C D N:Int) (s:Rst) (m:Nat) (k:Nat):VS:=stt 40 [(0,.ptr 100000 0 0),(2,.ptr 2 0 0),(4,.ptr 4 0 0),(18,i64 N),(19,i64 k)] [(2,.var [.any,.any,.any,.any,.any]),(4,.var [i64 A,i64 B,i64 C,i64 D,.own 900]),(900,.slc 44 1 ((muL s k).map mdlC)),(100000,.var (rdC (muS s k)))]
noncomputable def ptk_n_Z (A B C D N:Int) (s:Rst) (m:Nat):VS:=stt 40 [(2,.ptr 2 0 0),(3,i64 (mdlT (muS s m)).1.2)] [(2,.var [i64 0,i64 0,i64 0,i64 0,nilv]),(100000,.var (rdC (muS s (m+1))))]
theorem ptk_n_s (A B C D N:Int) (s:Rst) (m:Nat) (h:s.Fit) (hN:0≤N∧N≤3) (hm:m<N.toNat) (hf:(mdlT (muS s m)).1.2≠0) (hh:∀ k,k<m→(mdlT (muS s k)).1.2=0) (k:Nat) (hk:k<m):VT M_ (fnC Tryz.f28 [1,1,0,1,0,0]) (ptk_n_I A B C D N s m k) .normal (ptk_n_I A B C D N s m (k+1)):=by
 have q0:=muS_fit h k
 have q1:=muL_len s k
 have q2:=hh k hk
 have oz1:=@ptmod_v (muS s k) q0
 exact tR_ [r_,b_,.r [] [cm oz1],r_,d_,r_,.r [] [.n ((↑k:Int)+1)]] [.any (rg [(5,2),(20,8),(30,7)]),.drop [5,33],.ren 34 900,.weak 19 (i64 (↑(k+1):Int)),.blk 900 (Blk.slc 44 1 (K_ mdlC (muL s (k+1)))),.blk 100000 (Blk.var [AV.sl 1 (K_ (row1 .u8) (muS s (k+1)).fst),i64 (muS s (k+1)).snd]),.sort] (.c8 (decide_eq_true (p:=((↑k:Int)<N)) a_) oz1 (h_ (((mdlT (muS s k)).fst.snd != 0)=false)) (h_ (((K_ mdlC (muL s k)).length+1)*24≤140737488355328)) (h_ ((K_ mdlC (muL s k)).length+1≤9223372036854775807)) (i6n ((↑k:Int)+1) a_) (wS_ k) (show BlkW (Blk.slc 44 1 (K_ mdlC (muL s k)++[[AV.sl 5 (K_ blcC (mdlT (muS s k)).fst.fst)]])) (Blk.slc 44 1 (K_ mdlC (muL s (k+1)))) from (CW_ (e:=44) (z:=1) (rows_to (mdlC) (r:=K_ mdlC (muL s k)++[[AV.sl 5 (K_ blcC (mdlT (muS s k)).fst.fst)]]) (l:=muL s k++[Mdl.mk (mdlT (muS s k)).fst.fst]) (m:=muL s (k+1)) c1_ (show (muL s k++[Mdl.mk (mdlT (muS s k)).fst.fst])=(muL s (k+1)) from t0_))))<|.d (show BlkW (Blk.var [AV.sl 1 (K_ (row1 .u8) (mdlT (muS s k)).snd.fst),i64 (mdlT (muS s k)).snd.snd]) (Blk.var [AV.sl 1 (K_ (row1 .u8) (muS s (k+1)).fst),i64 (muS s (k+1)).snd]) from (BlkW.var (m:=[AV.sl 1 (K_ (row1 .u8) (muS s (k+1)).fst),i64 (muS s (k+1)).snd]) (.cons (AH_ (rows_to (row1 .u8) (r:=K_ (row1 .u8) (mdlT (muS s k)).snd.fst) (l:=(mdlT (muS s k)).snd.fst) (m:=(muS s (k+1)).fst) rfl (show ((mdlT (muS s k)).snd.fst)=((muS s (k+1)).fst) from t0_))) (.cons (N_ t0_) .nil)))))
theorem ptk_n_e (A B C D N:Int) (s:Rst) (m:Nat) (h:s.Fit) (hN:0≤N∧N≤3) (hm:m<N.toNat) (hf:(mdlT (muS s m)).1.2≠0) (hh:∀ k,k<m→(mdlT (muS s k)).1.2=0):VT M_ (fnC Tryz.f28 [1,1,0,1,0,0]) (ptk_n_I A B C D N s m (m)) (.ret) (ptk_n_Z A B C D N s m):=by
 have q0:=muS_fit h m
 have q1:=muL_len s m
 have oz1:=@ptmod_v (muS s m) q0
 exact tR_ [r_,b_,.r [] [cm oz1],r_,b_,r_] [.any (rg [(0,1),(4,3),(18,12)]),.drop [4,900,5],.blk 100000 (Blk.var [AV.sl 1 (K_ (row1 .u8) (muS s (m+1)).fst),i64 (muS s (m+1)).snd]),.sort] (.d4 (decide_eq_true (p:=((↑m:Int)<N)) a_) oz1 (h_ (((mdlT (muS s m)).fst.snd != 0)=true)) (show BlkW (Blk.var [AV.sl 1 (K_ (row1 .u8) (mdlT (muS s m)).snd.fst),i64 (mdlT (muS s m)).snd.snd]) (Blk.var [AV.sl 1 (K_ (row1 .u8) (muS s (m+1)).fst),i64 (muS s (m+1)).snd]) from (BlkW.var (m:=[AV.sl 1 (K_ (row1 .u8) (muS s (m+1)).fst),i64 (muS s (m+1)).snd]) (.cons (AH_ (rows_to (row1 .u8) (r:=K_ (row1 .u8) (mdlT (muS s m)).snd.fst) (l:=(mdlT (muS s m)).snd.fst) (m:=(muS s (m+1)).fst) rfl (show ((mdlT (muS s m)).snd.fst)=((muS s (m+1)).fst) from t0_))) (.cons (N_ t0_) .nil)))))
theorem ptk_n (A B C D N:Int) (s:Rst) (m:Nat) (h:s.Fit) (hN:0≤N∧N≤3) (hm:m<N.toNat) (hf:(mdlT (muS s m)).1.2≠0) (hh:∀ k,k<m→(mdlT (muS s k)).1.2=0):VT M_ (fnC Tryz.f28 [1,1,0,1,0]) (ptk_n_I A B C D N s m 0) (.ret) (ptk_n_Z A B C D N s m) :=
 VT.loop (fun k=>ptk_n_I A B C D N s m k) (m) (fun k hk=>ptk_n_s A B C D N s m h hN hm hf hh k hk) (ptk_n_e A B C D N s m h hN hm hf hh) c0_
theorem taken_n (s s1 s2 s3 s4 s5:Rst) (A B C D N:Int) (m:Nat) (c1:hDm_ 59 s 16 A s1) (c2:hDm_ 59 s1 16 B s2) (c3:hDm_ 59 s2 1024 C s3) (c4:hDm_ 59 s3 16 D s4) (c5:hDm_ 59 s4 3 N s5) (h:s5.Fit) (hN:0≤N∧N≤3) (hm:m<N.toNat) (hf:(mdlT (muS s5 m)).1.2≠0) (hh:∀ k,k<m→(mdlT (muS s5 k)).1.2=0):VM M_ 28 ([.ptr 100000 0 0]) ([(100000,.var (rdC s))]) (.tup [bun ⟨0,0,0,0,[]⟩,i64 (mdlT (muS s5 m)).1.2]) ([(100000,.var (rdC (muS s5 (m+1))))]):=by
 have oz0:=@c1
 have oz1:=@c2
 have oz2:=@c3
 have oz3:=@c4
 have oz4:=@c5
 have oz8:=@ptk_n (A) (B) (C) (D) (N) (s5) (m) h hN hm hf hh
 exact mR_ [r_,.r [] [cm oz0,cm oz1,cm oz2,cm oz3],.r [] [cm oz4],.code [.any (rg [(3,1),(7,11)]),.weak 19 (i64 (↑0:Int)),.nilc 900 44 1 4 4,.blk 2 (Blk.var [AV.any,AV.any,AV.any,AV.any,AV.any]),.blk 100000 (Blk.var [AV.sl 1 (K_ (row1 .u8) (muS s5 0).fst),i64 (muS s5 0).snd]),.sort] (DT_) (zO oz8)] [.drop [2],.weak 0 (AV.tup [AV.agg [i64 0,i64 0,i64 0,i64 0,AV.sl 1 []],i64 (mdlT (muS s5 m)).fst.snd]),.sort] _ Tryz.func28 (.c8 oz0 oz1 oz2 oz3 oz4 w0_ (show BlkW (Blk.var [i64 (0:Int),i64 (0:Int),i64 (0:Int),i64 (0:Int),AV.lit (AK_ none (0:Nat) (0:Nat))]) (Blk.var [AV.any,AV.any,AV.any,AV.any,AV.any]) from (BlkW.var (m:=[AV.any,AV.any,AV.any,AV.any,AV.any]) (.cons (AG_ _) (.cons (AG_ _) (.cons (AG_ _) (.cons (AG_ _) (.cons (AG_ _) .nil))))))) (show BlkW (Blk.var [AV.sl 1 (K_ (row1 .u8) s5.fst),i64 s5.snd]) (Blk.var [AV.sl 1 (K_ (row1 .u8) (muS s5 0).fst),i64 (muS s5 0).snd]) from (BlkW.var (m:=[AV.sl 1 (K_ (row1 .u8) (muS s5 0).fst),i64 (muS s5 0).snd]) (.cons (AH_ (rows_to (row1 .u8) (r:=K_ (row1 .u8) s5.fst) (l:=s5.fst) (m:=(muS s5 0).fst) rfl (show (s5.fst)=((muS s5 0).fst) from t0_))) (.cons (N_ t0_) .nil))))<|.d2 oz8 (show Weak (AV.tup [AV.agg [i64 0,i64 0,i64 0,i64 0,AV.lit (AK_ none 0 0)],i64 (mdlT (muS s5 m)).fst.snd]) (AV.tup [AV.agg [i64 0,i64 0,i64 0,i64 0,AV.sl 1 []],i64 (mdlT (muS s5 m)).fst.snd]) from (AA_ (.cons (AZ_ (.cons (.refl _) (.cons (.refl _) (.cons (.refl _) (.cons (.refl _) (.cons (AV_ _) .nil)))))) (.cons (.refl _) .nil)))))
theorem taken_y (s s1 s2 s3 s4 s5:Rst) (A B C D N:Int) (c1:hDm_ 59 s 16 A s1) (c2:hDm_ 59 s1 16 B s2) (c3:hDm_ 59 s2 1024 C s3) (c4:hDm_ 59 s3 16 D s4) (c5:hDm_ 59 s4 3 N s5) (h:s5.Fit) (hN:0≤N∧N≤3) (hh:∀ k,k<N.toNat→(mdlT (muS s5 k)).1.2=0):VM M_ 28 ([.ptr 100000 0 0]) ([(100000,.var (rdC s))]) (.tup [bun ⟨A,B,C,D,muL s5 N.toNat⟩,i64 (endE (muS s5 N.toNat))]) ([(100000,.var (rdC (muS s5 N.toNat)))]):=by
 have oz0:=@c1
 have oz1:=@c2
 have oz2:=@c3
 have oz3:=@c4
 have oz4:=@c5
 have oz8:=@ptk_y (A) (B) (C) (D) (N) (s5) h hN hh
 have oz9:=@end_v (muS s5 N.toNat)
 exact mR_ [r_,.r [] [cm oz0,cm oz1,cm oz2,cm oz3],.r [] [cm oz4],.code [.any (rg [(3,1),(7,11)]),.weak 19 (i64 (↑0:Int)),.nilc 900 44 1 4 4,.blk 2 (Blk.var [AV.any,AV.any,AV.any,AV.any,AV.any]),.blk 100000 (Blk.var [AV.sl 1 (K_ (row1 .u8) (muS s5 0).fst),i64 (muS s5 0).snd]),.sort] (BS_ 0) (zO oz8),.r [] [cm oz9]] [.frz 900,.drop [2,4],.sort] _ Tryz.func28 (.c8 oz0 oz1 oz2 oz3 oz4 w0_ (show BlkW (Blk.var [i64 (0:Int),i64 (0:Int),i64 (0:Int),i64 (0:Int),AV.lit (AK_ none (0:Nat) (0:Nat))]) (Blk.var [AV.any,AV.any,AV.any,AV.any,AV.any]) from (BlkW.var (m:=[AV.any,AV.any,AV.any,AV.any,AV.any]) (.cons (AG_ _) (.cons (AG_ _) (.cons (AG_ _) (.cons (AG_ _) (.cons (AG_ _) .nil))))))) (show BlkW (Blk.var [AV.sl 1 (K_ (row1 .u8) s5.fst),i64 s5.snd]) (Blk.var [AV.sl 1 (K_ (row1 .u8) (muS s5 0).fst),i64 (muS s5 0).snd]) from (BlkW.var (m:=[AV.sl 1 (K_ (row1 .u8) (muS s5 0).fst),i64 (muS s5 0).snd]) (.cons (AH_ (rows_to (row1 .u8) (r:=K_ (row1 .u8) s5.fst) (l:=s5.fst) (m:=(muS s5 0).fst) rfl (show (s5.fst)=((muS s5 0).fst) from t0_))) (.cons (N_ t0_) .nil))))<|.d2 oz8 oz9)
noncomputable def same06_n_I (l m:List Int) (i:Nat) (k:Nat):VS:=stt 26 [(0,ints .u8 l),(1,ints .u8 m),(5,i64 k)] []
noncomputable def same06_n_Z (l m:List Int) (i:Nat):VS:=stt 26 [(4,bv false)] []
theorem same06_n_s (l m:List Int) (i:Nat) (hl:l.length≤20000000) (hm:l.length=m.length) (hi:i<l.length) (hne:l.getD i 0≠m.getD i 0) (h:∀ j,j<i→l.getD j 0=m.getD j 0) (k:Nat) (hk:k<i):VT M_ (fnC Tryz.f33 [1,1,0,1,0,0]) (same06_n_I l m i k) .normal (same06_n_I l m i (k+1)):=by
 have q:=h k hk
 have oz1:=(s_ (0≤(↑k:Int)))
 exact tR_ [r_,b_,.r [] [.row [u8 (l.getD k 0)],.row [u8 (m.getD k 0)]],d_,.r [] [.n ((↑k:Int)+1)]] [.any (rg [(11,15)]),.weak 5 (i64 (↑(k+1):Int)),.sort] (.d8 (h_ (decide ((↑k:Int)<((K_ (row1 .u8) l).length:Int))=true)) oz1 (map_at (row1 .u8) (0) (l:=l) (i:=k) a_) oz1 (map_at (row1 .u8) (0) (l:=m) (i:=k) a_) (f0_ ((l.getD k 0 != m.getD k 0)=false)) (i6n ((↑k:Int)+1) a_) (wS_ k))
theorem same06_n_e (l m:List Int) (i:Nat) (hl:l.length≤20000000) (hm:l.length=m.length) (hi:i<l.length) (hne:l.getD i 0≠m.getD i 0) (h:∀ j,j<i→l.getD j 0=m.getD j 0):VT M_ (fnC Tryz.f33 [1,1,0,1,0,0]) (same06_n_I l m i (i)) (.ret) (same06_n_Z l m i):=by
 have oz1:=(s_ (0≤(↑i:Int)))
 exact tR_ [r_,b_,.r [] [.row [u8 (l.getD i 0)],.row [u8 (m.getD i 0)]],b_,r_] [.any (rg [(0,2),(5,1),(11,4),(17,9)]),.sort] (.d6 (h_ (decide ((↑i:Int)<((K_ (row1 .u8) l).length:Int))=true)) oz1 (map_at (row1 .u8) (0) (l:=l) (i:=i) hi) oz1 (map_at (row1 .u8) (0) (l:=m) (i:=i) a_) (f0_ ((l.getD i 0 != m.getD i 0)=true)))
theorem same06_n (l m:List Int) (i:Nat) (hl:l.length≤20000000) (hm:l.length=m.length) (hi:i<l.length) (hne:l.getD i 0≠m.getD i 0) (h:∀ j,j<i→l.getD j 0=m.getD j 0):VT M_ (fnC Tryz.f33 [1,1,0,1,0]) (same06_n_I l m i 0) (.ret) (same06_n_Z l m i) :=
 VT.loop (fun k=>same06_n_I l m i k) (i) (fun k hk=>same06_n_s l m i hl hm hi hne h k hk) (same06_n_e l m i hl hm hi hne h) c0_
theorem same06_d (l m:List Int) (hl:l.length≤10000000) (hm:l.length≠m.length):VC M_ 33 ([ints .u8 l,ints .u8 m]) (bv false):=by
 exact cR_ [r_,r_,b_,r_] _ Tryz.func33 (.d (h_ ((((K_ (row1 .u8) l).length:Int) != ((K_ (row1 .u8) m).length:Int))=true)))
theorem same06_x (l m:List Int) (i:Nat) (hl:l.length≤10000000) (hm:l.length=m.length) (hi:i<l.length) (hne:l.getD i 0≠m.getD i 0) (h:∀ j,j<i→l.getD j 0=m.getD j 0):VC M_ 33 ([ints .u8 l,ints .u8 m]) (bv false):=by
 have oz2:=@same06_n (l) (m) (i) a_ hm hi hne h
 exact cR_ [r_,r_,d_,r_,.code [.any [4,6,7,8,9,10],.weak 5 (i64 (↑0:Int)),.sort] (DT_) (zO oz2)] _ Tryz.func33 (.d3 (h_ ((((K_ (row1 .u8) l).length:Int) != ((K_ (row1 .u8) m).length:Int))=false)) w0_ oz2)
theorem same06_w (l m:List Int) (hl:l.length≤10000000):VC M_ 33 [ints .u8 l,ints .u8 m] (bv (decide (l=m))) :=
 VC.alike (same06_d l m hl) (same06_v l hl) fun i h a b c=>same06_x l m i hl h a b c
theorem rend_a (xs:List Int) (a:Nat) (hl:xs.length≤1000000) (h:a<xs.length):hRo_ 36 xs (a,0) 24 (a,0):=by
 have oz0:=(y_ (((a,0).snd==0)=true))
 exact mR_ [r_,.r [] [e_,e_,e_,e_,e_,e_,e_,e_,e_,e_,e_],b_,r_] [.sort] _ Tryz.func36 (.c8 oz0 oz0 oz0 oz0 oz0 oz0 oz0 oz0<|.d4 oz0 oz0 oz0 (h_ (decide ((↑(a,0).fst:Int)<((K_ (row1 .u8) xs).length:Int))=true)))
theorem rend_b (xs:List Int) (a:Nat) (e:Int) (hl:xs.length≤1000000) (ha:a≤xs.length) (h:e≠0∨xs.length≤a):hRo_ 36 xs (a,e) e (a,e):=by
 exact mR_ [r_,.r [] [o_,o_,o_,o_,o_,o_,o_,o_,o_,o_,.sel 2],d_,r_] [.sort] _ Tryz.func36 (.d (h_ (((a,e).snd==0&&decide ((↑(a,e).fst:Int)<((K_ (row1 .u8) xs).length:Int)))=false)))
theorem rend_v (xs:List Int) (r:Rrf) (h:Rrf.In xs r):hRo_ 36 xs r (endE (toS xs r)) r:=by
 obtain ⟨a,e⟩:=r
 have hl:=h.l;have ha:a≤xs.length:=h.a
 by_cases q:e=0
 ·subst q
  by_cases g:a<xs.length
  ·have:endE (toS xs (a,0))=24:=by simp[endE,toS];omega
   rw[this];exact rend_a xs a hl g
  ·have:endE (toS xs (a,0))=0:=by simp[endE,toS];omega
   rw[this];exact rend_b xs a 0 hl ha (.inr a_)
 ·have:endE (toS xs (a,e))=e:=by simp[endE,toS,q]
  rw[this];exact rend_b xs a e hl ha (.inl q)
noncomputable def mdlQ (xs:List Int) (r:Rrf):Rrf:=by
 classical
 exact if h:Rrf.In xs r∧(toS xs r).Fit then Classical.choose (rtmod_v xs r h.1 h.2) else r
theorem mdlQ_eq {xs:List Int} {r:Rrf} (h:Rrf.In xs r) (hf:(toS xs r).Fit):Rrf.In xs (mdlQ xs r)∧toS xs (mdlQ xs r)=(mdlT (toS xs r)).2∧VM M_ 35 [.ptr 100000 0 0] [(100000,.var (rrC xs r))] (.tup [.agg [.sl 5 ((mdlT (toS xs r)).1.1.map blcC)],i64 (mdlT (toS xs r)).1.2]) [(100000,.var (rrC xs (mdlQ xs r)))]:=by
 have:=Classical.choose_spec (rtmod_v xs r h hf)
 unfold mdlQ
 rw[dif_pos ⟨h,hf⟩];exact this
noncomputable def muR (xs:List Int) (r:Rrf):Nat→Rrf
 | 0=>r
 | k+1=>mdlQ xs (muR xs r k)
theorem muR_all {xs:List Int} {r:Rrf} (h:Rrf.In xs r) (hf:(toS xs r).Fit) (k:Nat):Rrf.In xs (muR xs r k)∧toS xs (muR xs r k)=muS (toS xs r) k:=by
 induction k with
 | zero=>exact ⟨h,rfl⟩
 | succ k ih =>
  have q:=mdlQ_eq ih.1 (by rw[ih.2];exact muS_fit hf k)
  exact ⟨q.1,by rw[muR,q.2.1,ih.2];rfl⟩
theorem muR_v {xs:List Int} {r:Rrf} (h:Rrf.In xs r) (hf:(toS xs r).Fit) (k:Nat):VM M_ 35 [.ptr 100000 0 0] [(100000,.var (rrC xs (muR xs r k)))] (.tup [.agg [.sl 5 ((mdlT (muS (toS xs r) k)).1.1.map blcC)],i64 (mdlT (muS (toS xs r) k)).1.2]) [(100000,.var (rrC xs (muR xs r (k+1))))]:=by
 have a:=muR_all h hf k
 have q:=mdlQ_eq a.1 (by rw[a.2];exact muS_fit hf k)
 rw[a.2] at q
 exact q.2.2
noncomputable def rtk_y_I (A B C D N:Int) (s:Rst) (xs:List Int) (R:Nat→Rrf) (k:Nat):VS:=stt 109 [(2,.ptr 2 0 0),(5,.ptr 61 0 0),(6,.ptr 6 0 0),(7,i64 N),(8,i64 k)] [(2,.var [.any,.any,.any,.any,.any]),(6,.var [i64 A,i64 B,i64 C,i64 D,.own 900]),(61,.var (rrC xs (R k))),(900,.slc 44 1 ((muL s k).map mdlC))]
noncomputable def rtk_y_Z (A B C D N:Int) (s:Rst) (xs:List Int) (R:Nat→Rrf):VS:=rtk_y_I A B C D N s xs R (N.toNat)
theorem rtk_y_s (A B C D N:Int) (s:Rst) (xs:List Int) (R:Nat→Rrf) (hN:0≤N∧N≤3) (hv:∀ k,k<N.toNat→VM M_ 35 [.ptr 100000 0 0] [(100000,.var (rrC xs (R k)))] (.tup [.agg [.sl 5 ((mdlT (muS s k)).1.1.map blcC)],i64 (mdlT (muS s k)).1.2]) [(100000,.var (rrC xs (R (k+1))))]) (hh:∀ k,k<N.toNat→(mdlT (muS s k)).1.2=0) (k:Nat) (hk:k<N.toNat):VT M_ (fnC Tryz.f13 [1,1,1,1,1,1,1,1,1,0,1,0,0]) (rtk_y_I A B C D N s xs R k) .normal (rtk_y_I A B C D N s xs R (k+1)):=by
 have q1:=muL_len s k
 have q2:=hh k hk
 have q3:=hv k hk
 have oz1:=@hv (k) hk
 exact tR_ [r_,b_,.r [] [.callm [(61,100000)] [] (rM oz1) (oM oz1)],r_,d_,r_,.r [] [.n ((↑k:Int)+1)]] [.any (rg [(9,2),(74,12),(88,6)]),.drop [9,91],.ren 92 900,.weak 8 (i64 (↑(k+1):Int)),.blk 900 (Blk.slc 44 1 (K_ mdlC (muL s (k+1)))),.sort] (.d8 (decide_eq_true (p:=((↑k:Int)<N)) a_) oz1 (h_ (((mdlT (muS s k)).fst.snd != 0)=false)) (h_ (((K_ mdlC (muL s k)).length+1)*24≤140737488355328)) (h_ ((K_ mdlC (muL s k)).length+1≤9223372036854775807)) (i6n ((↑k:Int)+1) a_) (wS_ k) (show BlkW (Blk.slc 44 1 (K_ mdlC (muL s k)++[[AV.sl 5 (K_ blcC (mdlT (muS s k)).fst.fst)]])) (Blk.slc 44 1 (K_ mdlC (muL s (k+1)))) from (CW_ (e:=44) (z:=1) (rows_to (mdlC) (r:=K_ mdlC (muL s k)++[[AV.sl 5 (K_ blcC (mdlT (muS s k)).fst.fst)]]) (l:=muL s k++[Mdl.mk (mdlT (muS s k)).fst.fst]) (m:=muL s (k+1)) c1_ (show (muL s k++[Mdl.mk (mdlT (muS s k)).fst.fst])=(muL s (k+1)) from t0_)))))
theorem rtk_y_e (A B C D N:Int) (s:Rst) (xs:List Int) (R:Nat→Rrf) (hN:0≤N∧N≤3) (hv:∀ k,k<N.toNat→VM M_ 35 [.ptr 100000 0 0] [(100000,.var (rrC xs (R k)))] (.tup [.agg [.sl 5 ((mdlT (muS s k)).1.1.map blcC)],i64 (mdlT (muS s k)).1.2]) [(100000,.var (rrC xs (R (k+1))))]) (hh:∀ k,k<N.toNat→(mdlT (muS s k)).1.2=0):VT M_ (fnC Tryz.f13 [1,1,1,1,1,1,1,1,1,0,1,0,0]) (rtk_y_I A B C D N s xs R (N.toNat)) (.exit 0) (rtk_y_Z A B C D N s xs R):=by
 exact tR_ [r_,d_] [.any [74,75,76],.sort] (.d (decide_eq_false (p:=((↑N.toNat:Int)<N)) a_))
theorem rtk_y (A B C D N:Int) (s:Rst) (xs:List Int) (R:Nat→Rrf) (hN:0≤N∧N≤3) (hv:∀ k,k<N.toNat→VM M_ 35 [.ptr 100000 0 0] [(100000,.var (rrC xs (R k)))] (.tup [.agg [.sl 5 ((mdlT (muS s k)).1.1.map blcC)],i64 (mdlT (muS s k)).1.2]) [(100000,.var (rrC xs (R (k+1))))]) (hh:∀ k,k<N.toNat→(mdlT (muS s k)).1.2=0):VT M_ (fnC Tryz.f13 [1,1,1,1,1,1,1,1,1,0,1,0]) (rtk_y_I A B C D N s xs R 0) (.exit 0) (rtk_y_Z A B C D N s xs R) :=
 VT.loop (fun k=>rtk_y_I A B C D N s xs R k) (N.toNat) (fun k hk=>rtk_y_s A B C D N s xs R hN hv hh k hk) (rtk_y_e A B C D N s xs R hN hv hh) c0_
noncomputable def rtk_n_I (A B C D N:Int) (s:Rst) (xs:List Int) (R:Nat→Rrf) (m:Nat) (k:Nat):VS:=stt 109 [(2,.ptr 2 0 0),(5,.ptr 61 0 0),(6,.ptr 6 0 0),(7,i64 N),(8,i64 k)] [(2,.var [.any,.any,.any,.any,.any]),(6,.var [i64 A,i64 B,i64 C,i64 D,.own 900]),(61,.var (rrC xs (R k))),(900,.slc 44 1 ((muL s k).map mdlC))]
noncomputable def rtk_n_Z (A B C D N:Int) (s:Rst) (xs:List Int) (R:Nat→Rrf) (m:Nat):VS:=stt 109 [(2,.ptr 2 0 0),(3,i64 (mdlT (muS s m)).1.2)] [(2,.var [i64 0,i64 0,i64 0,i64 0,nilv])]
theorem rtk_n_s (A B C D N:Int) (s:Rst) (xs:List Int) (R:Nat→Rrf) (m:Nat) (hN:0≤N∧N≤3) (hv:∀ k,k<N.toNat→VM M_ 35 [.ptr 100000 0 0] [(100000,.var (rrC xs (R k)))] (.tup [.agg [.sl 5 ((mdlT (muS s k)).1.1.map blcC)],i64 (mdlT (muS s k)).1.2]) [(100000,.var (rrC xs (R (k+1))))]) (hm:m<N.toNat) (hf:(mdlT (muS s m)).1.2≠0) (hh:∀ k,k<m→(mdlT (muS s k)).1.2=0) (k:Nat) (hk:k<m):VT M_ (fnC Tryz.f13 [1,1,1,1,1,1,1,1,1,0,1,0,0]) (rtk_n_I A B C D N s xs R m k) .normal (rtk_n_I A B C D N s xs R m (k+1)):=by
 have q1:=muL_len s k
 have q2:=hh k hk
 have q3:=hv k a_
 have oz1:=@hv (k) a_
 exact tR_ [r_,b_,.r [] [.callm [(61,100000)] [] (rM oz1) (oM oz1)],r_,d_,r_,.r [] [.n ((↑k:Int)+1)]] [.any (rg [(9,2),(74,12),(88,6)]),.drop [9,91],.ren 92 900,.weak 8 (i64 (↑(k+1):Int)),.blk 900 (Blk.slc 44 1 (K_ mdlC (muL s (k+1)))),.sort] (.d8 (decide_eq_true (p:=((↑k:Int)<N)) a_) oz1 (h_ (((mdlT (muS s k)).fst.snd != 0)=false)) (h_ (((K_ mdlC (muL s k)).length+1)*24≤140737488355328)) (h_ ((K_ mdlC (muL s k)).length+1≤9223372036854775807)) (i6n ((↑k:Int)+1) a_) (wS_ k) (show BlkW (Blk.slc 44 1 (K_ mdlC (muL s k)++[[AV.sl 5 (K_ blcC (mdlT (muS s k)).fst.fst)]])) (Blk.slc 44 1 (K_ mdlC (muL s (k+1)))) from (CW_ (e:=44) (z:=1) (rows_to (mdlC) (r:=K_ mdlC (muL s k)++[[AV.sl 5 (K_ blcC (mdlT (muS s k)).fst.fst)]]) (l:=muL s k++[Mdl.mk (mdlT (muS s k)).fst.fst]) (m:=muL s (k+1)) c1_ (show (muL s k++[Mdl.mk (mdlT (muS s k)).fst.fst])=(muL s (k+1)) from t0_)))))
theorem rtk_n_e (A B C D N:Int) (s:Rst) (xs:List Int) (R:Nat→Rrf) (m:Nat) (hN:0≤N∧N≤3) (hv:∀ k,k<N.toNat→VM M_ 35 [.ptr 100000 0 0] [(100000,.var (rrC xs (R k)))] (.tup [.agg [.sl 5 ((mdlT (muS s k)).1.1.map blcC)],i64 (mdlT (muS s k)).1.2]) [(100000,.var (rrC xs (R (k+1))))]) (hm:m<N.toNat) (hf:(mdlT (muS s m)).1.2≠0) (hh:∀ k,k<m→(mdlT (muS s k)).1.2=0):VT M_ (fnC Tryz.f13 [1,1,1,1,1,1,1,1,1,0,1,0,0]) (rtk_n_I A B C D N s xs R m (m)) (.ret) (rtk_n_Z A B C D N s xs R m):=by
 have q1:=muL_len s m
 have q3:=hv m hm
 have oz1:=@hv (m) hm
 exact tR_ [r_,b_,.r [] [.callm [(61,100000)] [] (rM oz1) (oM oz1)],r_,b_,r_] [.any (rg [(5,6),(74,3),(79,9)]),.drop [6,900,61,9],.sort] (.d3 (decide_eq_true (p:=((↑m:Int)<N)) a_) oz1 (h_ (((mdlT (muS s m)).fst.snd != 0)=true)))
theorem rtk_n (A B C D N:Int) (s:Rst) (xs:List Int) (R:Nat→Rrf) (m:Nat) (hN:0≤N∧N≤3) (hv:∀ k,k<N.toNat→VM M_ 35 [.ptr 100000 0 0] [(100000,.var (rrC xs (R k)))] (.tup [.agg [.sl 5 ((mdlT (muS s k)).1.1.map blcC)],i64 (mdlT (muS s k)).1.2]) [(100000,.var (rrC xs (R (k+1))))]) (hm:m<N.toNat) (hf:(mdlT (muS s m)).1.2≠0) (hh:∀ k,k<m→(mdlT (muS s k)).1.2=0):VT M_ (fnC Tryz.f13 [1,1,1,1,1,1,1,1,1,0,1,0]) (rtk_n_I A B C D N s xs R m 0) (.ret) (rtk_n_Z A B C D N s xs R m) :=
 VT.loop (fun k=>rtk_n_I A B C D N s xs R m k) (m) (fun k hk=>rtk_n_s A B C D N s xs R m hN hv hm hf hh k hk) (rtk_n_e A B C D N s xs R m hN hv hm hf hh) c0_
theorem bun0_ok:Bun.Ok ⟨0,0,0,0,[]⟩:=by
 constructor<;>first|exact ⟨by decide,by decide⟩|(intro d hd;cases hd)
theorem bun0_sm:Bun.Sm ⟨0,0,0,0,[]⟩:=⟨by simp,fun d hd=>by cases hd⟩
def takeU:Nat→Rst→Int
 | 0,_=>0
 | n+1,s=>if (mdlT s).1.2≠0 then (mdlT s).1.2 else takeU n (mdlT s).2
theorem muS_succ (s:Rst) (k:Nat):muS s (k+1)=muS (mdlT s).2 k:=by
 induction k with
 | zero=>rfl
 | succ k ih=>rw[muS,ih];rfl
theorem takeU_y {n:Nat}:∀ {s:Rst},(∀ k,k<n→(mdlT (muS s k)).1.2=0)→takeU n s=0:=by
 induction n with
 | zero=>intro s _;rfl
 | succ n ih =>
  intro s h
  have h0:(mdlT s).1.2=0:=h 0 a_
  rw[takeU,j_ a3_]
  refine ih fun k hk=>?_
  rw[←muS_succ];exact h (k+1) a_
theorem takeU_n {n:Nat}:∀ {s:Rst} {m:Nat},m<n→(mdlT (muS s m)).1.2≠0→(∀ k,k<m→(mdlT (muS s k)).1.2=0)→takeU n s=(mdlT (muS s m)).1.2:=by
 induction n with
 | zero=>intro s m hm;omega
 | succ n ih =>
  intro s m hm hf h
  cases m with
  | zero=>rw[takeU,i_ (by exact hf)];rfl
  | succ m =>
   have h0:(mdlT s).1.2=0:=h 0 a_
   rw[takeU,j_ a3_,muS_succ s m]
   rw[muS_succ] at hf
   refine ih a_ hf fun k hk=>?_
   rw[←muS_succ];exact h (k+1) a_
def hS4 (s:Rst):Rst:=cntS (cntS (cntS (cntS s 16) 16) 1024) 16
def hS5 (s:Rst):Rst:=cntS (hS4 s) 3
def hN (s:Rst):Int:=cntV (hS4 s) 3
def bunU (s:Rst):Bun:=⟨cntV s 16,cntV (cntS s 16) 16,cntV (cntS (cntS s 16) 16) 1024,cntV (cntS (cntS (cntS s 16) 16) 1024) 16,muL (hS5 s) (hN s).toNat⟩
def bunT (s:Rst):Bun×Int :=
 if takeU (hN s).toNat (hS5 s)≠0 then (⟨0,0,0,0,[]⟩,takeU (hN s).toNat (hS5 s)) else (bunU s,endE (muS (hS5 s) (hN s).toNat))
theorem taken_v (s:Rst) (h:s.Fit):∃ z,VM M_ 28 [.ptr 100000 0 0] [(100000,.var (rdC s))] (.tup [bun (bunT s).1,i64 (bunT s).2]) [(100000,.var (rdC z))]:=by
 have f1:=cnt_fit h 16
 have f2:=cnt_fit f1 16
 have f3:=cnt_fit f2 1024
 have f4:=cnt_fit f3 16
 have f5:=cnt_fit f4 3
 have q:=cntV_rng (m:=3) f4.i x_
 have c1:=cnt_v s 16 h.i x_ x_
 have c2:=cnt_v _ 16 f1.i x_ x_
 have c3:=cnt_v _ 1024 f2.i x_ x_
 have c4:=cnt_v _ 16 f3.i x_ x_
 have c5:=cnt_v _ 3 f4.i x_ x_
 unfold bunT
 rcases first_of (n:=(hN s).toNat) (p:=fun k=>(mdlT (muS (hS5 s) k)).1.2=0) with hh|⟨m,hm,hf,hh⟩
 ·rw[takeU_y hh,j_ v0_]
  exact ⟨_,taken_y _ _ _ _ _ _ _ _ _ _ _ c1 c2 c3 c4 c5 f5 q hh⟩
 ·rw[takeU_n hm hf hh,i_ hf]
  exact ⟨_,taken_n _ _ _ _ _ _ _ _ _ _ _ m c1 c2 c3 c4 c5 f5 q hm hf hh⟩
theorem dec_t (l d:List Int) (u:Bun) (e:Int) (z:Rst) (hd:d.length≤1000000) (ho:VC M_ 27 [ints .u8 l] (.tup [ints .u8 d,i64 0])) (ht:VM M_ 28 [.ptr 100000 0 0] [(100000,.var (rdC (d,0)))] (.tup [bun u,i64 e]) [(100000,.var (rdC z))]) (he:e≠0):VC M_ 10 ([ints .u8 l]) (.tup [.agg [i64 0,i64 0,i64 0,i64 0,nilv],i64 e]):=by
 have oz0:=@ho
 have oz2:=@read_v (d) hd
 have oz3:=@ht
 exact cR_ [r_,.r [] [cr oz0],r_,d_,.r [] [.callm [] [(950,20000)] (rM oz2) (oM oz2),.callm [(20000,100000)] [] (rM oz3) (oM oz3)],r_,b_,r_] _ Tryz.func10 (.d5 oz0 z1_ oz2 oz3 (h_ ((e != 0)=true)))
theorem dec_w (l d:List Int) (u:Bun) (z:Rst) (hd:d.length≤1000000) (ho:VC M_ 27 [ints .u8 l] (.tup [ints .u8 d,i64 0])) (ht:VM M_ 28 [.ptr 100000 0 0] [(100000,.var (rdC (d,0)))] (.tup [bun u,i64 0]) [(100000,.var (rdC z))]) (ok:u.Ok) (sm:u.Sm) (he:(bunE u).w≠0):VC M_ 10 ([ints .u8 l]) (.tup [.agg [i64 0,i64 0,i64 0,i64 0,nilv],i64 (bunE u).w]):=by
 have oz0:=@ho
 have oz2:=@read_v (d) hd
 have oz3:=@ht
 have oz5:=@vbundle_v (u) ok sm
 exact cR_ [r_,.r [] [cr oz0],r_,d_,.r [] [.callm [] [(950,20000)] (rM oz2) (oM oz2),.callm [(20000,100000)] [] (rM oz3) (oM oz3)],r_,d_,.r [] [cr oz5],r_,b_,r_] _ Tryz.func10 (.d7 oz0 z1_ oz2 oz3 z1_ oz5 (h_ (((bunE u).w != 0)=true)))
theorem dec_y (l d:List Int) (u:Bun) (z:Rst) (hd:d.length≤1000000) (ho:VC M_ 27 [ints .u8 l] (.tup [ints .u8 d,i64 0])) (ht:VM M_ 28 [.ptr 100000 0 0] [(100000,.var (rdC (d,0)))] (.tup [bun u,i64 0]) [(100000,.var (rdC z))]) (ok:u.Ok) (sm:u.Sm) (he:(bunE u).w=0):VC M_ 10 ([ints .u8 l]) (.tup [bun u,i64 0]):=by
 have oz0:=@ho
 have oz2:=@read_v (d) hd
 have oz3:=@ht
 have oz5:=@vbundle_v (u) ok sm
 exact cR_ [r_,.r [] [cr oz0],r_,d_,.r [] [.callm [] [(950,20000)] (rM oz2) (oM oz2),.callm [(20000,100000)] [] (rM oz3) (oM oz3)],r_,d_,.r [] [cr oz5],r_,d_,r_] _ Tryz.func10 (.d7 oz0 z1_ oz2 oz3 z1_ oz5 (h_ (((bunE u).w != 0)=false)))
theorem rdec_s (l:List Int) (h:l.length<8):VC M_ 13 ([ints .u8 l]) (.tup [.agg [i64 0,i64 0,i64 0,i64 0,nilv],i64 20]):=by
 exact cR_ [r_,r_,d_,r_,b_,r_] _ Tryz.func13 (.d2 (h_ (decide (((K_ (row1 .u8) l).length:Int)>1048576)=false)) (h_ (decide (((K_ (row1 .u8) l).length:Int)<8)=true)))
theorem mag_y {l:List Int} (h:l.take 4=[83,84,87,49]):(l.getD 0 0 != 83 || l.getD 1 0 != 84 || l.getD 2 0 != 87 || l.getD 3 0 != 49)=false:=by
 match l,h with
 | a::b::c::d::t,h =>
  simp only[List.take_succ_cons,List.take_zero,List.cons.injEq,and_true] at h
  obtain ⟨rfl,rfl,rfl,rfl⟩:=h;rfl
theorem mag_n {l:List Int} (h4:4≤l.length) (h:l.take 4≠[83,84,87,49]):(l.getD 0 0 != 83 || l.getD 1 0 != 84 || l.getD 2 0 != 87 || l.getD 3 0 != 49)=true:=by
 match l,h4,h with
 | a::b::c::d::t,_,h =>
  simp only[List.take_succ_cons,List.take_zero,ne_eq,List.cons.injEq,and_true] at h
  simp only[BM_,BY_,D_,J_,ne_eq]
  omega
theorem rdec_m (l:List Int) (h8:8≤l.length) (hb:l.length≤1048576) (hx:∀ x∈l,0≤x∧x≤255) (hm:l.take 4≠[83,84,87,49]):VC M_ 13 ([ints .u8 l]) (.tup [.agg [i64 0,i64 0,i64 0,i64 0,nilv],i64 22]):=by
 have z:=mag_n (l:=l) a_ hm
 exact cR_ [r_,r_,d_,r_,d_,.r [] [.row [u8 (l.getD 0 0)],o_,o_,.row [u8 (l.getD 1 0)],o_,o_,.sel 1,o_,o_,.row [u8 (l.getD 2 0)],o_,o_,.sel 1,o_,o_,.row [u8 (l.getD 3 0)],o_,o_,.sel 1],b_,r_] _ Tryz.func13 (.c8 (h_ (decide (((K_ (row1 .u8) l).length:Int)>1048576)=false)) (h_ (decide (((K_ (row1 .u8) l).length:Int)<8)=false)) z3_ (map_at (row1 .u8) (0) (l:=l) (i:=0) a_) z9_ (map_at (row1 .u8) (0) (l:=l) (i:=1) a_) z16_ (map_at (row1 .u8) (0) (l:=l) (i:=2) a_)<|.d3 z18_ (map_at (row1 .u8) (0) (l:=l) (i:=3) a_) z)
theorem rdf {F:Int→List Int} {l:List Int} (hF:P4 F) (h8:8≤l.length) (hb:l.length≤1048576) (hx:∀ x∈l,0≤x∧x≤255) (hm:l.take 4=[83,84,87,49]) :
  (l.map (row1 .u8)).length=l.length∧Q_ ((((l.map (row1 .u8)).length:Int)-4).toNat-0) (O_ 0 l)=l.take (l.length-4)∧(∀ x∈Q_ ((((l.map (row1 .u8)).length:Int)-4).toNat-0) (O_ 0 l),0≤x∧x≤255)∧(Q_ ((((l.map (row1 .u8)).length:Int)-4).toNat-0) (O_ 0 l)).length=l.length-4∧(0≤crcL (Q_ ((((l.map (row1 .u8)).length:Int)-4).toNat-0) (O_ 0 l))∧crcL (Q_ ((((l.map (row1 .u8)).length:Int)-4).toNat-0) (O_ 0 l))≤4294967295)∧(F (crcL (Q_ ((((l.map (row1 .u8)).length:Int)-4).toNat-0) (O_ 0 l)))).length=4∧(l.getD 0 0 != 83 || l.getD 1 0 != 84 || l.getD 2 0 != 87 || l.getD 3 0 != 49)=false∧Q_ ((l.map (row1 .u8)).length-(((l.map (row1 .u8)).length:Int)-4).toNat) (O_ (((l.map (row1 .u8)).length:Int)-4).toNat l)=l.drop (l.length-4):=by
 have q0:Q_ ((((l.map (row1 .u8)).length:Int)-4).toNat-0) (O_ 0 l)=l.take (l.length-4):=by rw[end_eq a_ a_,List.drop_zero,Nat.sub_zero]
 refine ⟨V_ _,q0,?_,?_,crcL_bd _,hF.l _,mag_y hm,?_⟩
 ·rw[q0];exact fun x h=>hx x (List.mem_of_mem_take h)
 ·rw[q0,BL_];omega
 ·rw[end_eq a_ a_,V_];exact BJ_ (by rw[AS_];exact AE_ _)
theorem rdz {F:Int→List Int} {a b c d:List Int} (q0:a=c) (q5:b=d) (hs:F (crcL c)=d):decide (F (crcL a)=b)=true:=by subst q0;subst q5;exact decide_eq_true hs
theorem rdec_u (F:Int→List Int) (l:List Int) (h8:8≤l.length) (hb:l.length≤1048576) (hx:∀ x∈l,0≤x∧x≤255) (hF:P4 F) (hm:l.take 4=[83,84,87,49]) (hs:F (crcL (l.take (l.length-4)))≠l.drop (l.length-4)):VC M_ 13 ([ints .u8 l]) (.tup [.agg [i64 0,i64 0,i64 0,i64 0,nilv],i64 23]):=by
 obtain ⟨ql,q0,q1,q2,q3,q4,z,q5⟩:=rdf hF h8 hb hx hm
 have z2:decide (F (crcL (Q_ ((((l.map (row1 .u8)).length:Int)-4).toNat-0) (O_ 0 l)))=Q_ ((l.map (row1 .u8)).length-(((l.map (row1 .u8)).length:Int)-4).toNat) (O_ (((l.map (row1 .u8)).length:Int)-4).toNat l))=false:=by rw[q0,q5];exact decide_eq_false hs
 have oz11:=(i6n (((K_ (row1 .u8) l).length:Int)-4) a_)
 have oz13:=(s_ (((K_ (row1 .u8) l).length:Int)-4=(↑(((K_ (row1 .u8) l).length:Int)-4).toNat:Int)))
 have oz15:=(s_ ((((K_ (row1 .u8) l).length:Int)-4).toNat≤(K_ (row1 .u8) l).length))
 have oz17:=@rcrc_v (Q_ ((((K_ (row1 .u8) l).length:Int)-4).toNat-0) (O_ 0 l)) q1 a_
 have oz18:=@r4_v (F) hF (crcL (Q_ ((((K_ (row1 .u8) l).length:Int)-4).toNat-0) (O_ 0 l))) a_ a_
 have oz24:=@same06_w (F (crcL (Q_ ((((K_ (row1 .u8) l).length:Int)-4).toNat-0) (O_ 0 l)))) (Q_ ((K_ (row1 .u8) l).length-(((K_ (row1 .u8) l).length:Int)-4).toNat) (O_ (((K_ (row1 .u8) l).length:Int)-4).toNat l)) a_
 exact cR_ [r_,r_,d_,r_,d_,.r [] [.row [u8 (l.getD 0 0)],o_,o_,.row [u8 (l.getD 1 0)],o_,o_,.sel 1,o_,o_,.row [u8 (l.getD 2 0)],o_,o_,.sel 1,o_,o_,.row [u8 (l.getD 3 0)],o_,o_,.sel 1],d_,.r [] [.n (nO oz11)],.r [] [.nats 0 (((K_ (row1 .u8) l).length:Int)-4).toNat,ca oz17,cr oz18,.nats (((K_ (row1 .u8) l).length:Int)-4).toNat (K_ (row1 .u8) l).length,ca oz24],b_,r_] _ Tryz.func13 (.c8 (decide_eq_false (p:=(((K_ (row1 .u8) l).length:Int)>1048576)) a_) (decide_eq_false (p:=(((K_ (row1 .u8) l).length:Int)<8)) a_) z3_ (map_at (row1 .u8) (0) (l:=l) (i:=0) a_) z9_ (map_at (row1 .u8) (0) (l:=l) (i:=1) a_) z16_ (map_at (row1 .u8) (0) (l:=l) (i:=2) a_)<|.c8 z18_ (map_at (row1 .u8) (0) (l:=l) (i:=3) a_) z oz11 z4_ oz13 (s_ (0≤(((K_ (row1 .u8) l).length:Int)-4).toNat)) oz15<|.c8 (show WeakL [AV.sl 1 (Q_ ((((K_ (row1 .u8) l).length:Int)-4).toNat-0) (O_ 0 (K_ (row1 .u8) l)))] [AV.sl 1 (K_ (row1 .u8) (Q_ ((((K_ (row1 .u8) l).length:Int)-4).toNat-0) (O_ 0 l)))] from (.cons (AH_ (rows_to (row1 .u8) (r:=Q_ ((((K_ (row1 .u8) l).length:Int)-4).toNat-0) (O_ 0 (K_ (row1 .u8) l))) (l:=Q_ ((((K_ (row1 .u8) l).length:Int)-4).toNat-0) (O_ 0 l)) (m:=Q_ ((((K_ (row1 .u8) l).length:Int)-4).toNat-0) (O_ 0 l)) g_ rfl)) .nil)) oz17 oz18 oz13 (h0_ ((K_ (row1 .u8) l).length=(K_ (row1 .u8) l).length)) oz15 (s_ ((K_ (row1 .u8) l).length≤(K_ (row1 .u8) l).length)) (show WeakL [AV.sl 1 (K_ (row1 .u8) (F (crcL (Q_ ((((K_ (row1 .u8) l).length:Int)-4).toNat-0) (O_ 0 l))))),AV.sl 1 (Q_ ((K_ (row1 .u8) l).length-(((K_ (row1 .u8) l).length:Int)-4).toNat) (O_ (((K_ (row1 .u8) l).length:Int)-4).toNat (K_ (row1 .u8) l)))] [AV.sl 1 (K_ (row1 .u8) (F (crcL (Q_ ((((K_ (row1 .u8) l).length:Int)-4).toNat-0) (O_ 0 l))))),AV.sl 1 (K_ (row1 .u8) (Q_ ((K_ (row1 .u8) l).length-(((K_ (row1 .u8) l).length:Int)-4).toNat) (O_ (((K_ (row1 .u8) l).length:Int)-4).toNat l)))] from (.cons (.refl _) (.cons (AH_ (rows_to (row1 .u8) (r:=Q_ ((K_ (row1 .u8) l).length-(((K_ (row1 .u8) l).length:Int)-4).toNat) (O_ (((K_ (row1 .u8) l).length:Int)-4).toNat (K_ (row1 .u8) l))) (l:=Q_ ((K_ (row1 .u8) l).length-(((K_ (row1 .u8) l).length:Int)-4).toNat) (O_ (((K_ (row1 .u8) l).length:Int)-4).toNat l)) (m:=Q_ ((K_ (row1 .u8) l).length-(((K_ (row1 .u8) l).length:Int)-4).toNat) (O_ (((K_ (row1 .u8) l).length:Int)-4).toNat l)) g_ rfl)) .nil)))<|.d2 oz24 (f0_ ((!decide (F (crcL (Q_ ((((K_ (row1 .u8) l).length:Int)-4).toNat-0) (O_ 0 l)))=Q_ ((K_ (row1 .u8) l).length-(((K_ (row1 .u8) l).length:Int)-4).toNat) (O_ (((K_ (row1 .u8) l).length:Int)-4).toNat l)))=true)))
structure RD (F:Int→List Int) (l:List Int) (s:Rst) (R:Nat→Rrf) (r1 r2 r3 r4:Rrf) (A B C D N:Int):Prop where
 hF:P4 F
 h8:8≤l.length
 hb:l.length≤1048576
 hx:∀ x∈l,0≤x∧x≤255
 hm:l.take 4=[83,84,87,49]
 hs:F (crcL (l.take (l.length-4)))=l.drop (l.length-4)
 c1:hRm_ 34 (Q_ ((((l.map (row1 .u8)).length:Int)-4).toNat-4) (O_ 4 l)) (0,0) 16 A r1
 c2:hRm_ 34 (Q_ ((((l.map (row1 .u8)).length:Int)-4).toNat-4) (O_ 4 l)) r1 16 B r2
 c3:hRm_ 34 (Q_ ((((l.map (row1 .u8)).length:Int)-4).toNat-4) (O_ 4 l)) r2 1024 C r3
 c4:hRm_ 34 (Q_ ((((l.map (row1 .u8)).length:Int)-4).toNat-4) (O_ 4 l)) r3 16 D r4
 c5:hRm_ 34 (Q_ ((((l.map (row1 .u8)).length:Int)-4).toNat-4) (O_ 4 l)) r4 3 N (R 0)
 hv:∀ k,k<N.toNat→VM M_ 35 [.ptr 100000 0 0] [(100000,.var (rrC (Q_ ((((l.map (row1 .u8)).length:Int)-4).toNat-4) (O_ 4 l)) (R k)))] (.tup [.agg [.sl 5 ((mdlT (muS s k)).1.1.map blcC)],i64 (mdlT (muS s k)).1.2]) [(100000,.var (rrC (Q_ ((((l.map (row1 .u8)).length:Int)-4).toNat-4) (O_ 4 l)) (R (k+1))))]
 hN:0≤N∧N≤3
theorem rdec_n (F:Int→List Int) (l:List Int) (s:Rst) (R:Nat→Rrf) (r1 r2 r3 r4:Rrf) (A B C D N:Int) (m:Nat) (H:RD F l s R r1 r2 r3 r4 A B C D N) (hk:m<N.toNat) (hf:(mdlT (muS s m)).1.2≠0) (hh:∀ k,k<m→(mdlT (muS s k)).1.2=0):VC M_ 13 ([ints .u8 l]) (.tup [.agg [i64 0,i64 0,i64 0,i64 0,nilv],i64 (mdlT (muS s m)).1.2]):=by
 obtain ⟨hF,h8,hb,hx,hm,hs,c1,c2,c3,c4,c5,hv,hN⟩:=H
 obtain ⟨ql,q0,q1,q2,q3,q4,z,q5⟩:=rdf hF h8 hb hx hm
 have z2:=rdz q0 q5 hs
 clear q0 q5
 have oz11:=(i6n (((K_ (row1 .u8) l).length:Int)-4) a_)
 have oz13:=(s_ (((K_ (row1 .u8) l).length:Int)-4=(↑(((K_ (row1 .u8) l).length:Int)-4).toNat:Int)))
 have oz15:=(s_ ((((K_ (row1 .u8) l).length:Int)-4).toNat≤(K_ (row1 .u8) l).length))
 have oz17:=@rcrc_v (Q_ ((((K_ (row1 .u8) l).length:Int)-4).toNat-0) (O_ 0 l)) q1 a_
 have oz18:=@r4_v (F) hF (crcL (Q_ ((((K_ (row1 .u8) l).length:Int)-4).toNat-0) (O_ 0 l))) a_ a_
 have oz24:=@same06_w (F (crcL (Q_ ((((K_ (row1 .u8) l).length:Int)-4).toNat-0) (O_ 0 l)))) (Q_ ((K_ (row1 .u8) l).length-(((K_ (row1 .u8) l).length:Int)-4).toNat) (O_ (((K_ (row1 .u8) l).length:Int)-4).toNat l)) a_
 have oz30:=@VM.pre _ _ ([AV.ptr 100000 0 0,i64 16]) _ ([(100000,Blk.var [AV.sl 1 (Q_ ((((K_ (row1 .u8) l).length:Int)-4).toNat-4) (O_ 4 (K_ (row1 .u8) l))),i64 0,i64 0])]) _ _ _ ([GI.blk 100000 (Blk.var [AV.sl 1 (K_ (row1 .u8) (Q_ ((((K_ (row1 .u8) l).length:Int)-4).toNat-4) (O_ 4 l))),i64 (↑0:Int),i64 0]),GI.sort]) _ (@c1) w_ (.d (BlkW.var (m:=[AV.sl 1 (K_ (row1 .u8) (Q_ ((((K_ (row1 .u8) l).length:Int)-4).toNat-4) (O_ 4 l))),i64 (↑0:Int),i64 0]) (.cons (AH_ (rows_to (row1 .u8) (r:=Q_ ((((K_ (row1 .u8) l).length:Int)-4).toNat-4) (O_ 4 (K_ (row1 .u8) l))) (l:=Q_ ((((K_ (row1 .u8) l).length:Int)-4).toNat-4) (O_ 4 l)) (m:=Q_ ((((K_ (row1 .u8) l).length:Int)-4).toNat-4) (O_ 4 l)) g_ rfl)) (.cons (N_ (show ((0):Int)=((↑0:Int)) from a_)) (.cons (.refl _) .nil)))))
 have oz31:=@c2
 have oz32:=@c3
 have oz33:=@c4
 have oz34:=@c5
 have oz37:=@rtk_n (A) (B) (C) (D) (N) (s) (Q_ ((((K_ (row1 .u8) l).length:Int)-4).toNat-4) (O_ 4 l)) (R) (m) hN hv hk hf hh
 exact cR_ [r_,r_,d_,r_,d_,.r [] [.row [u8 (l.getD 0 0)],o_,o_,.row [u8 (l.getD 1 0)],o_,o_,.sel 1,o_,o_,.row [u8 (l.getD 2 0)],o_,o_,.sel 1,o_,o_,.row [u8 (l.getD 3 0)],o_,o_,.sel 1],d_,.r [] [.n (nO oz11)],.r [] [.nats 0 (((K_ (row1 .u8) l).length:Int)-4).toNat,ca oz17,cr oz18,.nats (((K_ (row1 .u8) l).length:Int)-4).toNat (K_ (row1 .u8) l).length,ca oz24],d_,.r [] [.nats 4 (((K_ (row1 .u8) l).length:Int)-4).toNat],.r [] [.callm [(61,100000)] [] (rM oz30) (oM oz30),.callm [(61,100000)] [] (rM oz31) (oM oz31),.callm [(61,100000)] [] (rM oz32) (oM oz32),.callm [(61,100000)] [] (rM oz33) (oM oz33)],.r [] [.callm [(61,100000)] [] (rM oz34) (oM oz34)],r_,.code [.any (rg [(0,1),(3,2),(12,3),(16,3),(20,5),(29,2),(35,2),(41,1),(43,13),(57,17)]),.weak 8 (i64 (↑0:Int)),.nilc 900 44 1 6 4,.blk 2 (Blk.var [AV.any,AV.any,AV.any,AV.any,AV.any]),.sort] (DT_) (zO oz37)] _ Tryz.func13 (.c8 (decide_eq_false (p:=(((K_ (row1 .u8) l).length:Int)>1048576)) a_) (decide_eq_false (p:=(((K_ (row1 .u8) l).length:Int)<8)) a_) z3_ (map_at (row1 .u8) (0) (l:=l) (i:=0) a_) z9_ (map_at (row1 .u8) (0) (l:=l) (i:=1) a_) z16_ (map_at (row1 .u8) (0) (l:=l) (i:=2) a_)<|.c8 z18_ (map_at (row1 .u8) (0) (l:=l) (i:=3) a_) z oz11 z4_ oz13 (s_ (0≤(((K_ (row1 .u8) l).length:Int)-4).toNat)) oz15<|.c8 (show WeakL [AV.sl 1 (Q_ ((((K_ (row1 .u8) l).length:Int)-4).toNat-0) (O_ 0 (K_ (row1 .u8) l)))] [AV.sl 1 (K_ (row1 .u8) (Q_ ((((K_ (row1 .u8) l).length:Int)-4).toNat-0) (O_ 0 l)))] from (.cons (AH_ (rows_to (row1 .u8) (r:=Q_ ((((K_ (row1 .u8) l).length:Int)-4).toNat-0) (O_ 0 (K_ (row1 .u8) l))) (l:=Q_ ((((K_ (row1 .u8) l).length:Int)-4).toNat-0) (O_ 0 l)) (m:=Q_ ((((K_ (row1 .u8) l).length:Int)-4).toNat-0) (O_ 0 l)) g_ rfl)) .nil)) oz17 oz18 oz13 (h0_ ((K_ (row1 .u8) l).length=(K_ (row1 .u8) l).length)) oz15 (s_ ((K_ (row1 .u8) l).length≤(K_ (row1 .u8) l).length)) (show WeakL [AV.sl 1 (K_ (row1 .u8) (F (crcL (Q_ ((((K_ (row1 .u8) l).length:Int)-4).toNat-0) (O_ 0 l))))),AV.sl 1 (Q_ ((K_ (row1 .u8) l).length-(((K_ (row1 .u8) l).length:Int)-4).toNat) (O_ (((K_ (row1 .u8) l).length:Int)-4).toNat (K_ (row1 .u8) l)))] [AV.sl 1 (K_ (row1 .u8) (F (crcL (Q_ ((((K_ (row1 .u8) l).length:Int)-4).toNat-0) (O_ 0 l))))),AV.sl 1 (K_ (row1 .u8) (Q_ ((K_ (row1 .u8) l).length-(((K_ (row1 .u8) l).length:Int)-4).toNat) (O_ (((K_ (row1 .u8) l).length:Int)-4).toNat l)))] from (.cons (.refl _) (.cons (AH_ (rows_to (row1 .u8) (r:=Q_ ((K_ (row1 .u8) l).length-(((K_ (row1 .u8) l).length:Int)-4).toNat) (O_ (((K_ (row1 .u8) l).length:Int)-4).toNat (K_ (row1 .u8) l))) (l:=Q_ ((K_ (row1 .u8) l).length-(((K_ (row1 .u8) l).length:Int)-4).toNat) (O_ (((K_ (row1 .u8) l).length:Int)-4).toNat l)) (m:=Q_ ((K_ (row1 .u8) l).length-(((K_ (row1 .u8) l).length:Int)-4).toNat) (O_ (((K_ (row1 .u8) l).length:Int)-4).toNat l)) g_ rfl)) .nil)))<|.c8 oz24 (f0_ ((!decide (F (crcL (Q_ ((((K_ (row1 .u8) l).length:Int)-4).toNat-0) (O_ 0 l)))=Q_ ((K_ (row1 .u8) l).length-(((K_ (row1 .u8) l).length:Int)-4).toNat) (O_ (((K_ (row1 .u8) l).length:Int)-4).toNat l)))=false)) z2_ oz13 (s_ (4≤(((K_ (row1 .u8) l).length:Int)-4).toNat)) oz15 oz30 oz31<|.d6 oz32 oz33 oz34 w0_ (show BlkW (Blk.var [i64 (0:Int),i64 (0:Int),i64 (0:Int),i64 (0:Int),AV.lit (AK_ none (0:Nat) (0:Nat))]) (Blk.var [AV.any,AV.any,AV.any,AV.any,AV.any]) from (BlkW.var (m:=[AV.any,AV.any,AV.any,AV.any,AV.any]) (.cons (AG_ _) (.cons (AG_ _) (.cons (AG_ _) (.cons (AG_ _) (.cons (AG_ _) .nil))))))) oz37)
theorem rdec_e (F:Int→List Int) (l:List Int) (s:Rst) (R:Nat→Rrf) (r1 r2 r3 r4:Rrf) (A B C D N e:Int) (H:RD F l s R r1 r2 r3 r4 A B C D N) (hh:∀ k,k<N.toNat→(mdlT (muS s k)).1.2=0) (ve:hRo_ 36 (Q_ ((((l.map (row1 .u8)).length:Int)-4).toNat-4) (O_ 4 l)) (R N.toNat) e (R N.toNat)) (he:e≠0):VC M_ 13 ([ints .u8 l]) (.tup [.agg [i64 0,i64 0,i64 0,i64 0,nilv],i64 e]):=by
 obtain ⟨hF,h8,hb,hx,hm,hs,c1,c2,c3,c4,c5,hv,hN⟩:=H
 obtain ⟨ql,q0,q1,q2,q3,q4,z,q5⟩:=rdf hF h8 hb hx hm
 have z2:=rdz q0 q5 hs
 clear q0 q5
 have oz11:=(i6n (((K_ (row1 .u8) l).length:Int)-4) a_)
 have oz13:=(s_ (((K_ (row1 .u8) l).length:Int)-4=(↑(((K_ (row1 .u8) l).length:Int)-4).toNat:Int)))
 have oz15:=(s_ ((((K_ (row1 .u8) l).length:Int)-4).toNat≤(K_ (row1 .u8) l).length))
 have oz17:=@rcrc_v (Q_ ((((K_ (row1 .u8) l).length:Int)-4).toNat-0) (O_ 0 l)) q1 a_
 have oz18:=@r4_v (F) hF (crcL (Q_ ((((K_ (row1 .u8) l).length:Int)-4).toNat-0) (O_ 0 l))) a_ a_
 have oz24:=@same06_w (F (crcL (Q_ ((((K_ (row1 .u8) l).length:Int)-4).toNat-0) (O_ 0 l)))) (Q_ ((K_ (row1 .u8) l).length-(((K_ (row1 .u8) l).length:Int)-4).toNat) (O_ (((K_ (row1 .u8) l).length:Int)-4).toNat l)) a_
 have oz30:=@VM.pre _ _ ([AV.ptr 100000 0 0,i64 16]) _ ([(100000,Blk.var [AV.sl 1 (Q_ ((((K_ (row1 .u8) l).length:Int)-4).toNat-4) (O_ 4 (K_ (row1 .u8) l))),i64 0,i64 0])]) _ _ _ ([GI.blk 100000 (Blk.var [AV.sl 1 (K_ (row1 .u8) (Q_ ((((K_ (row1 .u8) l).length:Int)-4).toNat-4) (O_ 4 l))),i64 (↑0:Int),i64 0]),GI.sort]) _ (@c1) w_ (.d (BlkW.var (m:=[AV.sl 1 (K_ (row1 .u8) (Q_ ((((K_ (row1 .u8) l).length:Int)-4).toNat-4) (O_ 4 l))),i64 (↑0:Int),i64 0]) (.cons (AH_ (rows_to (row1 .u8) (r:=Q_ ((((K_ (row1 .u8) l).length:Int)-4).toNat-4) (O_ 4 (K_ (row1 .u8) l))) (l:=Q_ ((((K_ (row1 .u8) l).length:Int)-4).toNat-4) (O_ 4 l)) (m:=Q_ ((((K_ (row1 .u8) l).length:Int)-4).toNat-4) (O_ 4 l)) g_ rfl)) (.cons (N_ (show ((0):Int)=((↑0:Int)) from a_)) (.cons (.refl _) .nil)))))
 have oz31:=@c2
 have oz32:=@c3
 have oz33:=@c4
 have oz34:=@c5
 have oz37:=@rtk_y (A) (B) (C) (D) (N) (s) (Q_ ((((K_ (row1 .u8) l).length:Int)-4).toNat-4) (O_ 4 l)) (R) hN hv hh
 have oz38:=@ve
 exact cR_ [r_,r_,d_,r_,d_,.r [] [.row [u8 (l.getD 0 0)],o_,o_,.row [u8 (l.getD 1 0)],o_,o_,.sel 1,o_,o_,.row [u8 (l.getD 2 0)],o_,o_,.sel 1,o_,o_,.row [u8 (l.getD 3 0)],o_,o_,.sel 1],d_,.r [] [.n (nO oz11)],.r [] [.nats 0 (((K_ (row1 .u8) l).length:Int)-4).toNat,ca oz17,cr oz18,.nats (((K_ (row1 .u8) l).length:Int)-4).toNat (K_ (row1 .u8) l).length,ca oz24],d_,.r [] [.nats 4 (((K_ (row1 .u8) l).length:Int)-4).toNat],.r [] [.callm [(61,100000)] [] (rM oz30) (oM oz30),.callm [(61,100000)] [] (rM oz31) (oM oz31),.callm [(61,100000)] [] (rM oz32) (oM oz32),.callm [(61,100000)] [] (rM oz33) (oM oz33)],.r [] [.callm [(61,100000)] [] (rM oz34) (oM oz34)],r_,.code [.any (rg [(0,1),(3,2),(12,3),(16,3),(20,5),(29,2),(35,2),(41,1),(43,13),(57,17)]),.weak 8 (i64 (↑0:Int)),.nilc 900 44 1 6 4,.blk 2 (Blk.var [AV.any,AV.any,AV.any,AV.any,AV.any]),.sort] (BS_ 0) (zO oz37),.r [] [.callm [(61,100000)] [] (rM oz38) (oM oz38)],b_,.r [] [.callm [(61,100000)] [] (rM oz38) (oM oz38)]] _ Tryz.func13 (.c8 (decide_eq_false (p:=(((K_ (row1 .u8) l).length:Int)>1048576)) a_) (decide_eq_false (p:=(((K_ (row1 .u8) l).length:Int)<8)) a_) z3_ (map_at (row1 .u8) (0) (l:=l) (i:=0) a_) z9_ (map_at (row1 .u8) (0) (l:=l) (i:=1) a_) z16_ (map_at (row1 .u8) (0) (l:=l) (i:=2) a_)<|.c8 z18_ (map_at (row1 .u8) (0) (l:=l) (i:=3) a_) z oz11 z4_ oz13 (s_ (0≤(((K_ (row1 .u8) l).length:Int)-4).toNat)) oz15<|.c8 (show WeakL [AV.sl 1 (Q_ ((((K_ (row1 .u8) l).length:Int)-4).toNat-0) (O_ 0 (K_ (row1 .u8) l)))] [AV.sl 1 (K_ (row1 .u8) (Q_ ((((K_ (row1 .u8) l).length:Int)-4).toNat-0) (O_ 0 l)))] from (.cons (AH_ (rows_to (row1 .u8) (r:=Q_ ((((K_ (row1 .u8) l).length:Int)-4).toNat-0) (O_ 0 (K_ (row1 .u8) l))) (l:=Q_ ((((K_ (row1 .u8) l).length:Int)-4).toNat-0) (O_ 0 l)) (m:=Q_ ((((K_ (row1 .u8) l).length:Int)-4).toNat-0) (O_ 0 l)) g_ rfl)) .nil)) oz17 oz18 oz13 (h0_ ((K_ (row1 .u8) l).length=(K_ (row1 .u8) l).length)) oz15 (s_ ((K_ (row1 .u8) l).length≤(K_ (row1 .u8) l).length)) (show WeakL [AV.sl 1 (K_ (row1 .u8) (F (crcL (Q_ ((((K_ (row1 .u8) l).length:Int)-4).toNat-0) (O_ 0 l))))),AV.sl 1 (Q_ ((K_ (row1 .u8) l).length-(((K_ (row1 .u8) l).length:Int)-4).toNat) (O_ (((K_ (row1 .u8) l).length:Int)-4).toNat (K_ (row1 .u8) l)))] [AV.sl 1 (K_ (row1 .u8) (F (crcL (Q_ ((((K_ (row1 .u8) l).length:Int)-4).toNat-0) (O_ 0 l))))),AV.sl 1 (K_ (row1 .u8) (Q_ ((K_ (row1 .u8) l).length-(((K_ (row1 .u8) l).length:Int)-4).toNat) (O_ (((K_ (row1 .u8) l).length:Int)-4).toNat l)))] from (.cons (.refl _) (.cons (AH_ (rows_to (row1 .u8) (r:=Q_ ((K_ (row1 .u8) l).length-(((K_ (row1 .u8) l).length:Int)-4).toNat) (O_ (((K_ (row1 .u8) l).length:Int)-4).toNat (K_ (row1 .u8) l))) (l:=Q_ ((K_ (row1 .u8) l).length-(((K_ (row1 .u8) l).length:Int)-4).toNat) (O_ (((K_ (row1 .u8) l).length:Int)-4).toNat l)) (m:=Q_ ((K_ (row1 .u8) l).length-(((K_ (row1 .u8) l).length:Int)-4).toNat) (O_ (((K_ (row1 .u8) l).length:Int)-4).toNat l)) g_ rfl)) .nil)))<|.c8 oz24 (f0_ ((!decide (F (crcL (Q_ ((((K_ (row1 .u8) l).length:Int)-4).toNat-0) (O_ 0 l)))=Q_ ((K_ (row1 .u8) l).length-(((K_ (row1 .u8) l).length:Int)-4).toNat) (O_ (((K_ (row1 .u8) l).length:Int)-4).toNat l)))=false)) z2_ oz13 (s_ (4≤(((K_ (row1 .u8) l).length:Int)-4).toNat)) oz15 oz30 oz31<|.c8 oz32 oz33 oz34 w0_ (show BlkW (Blk.var [i64 (0:Int),i64 (0:Int),i64 (0:Int),i64 (0:Int),AV.lit (AK_ none (0:Nat) (0:Nat))]) (Blk.var [AV.any,AV.any,AV.any,AV.any,AV.any]) from (BlkW.var (m:=[AV.any,AV.any,AV.any,AV.any,AV.any]) (.cons (AG_ _) (.cons (AG_ _) (.cons (AG_ _) (.cons (AG_ _) (.cons (AG_ _) .nil))))))) oz37 oz38 (h_ ((e != 0)=true))<|.d oz38)
theorem rdec_w (F:Int→List Int) (l:List Int) (s:Rst) (R:Nat→Rrf) (r1 r2 r3 r4:Rrf) (A B C D N:Int) (H:RD F l s R r1 r2 r3 r4 A B C D N) (hh:∀ k,k<N.toNat→(mdlT (muS s k)).1.2=0) (ve:hRo_ 36 (Q_ ((((l.map (row1 .u8)).length:Int)-4).toNat-4) (O_ 4 l)) (R N.toNat) 0 (R N.toNat)) (ok:Bun.Ok ⟨A,B,C,D,muL s N.toNat⟩) (sm:Bun.Sm ⟨A,B,C,D,muL s N.toNat⟩) (he:(bunE ⟨A,B,C,D,muL s N.toNat⟩).w≠0):VC M_ 13 ([ints .u8 l]) (.tup [.agg [i64 0,i64 0,i64 0,i64 0,nilv],i64 (bunE ⟨A,B,C,D,muL s N.toNat⟩).w]):=by
 obtain ⟨hF,h8,hb,hx,hm,hs,c1,c2,c3,c4,c5,hv,hN⟩:=H
 obtain ⟨ql,q0,q1,q2,q3,q4,z,q5⟩:=rdf hF h8 hb hx hm
 have z2:=rdz q0 q5 hs
 clear q0 q5
 have oz11:=(i6n (((K_ (row1 .u8) l).length:Int)-4) a_)
 have oz13:=(s_ (((K_ (row1 .u8) l).length:Int)-4=(↑(((K_ (row1 .u8) l).length:Int)-4).toNat:Int)))
 have oz15:=(s_ ((((K_ (row1 .u8) l).length:Int)-4).toNat≤(K_ (row1 .u8) l).length))
 have oz17:=@rcrc_v (Q_ ((((K_ (row1 .u8) l).length:Int)-4).toNat-0) (O_ 0 l)) q1 a_
 have oz18:=@r4_v (F) hF (crcL (Q_ ((((K_ (row1 .u8) l).length:Int)-4).toNat-0) (O_ 0 l))) a_ a_
 have oz24:=@same06_w (F (crcL (Q_ ((((K_ (row1 .u8) l).length:Int)-4).toNat-0) (O_ 0 l)))) (Q_ ((K_ (row1 .u8) l).length-(((K_ (row1 .u8) l).length:Int)-4).toNat) (O_ (((K_ (row1 .u8) l).length:Int)-4).toNat l)) a_
 have oz30:=@VM.pre _ _ ([AV.ptr 100000 0 0,i64 16]) _ ([(100000,Blk.var [AV.sl 1 (Q_ ((((K_ (row1 .u8) l).length:Int)-4).toNat-4) (O_ 4 (K_ (row1 .u8) l))),i64 0,i64 0])]) _ _ _ ([GI.blk 100000 (Blk.var [AV.sl 1 (K_ (row1 .u8) (Q_ ((((K_ (row1 .u8) l).length:Int)-4).toNat-4) (O_ 4 l))),i64 (↑0:Int),i64 0]),GI.sort]) _ (@c1) w_ (.d (BlkW.var (m:=[AV.sl 1 (K_ (row1 .u8) (Q_ ((((K_ (row1 .u8) l).length:Int)-4).toNat-4) (O_ 4 l))),i64 (↑0:Int),i64 0]) (.cons (AH_ (rows_to (row1 .u8) (r:=Q_ ((((K_ (row1 .u8) l).length:Int)-4).toNat-4) (O_ 4 (K_ (row1 .u8) l))) (l:=Q_ ((((K_ (row1 .u8) l).length:Int)-4).toNat-4) (O_ 4 l)) (m:=Q_ ((((K_ (row1 .u8) l).length:Int)-4).toNat-4) (O_ 4 l)) g_ rfl)) (.cons (N_ (show ((0):Int)=((↑0:Int)) from a_)) (.cons (.refl _) .nil)))))
 have oz31:=@c2
 have oz32:=@c3
 have oz33:=@c4
 have oz34:=@c5
 have oz37:=@rtk_y (A) (B) (C) (D) (N) (s) (Q_ ((((K_ (row1 .u8) l).length:Int)-4).toNat-4) (O_ 4 l)) (R) hN hv hh
 have oz38:=@ve
 have oz40:=@rvbundle_v (Bun.mk A B C D (muL s N.toNat)) ok sm
 exact cR_ [r_,r_,d_,r_,d_,.r [] [.row [u8 (l.getD 0 0)],o_,o_,.row [u8 (l.getD 1 0)],o_,o_,.sel 1,o_,o_,.row [u8 (l.getD 2 0)],o_,o_,.sel 1,o_,o_,.row [u8 (l.getD 3 0)],o_,o_,.sel 1],d_,.r [] [.n (nO oz11)],.r [] [.nats 0 (((K_ (row1 .u8) l).length:Int)-4).toNat,ca oz17,cr oz18,.nats (((K_ (row1 .u8) l).length:Int)-4).toNat (K_ (row1 .u8) l).length,ca oz24],d_,.r [] [.nats 4 (((K_ (row1 .u8) l).length:Int)-4).toNat],.r [] [.callm [(61,100000)] [] (rM oz30) (oM oz30),.callm [(61,100000)] [] (rM oz31) (oM oz31),.callm [(61,100000)] [] (rM oz32) (oM oz32),.callm [(61,100000)] [] (rM oz33) (oM oz33)],.r [] [.callm [(61,100000)] [] (rM oz34) (oM oz34)],r_,.code [.any (rg [(0,1),(3,2),(12,3),(16,3),(20,5),(29,2),(35,2),(41,1),(43,13),(57,17)]),.weak 8 (i64 (↑0:Int)),.nilc 900 44 1 6 4,.blk 2 (Blk.var [AV.any,AV.any,AV.any,AV.any,AV.any]),.sort] (BS_ 0) (zO oz37),.r [] [.callm [(61,100000)] [] (rM oz38) (oM oz38)],d_,.r [] [cr oz40],r_,b_,r_] _ Tryz.func13 (.c8 (decide_eq_false (p:=(((K_ (row1 .u8) l).length:Int)>1048576)) z_) (decide_eq_false (p:=(((K_ (row1 .u8) l).length:Int)<8)) z_) z3_ (map_at (row1 .u8) (0) (l:=l) (i:=0) z_) z9_ (map_at (row1 .u8) (0) (l:=l) (i:=1) z_) z16_ (map_at (row1 .u8) (0) (l:=l) (i:=2) z_)<|.c8 z18_ (map_at (row1 .u8) (0) (l:=l) (i:=3) z_) z oz11 z4_ oz13 (s_ (0≤(((K_ (row1 .u8) l).length:Int)-4).toNat)) oz15<|.c8 (show WeakL [AV.sl 1 (Q_ ((((K_ (row1 .u8) l).length:Int)-4).toNat-0) (O_ 0 (K_ (row1 .u8) l)))] [AV.sl 1 (K_ (row1 .u8) (Q_ ((((K_ (row1 .u8) l).length:Int)-4).toNat-0) (O_ 0 l)))] from (.cons (AH_ (rows_to (row1 .u8) (r:=Q_ ((((K_ (row1 .u8) l).length:Int)-4).toNat-0) (O_ 0 (K_ (row1 .u8) l))) (l:=Q_ ((((K_ (row1 .u8) l).length:Int)-4).toNat-0) (O_ 0 l)) (m:=Q_ ((((K_ (row1 .u8) l).length:Int)-4).toNat-0) (O_ 0 l)) g_ rfl)) .nil)) oz17 oz18 oz13 (h0_ ((K_ (row1 .u8) l).length=(K_ (row1 .u8) l).length)) oz15 (s_ ((K_ (row1 .u8) l).length≤(K_ (row1 .u8) l).length)) (show WeakL [AV.sl 1 (K_ (row1 .u8) (F (crcL (Q_ ((((K_ (row1 .u8) l).length:Int)-4).toNat-0) (O_ 0 l))))),AV.sl 1 (Q_ ((K_ (row1 .u8) l).length-(((K_ (row1 .u8) l).length:Int)-4).toNat) (O_ (((K_ (row1 .u8) l).length:Int)-4).toNat (K_ (row1 .u8) l)))] [AV.sl 1 (K_ (row1 .u8) (F (crcL (Q_ ((((K_ (row1 .u8) l).length:Int)-4).toNat-0) (O_ 0 l))))),AV.sl 1 (K_ (row1 .u8) (Q_ ((K_ (row1 .u8) l).length-(((K_ (row1 .u8) l).length:Int)-4).toNat) (O_ (((K_ (row1 .u8) l).length:Int)-4).toNat l)))] from (.cons (.refl _) (.cons (AH_ (rows_to (row1 .u8) (r:=Q_ ((K_ (row1 .u8) l).length-(((K_ (row1 .u8) l).length:Int)-4).toNat) (O_ (((K_ (row1 .u8) l).length:Int)-4).toNat (K_ (row1 .u8) l))) (l:=Q_ ((K_ (row1 .u8) l).length-(((K_ (row1 .u8) l).length:Int)-4).toNat) (O_ (((K_ (row1 .u8) l).length:Int)-4).toNat l)) (m:=Q_ ((K_ (row1 .u8) l).length-(((K_ (row1 .u8) l).length:Int)-4).toNat) (O_ (((K_ (row1 .u8) l).length:Int)-4).toNat l)) g_ rfl)) .nil)))<|.c8 oz24 (f0_ ((!decide (F (crcL (Q_ ((((K_ (row1 .u8) l).length:Int)-4).toNat-0) (O_ 0 l)))=Q_ ((K_ (row1 .u8) l).length-(((K_ (row1 .u8) l).length:Int)-4).toNat) (O_ (((K_ (row1 .u8) l).length:Int)-4).toNat l)))=false)) z2_ oz13 (s_ (4≤(((K_ (row1 .u8) l).length:Int)-4).toNat)) oz15 oz30 oz31<|.c8 oz32 oz33 oz34 (N_ (k:=.i64) (show ((0):Int)=((↑0:Int)) from z_)) (show BlkW (Blk.var [i64 (0:Int),i64 (0:Int),i64 (0:Int),i64 (0:Int),AV.lit (AK_ none (0:Nat) (0:Nat))]) (Blk.var [AV.any,AV.any,AV.any,AV.any,AV.any]) from (BlkW.var (m:=[AV.any,AV.any,AV.any,AV.any,AV.any]) (.cons (AG_ _) (.cons (AG_ _) (.cons (AG_ _) (.cons (AG_ _) (.cons (AG_ _) .nil))))))) oz37 oz38 z1_<|.d2 oz40 (h_ (((bunE (Bun.mk A B C D (muL s N.toNat))).w != 0)=true)))
theorem rdec_y (F:Int→List Int) (l:List Int) (s:Rst) (R:Nat→Rrf) (r1 r2 r3 r4:Rrf) (A B C D N:Int) (H:RD F l s R r1 r2 r3 r4 A B C D N) (hh:∀ k,k<N.toNat→(mdlT (muS s k)).1.2=0) (ve:hRo_ 36 (Q_ ((((l.map (row1 .u8)).length:Int)-4).toNat-4) (O_ 4 l)) (R N.toNat) 0 (R N.toNat)) (ok:Bun.Ok ⟨A,B,C,D,muL s N.toNat⟩) (sm:Bun.Sm ⟨A,B,C,D,muL s N.toNat⟩) (he:(bunE ⟨A,B,C,D,muL s N.toNat⟩).w=0):VC M_ 13 ([ints .u8 l]) (.tup [bun ⟨A,B,C,D,muL s N.toNat⟩,i64 0]):=by
 obtain ⟨hF,h8,hb,hx,hm,hs,c1,c2,c3,c4,c5,hv,hN⟩:=H
 obtain ⟨ql,q0,q1,q2,q3,q4,z,q5⟩:=rdf hF h8 hb hx hm
 have z2:=rdz q0 q5 hs
 clear q0 q5
 have oz11:=(i6n (((K_ (row1 .u8) l).length:Int)-4) a_)
 have oz13:=(s_ (((K_ (row1 .u8) l).length:Int)-4=(↑(((K_ (row1 .u8) l).length:Int)-4).toNat:Int)))
 have oz15:=(s_ ((((K_ (row1 .u8) l).length:Int)-4).toNat≤(K_ (row1 .u8) l).length))
 have oz17:=@rcrc_v (Q_ ((((K_ (row1 .u8) l).length:Int)-4).toNat-0) (O_ 0 l)) q1 a_
 have oz18:=@r4_v (F) hF (crcL (Q_ ((((K_ (row1 .u8) l).length:Int)-4).toNat-0) (O_ 0 l))) a_ a_
 have oz24:=@same06_w (F (crcL (Q_ ((((K_ (row1 .u8) l).length:Int)-4).toNat-0) (O_ 0 l)))) (Q_ ((K_ (row1 .u8) l).length-(((K_ (row1 .u8) l).length:Int)-4).toNat) (O_ (((K_ (row1 .u8) l).length:Int)-4).toNat l)) a_
 have oz30:=@VM.pre _ _ ([AV.ptr 100000 0 0,i64 16]) _ ([(100000,Blk.var [AV.sl 1 (Q_ ((((K_ (row1 .u8) l).length:Int)-4).toNat-4) (O_ 4 (K_ (row1 .u8) l))),i64 0,i64 0])]) _ _ _ ([GI.blk 100000 (Blk.var [AV.sl 1 (K_ (row1 .u8) (Q_ ((((K_ (row1 .u8) l).length:Int)-4).toNat-4) (O_ 4 l))),i64 (↑0:Int),i64 0]),GI.sort]) _ (@c1) w_ (.d (BlkW.var (m:=[AV.sl 1 (K_ (row1 .u8) (Q_ ((((K_ (row1 .u8) l).length:Int)-4).toNat-4) (O_ 4 l))),i64 (↑0:Int),i64 0]) (.cons (AH_ (rows_to (row1 .u8) (r:=Q_ ((((K_ (row1 .u8) l).length:Int)-4).toNat-4) (O_ 4 (K_ (row1 .u8) l))) (l:=Q_ ((((K_ (row1 .u8) l).length:Int)-4).toNat-4) (O_ 4 l)) (m:=Q_ ((((K_ (row1 .u8) l).length:Int)-4).toNat-4) (O_ 4 l)) g_ rfl)) (.cons (N_ (show ((0):Int)=((↑0:Int)) from a_)) (.cons (.refl _) .nil)))))
 have oz31:=@c2
 have oz32:=@c3
 have oz33:=@c4
 have oz34:=@c5
 have oz37:=@rtk_y (A) (B) (C) (D) (N) (s) (Q_ ((((K_ (row1 .u8) l).length:Int)-4).toNat-4) (O_ 4 l)) (R) hN hv hh
 have oz38:=@ve
 have oz40:=@rvbundle_v (Bun.mk A B C D (muL s N.toNat)) ok sm
 exact cR_ [r_,r_,d_,r_,d_,.r [] [.row [u8 (l.getD 0 0)],o_,o_,.row [u8 (l.getD 1 0)],o_,o_,.sel 1,o_,o_,.row [u8 (l.getD 2 0)],o_,o_,.sel 1,o_,o_,.row [u8 (l.getD 3 0)],o_,o_,.sel 1],d_,.r [] [.n (nO oz11)],.r [] [.nats 0 (((K_ (row1 .u8) l).length:Int)-4).toNat,ca oz17,cr oz18,.nats (((K_ (row1 .u8) l).length:Int)-4).toNat (K_ (row1 .u8) l).length,ca oz24],d_,.r [] [.nats 4 (((K_ (row1 .u8) l).length:Int)-4).toNat],.r [] [.callm [(61,100000)] [] (rM oz30) (oM oz30),.callm [(61,100000)] [] (rM oz31) (oM oz31),.callm [(61,100000)] [] (rM oz32) (oM oz32),.callm [(61,100000)] [] (rM oz33) (oM oz33)],.r [] [.callm [(61,100000)] [] (rM oz34) (oM oz34)],r_,.code [.any (rg [(0,1),(3,2),(12,3),(16,3),(20,5),(29,2),(35,2),(41,1),(43,13),(57,17)]),.weak 8 (i64 (↑0:Int)),.nilc 900 44 1 6 4,.blk 2 (Blk.var [AV.any,AV.any,AV.any,AV.any,AV.any]),.sort] (BS_ 0) (zO oz37),.r [] [.callm [(61,100000)] [] (rM oz38) (oM oz38)],d_,.r [] [cr oz40],r_,d_,r_] _ Tryz.func13 (.c8 (decide_eq_false (p:=(((K_ (row1 .u8) l).length:Int)>1048576)) z_) (decide_eq_false (p:=(((K_ (row1 .u8) l).length:Int)<8)) z_) z3_ (map_at (row1 .u8) (0) (l:=l) (i:=0) z_) z9_ (map_at (row1 .u8) (0) (l:=l) (i:=1) z_) z16_ (map_at (row1 .u8) (0) (l:=l) (i:=2) z_)<|.c8 z18_ (map_at (row1 .u8) (0) (l:=l) (i:=3) z_) z oz11 z4_ oz13 (s_ (0≤(((K_ (row1 .u8) l).length:Int)-4).toNat)) oz15<|.c8 (show WeakL [AV.sl 1 (Q_ ((((K_ (row1 .u8) l).length:Int)-4).toNat-0) (O_ 0 (K_ (row1 .u8) l)))] [AV.sl 1 (K_ (row1 .u8) (Q_ ((((K_ (row1 .u8) l).length:Int)-4).toNat-0) (O_ 0 l)))] from (.cons (AH_ (rows_to (row1 .u8) (r:=Q_ ((((K_ (row1 .u8) l).length:Int)-4).toNat-0) (O_ 0 (K_ (row1 .u8) l))) (l:=Q_ ((((K_ (row1 .u8) l).length:Int)-4).toNat-0) (O_ 0 l)) (m:=Q_ ((((K_ (row1 .u8) l).length:Int)-4).toNat-0) (O_ 0 l)) g_ rfl)) .nil)) oz17 oz18 oz13 (h0_ ((K_ (row1 .u8) l).length=(K_ (row1 .u8) l).length)) oz15 (s_ ((K_ (row1 .u8) l).length≤(K_ (row1 .u8) l).length)) (show WeakL [AV.sl 1 (K_ (row1 .u8) (F (crcL (Q_ ((((K_ (row1 .u8) l).length:Int)-4).toNat-0) (O_ 0 l))))),AV.sl 1 (Q_ ((K_ (row1 .u8) l).length-(((K_ (row1 .u8) l).length:Int)-4).toNat) (O_ (((K_ (row1 .u8) l).length:Int)-4).toNat (K_ (row1 .u8) l)))] [AV.sl 1 (K_ (row1 .u8) (F (crcL (Q_ ((((K_ (row1 .u8) l).length:Int)-4).toNat-0) (O_ 0 l))))),AV.sl 1 (K_ (row1 .u8) (Q_ ((K_ (row1 .u8) l).length-(((K_ (row1 .u8) l).length:Int)-4).toNat) (O_ (((K_ (row1 .u8) l).length:Int)-4).toNat l)))] from (.cons (.refl _) (.cons (AH_ (rows_to (row1 .u8) (r:=Q_ ((K_ (row1 .u8) l).length-(((K_ (row1 .u8) l).length:Int)-4).toNat) (O_ (((K_ (row1 .u8) l).length:Int)-4).toNat (K_ (row1 .u8) l))) (l:=Q_ ((K_ (row1 .u8) l).length-(((K_ (row1 .u8) l).length:Int)-4).toNat) (O_ (((K_ (row1 .u8) l).length:Int)-4).toNat l)) (m:=Q_ ((K_ (row1 .u8) l).length-(((K_ (row1 .u8) l).length:Int)-4).toNat) (O_ (((K_ (row1 .u8) l).length:Int)-4).toNat l)) g_ rfl)) .nil)))<|.c8 oz24 (f0_ ((!decide (F (crcL (Q_ ((((K_ (row1 .u8) l).length:Int)-4).toNat-0) (O_ 0 l)))=Q_ ((K_ (row1 .u8) l).length-(((K_ (row1 .u8) l).length:Int)-4).toNat) (O_ (((K_ (row1 .u8) l).length:Int)-4).toNat l)))=false)) z2_ oz13 (s_ (4≤(((K_ (row1 .u8) l).length:Int)-4).toNat)) oz15 oz30 oz31<|.c8 oz32 oz33 oz34 (N_ (k:=.i64) (show ((0):Int)=((↑0:Int)) from z_)) (show BlkW (Blk.var [i64 (0:Int),i64 (0:Int),i64 (0:Int),i64 (0:Int),AV.lit (AK_ none (0:Nat) (0:Nat))]) (Blk.var [AV.any,AV.any,AV.any,AV.any,AV.any]) from (BlkW.var (m:=[AV.any,AV.any,AV.any,AV.any,AV.any]) (.cons (AG_ _) (.cons (AG_ _) (.cons (AG_ _) (.cons (AG_ _) (.cons (AG_ _) .nil))))))) oz37 oz38 z1_<|.d2 oz40 (h_ (((bunE (Bun.mk A B C D (muL s N.toNat))).w != 0)=false)))
def hdK (L:Int→List Int) (q:List Int):Nat→List Int
 | 0=>[83,84,87,49]
 | k+1=>hdK L q k++L (q.getD k default)
structure Hds (L:Int→List Int) (H:Int→Int→Int→Int→Int→List Int):Prop where
 e:∀ h x c cl m,H h x c cl m=hdK L [h,x,c,cl,m] 5
def hdF (L:Int→List Int) (h x c cl m:Int):List Int:=hdK L [h,x,c,cl,m] 5
theorem hds (L:Int→List Int):Hds L (hdF L):=⟨fun _ _ _ _ _=>rfl⟩
def zipAll {α:Type} [Inhabited α] (p:α→α→Bool) (l m:List α):Bool:=decide (l.length=m.length)&&(List.range l.length).all fun k=>p (l.getD k default) (m.getD k default)
theorem zip_cases {α:Type} [Inhabited α] (p:α→α→Bool) (l m:List α):(l.length≠m.length∧zipAll p l m=false)∨(l.length=m.length∧(∀ k,k<l.length→p (l.getD k default) (m.getD k default)=true)∧zipAll p l m=true) ∨
  (l.length=m.length∧∃ i,i<l.length∧p (l.getD i default) (m.getD i default)=false∧(∀ k,k<i→p (l.getD k default) (m.getD k default)=true)∧zipAll p l m=false):=by
 unfold zipAll
 by_cases hl:l.length=m.length
 ·rcases all_or (fun k=>p (l.getD k default) (m.getD k default)) l.length with h|⟨i,h1,h2,h3⟩
  ·refine .inr (.inl ⟨hl,h,?_⟩)
   rw[decide_eq_true hl,BU_,List.all_eq_true]
   exact fun k hk=>h k (by simpa using hk)
  ·refine .inr (.inr ⟨hl,i,h1,h2,h3,?_⟩)
   rw[decide_eq_true hl,BU_,Bool.eq_false_iff]
   intro h
   rw[List.all_eq_true] at h
   have:=h i (by simpa using h1)
   rw[h2] at this;cases this
 ·exact .inl ⟨hl,by rw[decide_eq_false hl,BQ_]⟩
theorem zip_refl {α:Type} [Inhabited α] {p:α→α→Bool} {l:List α} (h:∀ x∈l,p x x=true):zipAll p l l=true:=by
 unfold zipAll
 rw[decide_eq_true rfl,BU_,List.all_eq_true]
 intro k hk
 have hk:k<l.length:=by simpa using hk
 rw[AU_,AP_ hk]
 exact h _ (CN_ hk)
structure Blc.Sz (x:Blc):Prop where
 l:x.n.length≤1000
 n:∀ n∈x.n,n.w.length≤100000∧n.b.length≤100000
 w:x.w.length≤100000
 b:x.b.length≤100000
def blcEq (x y:Blc):Bool:=decide (x.w=y.w)&&decide (x.b=y.b)&&(x.nd==y.nd)&&(x.ex==y.ex)&&zipAll nodEq x.n y.n
structure Mdl.Sz (m:Mdl):Prop where
 l:m.l.length≤1000
 b:∀ x∈m.l,x.Sz
def mdlEq (a b:Mdl):Bool:=zipAll blcEq a.l b.l
structure Bun.Sz (u:Bun):Prop where
 l:u.m.length≤1000
 b:∀ x∈u.m,x.Sz
def bunEq (a b:Bun):Bool:=a.h==b.h&&a.x==b.x&&a.c==b.c&&a.cl==b.cl&&zipAll mdlEq a.m b.m
noncomputable def lbk_ly_I (x y:Blc) (k:Nat):VS:=stt 68 [(2,.ptr 2 0 0),(3,.ptr 3 0 0),(5,i64 k)] [(2,.var (blcC x)),(3,.var (blcC y))]
noncomputable def lbk_ly_Z (x y:Blc):VS:=lbk_ly_I x y (x.n.length)
theorem lbk_ly_s (x y:Blc) (sz:x.Sz) (hl:x.n.length=y.n.length) (h:∀ k,k<x.n.length→nodEq (x.n.getD k default) (y.n.getD k default)=true) (k:Nat) (hk:k<x.n.length):VT M_ (fnC Tryz.f62 [1,1,0,1,0,0]) (lbk_ly_I x y k) .normal (lbk_ly_I x y (k+1)):=by
 have q:=h k hk
 have qz:=id sz
 have qm:=getD_in qz.n hk
 obtain ⟨qn1,qn2⟩:=qm
 have qb:=qz.l
 have oz1:=(s_ (0≤(↑k:Int)))
 have oz2:=(map_at (nodC) (default) (l:=x.n) (i:=k) hk)
 have oz4:=(map_at (nodC) (default) (l:=y.n) (i:=k) a_)
 have oz5:=@refSame_v (x.n.getD k default) (y.n.getD k default) qn1 qn2
 exact tR_ [r_,b_,.r [] [.row (sO oz2),.row (sO oz4),cr oz5],d_,.r [] [.n ((↑k:Int)+1)]] [.any (rg [(49,19)]),.weak 5 (i64 (↑(k+1):Int)),.sort] (.c8 (h_ (decide ((↑k:Int)<((K_ nodC x.n).length:Int))=true)) oz1 oz2 oz1 oz4 oz5 (f0_ ((!nodEq (x.n.getD k default) (y.n.getD k default))=false)) (i6n ((↑k:Int)+1) a_)<|.d (wS_ k))
theorem lbk_ly_e (x y:Blc) (sz:x.Sz) (hl:x.n.length=y.n.length) (h:∀ k,k<x.n.length→nodEq (x.n.getD k default) (y.n.getD k default)=true):VT M_ (fnC Tryz.f62 [1,1,0,1,0,0]) (lbk_ly_I x y (x.n.length)) (.exit 0) (lbk_ly_Z x y):=by
 exact tR_ [r_,d_] [.any (rg [(49,5)]),.sort] (.d (s0_ (decide ((x.n.length:Int)<((K_ nodC x.n).length:Int))=false)))
theorem lbk_ly (x y:Blc) (sz:x.Sz) (hl:x.n.length=y.n.length) (h:∀ k,k<x.n.length→nodEq (x.n.getD k default) (y.n.getD k default)=true):VT M_ (fnC Tryz.f62 [1,1,0,1,0]) (lbk_ly_I x y 0) (.exit 0) (lbk_ly_Z x y) :=
 VT.loop (fun k=>lbk_ly_I x y k) (x.n.length) (fun k hk=>lbk_ly_s x y sz hl h k hk) (lbk_ly_e x y sz hl h) c0_
noncomputable def lbk_ln_I (x y:Blc) (i:Nat) (k:Nat):VS:=stt 68 [(2,.ptr 2 0 0),(3,.ptr 3 0 0),(5,i64 k)] [(2,.var (blcC x)),(3,.var (blcC y))]
noncomputable def lbk_ln_Z (x y:Blc) (i:Nat):VS:=stt 68 [(4,bv false)] []
theorem lbk_ln_s (x y:Blc) (i:Nat) (sz:x.Sz) (hl:x.n.length=y.n.length) (hi:i<x.n.length) (hf:nodEq (x.n.getD i default) (y.n.getD i default)=false) (h:∀ k,k<i→nodEq (x.n.getD k default) (y.n.getD k default)=true) (k:Nat) (hk:k<i):VT M_ (fnC Tryz.f62 [1,1,0,1,0,0]) (lbk_ln_I x y i k) .normal (lbk_ln_I x y i (k+1)):=by
 have q:=h k hk
 have qz:=id sz
 have qm:=getD_in qz.n (s_ (k<x.n.length))
 obtain ⟨qn1,qn2⟩:=qm
 have qb:=qz.l
 have oz1:=(s_ (0≤(↑k:Int)))
 have oz2:=(map_at (nodC) (default) (l:=x.n) (i:=k) a_)
 have oz4:=(map_at (nodC) (default) (l:=y.n) (i:=k) a_)
 have oz5:=@refSame_v (x.n.getD k default) (y.n.getD k default) qn1 qn2
 exact tR_ [r_,b_,.r [] [.row (sO oz2),.row (sO oz4),cr oz5],d_,.r [] [.n ((↑k:Int)+1)]] [.any (rg [(49,19)]),.weak 5 (i64 (↑(k+1):Int)),.sort] (.c8 (h_ (decide ((↑k:Int)<((K_ nodC x.n).length:Int))=true)) oz1 oz2 oz1 oz4 oz5 (f0_ ((!nodEq (x.n.getD k default) (y.n.getD k default))=false)) (i6n ((↑k:Int)+1) a_)<|.d (wS_ k))
theorem lbk_ln_e (x y:Blc) (i:Nat) (sz:x.Sz) (hl:x.n.length=y.n.length) (hi:i<x.n.length) (hf:nodEq (x.n.getD i default) (y.n.getD i default)=false) (h:∀ k,k<i→nodEq (x.n.getD k default) (y.n.getD k default)=true):VT M_ (fnC Tryz.f62 [1,1,0,1,0,0]) (lbk_ln_I x y i (i)) (.ret) (lbk_ln_Z x y i):=by
 have qz:=id sz
 have qm:=getD_in qz.n hi
 obtain ⟨qn1,qn2⟩:=qm
 have qb:=qz.l
 have oz1:=(s_ (0≤(↑i:Int)))
 have oz2:=(map_at (nodC) (default) (l:=x.n) (i:=i) hi)
 have oz4:=(map_at (nodC) (default) (l:=y.n) (i:=i) a_)
 have oz5:=@refSame_v (x.n.getD i default) (y.n.getD i default) qn1 qn2
 exact tR_ [r_,b_,.r [] [.row (sO oz2),.row (sO oz4),cr oz5],b_,r_] [.any (rg [(2,2),(5,1),(49,5),(56,12)]),.drop [2,3],.sort] (.d7 (h_ (decide ((↑i:Int)<((K_ nodC x.n).length:Int))=true)) oz1 oz2 oz1 oz4 oz5 (f0_ ((!nodEq (x.n.getD i default) (y.n.getD i default))=true)))
theorem lbk_ln (x y:Blc) (i:Nat) (sz:x.Sz) (hl:x.n.length=y.n.length) (hi:i<x.n.length) (hf:nodEq (x.n.getD i default) (y.n.getD i default)=false) (h:∀ k,k<i→nodEq (x.n.getD k default) (y.n.getD k default)=true):VT M_ (fnC Tryz.f62 [1,1,0,1,0]) (lbk_ln_I x y i 0) (.ret) (lbk_ln_Z x y i) :=
 VT.loop (fun k=>lbk_ln_I x y i k) (i) (fun k hk=>lbk_ln_s x y i sz hl hi hf h k hk) (lbk_ln_e x y i sz hl hi hf h) c0_
theorem lbk_d (x y:Blc) (sz:x.Sz) (hl:x.n.length≠y.n.length):VC M_ 62 ([blc x,blc y]) (bv false):=by
 have hz:zipAll nodEq x.n y.n=false:=by unfold zipAll;rw[decide_eq_false hl,BQ_]
 obtain ⟨qa,qb,qc,qd⟩:=id sz
 have oz0:=@rsame8_v (x.w) (y.w) a_
 have oz1:=@rsame32_v (x.b) (y.b) a_
 exact cR_ [r_,.r [] [o_,o_,o_,o_,o_,.sel 1,o_,o_,o_,o_,o_,o_,o_,.sel 1,o_,o_,o_,o_,o_,o_,o_,cr oz0,o_,.sel 1,o_,o_,o_,o_,o_,o_,o_,cr oz1,o_,.sel 1],b_,r_] _ Tryz.func62 (.d3 oz0 oz1 (h_ ((((K_ nodC x.n).length:Int) != ((K_ nodC y.n).length:Int) || !x.ex==y.ex || x.nd != y.nd || !decide (x.w=y.w) || !decide (x.b=y.b))=true)))
theorem lbk_y (x y:Blc) (sz:x.Sz) (hl:x.n.length=y.n.length) (h:∀ k,k<x.n.length→nodEq (x.n.getD k default) (y.n.getD k default)=true) (hz:zipAll nodEq x.n y.n=true):VC M_ 62 ([blc x,blc y]) (bv (blcEq x y)):=by
 obtain ⟨qa,qb,qc,qd⟩:=id sz
 have oz0:=@rsame8_v (x.w) (y.w) a_
 have oz1:=@rsame32_v (x.b) (y.b) a_
 rcases bft (((K_ nodC x.n).length:Int) != ((K_ nodC y.n).length:Int) || !x.ex==y.ex || x.nd != y.nd || !decide (x.w=y.w) || !decide (x.b=y.b)) with hc0|hc0
 ·have gc0:(((¬((K_ nodC x.n).length:Int)=((K_ nodC y.n).length:Int)∨¬(x.ex=true↔y.ex=true))∨¬x.nd=y.nd)∨¬x.w=y.w)∨¬x.b=y.b:=n0_
  exact (cR_ [r_,.r [] [o_,o_,o_,o_,o_,.sel 1,o_,o_,o_,o_,o_,o_,o_,.sel 1,o_,o_,o_,o_,o_,o_,o_,cr oz0,o_,.sel 1,o_,o_,o_,o_,o_,o_,o_,cr oz1,o_,.sel 1],b_,r_] (bv false) Tryz.func62 (.d3 oz0 oz1 hc0)).weak (AQ_ _) (AB_ (by (simp[blcEq,hz,eqNums] at *;intros;simp_all;done)))
 ·have gc0:(((((K_ nodC x.n).length:Int)=((K_ nodC y.n).length:Int)∧(x.ex=true↔y.ex=true))∧x.nd=y.nd)∧x.w=y.w)∧x.b=y.b:=n0_
  have oz4:=@lbk_ly (x) (y) sz hl h
  exact (cR_ [r_,.r [] [o_,o_,o_,o_,o_,.sel 1,o_,o_,o_,o_,o_,o_,o_,.sel 1,o_,o_,o_,o_,o_,o_,o_,cr oz0,o_,.sel 1,o_,o_,o_,o_,o_,o_,o_,cr oz1,o_,.sel 1],d_,r_,.code [.any [0,1,4,6,7,8,9,10,11,12,13,19,20,28,29,38,39,48],.weak 5 (i64 (↑0:Int)),.sort] (BS_ 0) (zO oz4),r_] (bv true) Tryz.func62 (.d5 oz0 oz1 hc0 w0_ oz4)).weak (AQ_ _) (AB_ (by (rw[Bool.eq_iff_iff];simp[blcEq,hz,eqNums] at *;simp_all;done)))
theorem lbk_n (x y:Blc) (i:Nat) (sz:x.Sz) (hl:x.n.length=y.n.length) (hi:i<x.n.length) (hf:nodEq (x.n.getD i default) (y.n.getD i default)=false) (h:∀ k,k<i→nodEq (x.n.getD k default) (y.n.getD k default)=true):VC M_ 62 ([blc x,blc y]) (bv false):=by
 obtain ⟨qa,qb,qc,qd⟩:=id sz
 have oz0:=@rsame8_v (x.w) (y.w) a_
 have oz1:=@rsame32_v (x.b) (y.b) a_
 rcases bft (((K_ nodC x.n).length:Int) != ((K_ nodC y.n).length:Int) || !x.ex==y.ex || x.nd != y.nd || !decide (x.w=y.w) || !decide (x.b=y.b)) with hc0|hc0
 ·have gc0:(((¬((K_ nodC x.n).length:Int)=((K_ nodC y.n).length:Int)∨¬(x.ex=true↔y.ex=true))∨¬x.nd=y.nd)∨¬x.w=y.w)∨¬x.b=y.b:=n0_
  exact cR_ [r_,.r [] [o_,o_,o_,o_,o_,.sel 1,o_,o_,o_,o_,o_,o_,o_,.sel 1,o_,o_,o_,o_,o_,o_,o_,cr oz0,o_,.sel 1,o_,o_,o_,o_,o_,o_,o_,cr oz1,o_,.sel 1],b_,r_] _ Tryz.func62 (.d3 oz0 oz1 hc0)
 ·have gc0:(((((K_ nodC x.n).length:Int)=((K_ nodC y.n).length:Int)∧(x.ex=true↔y.ex=true))∧x.nd=y.nd)∧x.w=y.w)∧x.b=y.b:=n0_
  have oz4:=@lbk_ln (x) (y) (i) sz hl hi hf h
  exact cR_ [r_,.r [] [o_,o_,o_,o_,o_,.sel 1,o_,o_,o_,o_,o_,o_,o_,.sel 1,o_,o_,o_,o_,o_,o_,o_,cr oz0,o_,.sel 1,o_,o_,o_,o_,o_,o_,o_,cr oz1,o_,.sel 1],d_,r_,.code [.any [0,1,4,6,7,8,9,10,11,12,13,19,20,28,29,38,39,48],.weak 5 (i64 (↑0:Int)),.sort] (DT_) (zO oz4)] _ Tryz.func62 (.d5 oz0 oz1 hc0 w0_ oz4)
theorem lbk_v (x y:Blc) (sz:x.Sz):VC M_ 62 [blc x,blc y] (bv (blcEq x y)):=by
 rcases zip_cases nodEq x.n y.n with ⟨h,e⟩|⟨h,q,e⟩|⟨h,i,hi,hf,q,e⟩
 ·rw[show blcEq x y=false by simp[blcEq,e]];exact lbk_d x y sz h
 ·exact lbk_y x y sz h q e
 ·rw[show blcEq x y=false by simp[blcEq,e]];exact lbk_n x y i sz h hi hf q
noncomputable def lmd_ly_I (x y:Mdl) (k:Nat):VS:=stt 32 [(2,.ptr 2 0 0),(3,.ptr 3 0 0),(5,i64 k)] [(2,.var (mdlC x)),(3,.var (mdlC y))]
noncomputable def lmd_ly_Z (x y:Mdl):VS:=lmd_ly_I x y (x.l.length)
theorem lmd_ly_s (x y:Mdl) (sz:x.Sz) (hl:x.l.length=y.l.length) (h:∀ k,k<x.l.length→blcEq (x.l.getD k default) (y.l.getD k default)=true) (k:Nat) (hk:k<x.l.length):VT M_ (fnC Tryz.f30 [1,1,0,1,0,0]) (lmd_ly_I x y k) .normal (lmd_ly_I x y (k+1)):=by
 have q:=h k hk
 have qz:=id sz
 have qm:=getD_in qz.b hk
 have qb:=qz.l
 have oz1:=(s_ (0≤(↑k:Int)))
 have oz2:=(map_at (blcC) (default) (l:=x.l) (i:=k) hk)
 have oz4:=(map_at (blcC) (default) (l:=y.l) (i:=k) a_)
 have oz5:=@lbk_v (x.l.getD k default) (y.l.getD k default) qm
 exact tR_ [r_,b_,.r [] [.row (sO oz2),.row (sO oz4),cr oz5],d_,.r [] [.n ((↑k:Int)+1)]] [.any (rg [(13,19)]),.weak 5 (i64 (↑(k+1):Int)),.sort] (.c8 (h_ (decide ((↑k:Int)<((K_ blcC x.l).length:Int))=true)) oz1 oz2 oz1 oz4 oz5 (f0_ ((!blcEq (x.l.getD k default) (y.l.getD k default))=false)) (i6n ((↑k:Int)+1) a_)<|.d (wS_ k))
theorem lmd_ly_e (x y:Mdl) (sz:x.Sz) (hl:x.l.length=y.l.length) (h:∀ k,k<x.l.length→blcEq (x.l.getD k default) (y.l.getD k default)=true):VT M_ (fnC Tryz.f30 [1,1,0,1,0,0]) (lmd_ly_I x y (x.l.length)) (.exit 0) (lmd_ly_Z x y):=by
 exact tR_ [r_,d_] [.any (rg [(13,5)]),.sort] (.d (s0_ (decide ((x.l.length:Int)<((K_ blcC x.l).length:Int))=false)))
theorem lmd_ly (x y:Mdl) (sz:x.Sz) (hl:x.l.length=y.l.length) (h:∀ k,k<x.l.length→blcEq (x.l.getD k default) (y.l.getD k default)=true):VT M_ (fnC Tryz.f30 [1,1,0,1,0]) (lmd_ly_I x y 0) (.exit 0) (lmd_ly_Z x y) :=
 VT.loop (fun k=>lmd_ly_I x y k) (x.l.length) (fun k hk=>lmd_ly_s x y sz hl h k hk) (lmd_ly_e x y sz hl h) c0_
noncomputable def lmd_ln_I (x y:Mdl) (i:Nat) (k:Nat):VS:=stt 32 [(2,.ptr 2 0 0),(3,.ptr 3 0 0),(5,i64 k)] [(2,.var (mdlC x)),(3,.var (mdlC y))]
noncomputable def lmd_ln_Z (x y:Mdl) (i:Nat):VS:=stt 32 [(4,bv false)] []
theorem lmd_ln_s (x y:Mdl) (i:Nat) (sz:x.Sz) (hl:x.l.length=y.l.length) (hi:i<x.l.length) (hf:blcEq (x.l.getD i default) (y.l.getD i default)=false) (h:∀ k,k<i→blcEq (x.l.getD k default) (y.l.getD k default)=true) (k:Nat) (hk:k<i):VT M_ (fnC Tryz.f30 [1,1,0,1,0,0]) (lmd_ln_I x y i k) .normal (lmd_ln_I x y i (k+1)):=by
 have q:=h k hk
 have qz:=id sz
 have qm:=getD_in qz.b (s_ (k<x.l.length))
 have qb:=qz.l
 have oz1:=(s_ (0≤(↑k:Int)))
 have oz2:=(map_at (blcC) (default) (l:=x.l) (i:=k) a_)
 have oz4:=(map_at (blcC) (default) (l:=y.l) (i:=k) a_)
 have oz5:=@lbk_v (x.l.getD k default) (y.l.getD k default) qm
 exact tR_ [r_,b_,.r [] [.row (sO oz2),.row (sO oz4),cr oz5],d_,.r [] [.n ((↑k:Int)+1)]] [.any (rg [(13,19)]),.weak 5 (i64 (↑(k+1):Int)),.sort] (.c8 (h_ (decide ((↑k:Int)<((K_ blcC x.l).length:Int))=true)) oz1 oz2 oz1 oz4 oz5 (f0_ ((!blcEq (x.l.getD k default) (y.l.getD k default))=false)) (i6n ((↑k:Int)+1) a_)<|.d (wS_ k))
theorem lmd_ln_e (x y:Mdl) (i:Nat) (sz:x.Sz) (hl:x.l.length=y.l.length) (hi:i<x.l.length) (hf:blcEq (x.l.getD i default) (y.l.getD i default)=false) (h:∀ k,k<i→blcEq (x.l.getD k default) (y.l.getD k default)=true):VT M_ (fnC Tryz.f30 [1,1,0,1,0,0]) (lmd_ln_I x y i (i)) (.ret) (lmd_ln_Z x y i):=by
 have qz:=id sz
 have qm:=getD_in qz.b hi
 have qb:=qz.l
 have oz1:=(s_ (0≤(↑i:Int)))
 have oz2:=(map_at (blcC) (default) (l:=x.l) (i:=i) hi)
 have oz4:=(map_at (blcC) (default) (l:=y.l) (i:=i) a_)
 have oz5:=@lbk_v (x.l.getD i default) (y.l.getD i default) qm
 exact tR_ [r_,b_,.r [] [.row (sO oz2),.row (sO oz4),cr oz5],b_,r_] [.any (rg [(2,2),(5,1),(13,5),(20,12)]),.drop [2,3],.sort] (.d7 (h_ (decide ((↑i:Int)<((K_ blcC x.l).length:Int))=true)) oz1 oz2 oz1 oz4 oz5 (f0_ ((!blcEq (x.l.getD i default) (y.l.getD i default))=true)))
theorem lmd_ln (x y:Mdl) (i:Nat) (sz:x.Sz) (hl:x.l.length=y.l.length) (hi:i<x.l.length) (hf:blcEq (x.l.getD i default) (y.l.getD i default)=false) (h:∀ k,k<i→blcEq (x.l.getD k default) (y.l.getD k default)=true):VT M_ (fnC Tryz.f30 [1,1,0,1,0]) (lmd_ln_I x y i 0) (.ret) (lmd_ln_Z x y i) :=
 VT.loop (fun k=>lmd_ln_I x y i k) (i) (fun k hk=>lmd_ln_s x y i sz hl hi hf h k hk) (lmd_ln_e x y i sz hl hi hf h) c0_
theorem lmd_d (x y:Mdl) (sz:x.Sz) (hl:x.l.length≠y.l.length):VC M_ 30 ([.agg (mdlC x),.agg (mdlC y)]) (bv false):=by
 have hz:zipAll blcEq x.l y.l=false:=by unfold zipAll;rw[decide_eq_false hl,BQ_]
 obtain ⟨qa,qb⟩:=id sz
 exact cR_ [r_,r_,b_,r_] _ Tryz.func30 (.d (h_ ((((K_ blcC x.l).length:Int) != ((K_ blcC y.l).length:Int))=true)))
theorem lmd_y (x y:Mdl) (sz:x.Sz) (hl:x.l.length=y.l.length) (h:∀ k,k<x.l.length→blcEq (x.l.getD k default) (y.l.getD k default)=true) (hz:zipAll blcEq x.l y.l=true):VC M_ 30 ([.agg (mdlC x),.agg (mdlC y)]) (bv (mdlEq x y)):=by
 obtain ⟨qa,qb⟩:=id sz
 have oz2:=@lmd_ly (Mdl.mk x.l) (Mdl.mk y.l) sz hl h
 exact (cR_ [r_,r_,d_,r_,.code [.any (rg [(0,2),(4,1),(6,7)]),.weak 5 (i64 (↑0:Int)),.sort] (BS_ 0) (zO oz2),r_] (bv true) Tryz.func30 (.d3 (h_ ((((K_ blcC x.l).length:Int) != ((K_ blcC y.l).length:Int))=false)) w0_ oz2)).weak (AQ_ _) (AB_ (by (exact hz.symm)))
theorem lmd_n (x y:Mdl) (i:Nat) (sz:x.Sz) (hl:x.l.length=y.l.length) (hi:i<x.l.length) (hf:blcEq (x.l.getD i default) (y.l.getD i default)=false) (h:∀ k,k<i→blcEq (x.l.getD k default) (y.l.getD k default)=true):VC M_ 30 ([.agg (mdlC x),.agg (mdlC y)]) (bv false):=by
 obtain ⟨qa,qb⟩:=id sz
 have oz2:=@lmd_ln (Mdl.mk x.l) (Mdl.mk y.l) (i) sz hl hi hf h
 exact cR_ [r_,r_,d_,r_,.code [.any (rg [(0,2),(4,1),(6,7)]),.weak 5 (i64 (↑0:Int)),.sort] (DT_) (zO oz2)] _ Tryz.func30 (.d3 (h_ ((((K_ blcC x.l).length:Int) != ((K_ blcC y.l).length:Int))=false)) w0_ oz2)
theorem lmd_v (x y:Mdl) (sz:x.Sz):VC M_ 30 [.agg (mdlC x),.agg (mdlC y)] (bv (mdlEq x y)):=by
 rcases zip_cases blcEq x.l y.l with ⟨h,e⟩|⟨h,q,e⟩|⟨h,i,hi,hf,q,e⟩
 ·rw[show mdlEq x y=false by simp[mdlEq,e]];exact lmd_d x y sz h
 ·exact lmd_y x y sz h q e
 ·rw[show mdlEq x y=false by simp[mdlEq,e]];exact lmd_n x y i sz h hi hf q
noncomputable def lbn_ly_I (x y:Bun) (k:Nat):VS:=stt 46 [(2,.ptr 2 0 0),(3,.ptr 3 0 0),(5,i64 k)] [(2,.var (bunC x)),(3,.var (bunC y))]
noncomputable def lbn_ly_Z (x y:Bun):VS:=lbn_ly_I x y (x.m.length)
theorem lbn_ly_s (x y:Bun) (sz:x.Sz) (hl:x.m.length=y.m.length) (h:∀ k,k<x.m.length→mdlEq (x.m.getD k default) (y.m.getD k default)=true) (k:Nat) (hk:k<x.m.length):VT M_ (fnC Tryz.f11 [1,1,0,1,0,0]) (lbn_ly_I x y k) .normal (lbn_ly_I x y (k+1)):=by
 have q:=h k hk
 have qz:=id sz
 have qm:=getD_in qz.b hk
 have qb:=qz.l
 have oz1:=(s_ (0≤(↑k:Int)))
 have oz2:=(map_at (mdlC) (default) (l:=x.m) (i:=k) hk)
 have oz4:=(map_at (mdlC) (default) (l:=y.m) (i:=k) a_)
 have oz5:=@lmd_v (Mdl.mk (x.m.getD k default).l) (Mdl.mk (y.m.getD k default).l) qm
 exact tR_ [r_,b_,.r [] [.row (sO oz2),.row (sO oz4),cr oz5],d_,.r [] [.n ((↑k:Int)+1)]] [.any (rg [(27,19)]),.weak 5 (i64 (↑(k+1):Int)),.sort] (.c8 (h_ (decide ((↑k:Int)<((K_ mdlC x.m).length:Int))=true)) oz1 oz2 oz1 oz4 oz5 (f0_ ((!mdlEq (Mdl.mk (x.m.getD k default).l) (Mdl.mk (y.m.getD k default).l))=false)) (i6n ((↑k:Int)+1) z_)<|.d (N_ (k:=.i64) (show (((↑k:Int)+1):Int)=((↑(k+1):Int)) from z_)))
theorem lbn_ly_e (x y:Bun) (sz:x.Sz) (hl:x.m.length=y.m.length) (h:∀ k,k<x.m.length→mdlEq (x.m.getD k default) (y.m.getD k default)=true):VT M_ (fnC Tryz.f11 [1,1,0,1,0,0]) (lbn_ly_I x y (x.m.length)) (.exit 0) (lbn_ly_Z x y):=by
 exact tR_ [r_,d_] [.any (rg [(27,5)]),.sort] (.d (s0_ (decide ((x.m.length:Int)<((K_ mdlC x.m).length:Int))=false)))
theorem lbn_ly (x y:Bun) (sz:x.Sz) (hl:x.m.length=y.m.length) (h:∀ k,k<x.m.length→mdlEq (x.m.getD k default) (y.m.getD k default)=true):VT M_ (fnC Tryz.f11 [1,1,0,1,0]) (lbn_ly_I x y 0) (.exit 0) (lbn_ly_Z x y) :=
 VT.loop (fun k=>lbn_ly_I x y k) (x.m.length) (fun k hk=>lbn_ly_s x y sz hl h k hk) (lbn_ly_e x y sz hl h) c0_
noncomputable def lbn_ln_I (x y:Bun) (i:Nat) (k:Nat):VS:=stt 46 [(2,.ptr 2 0 0),(3,.ptr 3 0 0),(5,i64 k)] [(2,.var (bunC x)),(3,.var (bunC y))]
noncomputable def lbn_ln_Z (x y:Bun) (i:Nat):VS:=stt 46 [(4,bv false)] []
theorem lbn_ln_s (x y:Bun) (i:Nat) (sz:x.Sz) (hl:x.m.length=y.m.length) (hi:i<x.m.length) (hf:mdlEq (x.m.getD i default) (y.m.getD i default)=false) (h:∀ k,k<i→mdlEq (x.m.getD k default) (y.m.getD k default)=true) (k:Nat) (hk:k<i):VT M_ (fnC Tryz.f11 [1,1,0,1,0,0]) (lbn_ln_I x y i k) .normal (lbn_ln_I x y i (k+1)):=by
 have q:=h k hk
 have qz:=id sz
 have qm:=getD_in qz.b (s_ (k<x.m.length))
 have qb:=qz.l
 have oz1:=(s_ (0≤(↑k:Int)))
 have oz2:=(map_at (mdlC) (default) (l:=x.m) (i:=k) a_)
 have oz4:=(map_at (mdlC) (default) (l:=y.m) (i:=k) a_)
 have oz5:=@lmd_v (Mdl.mk (x.m.getD k default).l) (Mdl.mk (y.m.getD k default).l) qm
 exact tR_ [r_,b_,.r [] [.row (sO oz2),.row (sO oz4),cr oz5],d_,.r [] [.n ((↑k:Int)+1)]] [.any (rg [(27,19)]),.weak 5 (i64 (↑(k+1):Int)),.sort] (.c8 (h_ (decide ((↑k:Int)<((K_ mdlC x.m).length:Int))=true)) oz1 oz2 oz1 oz4 oz5 (f0_ ((!mdlEq (Mdl.mk (x.m.getD k default).l) (Mdl.mk (y.m.getD k default).l))=false)) (i6n ((↑k:Int)+1) z_)<|.d (N_ (k:=.i64) (show (((↑k:Int)+1):Int)=((↑(k+1):Int)) from z_)))
theorem lbn_ln_e (x y:Bun) (i:Nat) (sz:x.Sz) (hl:x.m.length=y.m.length) (hi:i<x.m.length) (hf:mdlEq (x.m.getD i default) (y.m.getD i default)=false) (h:∀ k,k<i→mdlEq (x.m.getD k default) (y.m.getD k default)=true):VT M_ (fnC Tryz.f11 [1,1,0,1,0,0]) (lbn_ln_I x y i (i)) (.ret) (lbn_ln_Z x y i):=by
 have qz:=id sz
 have qm:=getD_in qz.b hi
 have qb:=qz.l
 have oz1:=(s_ (0≤(↑i:Int)))
 have oz2:=(map_at (mdlC) (default) (l:=x.m) (i:=i) hi)
 have oz4:=(map_at (mdlC) (default) (l:=y.m) (i:=i) a_)
 have oz5:=@lmd_v (Mdl.mk (x.m.getD i default).l) (Mdl.mk (y.m.getD i default).l) qm
 exact tR_ [r_,b_,.r [] [.row (sO oz2),.row (sO oz4),cr oz5],b_,r_] [.any (rg [(2,2),(5,1),(27,5),(34,12)]),.drop [2,3],.sort] (.d7 (h_ (decide ((↑i:Int)<((K_ mdlC x.m).length:Int))=true)) oz1 oz2 oz1 oz4 oz5 (f0_ ((!mdlEq (Mdl.mk (x.m.getD i default).l) (Mdl.mk (y.m.getD i default).l))=true)))
theorem lbn_ln (x y:Bun) (i:Nat) (sz:x.Sz) (hl:x.m.length=y.m.length) (hi:i<x.m.length) (hf:mdlEq (x.m.getD i default) (y.m.getD i default)=false) (h:∀ k,k<i→mdlEq (x.m.getD k default) (y.m.getD k default)=true):VT M_ (fnC Tryz.f11 [1,1,0,1,0]) (lbn_ln_I x y i 0) (.ret) (lbn_ln_Z x y i) :=
 VT.loop (fun k=>lbn_ln_I x y i k) (i) (fun k hk=>lbn_ln_s x y i sz hl hi hf h k hk) (lbn_ln_e x y i sz hl hi hf h) c0_
theorem lbn_d (x y:Bun) (sz:x.Sz) (hl:x.m.length≠y.m.length):VC M_ 11 ([bun x,bun y]) (bv false):=by
 have hz:zipAll mdlEq x.m y.m=false:=by unfold zipAll;rw[decide_eq_false hl,BQ_]
 obtain ⟨qa,qb⟩:=id sz
 exact cR_ [r_,.r [] [.v (BI_ !eqNums [(U_,x.h,y.h),(U_,x.x,y.x),(U_,x.c,y.c)]),o_,o_,o_,o_,o_,.sel 1,o_,o_,o_,o_,o_,o_,o_,.sel 1],b_,r_] _ Tryz.func11 (.d2 (show BinTo M_ BinOp.neq 23 (Operand.tmp 7) (Operand.tmp 9) (CX_ #[AW_ U_ x.h,AW_ U_ x.x,AW_ U_ x.c]) (CX_ #[AW_ U_ y.h,AW_ U_ y.x,AW_ U_ y.c]) (BI_ !eqNums [(U_,x.h,y.h),(U_,x.x,y.x),(U_,x.c,y.c)]) from ((bin_nums (l:=[(U_,x.h,y.h),(U_,x.x,y.x),(U_,x.c,y.c)]) w_ w_ w_ w_ _ _).2)) (h_ ((!eqNums [(U_,x.h,y.h),(U_,x.x,y.x),(U_,x.c,y.c)] || x.cl != y.cl || ((K_ mdlC x.m).length:Int) != ((K_ mdlC y.m).length:Int))=true)))
theorem lbn_y (x y:Bun) (sz:x.Sz) (hl:x.m.length=y.m.length) (h:∀ k,k<x.m.length→mdlEq (x.m.getD k default) (y.m.getD k default)=true) (hz:zipAll mdlEq x.m y.m=true):VC M_ 11 ([bun x,bun y]) (bv (bunEq x y)):=by
 obtain ⟨qa,qb⟩:=id sz
 have oz0:=(show BinTo M_ BinOp.neq 23 (Operand.tmp 7) (Operand.tmp 9) (CX_ #[AW_ U_ x.h,AW_ U_ x.x,AW_ U_ x.c]) (CX_ #[AW_ U_ y.h,AW_ U_ y.x,AW_ U_ y.c]) (BI_ !eqNums [(U_,x.h,y.h),(U_,x.x,y.x),(U_,x.c,y.c)]) from ((bin_nums (l:=[(U_,x.h,y.h),(U_,x.x,y.x),(U_,x.c,y.c)]) w_ w_ w_ w_ _ _).2))
 rcases bft (!eqNums [(U_,x.h,y.h),(U_,x.x,y.x),(U_,x.c,y.c)] || x.cl != y.cl || ((K_ mdlC x.m).length:Int) != ((K_ mdlC y.m).length:Int)) with hc0|hc0
 ·have gc0:(¬(x.h=y.h∧x.x=y.x∧x.c=y.c)∨¬x.cl=y.cl)∨¬((K_ mdlC x.m).length:Int)=((K_ mdlC y.m).length:Int):=gc0_ hc0
  exact (cR_ [r_,.r [] [.v (BI_ !eqNums [(U_,x.h,y.h),(U_,x.x,y.x),(U_,x.c,y.c)]),o_,o_,o_,o_,o_,.sel 1,o_,o_,o_,o_,o_,o_,o_,.sel 1],b_,r_] (bv false) Tryz.func11 (.d2 oz0 hc0)).weak (AQ_ _) (AB_ (by (simp[bunEq,hz,eqNums] at *;intros;simp_all;done)))
 ·have gc0:((x.h=y.h∧x.x=y.x∧x.c=y.c)∧x.cl=y.cl)∧((K_ mdlC x.m).length:Int)=((K_ mdlC y.m).length:Int):=gc0_ hc0
  have oz3:=@lbn_ly (x) (y) sz hl h
  exact (cR_ [r_,.r [] [.v (BI_ !eqNums [(U_,x.h,y.h),(U_,x.x,y.x),(U_,x.c,y.c)]),o_,o_,o_,o_,o_,.sel 1,o_,o_,o_,o_,o_,o_,o_,.sel 1],d_,r_,.code [.any [0,1,4,6,7,8,9,10,11,17,18,26],.weak 5 (i64 (↑0:Int)),.sort] (BS_ 0) (zO oz3),r_] (bv true) Tryz.func11 (.d4 oz0 hc0 w0_ oz3)).weak (AQ_ _) (AB_ (by (rw[Bool.eq_iff_iff];simp[bunEq,hz,eqNums] at *;simp_all;done)))
theorem lbn_n (x y:Bun) (i:Nat) (sz:x.Sz) (hl:x.m.length=y.m.length) (hi:i<x.m.length) (hf:mdlEq (x.m.getD i default) (y.m.getD i default)=false) (h:∀ k,k<i→mdlEq (x.m.getD k default) (y.m.getD k default)=true):VC M_ 11 ([bun x,bun y]) (bv false):=by
 obtain ⟨qa,qb⟩:=id sz
 have oz0:=(show BinTo M_ BinOp.neq 23 (Operand.tmp 7) (Operand.tmp 9) (CX_ #[AW_ U_ x.h,AW_ U_ x.x,AW_ U_ x.c]) (CX_ #[AW_ U_ y.h,AW_ U_ y.x,AW_ U_ y.c]) (BI_ !eqNums [(U_,x.h,y.h),(U_,x.x,y.x),(U_,x.c,y.c)]) from ((bin_nums (l:=[(U_,x.h,y.h),(U_,x.x,y.x),(U_,x.c,y.c)]) w_ w_ w_ w_ _ _).2))
 rcases bft (!eqNums [(U_,x.h,y.h),(U_,x.x,y.x),(U_,x.c,y.c)] || x.cl != y.cl || ((K_ mdlC x.m).length:Int) != ((K_ mdlC y.m).length:Int)) with hc0|hc0
 ·have gc0:(¬(x.h=y.h∧x.x=y.x∧x.c=y.c)∨¬x.cl=y.cl)∨¬((K_ mdlC x.m).length:Int)=((K_ mdlC y.m).length:Int):=gc0_ hc0
  exact cR_ [r_,.r [] [.v (BI_ !eqNums [(U_,x.h,y.h),(U_,x.x,y.x),(U_,x.c,y.c)]),o_,o_,o_,o_,o_,.sel 1,o_,o_,o_,o_,o_,o_,o_,.sel 1],b_,r_] _ Tryz.func11 (.d2 oz0 hc0)
 ·have gc0:((x.h=y.h∧x.x=y.x∧x.c=y.c)∧x.cl=y.cl)∧((K_ mdlC x.m).length:Int)=((K_ mdlC y.m).length:Int):=gc0_ hc0
  have oz3:=@lbn_ln (x) (y) (i) sz hl hi hf h
  exact cR_ [r_,.r [] [.v (BI_ !eqNums [(U_,x.h,y.h),(U_,x.x,y.x),(U_,x.c,y.c)]),o_,o_,o_,o_,o_,.sel 1,o_,o_,o_,o_,o_,o_,o_,.sel 1],d_,r_,.code [.any [0,1,4,6,7,8,9,10,11,17,18,26],.weak 5 (i64 (↑0:Int)),.sort] (DT_) (zO oz3)] _ Tryz.func11 (.d4 oz0 hc0 w0_ oz3)
theorem lbn_v (x y:Bun) (sz:x.Sz):VC M_ 11 [bun x,bun y] (bv (bunEq x y)):=by
 rcases zip_cases mdlEq x.m y.m with ⟨h,e⟩|⟨h,q,e⟩|⟨h,i,hi,hf,q,e⟩
 ·rw[show bunEq x y=false by simp[bunEq,e]];exact lbn_d x y sz h
 ·exact lbn_y x y sz h q e
 ·rw[show bunEq x y=false by simp[bunEq,e]];exact lbn_n x y i sz h hi hf q
theorem known35:VC M_ 8 [] (bv true) :=
 known35_v (sealL [1]) (sealL_len [1]) (seal_f p32L [1] p4 v0_ v0_) (dec_o [] 20 x_ (open_s [] x_))
theorem Blc.Sm.sz {x:Blc} (h:x.Sm):x.Sz:=⟨by have:=h.l;omega,h.s,h.w,h.b⟩
theorem Bun.Sm.sz {u:Bun} (h:u.Sm) (hl:u.m.length≤1000):u.Sz:=⟨hl,fun m hm=>⟨by have:=(h.m m hm).1;omega,fun x hx=>((h.m m hm).2 x hx).sz⟩⟩
theorem nodEq_rfl (n:Nod):nodEq n n=true:=(nodEq_iff _ _).2 rfl
theorem blcEq_rfl (x:Blc):blcEq x x=true:=by
 unfold blcEq
 rw[zip_refl fun n _=>nodEq_rfl n];simp
theorem mdlEq_rfl (m:Mdl):mdlEq m m=true:=zip_refl fun x _=>blcEq_rfl x
theorem bunEq_rfl (u:Bun):bunEq u u=true:=by
 unfold bunEq
 rw[zip_refl fun x _=>mdlEq_rfl x];simp
theorem mkL_mem {s:Rst} {n:Nat} {x:Blc} (h:x∈mkL s n):∃ k,k<n∧x=(blkT (mkS s k)).1.1:=by
 induction n with
 | zero=>cases h
 | succ n ih =>
  rw[mkL,CA_] at h
  rcases h with h|h
  ·obtain ⟨k,hk,e⟩:=ih h;exact ⟨k,by omega,e⟩
  ·exact ⟨n,by omega,List.mem_singleton.1 h⟩
theorem muL_mem {s:Rst} {n:Nat} {x:Mdl} (h:x∈muL s n):∃ k,k<n∧x=⟨(mdlT (muS s k)).1.1⟩:=by
 induction n with
 | zero=>cases h
 | succ n ih =>
  rw[muL,CA_] at h
  rcases h with h|h
  ·obtain ⟨k,hk,e⟩:=ih h;exact ⟨k,by omega,e⟩
  ·exact ⟨n,by omega,List.mem_singleton.1 h⟩
theorem tkL_ok {s:Rst} (h:s.Fit) (n:Nat):∀ y∈tkL s n,y.Ok:=by
 induction n with
 | zero=>intro y hy;cases hy
 | succ n ih =>
  intro y hy
  rw[tkL,CA_] at hy
  rcases hy with hy|hy
  ·exact ih y hy
  ·rw[List.mem_singleton.1 hy];exact takeR_ok _ (tkS_fit h n).i
theorem blk_ok {s:Rst} (h:s.Fit) (he:(blkT s).1.2=0):(blkT s).1.1.Ok∧(blkT s).1.1.n.length≤8:=by
 rcases blkT_cases s with ⟨m,hm,hf,hh⟩|⟨hh,hb⟩|⟨hh,hb⟩
 ·rw[blkT_f hm hf hh] at he;exact absurd he hf
 ·rw[blkT_b hh hb] at he;exact absurd he hb
 ·rw[blkT_y hh hb]
  have r:=cntV_rng (m:=8) h.i x_
  have ln:(nodesT s).length=(cntV s 8).toNat:=tkL_len _ _
  have on:∀ n∈nodesT s,n.Ok:=tkL_ok (cnt_fit h 8) _
  have ist:(stB s).In:=(tkS_fit (cnt_fit h 8) (cntV s 8).toNat).i
  dsimp only
  unfold exN
  split
  ·exact ⟨⟨on,smlV8 _ _,widV32 _ _,cntV32 (lst_in (cnt_in ist _)) x_ x_⟩,by dsimp only;omega⟩
  ·exact ⟨⟨on,nil8,nil32,z32⟩,by dsimp only;omega⟩
theorem mdlT_good {s:Rst} (h:s.Fit) (he:(mdlT s).1.2=0):(∀ x∈(mdlT s).1.1,x.Ok∧x.Sm)∧(mdlT s).1.1.length≤6:=by
 have q:=cntV_rng (m:=6) h.i x_
 unfold mdlT at he ⊢
 rcases first_of (n:=(cntV s 6).toNat) (p:=fun k=>(blkT (mkS (cntS s 6) k)).1.2=0) with hh|⟨m,hm,hf,hh⟩
 ·rw[takeM_y hh,j_ v0_] at he ⊢
  by_cases hb:(mkS (cntS s 6) (cntV s 6).toNat).2=0
  ·rw[j_ t1_]
   refine ⟨fun x hx=>?_,by dsimp only;rw[mkL_len];omega⟩
   obtain ⟨k,hk,rfl⟩:=mkL_mem hx
   have fk:=mkS_fit (cnt_fit h 6) k
   obtain ⟨t4,t5⟩:=blk_ok fk (hh k hk)
   have sb:=blkT_SB fk
   exact ⟨t4,by omega,sb.n,sb.w,sb.b⟩
  ·rw[i_ hb] at he;exact absurd he hb
 ·rw[takeM_n hm hf hh,i_ (by exact hf)] at he;exact absurd he hf
theorem bunU_good {s:Rst} (h:s.Fit) (hh:∀ k,k<(hN s).toNat→(mdlT (muS (hS5 s) k)).1.2=0):(bunU s).Ok∧(bunU s).Sm:=by
 have f1:=cnt_fit h 16
 have f2:=cnt_fit f1 16
 have f3:=cnt_fit f2 1024
 have f4:=cnt_fit f3 16
 have f5:=cnt_fit f4 3
 have q:=cntV_rng (m:=3) f4.i x_
 have good:∀ d∈muL (hS5 s) (hN s).toNat,(∀ x∈d.l,x.Ok∧x.Sm)∧d.l.length≤6:=fun d hd=>by
  obtain ⟨k,hk,rfl⟩:=muL_mem hd
  exact mdlT_good (muS_fit f5 k) (hh k hk)
 refine ⟨⟨cntV64 h.i x_ x_,cntV64 f1.i x_ x_,cntV64 f2.i x_ x_,cntV64 f3.i x_ x_,fun d hd=>⟨fun x hx=>((good d hd).1 x hx).1⟩⟩,?_,fun d hd=>⟨by have:=(good d hd).2;omega,fun x hx=>((good d hd).1 x hx).2⟩⟩
 show (muL (hS5 s) (hN s).toNat).length≤4
 rw[muL_len]
 have:hN s≤3:=q.2
 omega
abbrev bun0:Bun:=⟨0,0,0,0,[]⟩
theorem bunT_good {s:Rst} (h:s.Fit):(bunT s).1.Ok∧(bunT s).1.Sm:=by
 unfold bunT
 rcases first_of (n:=(hN s).toNat) (p:=fun k=>(mdlT (muS (hS5 s) k)).1.2=0) with hh|⟨m,hm,hf,hh⟩
 ·rw[takeU_y hh,j_ v0_];exact bunU_good h hh
 ·rw[takeU_n hm hf hh,i_ hf];exact ⟨bun0_ok,bun0_sm⟩
def inner (l:List Int):List Int:=(l.drop 4).take (l.length-8)
def openE (l:List Int):Int:=if 1048576<l.length then 25 else if l.length<8 then 20 else if l.take 4≠[83,84,87,49] then 22 else if sealL (l.take (l.length-4))≠l then 23 else 0
def decR (l:List Int):Bun×Int:=if openE l≠0 then (bun0,openE l) else if (bunT (inner l,0)).2≠0 then (bun0,(bunT (inner l,0)).2) else if (bunE (bunT (inner l,0)).1).w≠0 then (bun0,(bunE (bunT (inner l,0)).1).w) else ((bunT (inner l,0)).1,0)
theorem zw {P:Program} {f:Nat} {a:List AV} {e:Int} (h:VC P f a (.tup [.agg [i64 0,i64 0,i64 0,i64 0,nilv],i64 e])):VC P f a (.tup [bun bun0,i64 e]) :=
 h.weak (AQ_ _) (AA_ (.cons (AZ_ (.cons (.refl _) (.cons (.refl _) (.cons (.refl _) (.cons (.refl _) (.cons (AV_ _) .nil)))))) (.cons (.refl _) .nil)))
theorem inner_fit {l:List Int} (hx:∀ x∈l,0≤x∧x≤255) (hl:l.length≤1000000):Rst.Fit (inner l,0):=⟨fun x h=>hx x (List.mem_of_mem_drop (List.mem_of_mem_take h)),by
 have:(inner l).length≤l.length:=by unfold inner;rw[BL_,AS_];omega
 dsimp only;omega,by simp⟩
theorem inner_len (l:List Int):(inner l).length≤l.length:=by unfold inner;rw[BL_,AS_];omega
theorem pdec_v (l:List Int) (hx:∀ x∈l,0≤x∧x≤255) (hl:l.length≤1000000):VC M_ 10 [ints .u8 l] (.tup [bun (decR l).1,i64 (decR l).2]):=by
 unfold decR
 by_cases h8:l.length<8
 ·have e:openE l=20:=by unfold openE;rw[j_ a_,i_ h8]
  rw[e,i_ x_];exact zw (dec_o l 20 x_ (open_s l h8))
 by_cases hm:l.take 4=[83,84,87,49]
 ·by_cases hs:sealL (l.take (l.length-4))=l
  ·have e:openE l=0:=by unfold openE;rw[j_ a_,j_ h8,j_ (by simpa using hm),j_ (by simpa using hs)]
   rw[e,j_ v0_]
   have ho:=open_y sealL l seals hx a_ a_ hm hs
   have ft:=inner_fit hx hl
   obtain ⟨z,ht⟩:=taken_v (inner l,0) ft
   obtain ⟨ok,sm⟩:=bunT_good ft
   have hd:(inner l).length≤1000000:=by have:=inner_len l;omega
   by_cases h1:(bunT (inner l,0)).2=0
   ·rw[j_ (by simpa using h1)]
    rw[h1] at ht
    by_cases h2:(bunE (bunT (inner l,0)).1).w=0
    ·rw[j_ (by simpa using h2)];exact dec_y l (inner l) _ z hd ho ht ok sm h2
    ·rw[i_ h2];exact zw (dec_w l (inner l) _ z hd ho ht ok sm h2)
   ·rw[i_ h1];exact zw (dec_t l (inner l) _ _ z hd ho ht h1)
  ·have e:openE l=23:=by unfold openE;rw[j_ a_,j_ h8,j_ (by simpa using hm),i_ hs]
   rw[e,i_ x_];exact zw (dec_o l 23 x_ (open_u sealL l seals hx a_ a_ hm hs))
 ·have e:openE l=22:=by unfold openE;rw[j_ a_,j_ h8,i_ hm]
  rw[e,i_ x_];exact zw (dec_o l 22 x_ (open_m l hx a_ a_ hm))
theorem seal_drop {l:List Int} (h:4≤l.length):sealL (l.take (l.length-4))=l↔p32L (crcL (l.take (l.length-4)))=l.drop (l.length-4):=by
 unfold sealL
 constructor
 ·intro e
  have q:l.take (l.length-4)++p32L (crcL (l.take (l.length-4)))=l.take (l.length-4)++l.drop (l.length-4):=by rw[e,List.take_append_drop]
  exact List.append_cancel_left q
 ·intro e;rw[e,List.take_append_drop]
theorem inner_raw {l:List Int} (h:8≤l.length) (hb:l.length≤20000000):Q_ ((((l.map (row1 .u8)).length:Int)-4).toNat-4) (O_ 4 l)=inner l:=by
 rw[end_eq a_ hb,show l.length-4-4=l.length-8 by omega];rfl
theorem rdec_v (l:List Int) (hx:∀ x∈l,0≤x∧x≤255) (hl:l.length≤1000000):VC M_ 13 [ints .u8 l] (.tup [bun (decR l).1,i64 (decR l).2]):=by
 unfold decR
 by_cases h8:l.length<8
 ·have e:openE l=20:=by unfold openE;rw[j_ a_,i_ h8]
  rw[e,i_ x_];exact zw (rdec_s l h8)
 by_cases hm:l.take 4=[83,84,87,49]
 ·by_cases hs:sealL (l.take (l.length-4))=l
  ·have e:openE l=0:=by unfold openE;rw[j_ a_,j_ h8,j_ (by simpa using hm),j_ (by simpa using hs)]
   rw[e,j_ v0_]
   have hs2:=(seal_drop (l:=l) a_).1 hs
   have ft:=inner_fit hx hl
   have ri:=inner_raw (l:=l) a_ a_
   have i0:Rrf.In (inner l) (0,0):=⟨ft.b,by have:=inner_len l;omega,CO_ _⟩
   have t0:toS (inner l) (0,0)=(inner l,0):=by simp[toS]
   have i1:=cntR_in i0 16
   have i2:=cntR_in i1 16
   have i3:=cntR_in i2 1024
   have i4:=cntR_in i3 16
   have i5:=cntR_in i4 3
   have c1:=rcnt_v (inner l) _ 16 i0 x_ x_
   have c2:=rcnt_v (inner l) _ 16 i1 x_ x_
   have c3:=rcnt_v (inner l) _ 1024 i2 x_ x_
   have c4:=rcnt_v (inner l) _ 16 i3 x_ x_
   have c5:=rcnt_v (inner l) _ 3 i4 x_ x_
   simp only[toS_cnt,t0] at c1 c2 c3 c4 c5
   have f1:=cnt_fit ft 16
   have f2:=cnt_fit f1 16
   have f3:=cnt_fit f2 1024
   have f4:=cnt_fit f3 16
   have f5:=cnt_fit f4 3
   have q:=cntV_rng (m:=3) f4.i x_
   have t5:toS (inner l) (cntR (inner l) (cntR (inner l) (cntR (inner l) (cntR (inner l) (cntR (inner l) (0,0) 16) 16) 1024) 16) 3)=hS5 (inner l,0):=by simp only[toS_cnt,t0];rfl
   have hv:=fun k (_:k<(hN (inner l,0)).toNat)=>muR_v i5 (by rw[t5];exact f5) k
   rw[t5] at hv
   have ha:=muR_all i5 (by rw[t5];exact f5) (hN (inner l,0)).toNat
   rw[t5] at ha
   have ve:=rend_v (inner l) _ ha.1
   rw[ha.2] at ve
   have kn:=rdec_n p32L l
   have ke:=rdec_e p32L l
   have kw:=rdec_w p32L l
   have ky:=rdec_y p32L l
   rw[ri] at ke kw ky
   have kr:=fun R r1 r2 r3 r4 => @RD.mk p32L l (hS5 (inner l,0)) R r1 r2 r3 r4 (cntV (inner l,0) 16) (cntV (cntS (inner l,0) 16) 16) (cntV (cntS (cntS (inner l,0) 16) 16) 1024) (cntV (cntS (cntS (cntS (inner l,0) 16) 16) 1024) 16) (hN (inner l,0)) p4 a_ a_ hx hm hs2
   rw[ri] at kr
   have H:=kr (muR (inner l) _) _ _ _ _ c1 c2 c3 c4 c5 hv q
   rcases first_of (n:=(hN (inner l,0)).toNat) (p:=fun k=>(mdlT (muS (hS5 (inner l,0)) k)).1.2=0) with hh|⟨m,hm2,hf,hh⟩
   ·have eb:bunT (inner l,0)=(bunU (inner l,0),endE (muS (hS5 (inner l,0)) (hN (inner l,0)).toNat)):=by unfold bunT;rw[takeU_y hh,j_ v0_]
    obtain ⟨ok,sm⟩:=bunU_good ft hh
    rw[eb]
    by_cases h1:endE (muS (hS5 (inner l,0)) (hN (inner l,0)).toNat)=0
    ·rw[h1] at ve
     rw[j_ (by simpa using h1)]
     by_cases h2:(bunE (bunU (inner l,0))).w=0
     ·rw[j_ (by simpa using h2)]
      exact ky _ _ _ _ _ _ _ _ _ _ _ H hh ve ok sm h2
     ·rw[i_ h2]
      exact zw (kw _ _ _ _ _ _ _ _ _ _ _ H hh ve ok sm h2)
    ·rw[i_ h1]
     exact zw (ke _ _ _ _ _ _ _ _ _ _ _ _ H hh ve h1)
   ·have eb:bunT (inner l,0)=(bun0,(mdlT (muS (hS5 (inner l,0)) m)).1.2):=by unfold bunT;rw[takeU_n hm2 hf hh,i_ hf]
    rw[eb,i_ hf]
    exact zw (kn _ _ _ _ _ _ _ _ _ _ _ m H hm2 hf hh)
  ·have e:openE l=23:=by unfold openE;rw[j_ a_,j_ h8,j_ (by simpa using hm),i_ hs]
   rw[e,i_ x_];exact zw (rdec_u p32L l a_ a_ hx p4 hm (fun h=>hs ((seal_drop a_).2 h)))
 ·have e:openE l=22:=by unfold openE;rw[j_ a_,j_ h8,i_ hm]
  rw[e,i_ x_];exact zw (rdec_m l a_ a_ hx hm)
theorem p32L_rng {n:Int} (h:0≤n∧n≤4294967295):ByR (p32L n):=fun x hx=>by
 simp only[p32L,List.mem_cons,List.not_mem_nil,or_false] at hx
 rcases hx with rfl|rfl|rfl|rfl
 ·rw[IntKind.wrap_u8];omega
 ·rw[IntKind.wrap_u8];omega
 ·rw[IntKind.wrap_u8];omega
 ·omega
theorem sealL_rng {l:List Int} (h:∀ x∈l,0≤x∧x≤255):ByR (sealL l):=ByR.app h (p32L_rng (crcL_bd l))
theorem bun_sz {u:Bun} (h:u.Sm):u.Sz:=h.sz (by have:=h.l;omega)
theorem bun0_sz:bun0.Sz:=bun_sz bun0_sm
theorem decR_sz {l:List Int} (hx:∀ x∈l,0≤x∧x≤255) (hl:l.length≤1000000):(decR l).1.Sz:=by
 unfold decR
 split
 ·exact bun0_sz
 ·split
  ·exact bun0_sz
  ·split
   ·exact bun0_sz
   ·exact bun_sz (bunT_good (inner_fit hx hl)).2
theorem rsealO_v (F:Int→List Int) (l:List Int) (hF:P4 F) (hx:∀ x∈l,0≤x∧x≤255) (hl:l.length≤10000000):VM M_ 12 ([.own 950]) ([(950,.slc 5 1 (l.map (row1 .u8)))]) (.sl 1 (l.map (row1 .u8)++(F (crcL l)).map (row1 .u8))) ([]):=by
 have q:=crcL_bd l
 have q4:=hF.l (crcL l)
 have oz2:=@rcrc_v (l) hx a_
 have oz3:=@r4_v (F) hF (crcL l) a_ a_
 exact mR_ [r_,r_,.r [] [cr oz2,cr oz3]] [.frz 11,.drop [950],.sort] _ Tryz.func12 (.d6 (h_ ((0+(K_ (row1 .u8) l).length)*1≤140737488355328)) (h_ (0+(K_ (row1 .u8) l).length≤9223372036854775807)) oz2 oz3 (h_ ((([]++K_ (row1 .u8) l).length+(K_ (row1 .u8) (F (crcL l))).length)*1≤140737488355328)) (h_ (([]++K_ (row1 .u8) l).length+(K_ (row1 .u8) (F (crcL l))).length≤9223372036854775807)))
theorem rsealO_w (F:Int→List Int) (l:List Int) (hF:P4 F) (hx:∀ x∈l,0≤x∧x≤255) (hl:l.length≤10000000):VM M_ 12 [.own 950] [(950,.slc 5 1 (l.map (row1 .u8)))] (ints .u8 (l++F (crcL l))) []:=by
 have:=rsealO_v F l hF hx hl
 rwa [←X_] at this
theorem bundleDecodes_n (d:List Int) (h:4000<d.length) (hk:VC M_ 8 [] (bv true)):VC M_ 4 ([ints .u8 d]) (bv true):=by
 have q:(d.map (row1 .u8)).length=d.length:=V_ _
 have oz1:=@hk
 exact cR_ [r_,r_,b_,.r [] [cr oz1]] _ Tryz.func4 (.d2 (decide_eq_true (p:=(((K_ (row1 .u8) d).length:Int)>4000)) a_) oz1)
theorem bundleDecodes_y (d S:List Int) (u v:Bun) (e f:Int) (hd:d.length≤4000) (hx:∀ x∈d,0≤x∧x≤255) (hS:S.length≤10000) (hk:VC M_ 8 [] (bv true)) (h1:VC M_ 10 [ints .u8 d] (.tup [bun u,i64 e])) (h2:VC M_ 13 [ints .u8 d] (.tup [bun u,i64 e])) (h3:VM M_ 12 [.own 950] [(950,.slc 5 1 ([u8 83]::[u8 84]::[u8 87]::[u8 49]::d.map (row1 .u8)))] (ints .u8 S) []) (h4:VC M_ 10 [ints .u8 S] (.tup [bun v,i64 f])) (h5:VC M_ 13 [ints .u8 S] (.tup [bun v,i64 f])) (h6:VC M_ 11 [bun u,bun u] (bv true)) (h7:VC M_ 11 [bun v,bun v] (bv true)):VC M_ 4 ([ints .u8 d]) (bv true):=by
 have q:(d.map (row1 .u8)).length=d.length:=V_ _
 have z1:(e==e)=true:=v0_
 have z2:(f==f)=true:=v0_
 have oz23:=@hk
 exact cR_ [r_,r_,d_,.r [] [cr h1],.r [] [cr h2],.r [] [.callm [(28,950)] [] (rM h3) (oM h3)],.r [] [cr h4],.r [] [cr h5],.r [] [e_,e_,e_,cr h6,e_,e_,e_,e_,e_,e_,e_,e_,cr h7,e_,e_,cr oz23,e_]] _ Tryz.func4 (.c8 (decide_eq_false (p:=(((K_ (row1 .u8) d).length:Int)>4000)) a_) h1 h2 (s_ ((4+(K_ (row1 .u8) d).length)*1≤140737488355328)) (s_ (4+(K_ (row1 .u8) d).length≤9223372036854775807)) h3 h4 h5<|.c8 z1 z1 z1 h6 z1 z0_ z0_ z0_<|.c8 z0_ z2 z2 z2 h7 z2 z0_ oz23<|.d z0_)
theorem bundleDecodes_v (d:List Int) (hx:∀ x∈d,0≤x∧x≤255):VC M_ 4 [ints .u8 d] (bv true):=by
 by_cases h:d.length≤4000
 ·have hy:∀ x∈[83,84,87,49]++d,0≤x∧x≤255:=fun x q=>by
   rcases List.mem_append.1 q with q|q
   ·simp only[List.mem_cons,List.not_mem_nil,or_false] at q;omega
   ·exact hx x q
  have hz:∀ x∈sealL ([83,84,87,49]++d),0≤x∧x≤255:=sealL_rng hy
  have hl:(sealL ([83,84,87,49]++d)).length≤10000:=by rw[sealL_len,AD_];simp;omega
  have s1:=decR_sz hx a_
  have s2:=decR_sz hz a_
  have h6:=lbn_v (decR d).1 (decR d).1 s1
  have h7:=lbn_v (decR (sealL ([83,84,87,49]++d))).1 (decR (sealL ([83,84,87,49]++d))).1 s2
  rw[bunEq_rfl] at h6 h7
  exact bundleDecodes_y d _ _ _ _ _ h hx hl known35 (pdec_v d hx a_) (rdec_v d hx a_) (rsealO_w p32L _ p4 hy j2_) (pdec_v _ hz a_) (rdec_v _ hz a_) h6 h7
 ·exact bundleDecodes_n d a_ known35
end Go.Proofs.YtdfihaminnmgpaaGreat
