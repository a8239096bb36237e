/- A part of this claim. No condition. -/
import Derived.Test.YtgecmooedhnenaaPackModelsG7
set_option maxRecDepth 100000
set_option maxHeartbeats 2000000
set_option linter.unusedVariables false
set_option linter.unusedSimpArgs false
set_option linter.unnecessarySimpa false
namespace Go.Proofs.Ytgecmooedhnenaa
open Go.RowKit
theorem toS_2 (xs:List Int) (r:Rrf):(toS xs r).2=r.2:=by
 unfold toS;split
 ·rename_i h;exact h.symm
 ·rfl
def d1_1 (xs:List Int) (r:Rrf):Rrf:=cntR xs r 9
def d1_2 (xs:List Int) (r:Rrf):Rrf:=cntR xs (d1_1 xs r) 1024
def d1_3 (xs:List Int) (r:Rrf):Rrf:=cntR xs (d1_2 xs r) 1024
def d1_4 (xs:List Int) (r:Rrf):Rrf:=cntR xs (d1_3 xs r) 1024
def d1_5 (xs:List Int) (r:Rrf):Rrf:=cntR xs (d1_4 xs r) 1024
def d1_6 (xs:List Int) (r:Rrf):Rrf:=cntR xs (d1_5 xs r) 1024
def d1_7 (xs:List Int) (r:Rrf):Rrf:=smlR xs (d1_6 xs r) 1
def d1_8 (xs:List Int) (r:Rrf):Rrf:=cntR xs (d1_7 xs r) 16384
def d1_9 (xs:List Int) (r:Rrf):Rrf:=smlR xs (d1_8 xs r) (cntV (toS xs (d1_7 xs r)) 16384)
def d1_10 (xs:List Int) (r:Rrf):Rrf:=cntR xs (d1_9 xs r) 16384
def d1_11 (xs:List Int) (r:Rrf):Rrf:=widR xs (d1_10 xs r) (cntV (toS xs (d1_9 xs r)) 16384)
def d1_12 (xs:List Int) (r:Rrf):Rrf:=cntR xs (d1_11 xs r) 2147483647
def d1_13 (xs:List Int) (r:Rrf):Rrf:=cntR xs (d1_12 xs r) 62
def d1_14 (xs:List Int) (r:Rrf):Rrf:=smlR xs (d1_13 xs r) 1
def d1_15 (xs:List Int) (r:Rrf):Rrf:=smlR xs (d1_14 xs r) 1
def d1_16 (xs:List Int) (r:Rrf):Rrf:=smlR xs (d1_15 xs r) 1
theorem d1_in {xs:List Int} {r:Rrf} (i0:Rrf.In xs r):Rrf.In xs (d1_16 xs r):=by
 have i1:Rrf.In xs (d1_1 xs r):=cntR_in i0 _
 have i2:Rrf.In xs (d1_2 xs r):=cntR_in i1 _
 have i3:Rrf.In xs (d1_3 xs r):=cntR_in i2 _
 have i4:Rrf.In xs (d1_4 xs r):=cntR_in i3 _
 have i5:Rrf.In xs (d1_5 xs r):=cntR_in i4 _
 have i6:Rrf.In xs (d1_6 xs r):=cntR_in i5 _
 have i7:Rrf.In xs (d1_7 xs r):=smlR_in i6 _
 have i8:Rrf.In xs (d1_8 xs r):=cntR_in i7 _
 have i9:Rrf.In xs (d1_9 xs r):=smlR_in i8 _
 have i10:Rrf.In xs (d1_10 xs r):=cntR_in i9 _
 have i11:Rrf.In xs (d1_11 xs r):=widR_in i10 _
 have i12:Rrf.In xs (d1_12 xs r):=cntR_in i11 _
 have i13:Rrf.In xs (d1_13 xs r):=cntR_in i12 _
 have i14:Rrf.In xs (d1_14 xs r):=smlR_in i13 _
 have i15:Rrf.In xs (d1_15 xs r):=smlR_in i14 _
 have i16:Rrf.In xs (d1_16 xs r):=smlR_in i15 _
 exact i16
theorem d1_s (xs:List Int) (r:Rrf):toS xs (d1_16 xs r)=ts_1 (toS xs r):=by
 have t1:toS xs (d1_1 xs r)=cntS (toS xs r) 9:=toS_cnt xs r _
 have t2:toS xs (d1_2 xs r)=cntS (toS xs (d1_1 xs r)) 1024:=toS_cnt xs (d1_1 xs r) _
 have t3:toS xs (d1_3 xs r)=cntS (toS xs (d1_2 xs r)) 1024:=toS_cnt xs (d1_2 xs r) _
 have t4:toS xs (d1_4 xs r)=cntS (toS xs (d1_3 xs r)) 1024:=toS_cnt xs (d1_3 xs r) _
 have t5:toS xs (d1_5 xs r)=cntS (toS xs (d1_4 xs r)) 1024:=toS_cnt xs (d1_4 xs r) _
 have t6:toS xs (d1_6 xs r)=cntS (toS xs (d1_5 xs r)) 1024:=toS_cnt xs (d1_5 xs r) _
 have t7:toS xs (d1_7 xs r)=smlS (toS xs (d1_6 xs r)) 1:=toS_sml xs (d1_6 xs r) _
 have t8:toS xs (d1_8 xs r)=cntS (toS xs (d1_7 xs r)) 16384:=toS_cnt xs (d1_7 xs r) _
 have t9:toS xs (d1_9 xs r)=smlS (toS xs (d1_8 xs r)) (cntV (toS xs (d1_7 xs r)) 16384):=toS_sml xs (d1_8 xs r) _
 have t10:toS xs (d1_10 xs r)=cntS (toS xs (d1_9 xs r)) 16384:=toS_cnt xs (d1_9 xs r) _
 have t11:toS xs (d1_11 xs r)=widS (toS xs (d1_10 xs r)) (cntV (toS xs (d1_9 xs r)) 16384):=toS_wid xs (d1_10 xs r) _
 have t12:toS xs (d1_12 xs r)=cntS (toS xs (d1_11 xs r)) 2147483647:=toS_cnt xs (d1_11 xs r) _
 have t13:toS xs (d1_13 xs r)=cntS (toS xs (d1_12 xs r)) 62:=toS_cnt xs (d1_12 xs r) _
 have t14:toS xs (d1_14 xs r)=smlS (toS xs (d1_13 xs r)) 1:=toS_sml xs (d1_13 xs r) _
 have t15:toS xs (d1_15 xs r)=smlS (toS xs (d1_14 xs r)) 1:=toS_sml xs (d1_14 xs r) _
 have t16:toS xs (d1_16 xs r)=smlS (toS xs (d1_15 xs r)) 1:=toS_sml xs (d1_15 xs r) _
 unfold ts_1
 simp only [lstS,lst1,sclS,t1,t2,t3,t4,t5,t6,t7,t8,t9,t10,t11,t12,t13,t14,t15,t16]
theorem d1_n (xs:List Int) (r:Rrf):tn_1 (toS xs r) nod0=(⟨cntV (toS xs r) 9,cntV (toS xs (d1_1 xs r)) 1024,0,cntV (toS xs (d1_2 xs r)) 1024,cntV (toS xs (d1_3 xs r)) 1024,cntV (toS xs (d1_4 xs r)) 1024,cntV (toS xs (d1_5 xs r)) 1024,oneV (toS xs (d1_6 xs r)),0,smlV (toS xs (d1_8 xs r)) (cntV (toS xs (d1_7 xs r)) 16384),widV (toS xs (d1_10 xs r)) (cntV (toS xs (d1_9 xs r)) 16384),cntV (toS xs (d1_11 xs r)) 2147483647,cntV (toS xs (d1_12 xs r)) 62,oneV (toS xs (d1_13 xs r)),0,0,0,oneV (toS xs (d1_14 xs r)),oneV (toS xs (d1_15 xs r))⟩:Nod):=by
 have t1:toS xs (d1_1 xs r)=cntS (toS xs r) 9:=toS_cnt xs r _
 have t2:toS xs (d1_2 xs r)=cntS (toS xs (d1_1 xs r)) 1024:=toS_cnt xs (d1_1 xs r) _
 have t3:toS xs (d1_3 xs r)=cntS (toS xs (d1_2 xs r)) 1024:=toS_cnt xs (d1_2 xs r) _
 have t4:toS xs (d1_4 xs r)=cntS (toS xs (d1_3 xs r)) 1024:=toS_cnt xs (d1_3 xs r) _
 have t5:toS xs (d1_5 xs r)=cntS (toS xs (d1_4 xs r)) 1024:=toS_cnt xs (d1_4 xs r) _
 have t6:toS xs (d1_6 xs r)=cntS (toS xs (d1_5 xs r)) 1024:=toS_cnt xs (d1_5 xs r) _
 have t7:toS xs (d1_7 xs r)=smlS (toS xs (d1_6 xs r)) 1:=toS_sml xs (d1_6 xs r) _
 have t8:toS xs (d1_8 xs r)=cntS (toS xs (d1_7 xs r)) 16384:=toS_cnt xs (d1_7 xs r) _
 have t9:toS xs (d1_9 xs r)=smlS (toS xs (d1_8 xs r)) (cntV (toS xs (d1_7 xs r)) 16384):=toS_sml xs (d1_8 xs r) _
 have t10:toS xs (d1_10 xs r)=cntS (toS xs (d1_9 xs r)) 16384:=toS_cnt xs (d1_9 xs r) _
 have t11:toS xs (d1_11 xs r)=widS (toS xs (d1_10 xs r)) (cntV (toS xs (d1_9 xs r)) 16384):=toS_wid xs (d1_10 xs r) _
 have t12:toS xs (d1_12 xs r)=cntS (toS xs (d1_11 xs r)) 2147483647:=toS_cnt xs (d1_11 xs r) _
 have t13:toS xs (d1_13 xs r)=cntS (toS xs (d1_12 xs r)) 62:=toS_cnt xs (d1_12 xs r) _
 have t14:toS xs (d1_14 xs r)=smlS (toS xs (d1_13 xs r)) 1:=toS_sml xs (d1_13 xs r) _
 have t15:toS xs (d1_15 xs r)=smlS (toS xs (d1_14 xs r)) 1:=toS_sml xs (d1_14 xs r) _
 have t16:toS xs (d1_16 xs r)=smlS (toS xs (d1_15 xs r)) 1:=toS_sml xs (d1_15 xs r) _
 unfold tn_1
 simp only [lstW,lstB,lst1,lstS,sclM,sclH,sclS,t1,t2,t3,t4,t5,t6,t7,t8,t9,t10,t11,t12,t13,t14,t15,t16];rfl
theorem rtake_1v (xs:List Int) (r:Rrf) (i0:Rrf.In xs r) (hf:(toS xs r).Fit) (hk:cntV (toS xs r) 9=1):VM Try.prog 41 [.ptr 100000 0 0] [(100000,.var (rrC xs r))] (.tup [nod (takeR (toS xs r)).1,i64 (takeR (toS xs r)).2]) [(100000,.var (rrC xs (d1_16 xs r)))]:=by
 have e1:takeS (toS xs r)=ts_1 (toS xs r):=by unfold takeS;rw [if_pos hk]
 have e2:takeN (toS xs r)=tn_1 (toS xs r) nod0:=by unfold takeN;rw [if_pos hk]
 have e4:(takeS (toS xs r)).2=(d1_16 xs r).2:=by rw [e1,←d1_s,toS_2]
 have e5:=e2.trans (d1_n xs r)
 have bound:=takeN_le hf
 have h9:In64 (cntV (toS xs r) 9):=by have:=cntV_rng (m:=9) (toS_in i0) (by decide);exact ⟨by omega,by omega⟩
 have i1:Rrf.In xs (d1_1 xs r):=cntR_in i0 _
 have i2:Rrf.In xs (d1_2 xs r):=cntR_in i1 _
 have i3:Rrf.In xs (d1_3 xs r):=cntR_in i2 _
 have i4:Rrf.In xs (d1_4 xs r):=cntR_in i3 _
 have i5:Rrf.In xs (d1_5 xs r):=cntR_in i4 _
 have i6:Rrf.In xs (d1_6 xs r):=cntR_in i5 _
 have i7:Rrf.In xs (d1_7 xs r):=smlR_in i6 _
 have i8:Rrf.In xs (d1_8 xs r):=cntR_in i7 _
 have i9:Rrf.In xs (d1_9 xs r):=smlR_in i8 _
 have i10:Rrf.In xs (d1_10 xs r):=cntR_in i9 _
 have i11:Rrf.In xs (d1_11 xs r):=widR_in i10 _
 have i12:Rrf.In xs (d1_12 xs r):=cntR_in i11 _
 have i13:Rrf.In xs (d1_13 xs r):=cntR_in i12 _
 have i14:Rrf.In xs (d1_14 xs r):=smlR_in i13 _
 have i15:Rrf.In xs (d1_15 xs r):=smlR_in i14 _
 unfold takeR
 rw [e4,e5]
 rw [e5] at bound
 by_cases hb:(d1_16 xs r).2=0
 ·rw [if_neg (by simpa using hb)]
  by_cases hc:checkE (⟨cntV (toS xs r) 9,cntV (toS xs (d1_1 xs r)) 1024,0,cntV (toS xs (d1_2 xs r)) 1024,cntV (toS xs (d1_3 xs r)) 1024,cntV (toS xs (d1_4 xs r)) 1024,cntV (toS xs (d1_5 xs r)) 1024,oneV (toS xs (d1_6 xs r)),0,smlV (toS xs (d1_8 xs r)) (cntV (toS xs (d1_7 xs r)) 16384),widV (toS xs (d1_10 xs r)) (cntV (toS xs (d1_9 xs r)) 16384),cntV (toS xs (d1_11 xs r)) 2147483647,cntV (toS xs (d1_12 xs r)) 62,oneV (toS xs (d1_13 xs r)),0,0,0,oneV (toS xs (d1_14 xs r)),oneV (toS xs (d1_15 xs r))⟩:Nod)=0
  ·rw [if_neg (by simpa using hc)]
   exact rw_1y xs r _ _ _ _ _ _ _ _ _ _ _ _ _ _ _ _ _ _ _ _ _ _ _ _ _ _ _ _ _ _ _ _ (rcnt_v xs r 9 i0 (by decide) (by decide)) (rcnt_v xs (d1_1 xs r) 1024 i1 (by decide) (by decide)) (rcnt_v xs (d1_2 xs r) 1024 i2 (by decide) (by decide)) (rcnt_v xs (d1_3 xs r) 1024 i3 (by decide) (by decide)) (rcnt_v xs (d1_4 xs r) 1024 i4 (by decide) (by decide)) (rcnt_v xs (d1_5 xs r) 1024 i5 (by decide) (by decide)) (rone_v xs (d1_6 xs r) i6) (rcnt_v xs (d1_7 xs r) 16384 i7 (by decide) (by decide)) (rsmall_v xs (d1_8 xs r) _ i8) (rcnt_v xs (d1_9 xs r) 16384 i9 (by decide) (by decide)) (rwide_v xs (d1_10 xs r) _ i10) (rcnt_v xs (d1_11 xs r) 2147483647 i11 (by decide) (by decide)) (rcnt_v xs (d1_12 xs r) 62 i12 (by decide) (by decide)) (rone_v xs (d1_13 xs r) i13) (rone_v xs (d1_14 xs r) i14) (rone_v xs (d1_15 xs r) i15) hk h9 (cntV_rng (toS_in i11) (by decide)) hb bound.1 bound.2 hc
  ·rw [if_pos hc]
   exact rw_1c xs r _ _ _ _ _ _ _ _ _ _ _ _ _ _ _ _ _ _ _ _ _ _ _ _ _ _ _ _ _ _ _ _ (rcnt_v xs r 9 i0 (by decide) (by decide)) (rcnt_v xs (d1_1 xs r) 1024 i1 (by decide) (by decide)) (rcnt_v xs (d1_2 xs r) 1024 i2 (by decide) (by decide)) (rcnt_v xs (d1_3 xs r) 1024 i3 (by decide) (by decide)) (rcnt_v xs (d1_4 xs r) 1024 i4 (by decide) (by decide)) (rcnt_v xs (d1_5 xs r) 1024 i5 (by decide) (by decide)) (rone_v xs (d1_6 xs r) i6) (rcnt_v xs (d1_7 xs r) 16384 i7 (by decide) (by decide)) (rsmall_v xs (d1_8 xs r) _ i8) (rcnt_v xs (d1_9 xs r) 16384 i9 (by decide) (by decide)) (rwide_v xs (d1_10 xs r) _ i10) (rcnt_v xs (d1_11 xs r) 2147483647 i11 (by decide) (by decide)) (rcnt_v xs (d1_12 xs r) 62 i12 (by decide) (by decide)) (rone_v xs (d1_13 xs r) i13) (rone_v xs (d1_14 xs r) i14) (rone_v xs (d1_15 xs r) i15) hk h9 (cntV_rng (toS_in i11) (by decide)) hb bound.1 bound.2 hc
 ·rw [if_pos hb]
  exact rw_1b xs r _ _ _ _ _ _ _ _ _ _ _ _ _ _ _ _ _ _ _ _ _ _ _ _ _ _ _ _ _ _ _ _ (rcnt_v xs r 9 i0 (by decide) (by decide)) (rcnt_v xs (d1_1 xs r) 1024 i1 (by decide) (by decide)) (rcnt_v xs (d1_2 xs r) 1024 i2 (by decide) (by decide)) (rcnt_v xs (d1_3 xs r) 1024 i3 (by decide) (by decide)) (rcnt_v xs (d1_4 xs r) 1024 i4 (by decide) (by decide)) (rcnt_v xs (d1_5 xs r) 1024 i5 (by decide) (by decide)) (rone_v xs (d1_6 xs r) i6) (rcnt_v xs (d1_7 xs r) 16384 i7 (by decide) (by decide)) (rsmall_v xs (d1_8 xs r) _ i8) (rcnt_v xs (d1_9 xs r) 16384 i9 (by decide) (by decide)) (rwide_v xs (d1_10 xs r) _ i10) (rcnt_v xs (d1_11 xs r) 2147483647 i11 (by decide) (by decide)) (rcnt_v xs (d1_12 xs r) 62 i12 (by decide) (by decide)) (rone_v xs (d1_13 xs r) i13) (rone_v xs (d1_14 xs r) i14) (rone_v xs (d1_15 xs r) i15) hk h9 (cntV_rng (toS_in i11) (by decide)) hb
def d2_1 (xs:List Int) (r:Rrf):Rrf:=cntR xs r 9
def d2_2 (xs:List Int) (r:Rrf):Rrf:=cntR xs (d2_1 xs r) 1024
def d2_3 (xs:List Int) (r:Rrf):Rrf:=cntR xs (d2_2 xs r) 1024
def d2_4 (xs:List Int) (r:Rrf):Rrf:=cntR xs (d2_3 xs r) 1024
def d2_5 (xs:List Int) (r:Rrf):Rrf:=cntR xs (d2_4 xs r) 1024
def d2_6 (xs:List Int) (r:Rrf):Rrf:=smlR xs (d2_5 xs r) 1
def d2_7 (xs:List Int) (r:Rrf):Rrf:=cntR xs (d2_6 xs r) 16384
def d2_8 (xs:List Int) (r:Rrf):Rrf:=smlR xs (d2_7 xs r) (cntV (toS xs (d2_6 xs r)) 16384)
def d2_9 (xs:List Int) (r:Rrf):Rrf:=cntR xs (d2_8 xs r) 16384
def d2_10 (xs:List Int) (r:Rrf):Rrf:=widR xs (d2_9 xs r) (cntV (toS xs (d2_8 xs r)) 16384)
def d2_11 (xs:List Int) (r:Rrf):Rrf:=cntR xs (d2_10 xs r) 2147483647
def d2_12 (xs:List Int) (r:Rrf):Rrf:=cntR xs (d2_11 xs r) 62
def d2_13 (xs:List Int) (r:Rrf):Rrf:=smlR xs (d2_12 xs r) 1
def d2_14 (xs:List Int) (r:Rrf):Rrf:=smlR xs (d2_13 xs r) 1
def d2_15 (xs:List Int) (r:Rrf):Rrf:=smlR xs (d2_14 xs r) 1
theorem d2_in {xs:List Int} {r:Rrf} (i0:Rrf.In xs r):Rrf.In xs (d2_15 xs r):=by
 have i1:Rrf.In xs (d2_1 xs r):=cntR_in i0 _
 have i2:Rrf.In xs (d2_2 xs r):=cntR_in i1 _
 have i3:Rrf.In xs (d2_3 xs r):=cntR_in i2 _
 have i4:Rrf.In xs (d2_4 xs r):=cntR_in i3 _
 have i5:Rrf.In xs (d2_5 xs r):=cntR_in i4 _
 have i6:Rrf.In xs (d2_6 xs r):=smlR_in i5 _
 have i7:Rrf.In xs (d2_7 xs r):=cntR_in i6 _
 have i8:Rrf.In xs (d2_8 xs r):=smlR_in i7 _
 have i9:Rrf.In xs (d2_9 xs r):=cntR_in i8 _
 have i10:Rrf.In xs (d2_10 xs r):=widR_in i9 _
 have i11:Rrf.In xs (d2_11 xs r):=cntR_in i10 _
 have i12:Rrf.In xs (d2_12 xs r):=cntR_in i11 _
 have i13:Rrf.In xs (d2_13 xs r):=smlR_in i12 _
 have i14:Rrf.In xs (d2_14 xs r):=smlR_in i13 _
 have i15:Rrf.In xs (d2_15 xs r):=smlR_in i14 _
 exact i15
theorem d2_s (xs:List Int) (r:Rrf):toS xs (d2_15 xs r)=ts_2 (toS xs r):=by
 have t1:toS xs (d2_1 xs r)=cntS (toS xs r) 9:=toS_cnt xs r _
 have t2:toS xs (d2_2 xs r)=cntS (toS xs (d2_1 xs r)) 1024:=toS_cnt xs (d2_1 xs r) _
 have t3:toS xs (d2_3 xs r)=cntS (toS xs (d2_2 xs r)) 1024:=toS_cnt xs (d2_2 xs r) _
 have t4:toS xs (d2_4 xs r)=cntS (toS xs (d2_3 xs r)) 1024:=toS_cnt xs (d2_3 xs r) _
 have t5:toS xs (d2_5 xs r)=cntS (toS xs (d2_4 xs r)) 1024:=toS_cnt xs (d2_4 xs r) _
 have t6:toS xs (d2_6 xs r)=smlS (toS xs (d2_5 xs r)) 1:=toS_sml xs (d2_5 xs r) _
 have t7:toS xs (d2_7 xs r)=cntS (toS xs (d2_6 xs r)) 16384:=toS_cnt xs (d2_6 xs r) _
 have t8:toS xs (d2_8 xs r)=smlS (toS xs (d2_7 xs r)) (cntV (toS xs (d2_6 xs r)) 16384):=toS_sml xs (d2_7 xs r) _
 have t9:toS xs (d2_9 xs r)=cntS (toS xs (d2_8 xs r)) 16384:=toS_cnt xs (d2_8 xs r) _
 have t10:toS xs (d2_10 xs r)=widS (toS xs (d2_9 xs r)) (cntV (toS xs (d2_8 xs r)) 16384):=toS_wid xs (d2_9 xs r) _
 have t11:toS xs (d2_11 xs r)=cntS (toS xs (d2_10 xs r)) 2147483647:=toS_cnt xs (d2_10 xs r) _
 have t12:toS xs (d2_12 xs r)=cntS (toS xs (d2_11 xs r)) 62:=toS_cnt xs (d2_11 xs r) _
 have t13:toS xs (d2_13 xs r)=smlS (toS xs (d2_12 xs r)) 1:=toS_sml xs (d2_12 xs r) _
 have t14:toS xs (d2_14 xs r)=smlS (toS xs (d2_13 xs r)) 1:=toS_sml xs (d2_13 xs r) _
 have t15:toS xs (d2_15 xs r)=smlS (toS xs (d2_14 xs r)) 1:=toS_sml xs (d2_14 xs r) _
 unfold ts_2
 simp only [lstS,lst1,sclS,t1,t2,t3,t4,t5,t6,t7,t8,t9,t10,t11,t12,t13,t14,t15]
theorem d2_n (xs:List Int) (r:Rrf):tn_2 (toS xs r) nod0=(⟨cntV (toS xs r) 9,cntV (toS xs (d2_1 xs r)) 1024,0,cntV (toS xs (d2_2 xs r)) 1024,cntV (toS xs (d2_3 xs r)) 1024,cntV (toS xs (d2_4 xs r)) 1024,0,oneV (toS xs (d2_5 xs r)),0,smlV (toS xs (d2_7 xs r)) (cntV (toS xs (d2_6 xs r)) 16384),widV (toS xs (d2_9 xs r)) (cntV (toS xs (d2_8 xs r)) 16384),cntV (toS xs (d2_10 xs r)) 2147483647,cntV (toS xs (d2_11 xs r)) 62,oneV (toS xs (d2_12 xs r)),0,0,0,oneV (toS xs (d2_13 xs r)),oneV (toS xs (d2_14 xs r))⟩:Nod):=by
 have t1:toS xs (d2_1 xs r)=cntS (toS xs r) 9:=toS_cnt xs r _
 have t2:toS xs (d2_2 xs r)=cntS (toS xs (d2_1 xs r)) 1024:=toS_cnt xs (d2_1 xs r) _
 have t3:toS xs (d2_3 xs r)=cntS (toS xs (d2_2 xs r)) 1024:=toS_cnt xs (d2_2 xs r) _
 have t4:toS xs (d2_4 xs r)=cntS (toS xs (d2_3 xs r)) 1024:=toS_cnt xs (d2_3 xs r) _
 have t5:toS xs (d2_5 xs r)=cntS (toS xs (d2_4 xs r)) 1024:=toS_cnt xs (d2_4 xs r) _
 have t6:toS xs (d2_6 xs r)=smlS (toS xs (d2_5 xs r)) 1:=toS_sml xs (d2_5 xs r) _
 have t7:toS xs (d2_7 xs r)=cntS (toS xs (d2_6 xs r)) 16384:=toS_cnt xs (d2_6 xs r) _
 have t8:toS xs (d2_8 xs r)=smlS (toS xs (d2_7 xs r)) (cntV (toS xs (d2_6 xs r)) 16384):=toS_sml xs (d2_7 xs r) _
 have t9:toS xs (d2_9 xs r)=cntS (toS xs (d2_8 xs r)) 16384:=toS_cnt xs (d2_8 xs r) _
 have t10:toS xs (d2_10 xs r)=widS (toS xs (d2_9 xs r)) (cntV (toS xs (d2_8 xs r)) 16384):=toS_wid xs (d2_9 xs r) _
 have t11:toS xs (d2_11 xs r)=cntS (toS xs (d2_10 xs r)) 2147483647:=toS_cnt xs (d2_10 xs r) _
 have t12:toS xs (d2_12 xs r)=cntS (toS xs (d2_11 xs r)) 62:=toS_cnt xs (d2_11 xs r) _
 have t13:toS xs (d2_13 xs r)=smlS (toS xs (d2_12 xs r)) 1:=toS_sml xs (d2_12 xs r) _
 have t14:toS xs (d2_14 xs r)=smlS (toS xs (d2_13 xs r)) 1:=toS_sml xs (d2_13 xs r) _
 have t15:toS xs (d2_15 xs r)=smlS (toS xs (d2_14 xs r)) 1:=toS_sml xs (d2_14 xs r) _
 unfold tn_2
 simp only [lstW,lstB,lst1,lstS,sclM,sclH,sclS,t1,t2,t3,t4,t5,t6,t7,t8,t9,t10,t11,t12,t13,t14,t15];rfl
theorem rtake_2v (xs:List Int) (r:Rrf) (i0:Rrf.In xs r) (hf:(toS xs r).Fit) (hk:cntV (toS xs r) 9=2):VM Try.prog 41 [.ptr 100000 0 0] [(100000,.var (rrC xs r))] (.tup [nod (takeR (toS xs r)).1,i64 (takeR (toS xs r)).2]) [(100000,.var (rrC xs (d2_15 xs r)))]:=by
 have e1:takeS (toS xs r)=ts_2 (toS xs r):=by unfold takeS;rw [if_neg (by omega),if_pos hk]
 have e2:takeN (toS xs r)=tn_2 (toS xs r) nod0:=by unfold takeN;rw [if_neg (by omega),if_pos hk]
 have e4:(takeS (toS xs r)).2=(d2_15 xs r).2:=by rw [e1,←d2_s,toS_2]
 have e5:=e2.trans (d2_n xs r)
 have bound:=takeN_le hf
 have h9:In64 (cntV (toS xs r) 9):=by have:=cntV_rng (m:=9) (toS_in i0) (by decide);exact ⟨by omega,by omega⟩
 have i1:Rrf.In xs (d2_1 xs r):=cntR_in i0 _
 have i2:Rrf.In xs (d2_2 xs r):=cntR_in i1 _
 have i3:Rrf.In xs (d2_3 xs r):=cntR_in i2 _
 have i4:Rrf.In xs (d2_4 xs r):=cntR_in i3 _
 have i5:Rrf.In xs (d2_5 xs r):=cntR_in i4 _
 have i6:Rrf.In xs (d2_6 xs r):=smlR_in i5 _
 have i7:Rrf.In xs (d2_7 xs r):=cntR_in i6 _
 have i8:Rrf.In xs (d2_8 xs r):=smlR_in i7 _
 have i9:Rrf.In xs (d2_9 xs r):=cntR_in i8 _
 have i10:Rrf.In xs (d2_10 xs r):=widR_in i9 _
 have i11:Rrf.In xs (d2_11 xs r):=cntR_in i10 _
 have i12:Rrf.In xs (d2_12 xs r):=cntR_in i11 _
 have i13:Rrf.In xs (d2_13 xs r):=smlR_in i12 _
 have i14:Rrf.In xs (d2_14 xs r):=smlR_in i13 _
 unfold takeR
 rw [e4,e5]
 rw [e5] at bound
 by_cases hb:(d2_15 xs r).2=0
 ·rw [if_neg (by simpa using hb)]
  by_cases hc:checkE (⟨cntV (toS xs r) 9,cntV (toS xs (d2_1 xs r)) 1024,0,cntV (toS xs (d2_2 xs r)) 1024,cntV (toS xs (d2_3 xs r)) 1024,cntV (toS xs (d2_4 xs r)) 1024,0,oneV (toS xs (d2_5 xs r)),0,smlV (toS xs (d2_7 xs r)) (cntV (toS xs (d2_6 xs r)) 16384),widV (toS xs (d2_9 xs r)) (cntV (toS xs (d2_8 xs r)) 16384),cntV (toS xs (d2_10 xs r)) 2147483647,cntV (toS xs (d2_11 xs r)) 62,oneV (toS xs (d2_12 xs r)),0,0,0,oneV (toS xs (d2_13 xs r)),oneV (toS xs (d2_14 xs r))⟩:Nod)=0
  ·rw [if_neg (by simpa using hc)]
   exact rw_2y xs r _ _ _ _ _ _ _ _ _ _ _ _ _ _ _ _ _ _ _ _ _ _ _ _ _ _ _ _ _ _ (rcnt_v xs r 9 i0 (by decide) (by decide)) (rcnt_v xs (d2_1 xs r) 1024 i1 (by decide) (by decide)) (rcnt_v xs (d2_2 xs r) 1024 i2 (by decide) (by decide)) (rcnt_v xs (d2_3 xs r) 1024 i3 (by decide) (by decide)) (rcnt_v xs (d2_4 xs r) 1024 i4 (by decide) (by decide)) (rone_v xs (d2_5 xs r) i5) (rcnt_v xs (d2_6 xs r) 16384 i6 (by decide) (by decide)) (rsmall_v xs (d2_7 xs r) _ i7) (rcnt_v xs (d2_8 xs r) 16384 i8 (by decide) (by decide)) (rwide_v xs (d2_9 xs r) _ i9) (rcnt_v xs (d2_10 xs r) 2147483647 i10 (by decide) (by decide)) (rcnt_v xs (d2_11 xs r) 62 i11 (by decide) (by decide)) (rone_v xs (d2_12 xs r) i12) (rone_v xs (d2_13 xs r) i13) (rone_v xs (d2_14 xs r) i14) hk h9 (cntV_rng (toS_in i10) (by decide)) hb bound.1 bound.2 hc
  ·rw [if_pos hc]
   exact rw_2c xs r _ _ _ _ _ _ _ _ _ _ _ _ _ _ _ _ _ _ _ _ _ _ _ _ _ _ _ _ _ _ (rcnt_v xs r 9 i0 (by decide) (by decide)) (rcnt_v xs (d2_1 xs r) 1024 i1 (by decide) (by decide)) (rcnt_v xs (d2_2 xs r) 1024 i2 (by decide) (by decide)) (rcnt_v xs (d2_3 xs r) 1024 i3 (by decide) (by decide)) (rcnt_v xs (d2_4 xs r) 1024 i4 (by decide) (by decide)) (rone_v xs (d2_5 xs r) i5) (rcnt_v xs (d2_6 xs r) 16384 i6 (by decide) (by decide)) (rsmall_v xs (d2_7 xs r) _ i7) (rcnt_v xs (d2_8 xs r) 16384 i8 (by decide) (by decide)) (rwide_v xs (d2_9 xs r) _ i9) (rcnt_v xs (d2_10 xs r) 2147483647 i10 (by decide) (by decide)) (rcnt_v xs (d2_11 xs r) 62 i11 (by decide) (by decide)) (rone_v xs (d2_12 xs r) i12) (rone_v xs (d2_13 xs r) i13) (rone_v xs (d2_14 xs r) i14) hk h9 (cntV_rng (toS_in i10) (by decide)) hb bound.1 bound.2 hc
 ·rw [if_pos hb]
  exact rw_2b xs r _ _ _ _ _ _ _ _ _ _ _ _ _ _ _ _ _ _ _ _ _ _ _ _ _ _ _ _ _ _ (rcnt_v xs r 9 i0 (by decide) (by decide)) (rcnt_v xs (d2_1 xs r) 1024 i1 (by decide) (by decide)) (rcnt_v xs (d2_2 xs r) 1024 i2 (by decide) (by decide)) (rcnt_v xs (d2_3 xs r) 1024 i3 (by decide) (by decide)) (rcnt_v xs (d2_4 xs r) 1024 i4 (by decide) (by decide)) (rone_v xs (d2_5 xs r) i5) (rcnt_v xs (d2_6 xs r) 16384 i6 (by decide) (by decide)) (rsmall_v xs (d2_7 xs r) _ i7) (rcnt_v xs (d2_8 xs r) 16384 i8 (by decide) (by decide)) (rwide_v xs (d2_9 xs r) _ i9) (rcnt_v xs (d2_10 xs r) 2147483647 i10 (by decide) (by decide)) (rcnt_v xs (d2_11 xs r) 62 i11 (by decide) (by decide)) (rone_v xs (d2_12 xs r) i12) (rone_v xs (d2_13 xs r) i13) (rone_v xs (d2_14 xs r) i14) hk h9 (cntV_rng (toS_in i10) (by decide)) hb
def d3_1 (xs:List Int) (r:Rrf):Rrf:=cntR xs r 9
def d3_2 (xs:List Int) (r:Rrf):Rrf:=cntR xs (d3_1 xs r) 1024
def d3_3 (xs:List Int) (r:Rrf):Rrf:=cntR xs (d3_2 xs r) 1024
def d3_4 (xs:List Int) (r:Rrf):Rrf:=smlR xs (d3_3 xs r) 1
def d3_5 (xs:List Int) (r:Rrf):Rrf:=cntR xs (d3_4 xs r) 16384
def d3_6 (xs:List Int) (r:Rrf):Rrf:=smlR xs (d3_5 xs r) (cntV (toS xs (d3_4 xs r)) 16384)
def d3_7 (xs:List Int) (r:Rrf):Rrf:=cntR xs (d3_6 xs r) 16384
def d3_8 (xs:List Int) (r:Rrf):Rrf:=widR xs (d3_7 xs r) (cntV (toS xs (d3_6 xs r)) 16384)
def d3_9 (xs:List Int) (r:Rrf):Rrf:=cntR xs (d3_8 xs r) 2147483647
def d3_10 (xs:List Int) (r:Rrf):Rrf:=cntR xs (d3_9 xs r) 62
def d3_11 (xs:List Int) (r:Rrf):Rrf:=smlR xs (d3_10 xs r) 1
def d3_12 (xs:List Int) (r:Rrf):Rrf:=smlR xs (d3_11 xs r) 1
def d3_13 (xs:List Int) (r:Rrf):Rrf:=smlR xs (d3_12 xs r) 1
theorem d3_in {xs:List Int} {r:Rrf} (i0:Rrf.In xs r):Rrf.In xs (d3_13 xs r):=by
 have i1:Rrf.In xs (d3_1 xs r):=cntR_in i0 _
 have i2:Rrf.In xs (d3_2 xs r):=cntR_in i1 _
 have i3:Rrf.In xs (d3_3 xs r):=cntR_in i2 _
 have i4:Rrf.In xs (d3_4 xs r):=smlR_in i3 _
 have i5:Rrf.In xs (d3_5 xs r):=cntR_in i4 _
 have i6:Rrf.In xs (d3_6 xs r):=smlR_in i5 _
 have i7:Rrf.In xs (d3_7 xs r):=cntR_in i6 _
 have i8:Rrf.In xs (d3_8 xs r):=widR_in i7 _
 have i9:Rrf.In xs (d3_9 xs r):=cntR_in i8 _
 have i10:Rrf.In xs (d3_10 xs r):=cntR_in i9 _
 have i11:Rrf.In xs (d3_11 xs r):=smlR_in i10 _
 have i12:Rrf.In xs (d3_12 xs r):=smlR_in i11 _
 have i13:Rrf.In xs (d3_13 xs r):=smlR_in i12 _
 exact i13
theorem d3_s (xs:List Int) (r:Rrf):toS xs (d3_13 xs r)=ts_3 (toS xs r):=by
 have t1:toS xs (d3_1 xs r)=cntS (toS xs r) 9:=toS_cnt xs r _
 have t2:toS xs (d3_2 xs r)=cntS (toS xs (d3_1 xs r)) 1024:=toS_cnt xs (d3_1 xs r) _
 have t3:toS xs (d3_3 xs r)=cntS (toS xs (d3_2 xs r)) 1024:=toS_cnt xs (d3_2 xs r) _
 have t4:toS xs (d3_4 xs r)=smlS (toS xs (d3_3 xs r)) 1:=toS_sml xs (d3_3 xs r) _
 have t5:toS xs (d3_5 xs r)=cntS (toS xs (d3_4 xs r)) 16384:=toS_cnt xs (d3_4 xs r) _
 have t6:toS xs (d3_6 xs r)=smlS (toS xs (d3_5 xs r)) (cntV (toS xs (d3_4 xs r)) 16384):=toS_sml xs (d3_5 xs r) _
 have t7:toS xs (d3_7 xs r)=cntS (toS xs (d3_6 xs r)) 16384:=toS_cnt xs (d3_6 xs r) _
 have t8:toS xs (d3_8 xs r)=widS (toS xs (d3_7 xs r)) (cntV (toS xs (d3_6 xs r)) 16384):=toS_wid xs (d3_7 xs r) _
 have t9:toS xs (d3_9 xs r)=cntS (toS xs (d3_8 xs r)) 2147483647:=toS_cnt xs (d3_8 xs r) _
 have t10:toS xs (d3_10 xs r)=cntS (toS xs (d3_9 xs r)) 62:=toS_cnt xs (d3_9 xs r) _
 have t11:toS xs (d3_11 xs r)=smlS (toS xs (d3_10 xs r)) 1:=toS_sml xs (d3_10 xs r) _
 have t12:toS xs (d3_12 xs r)=smlS (toS xs (d3_11 xs r)) 1:=toS_sml xs (d3_11 xs r) _
 have t13:toS xs (d3_13 xs r)=smlS (toS xs (d3_12 xs r)) 1:=toS_sml xs (d3_12 xs r) _
 unfold ts_3
 simp only [lstS,lst1,sclS,t1,t2,t3,t4,t5,t6,t7,t8,t9,t10,t11,t12,t13]
theorem d3_n (xs:List Int) (r:Rrf):tn_3 (toS xs r) nod0=(⟨cntV (toS xs r) 9,cntV (toS xs (d3_1 xs r)) 1024,0,0,0,0,cntV (toS xs (d3_2 xs r)) 1024,oneV (toS xs (d3_3 xs r)),0,smlV (toS xs (d3_5 xs r)) (cntV (toS xs (d3_4 xs r)) 16384),widV (toS xs (d3_7 xs r)) (cntV (toS xs (d3_6 xs r)) 16384),cntV (toS xs (d3_8 xs r)) 2147483647,cntV (toS xs (d3_9 xs r)) 62,oneV (toS xs (d3_10 xs r)),0,0,0,oneV (toS xs (d3_11 xs r)),oneV (toS xs (d3_12 xs r))⟩:Nod):=by
 have t1:toS xs (d3_1 xs r)=cntS (toS xs r) 9:=toS_cnt xs r _
 have t2:toS xs (d3_2 xs r)=cntS (toS xs (d3_1 xs r)) 1024:=toS_cnt xs (d3_1 xs r) _
 have t3:toS xs (d3_3 xs r)=cntS (toS xs (d3_2 xs r)) 1024:=toS_cnt xs (d3_2 xs r) _
 have t4:toS xs (d3_4 xs r)=smlS (toS xs (d3_3 xs r)) 1:=toS_sml xs (d3_3 xs r) _
 have t5:toS xs (d3_5 xs r)=cntS (toS xs (d3_4 xs r)) 16384:=toS_cnt xs (d3_4 xs r) _
 have t6:toS xs (d3_6 xs r)=smlS (toS xs (d3_5 xs r)) (cntV (toS xs (d3_4 xs r)) 16384):=toS_sml xs (d3_5 xs r) _
 have t7:toS xs (d3_7 xs r)=cntS (toS xs (d3_6 xs r)) 16384:=toS_cnt xs (d3_6 xs r) _
 have t8:toS xs (d3_8 xs r)=widS (toS xs (d3_7 xs r)) (cntV (toS xs (d3_6 xs r)) 16384):=toS_wid xs (d3_7 xs r) _
 have t9:toS xs (d3_9 xs r)=cntS (toS xs (d3_8 xs r)) 2147483647:=toS_cnt xs (d3_8 xs r) _
 have t10:toS xs (d3_10 xs r)=cntS (toS xs (d3_9 xs r)) 62:=toS_cnt xs (d3_9 xs r) _
 have t11:toS xs (d3_11 xs r)=smlS (toS xs (d3_10 xs r)) 1:=toS_sml xs (d3_10 xs r) _
 have t12:toS xs (d3_12 xs r)=smlS (toS xs (d3_11 xs r)) 1:=toS_sml xs (d3_11 xs r) _
 have t13:toS xs (d3_13 xs r)=smlS (toS xs (d3_12 xs r)) 1:=toS_sml xs (d3_12 xs r) _
 unfold tn_3
 simp only [lstW,lstB,lst1,lstS,sclM,sclH,sclS,t1,t2,t3,t4,t5,t6,t7,t8,t9,t10,t11,t12,t13];rfl
theorem rtake_3v (xs:List Int) (r:Rrf) (i0:Rrf.In xs r) (hf:(toS xs r).Fit) (hk:cntV (toS xs r) 9=3):VM Try.prog 41 [.ptr 100000 0 0] [(100000,.var (rrC xs r))] (.tup [nod (takeR (toS xs r)).1,i64 (takeR (toS xs r)).2]) [(100000,.var (rrC xs (d3_13 xs r)))]:=by
 have e1:takeS (toS xs r)=ts_3 (toS xs r):=by unfold takeS;rw [if_neg (by omega),if_neg (by omega),if_pos hk]
 have e2:takeN (toS xs r)=tn_3 (toS xs r) nod0:=by unfold takeN;rw [if_neg (by omega),if_neg (by omega),if_pos hk]
 have e4:(takeS (toS xs r)).2=(d3_13 xs r).2:=by rw [e1,←d3_s,toS_2]
 have e5:=e2.trans (d3_n xs r)
 have bound:=takeN_le hf
 have h9:In64 (cntV (toS xs r) 9):=by have:=cntV_rng (m:=9) (toS_in i0) (by decide);exact ⟨by omega,by omega⟩
 have i1:Rrf.In xs (d3_1 xs r):=cntR_in i0 _
 have i2:Rrf.In xs (d3_2 xs r):=cntR_in i1 _
 have i3:Rrf.In xs (d3_3 xs r):=cntR_in i2 _
 have i4:Rrf.In xs (d3_4 xs r):=smlR_in i3 _
 have i5:Rrf.In xs (d3_5 xs r):=cntR_in i4 _
 have i6:Rrf.In xs (d3_6 xs r):=smlR_in i5 _
 have i7:Rrf.In xs (d3_7 xs r):=cntR_in i6 _
 have i8:Rrf.In xs (d3_8 xs r):=widR_in i7 _
 have i9:Rrf.In xs (d3_9 xs r):=cntR_in i8 _
 have i10:Rrf.In xs (d3_10 xs r):=cntR_in i9 _
 have i11:Rrf.In xs (d3_11 xs r):=smlR_in i10 _
 have i12:Rrf.In xs (d3_12 xs r):=smlR_in i11 _
 unfold takeR
 rw [e4,e5]
 rw [e5] at bound
 by_cases hb:(d3_13 xs r).2=0
 ·rw [if_neg (by simpa using hb)]
  by_cases hc:checkE (⟨cntV (toS xs r) 9,cntV (toS xs (d3_1 xs r)) 1024,0,0,0,0,cntV (toS xs (d3_2 xs r)) 1024,oneV (toS xs (d3_3 xs r)),0,smlV (toS xs (d3_5 xs r)) (cntV (toS xs (d3_4 xs r)) 16384),widV (toS xs (d3_7 xs r)) (cntV (toS xs (d3_6 xs r)) 16384),cntV (toS xs (d3_8 xs r)) 2147483647,cntV (toS xs (d3_9 xs r)) 62,oneV (toS xs (d3_10 xs r)),0,0,0,oneV (toS xs (d3_11 xs r)),oneV (toS xs (d3_12 xs r))⟩:Nod)=0
  ·rw [if_neg (by simpa using hc)]
   exact rw_3y xs r _ _ _ _ _ _ _ _ _ _ _ _ _ _ _ _ _ _ _ _ _ _ _ _ _ _ (rcnt_v xs r 9 i0 (by decide) (by decide)) (rcnt_v xs (d3_1 xs r) 1024 i1 (by decide) (by decide)) (rcnt_v xs (d3_2 xs r) 1024 i2 (by decide) (by decide)) (rone_v xs (d3_3 xs r) i3) (rcnt_v xs (d3_4 xs r) 16384 i4 (by decide) (by decide)) (rsmall_v xs (d3_5 xs r) _ i5) (rcnt_v xs (d3_6 xs r) 16384 i6 (by decide) (by decide)) (rwide_v xs (d3_7 xs r) _ i7) (rcnt_v xs (d3_8 xs r) 2147483647 i8 (by decide) (by decide)) (rcnt_v xs (d3_9 xs r) 62 i9 (by decide) (by decide)) (rone_v xs (d3_10 xs r) i10) (rone_v xs (d3_11 xs r) i11) (rone_v xs (d3_12 xs r) i12) hk h9 (cntV_rng (toS_in i8) (by decide)) hb bound.1 bound.2 hc
  ·rw [if_pos hc]
   exact rw_3c xs r _ _ _ _ _ _ _ _ _ _ _ _ _ _ _ _ _ _ _ _ _ _ _ _ _ _ (rcnt_v xs r 9 i0 (by decide) (by decide)) (rcnt_v xs (d3_1 xs r) 1024 i1 (by decide) (by decide)) (rcnt_v xs (d3_2 xs r) 1024 i2 (by decide) (by decide)) (rone_v xs (d3_3 xs r) i3) (rcnt_v xs (d3_4 xs r) 16384 i4 (by decide) (by decide)) (rsmall_v xs (d3_5 xs r) _ i5) (rcnt_v xs (d3_6 xs r) 16384 i6 (by decide) (by decide)) (rwide_v xs (d3_7 xs r) _ i7) (rcnt_v xs (d3_8 xs r) 2147483647 i8 (by decide) (by decide)) (rcnt_v xs (d3_9 xs r) 62 i9 (by decide) (by decide)) (rone_v xs (d3_10 xs r) i10) (rone_v xs (d3_11 xs r) i11) (rone_v xs (d3_12 xs r) i12) hk h9 (cntV_rng (toS_in i8) (by decide)) hb bound.1 bound.2 hc
 ·rw [if_pos hb]
  exact rw_3b xs r _ _ _ _ _ _ _ _ _ _ _ _ _ _ _ _ _ _ _ _ _ _ _ _ _ _ (rcnt_v xs r 9 i0 (by decide) (by decide)) (rcnt_v xs (d3_1 xs r) 1024 i1 (by decide) (by decide)) (rcnt_v xs (d3_2 xs r) 1024 i2 (by decide) (by decide)) (rone_v xs (d3_3 xs r) i3) (rcnt_v xs (d3_4 xs r) 16384 i4 (by decide) (by decide)) (rsmall_v xs (d3_5 xs r) _ i5) (rcnt_v xs (d3_6 xs r) 16384 i6 (by decide) (by decide)) (rwide_v xs (d3_7 xs r) _ i7) (rcnt_v xs (d3_8 xs r) 2147483647 i8 (by decide) (by decide)) (rcnt_v xs (d3_9 xs r) 62 i9 (by decide) (by decide)) (rone_v xs (d3_10 xs r) i10) (rone_v xs (d3_11 xs r) i11) (rone_v xs (d3_12 xs r) i12) hk h9 (cntV_rng (toS_in i8) (by decide)) hb
def d4_1 (xs:List Int) (r:Rrf):Rrf:=cntR xs r 9
def d4_2 (xs:List Int) (r:Rrf):Rrf:=cntR xs (d4_1 xs r) 1024
def d4_3 (xs:List Int) (r:Rrf):Rrf:=cntR xs (d4_2 xs r) 1024
def d4_4 (xs:List Int) (r:Rrf):Rrf:=cntR xs (d4_3 xs r) 1024
def d4_5 (xs:List Int) (r:Rrf):Rrf:=cntR xs (d4_4 xs r) 1024
theorem d4_in {xs:List Int} {r:Rrf} (i0:Rrf.In xs r):Rrf.In xs (d4_5 xs r):=by
 have i1:Rrf.In xs (d4_1 xs r):=cntR_in i0 _
 have i2:Rrf.In xs (d4_2 xs r):=cntR_in i1 _
 have i3:Rrf.In xs (d4_3 xs r):=cntR_in i2 _
 have i4:Rrf.In xs (d4_4 xs r):=cntR_in i3 _
 have i5:Rrf.In xs (d4_5 xs r):=cntR_in i4 _
 exact i5
theorem d4_s (xs:List Int) (r:Rrf):toS xs (d4_5 xs r)=ts_4 (toS xs r):=by
 have t1:toS xs (d4_1 xs r)=cntS (toS xs r) 9:=toS_cnt xs r _
 have t2:toS xs (d4_2 xs r)=cntS (toS xs (d4_1 xs r)) 1024:=toS_cnt xs (d4_1 xs r) _
 have t3:toS xs (d4_3 xs r)=cntS (toS xs (d4_2 xs r)) 1024:=toS_cnt xs (d4_2 xs r) _
 have t4:toS xs (d4_4 xs r)=cntS (toS xs (d4_3 xs r)) 1024:=toS_cnt xs (d4_3 xs r) _
 have t5:toS xs (d4_5 xs r)=cntS (toS xs (d4_4 xs r)) 1024:=toS_cnt xs (d4_4 xs r) _
 unfold ts_4
 simp only [lstS,lst1,sclS,t1,t2,t3,t4,t5]
theorem d4_n (xs:List Int) (r:Rrf):tn_4 (toS xs r) nod0=(⟨cntV (toS xs r) 9,cntV (toS xs (d4_1 xs r)) 1024,0,cntV (toS xs (d4_2 xs r)) 1024,cntV (toS xs (d4_3 xs r)) 1024,cntV (toS xs (d4_4 xs r)) 1024,0,0,0,[],[],0,0,0,0,0,0,0,0⟩:Nod):=by
 have t1:toS xs (d4_1 xs r)=cntS (toS xs r) 9:=toS_cnt xs r _
 have t2:toS xs (d4_2 xs r)=cntS (toS xs (d4_1 xs r)) 1024:=toS_cnt xs (d4_1 xs r) _
 have t3:toS xs (d4_3 xs r)=cntS (toS xs (d4_2 xs r)) 1024:=toS_cnt xs (d4_2 xs r) _
 have t4:toS xs (d4_4 xs r)=cntS (toS xs (d4_3 xs r)) 1024:=toS_cnt xs (d4_3 xs r) _
 have t5:toS xs (d4_5 xs r)=cntS (toS xs (d4_4 xs r)) 1024:=toS_cnt xs (d4_4 xs r) _
 unfold tn_4
 simp only [lstW,lstB,lst1,lstS,sclM,sclH,sclS,t1,t2,t3,t4,t5];rfl
theorem rtake_4v (xs:List Int) (r:Rrf) (i0:Rrf.In xs r) (hf:(toS xs r).Fit) (hk:cntV (toS xs r) 9=4∨cntV (toS xs r) 9=5):VM Try.prog 41 [.ptr 100000 0 0] [(100000,.var (rrC xs r))] (.tup [nod (takeR (toS xs r)).1,i64 (takeR (toS xs r)).2]) [(100000,.var (rrC xs (d4_5 xs r)))]:=by
 have e1:takeS (toS xs r)=ts_4 (toS xs r):=by unfold takeS;rw [if_neg (by omega),if_neg (by omega),if_neg (by omega),if_pos hk]
 have e2:takeN (toS xs r)=tn_4 (toS xs r) nod0:=by unfold takeN;rw [if_neg (by omega),if_neg (by omega),if_neg (by omega),if_pos hk]
 have e4:(takeS (toS xs r)).2=(d4_5 xs r).2:=by rw [e1,←d4_s,toS_2]
 have e5:=e2.trans (d4_n xs r)
 have bound:=takeN_le hf
 have h9:In64 (cntV (toS xs r) 9):=by have:=cntV_rng (m:=9) (toS_in i0) (by decide);exact ⟨by omega,by omega⟩
 have i1:Rrf.In xs (d4_1 xs r):=cntR_in i0 _
 have i2:Rrf.In xs (d4_2 xs r):=cntR_in i1 _
 have i3:Rrf.In xs (d4_3 xs r):=cntR_in i2 _
 have i4:Rrf.In xs (d4_4 xs r):=cntR_in i3 _
 unfold takeR
 rw [e4,e5]
 rw [e5] at bound
 by_cases hb:(d4_5 xs r).2=0
 ·rw [if_neg (by simpa using hb)]
  by_cases hc:checkE (⟨cntV (toS xs r) 9,cntV (toS xs (d4_1 xs r)) 1024,0,cntV (toS xs (d4_2 xs r)) 1024,cntV (toS xs (d4_3 xs r)) 1024,cntV (toS xs (d4_4 xs r)) 1024,0,0,0,[],[],0,0,0,0,0,0,0,0⟩:Nod)=0
  ·rw [if_neg (by simpa using hc)]
   exact rw_4y xs r _ _ _ _ _ _ _ _ _ _ (rcnt_v xs r 9 i0 (by decide) (by decide)) (rcnt_v xs (d4_1 xs r) 1024 i1 (by decide) (by decide)) (rcnt_v xs (d4_2 xs r) 1024 i2 (by decide) (by decide)) (rcnt_v xs (d4_3 xs r) 1024 i3 (by decide) (by decide)) (rcnt_v xs (d4_4 xs r) 1024 i4 (by decide) (by decide)) hk h9 hb hc
  ·rw [if_pos hc]
   exact rw_4c xs r _ _ _ _ _ _ _ _ _ _ (rcnt_v xs r 9 i0 (by decide) (by decide)) (rcnt_v xs (d4_1 xs r) 1024 i1 (by decide) (by decide)) (rcnt_v xs (d4_2 xs r) 1024 i2 (by decide) (by decide)) (rcnt_v xs (d4_3 xs r) 1024 i3 (by decide) (by decide)) (rcnt_v xs (d4_4 xs r) 1024 i4 (by decide) (by decide)) hk h9 hb hc
 ·rw [if_pos hb]
  exact rw_4b xs r _ _ _ _ _ _ _ _ _ _ (rcnt_v xs r 9 i0 (by decide) (by decide)) (rcnt_v xs (d4_1 xs r) 1024 i1 (by decide) (by decide)) (rcnt_v xs (d4_2 xs r) 1024 i2 (by decide) (by decide)) (rcnt_v xs (d4_3 xs r) 1024 i3 (by decide) (by decide)) (rcnt_v xs (d4_4 xs r) 1024 i4 (by decide) (by decide)) hk h9 hb
def d6_1 (xs:List Int) (r:Rrf):Rrf:=cntR xs r 9
def d6_2 (xs:List Int) (r:Rrf):Rrf:=cntR xs (d6_1 xs r) 1024
def d6_3 (xs:List Int) (r:Rrf):Rrf:=cntR xs (d6_2 xs r) 1024
def d6_4 (xs:List Int) (r:Rrf):Rrf:=smlR xs (d6_3 xs r) 1
def d6_5 (xs:List Int) (r:Rrf):Rrf:=smlR xs (d6_4 xs r) 1
def d6_6 (xs:List Int) (r:Rrf):Rrf:=cntR xs (d6_5 xs r) 2147483647
def d6_7 (xs:List Int) (r:Rrf):Rrf:=cntR xs (d6_6 xs r) 62
def d6_8 (xs:List Int) (r:Rrf):Rrf:=smlR xs (d6_7 xs r) 1
def d6_9 (xs:List Int) (r:Rrf):Rrf:=cntR xs (d6_8 xs r) 2147483647
def d6_10 (xs:List Int) (r:Rrf):Rrf:=cntR xs (d6_9 xs r) 62
def d6_11 (xs:List Int) (r:Rrf):Rrf:=smlR xs (d6_10 xs r) 1
def d6_12 (xs:List Int) (r:Rrf):Rrf:=smlR xs (d6_11 xs r) 1
theorem d6_in {xs:List Int} {r:Rrf} (i0:Rrf.In xs r):Rrf.In xs (d6_12 xs r):=by
 have i1:Rrf.In xs (d6_1 xs r):=cntR_in i0 _
 have i2:Rrf.In xs (d6_2 xs r):=cntR_in i1 _
 have i3:Rrf.In xs (d6_3 xs r):=cntR_in i2 _
 have i4:Rrf.In xs (d6_4 xs r):=smlR_in i3 _
 have i5:Rrf.In xs (d6_5 xs r):=smlR_in i4 _
 have i6:Rrf.In xs (d6_6 xs r):=cntR_in i5 _
 have i7:Rrf.In xs (d6_7 xs r):=cntR_in i6 _
 have i8:Rrf.In xs (d6_8 xs r):=smlR_in i7 _
 have i9:Rrf.In xs (d6_9 xs r):=cntR_in i8 _
 have i10:Rrf.In xs (d6_10 xs r):=cntR_in i9 _
 have i11:Rrf.In xs (d6_11 xs r):=smlR_in i10 _
 have i12:Rrf.In xs (d6_12 xs r):=smlR_in i11 _
 exact i12
theorem d6_s (xs:List Int) (r:Rrf):toS xs (d6_12 xs r)=ts_6 (toS xs r):=by
 have t1:toS xs (d6_1 xs r)=cntS (toS xs r) 9:=toS_cnt xs r _
 have t2:toS xs (d6_2 xs r)=cntS (toS xs (d6_1 xs r)) 1024:=toS_cnt xs (d6_1 xs r) _
 have t3:toS xs (d6_3 xs r)=cntS (toS xs (d6_2 xs r)) 1024:=toS_cnt xs (d6_2 xs r) _
 have t4:toS xs (d6_4 xs r)=smlS (toS xs (d6_3 xs r)) 1:=toS_sml xs (d6_3 xs r) _
 have t5:toS xs (d6_5 xs r)=smlS (toS xs (d6_4 xs r)) 1:=toS_sml xs (d6_4 xs r) _
 have t6:toS xs (d6_6 xs r)=cntS (toS xs (d6_5 xs r)) 2147483647:=toS_cnt xs (d6_5 xs r) _
 have t7:toS xs (d6_7 xs r)=cntS (toS xs (d6_6 xs r)) 62:=toS_cnt xs (d6_6 xs r) _
 have t8:toS xs (d6_8 xs r)=smlS (toS xs (d6_7 xs r)) 1:=toS_sml xs (d6_7 xs r) _
 have t9:toS xs (d6_9 xs r)=cntS (toS xs (d6_8 xs r)) 2147483647:=toS_cnt xs (d6_8 xs r) _
 have t10:toS xs (d6_10 xs r)=cntS (toS xs (d6_9 xs r)) 62:=toS_cnt xs (d6_9 xs r) _
 have t11:toS xs (d6_11 xs r)=smlS (toS xs (d6_10 xs r)) 1:=toS_sml xs (d6_10 xs r) _
 have t12:toS xs (d6_12 xs r)=smlS (toS xs (d6_11 xs r)) 1:=toS_sml xs (d6_11 xs r) _
 unfold ts_6
 simp only [lstS,lst1,sclS,t1,t2,t3,t4,t5,t6,t7,t8,t9,t10,t11,t12]
theorem d6_n (xs:List Int) (r:Rrf):tn_6 (toS xs r) nod0=(⟨cntV (toS xs r) 9,cntV (toS xs (d6_1 xs r)) 1024,cntV (toS xs (d6_2 xs r)) 1024,0,0,0,0,oneV (toS xs (d6_3 xs r)),oneV (toS xs (d6_4 xs r)),[],[],cntV (toS xs (d6_5 xs r)) 2147483647,cntV (toS xs (d6_6 xs r)) 62,oneV (toS xs (d6_7 xs r)),cntV (toS xs (d6_8 xs r)) 2147483647,cntV (toS xs (d6_9 xs r)) 62,0,oneV (toS xs (d6_10 xs r)),oneV (toS xs (d6_11 xs r))⟩:Nod):=by
 have t1:toS xs (d6_1 xs r)=cntS (toS xs r) 9:=toS_cnt xs r _
 have t2:toS xs (d6_2 xs r)=cntS (toS xs (d6_1 xs r)) 1024:=toS_cnt xs (d6_1 xs r) _
 have t3:toS xs (d6_3 xs r)=cntS (toS xs (d6_2 xs r)) 1024:=toS_cnt xs (d6_2 xs r) _
 have t4:toS xs (d6_4 xs r)=smlS (toS xs (d6_3 xs r)) 1:=toS_sml xs (d6_3 xs r) _
 have t5:toS xs (d6_5 xs r)=smlS (toS xs (d6_4 xs r)) 1:=toS_sml xs (d6_4 xs r) _
 have t6:toS xs (d6_6 xs r)=cntS (toS xs (d6_5 xs r)) 2147483647:=toS_cnt xs (d6_5 xs r) _
 have t7:toS xs (d6_7 xs r)=cntS (toS xs (d6_6 xs r)) 62:=toS_cnt xs (d6_6 xs r) _
 have t8:toS xs (d6_8 xs r)=smlS (toS xs (d6_7 xs r)) 1:=toS_sml xs (d6_7 xs r) _
 have t9:toS xs (d6_9 xs r)=cntS (toS xs (d6_8 xs r)) 2147483647:=toS_cnt xs (d6_8 xs r) _
 have t10:toS xs (d6_10 xs r)=cntS (toS xs (d6_9 xs r)) 62:=toS_cnt xs (d6_9 xs r) _
 have t11:toS xs (d6_11 xs r)=smlS (toS xs (d6_10 xs r)) 1:=toS_sml xs (d6_10 xs r) _
 have t12:toS xs (d6_12 xs r)=smlS (toS xs (d6_11 xs r)) 1:=toS_sml xs (d6_11 xs r) _
 unfold tn_6
 simp only [lstW,lstB,lst1,lstS,sclM,sclH,sclS,t1,t2,t3,t4,t5,t6,t7,t8,t9,t10,t11,t12];rfl
theorem rtake_6v (xs:List Int) (r:Rrf) (i0:Rrf.In xs r) (hf:(toS xs r).Fit) (hk:cntV (toS xs r) 9=6):VM Try.prog 41 [.ptr 100000 0 0] [(100000,.var (rrC xs r))] (.tup [nod (takeR (toS xs r)).1,i64 (takeR (toS xs r)).2]) [(100000,.var (rrC xs (d6_12 xs r)))]:=by
 have e1:takeS (toS xs r)=ts_6 (toS xs r):=by unfold takeS;rw [if_neg (by omega),if_neg (by omega),if_neg (by omega),if_neg (by omega),if_pos hk]
 have e2:takeN (toS xs r)=tn_6 (toS xs r) nod0:=by unfold takeN;rw [if_neg (by omega),if_neg (by omega),if_neg (by omega),if_neg (by omega),if_pos hk]
 have e4:(takeS (toS xs r)).2=(d6_12 xs r).2:=by rw [e1,←d6_s,toS_2]
 have e5:=e2.trans (d6_n xs r)
 have bound:=takeN_le hf
 have h9:In64 (cntV (toS xs r) 9):=by have:=cntV_rng (m:=9) (toS_in i0) (by decide);exact ⟨by omega,by omega⟩
 have i1:Rrf.In xs (d6_1 xs r):=cntR_in i0 _
 have i2:Rrf.In xs (d6_2 xs r):=cntR_in i1 _
 have i3:Rrf.In xs (d6_3 xs r):=cntR_in i2 _
 have i4:Rrf.In xs (d6_4 xs r):=smlR_in i3 _
 have i5:Rrf.In xs (d6_5 xs r):=smlR_in i4 _
 have i6:Rrf.In xs (d6_6 xs r):=cntR_in i5 _
 have i7:Rrf.In xs (d6_7 xs r):=cntR_in i6 _
 have i8:Rrf.In xs (d6_8 xs r):=smlR_in i7 _
 have i9:Rrf.In xs (d6_9 xs r):=cntR_in i8 _
 have i10:Rrf.In xs (d6_10 xs r):=cntR_in i9 _
 have i11:Rrf.In xs (d6_11 xs r):=smlR_in i10 _
 unfold takeR
 rw [e4,e5]
 rw [e5] at bound
 by_cases hb:(d6_12 xs r).2=0
 ·rw [if_neg (by simpa using hb)]
  by_cases hc:checkE (⟨cntV (toS xs r) 9,cntV (toS xs (d6_1 xs r)) 1024,cntV (toS xs (d6_2 xs r)) 1024,0,0,0,0,oneV (toS xs (d6_3 xs r)),oneV (toS xs (d6_4 xs r)),[],[],cntV (toS xs (d6_5 xs r)) 2147483647,cntV (toS xs (d6_6 xs r)) 62,oneV (toS xs (d6_7 xs r)),cntV (toS xs (d6_8 xs r)) 2147483647,cntV (toS xs (d6_9 xs r)) 62,0,oneV (toS xs (d6_10 xs r)),oneV (toS xs (d6_11 xs r))⟩:Nod)=0
  ·rw [if_neg (by simpa using hc)]
   exact rw_6y xs r _ _ _ _ _ _ _ _ _ _ _ _ _ _ _ _ _ _ _ _ _ _ _ _ (rcnt_v xs r 9 i0 (by decide) (by decide)) (rcnt_v xs (d6_1 xs r) 1024 i1 (by decide) (by decide)) (rcnt_v xs (d6_2 xs r) 1024 i2 (by decide) (by decide)) (rone_v xs (d6_3 xs r) i3) (rone_v xs (d6_4 xs r) i4) (rcnt_v xs (d6_5 xs r) 2147483647 i5 (by decide) (by decide)) (rcnt_v xs (d6_6 xs r) 62 i6 (by decide) (by decide)) (rone_v xs (d6_7 xs r) i7) (rcnt_v xs (d6_8 xs r) 2147483647 i8 (by decide) (by decide)) (rcnt_v xs (d6_9 xs r) 62 i9 (by decide) (by decide)) (rone_v xs (d6_10 xs r) i10) (rone_v xs (d6_11 xs r) i11) hk h9 (cntV_rng (toS_in i5) (by decide)) (cntV_rng (toS_in i8) (by decide)) hb hc
  ·rw [if_pos hc]
   exact rw_6c xs r _ _ _ _ _ _ _ _ _ _ _ _ _ _ _ _ _ _ _ _ _ _ _ _ (rcnt_v xs r 9 i0 (by decide) (by decide)) (rcnt_v xs (d6_1 xs r) 1024 i1 (by decide) (by decide)) (rcnt_v xs (d6_2 xs r) 1024 i2 (by decide) (by decide)) (rone_v xs (d6_3 xs r) i3) (rone_v xs (d6_4 xs r) i4) (rcnt_v xs (d6_5 xs r) 2147483647 i5 (by decide) (by decide)) (rcnt_v xs (d6_6 xs r) 62 i6 (by decide) (by decide)) (rone_v xs (d6_7 xs r) i7) (rcnt_v xs (d6_8 xs r) 2147483647 i8 (by decide) (by decide)) (rcnt_v xs (d6_9 xs r) 62 i9 (by decide) (by decide)) (rone_v xs (d6_10 xs r) i10) (rone_v xs (d6_11 xs r) i11) hk h9 (cntV_rng (toS_in i5) (by decide)) (cntV_rng (toS_in i8) (by decide)) hb hc
 ·rw [if_pos hb]
  exact rw_6b xs r _ _ _ _ _ _ _ _ _ _ _ _ _ _ _ _ _ _ _ _ _ _ _ _ (rcnt_v xs r 9 i0 (by decide) (by decide)) (rcnt_v xs (d6_1 xs r) 1024 i1 (by decide) (by decide)) (rcnt_v xs (d6_2 xs r) 1024 i2 (by decide) (by decide)) (rone_v xs (d6_3 xs r) i3) (rone_v xs (d6_4 xs r) i4) (rcnt_v xs (d6_5 xs r) 2147483647 i5 (by decide) (by decide)) (rcnt_v xs (d6_6 xs r) 62 i6 (by decide) (by decide)) (rone_v xs (d6_7 xs r) i7) (rcnt_v xs (d6_8 xs r) 2147483647 i8 (by decide) (by decide)) (rcnt_v xs (d6_9 xs r) 62 i9 (by decide) (by decide)) (rone_v xs (d6_10 xs r) i10) (rone_v xs (d6_11 xs r) i11) hk h9 (cntV_rng (toS_in i5) (by decide)) (cntV_rng (toS_in i8) (by decide)) hb
def d7_1 (xs:List Int) (r:Rrf):Rrf:=cntR xs r 9
def d7_2 (xs:List Int) (r:Rrf):Rrf:=cntR xs (d7_1 xs r) 1024
def d7_3 (xs:List Int) (r:Rrf):Rrf:=smlR xs (d7_2 xs r) 1
def d7_4 (xs:List Int) (r:Rrf):Rrf:=cntR xs (d7_3 xs r) 2147483647
def d7_5 (xs:List Int) (r:Rrf):Rrf:=cntR xs (d7_4 xs r) 62
def d7_6 (xs:List Int) (r:Rrf):Rrf:=smlR xs (d7_5 xs r) 1
def d7_7 (xs:List Int) (r:Rrf):Rrf:=smlR xs (d7_6 xs r) 1
def d7_8 (xs:List Int) (r:Rrf):Rrf:=smlR xs (d7_7 xs r) 1
theorem d7_in {xs:List Int} {r:Rrf} (i0:Rrf.In xs r):Rrf.In xs (d7_8 xs r):=by
 have i1:Rrf.In xs (d7_1 xs r):=cntR_in i0 _
 have i2:Rrf.In xs (d7_2 xs r):=cntR_in i1 _
 have i3:Rrf.In xs (d7_3 xs r):=smlR_in i2 _
 have i4:Rrf.In xs (d7_4 xs r):=cntR_in i3 _
 have i5:Rrf.In xs (d7_5 xs r):=cntR_in i4 _
 have i6:Rrf.In xs (d7_6 xs r):=smlR_in i5 _
 have i7:Rrf.In xs (d7_7 xs r):=smlR_in i6 _
 have i8:Rrf.In xs (d7_8 xs r):=smlR_in i7 _
 exact i8
theorem d7_s (xs:List Int) (r:Rrf):toS xs (d7_8 xs r)=ts_7 (toS xs r):=by
 have t1:toS xs (d7_1 xs r)=cntS (toS xs r) 9:=toS_cnt xs r _
 have t2:toS xs (d7_2 xs r)=cntS (toS xs (d7_1 xs r)) 1024:=toS_cnt xs (d7_1 xs r) _
 have t3:toS xs (d7_3 xs r)=smlS (toS xs (d7_2 xs r)) 1:=toS_sml xs (d7_2 xs r) _
 have t4:toS xs (d7_4 xs r)=cntS (toS xs (d7_3 xs r)) 2147483647:=toS_cnt xs (d7_3 xs r) _
 have t5:toS xs (d7_5 xs r)=cntS (toS xs (d7_4 xs r)) 62:=toS_cnt xs (d7_4 xs r) _
 have t6:toS xs (d7_6 xs r)=smlS (toS xs (d7_5 xs r)) 1:=toS_sml xs (d7_5 xs r) _
 have t7:toS xs (d7_7 xs r)=smlS (toS xs (d7_6 xs r)) 1:=toS_sml xs (d7_6 xs r) _
 have t8:toS xs (d7_8 xs r)=smlS (toS xs (d7_7 xs r)) 1:=toS_sml xs (d7_7 xs r) _
 unfold ts_7
 simp only [lstS,lst1,sclS,t1,t2,t3,t4,t5,t6,t7,t8]
theorem d7_n (xs:List Int) (r:Rrf):tn_7 (toS xs r) nod0=(⟨cntV (toS xs r) 9,cntV (toS xs (d7_1 xs r)) 1024,0,0,0,0,0,oneV (toS xs (d7_2 xs r)),0,[],[],cntV (toS xs (d7_3 xs r)) 2147483647,cntV (toS xs (d7_4 xs r)) 62,oneV (toS xs (d7_5 xs r)),0,0,0,oneV (toS xs (d7_6 xs r)),oneV (toS xs (d7_7 xs r))⟩:Nod):=by
 have t1:toS xs (d7_1 xs r)=cntS (toS xs r) 9:=toS_cnt xs r _
 have t2:toS xs (d7_2 xs r)=cntS (toS xs (d7_1 xs r)) 1024:=toS_cnt xs (d7_1 xs r) _
 have t3:toS xs (d7_3 xs r)=smlS (toS xs (d7_2 xs r)) 1:=toS_sml xs (d7_2 xs r) _
 have t4:toS xs (d7_4 xs r)=cntS (toS xs (d7_3 xs r)) 2147483647:=toS_cnt xs (d7_3 xs r) _
 have t5:toS xs (d7_5 xs r)=cntS (toS xs (d7_4 xs r)) 62:=toS_cnt xs (d7_4 xs r) _
 have t6:toS xs (d7_6 xs r)=smlS (toS xs (d7_5 xs r)) 1:=toS_sml xs (d7_5 xs r) _
 have t7:toS xs (d7_7 xs r)=smlS (toS xs (d7_6 xs r)) 1:=toS_sml xs (d7_6 xs r) _
 have t8:toS xs (d7_8 xs r)=smlS (toS xs (d7_7 xs r)) 1:=toS_sml xs (d7_7 xs r) _
 unfold tn_7
 simp only [lstW,lstB,lst1,lstS,sclM,sclH,sclS,t1,t2,t3,t4,t5,t6,t7,t8];rfl
theorem rtake_7v (xs:List Int) (r:Rrf) (i0:Rrf.In xs r) (hf:(toS xs r).Fit) (hk:cntV (toS xs r) 9=7):VM Try.prog 41 [.ptr 100000 0 0] [(100000,.var (rrC xs r))] (.tup [nod (takeR (toS xs r)).1,i64 (takeR (toS xs r)).2]) [(100000,.var (rrC xs (d7_8 xs r)))]:=by
 have e1:takeS (toS xs r)=ts_7 (toS xs r):=by unfold takeS;rw [if_neg (by omega),if_neg (by omega),if_neg (by omega),if_neg (by omega),if_neg (by omega),if_pos hk]
 have e2:takeN (toS xs r)=tn_7 (toS xs r) nod0:=by unfold takeN;rw [if_neg (by omega),if_neg (by omega),if_neg (by omega),if_neg (by omega),if_neg (by omega),if_pos hk]
 have e4:(takeS (toS xs r)).2=(d7_8 xs r).2:=by rw [e1,←d7_s,toS_2]
 have e5:=e2.trans (d7_n xs r)
 have bound:=takeN_le hf
 have h9:In64 (cntV (toS xs r) 9):=by have:=cntV_rng (m:=9) (toS_in i0) (by decide);exact ⟨by omega,by omega⟩
 have i1:Rrf.In xs (d7_1 xs r):=cntR_in i0 _
 have i2:Rrf.In xs (d7_2 xs r):=cntR_in i1 _
 have i3:Rrf.In xs (d7_3 xs r):=smlR_in i2 _
 have i4:Rrf.In xs (d7_4 xs r):=cntR_in i3 _
 have i5:Rrf.In xs (d7_5 xs r):=cntR_in i4 _
 have i6:Rrf.In xs (d7_6 xs r):=smlR_in i5 _
 have i7:Rrf.In xs (d7_7 xs r):=smlR_in i6 _
 unfold takeR
 rw [e4,e5]
 rw [e5] at bound
 by_cases hb:(d7_8 xs r).2=0
 ·rw [if_neg (by simpa using hb)]
  by_cases hc:checkE (⟨cntV (toS xs r) 9,cntV (toS xs (d7_1 xs r)) 1024,0,0,0,0,0,oneV (toS xs (d7_2 xs r)),0,[],[],cntV (toS xs (d7_3 xs r)) 2147483647,cntV (toS xs (d7_4 xs r)) 62,oneV (toS xs (d7_5 xs r)),0,0,0,oneV (toS xs (d7_6 xs r)),oneV (toS xs (d7_7 xs r))⟩:Nod)=0
  ·rw [if_neg (by simpa using hc)]
   exact rw_7y xs r _ _ _ _ _ _ _ _ _ _ _ _ _ _ _ _ (rcnt_v xs r 9 i0 (by decide) (by decide)) (rcnt_v xs (d7_1 xs r) 1024 i1 (by decide) (by decide)) (rone_v xs (d7_2 xs r) i2) (rcnt_v xs (d7_3 xs r) 2147483647 i3 (by decide) (by decide)) (rcnt_v xs (d7_4 xs r) 62 i4 (by decide) (by decide)) (rone_v xs (d7_5 xs r) i5) (rone_v xs (d7_6 xs r) i6) (rone_v xs (d7_7 xs r) i7) hk h9 (cntV_rng (toS_in i3) (by decide)) hb hc
  ·rw [if_pos hc]
   exact rw_7c xs r _ _ _ _ _ _ _ _ _ _ _ _ _ _ _ _ (rcnt_v xs r 9 i0 (by decide) (by decide)) (rcnt_v xs (d7_1 xs r) 1024 i1 (by decide) (by decide)) (rone_v xs (d7_2 xs r) i2) (rcnt_v xs (d7_3 xs r) 2147483647 i3 (by decide) (by decide)) (rcnt_v xs (d7_4 xs r) 62 i4 (by decide) (by decide)) (rone_v xs (d7_5 xs r) i5) (rone_v xs (d7_6 xs r) i6) (rone_v xs (d7_7 xs r) i7) hk h9 (cntV_rng (toS_in i3) (by decide)) hb hc
 ·rw [if_pos hb]
  exact rw_7b xs r _ _ _ _ _ _ _ _ _ _ _ _ _ _ _ _ (rcnt_v xs r 9 i0 (by decide) (by decide)) (rcnt_v xs (d7_1 xs r) 1024 i1 (by decide) (by decide)) (rone_v xs (d7_2 xs r) i2) (rcnt_v xs (d7_3 xs r) 2147483647 i3 (by decide) (by decide)) (rcnt_v xs (d7_4 xs r) 62 i4 (by decide) (by decide)) (rone_v xs (d7_5 xs r) i5) (rone_v xs (d7_6 xs r) i6) (rone_v xs (d7_7 xs r) i7) hk h9 (cntV_rng (toS_in i3) (by decide)) hb
def d8_1 (xs:List Int) (r:Rrf):Rrf:=cntR xs r 9
def d8_2 (xs:List Int) (r:Rrf):Rrf:=cntR xs (d8_1 xs r) 1024
def d8_3 (xs:List Int) (r:Rrf):Rrf:=cntR xs (d8_2 xs r) 1024
def d8_4 (xs:List Int) (r:Rrf):Rrf:=smlR xs (d8_3 xs r) 1
theorem d8_in {xs:List Int} {r:Rrf} (i0:Rrf.In xs r):Rrf.In xs (d8_4 xs r):=by
 have i1:Rrf.In xs (d8_1 xs r):=cntR_in i0 _
 have i2:Rrf.In xs (d8_2 xs r):=cntR_in i1 _
 have i3:Rrf.In xs (d8_3 xs r):=cntR_in i2 _
 have i4:Rrf.In xs (d8_4 xs r):=smlR_in i3 _
 exact i4
theorem d8_s (xs:List Int) (r:Rrf):toS xs (d8_4 xs r)=ts_8 (toS xs r):=by
 have t1:toS xs (d8_1 xs r)=cntS (toS xs r) 9:=toS_cnt xs r _
 have t2:toS xs (d8_2 xs r)=cntS (toS xs (d8_1 xs r)) 1024:=toS_cnt xs (d8_1 xs r) _
 have t3:toS xs (d8_3 xs r)=cntS (toS xs (d8_2 xs r)) 1024:=toS_cnt xs (d8_2 xs r) _
 have t4:toS xs (d8_4 xs r)=smlS (toS xs (d8_3 xs r)) 1:=toS_sml xs (d8_3 xs r) _
 unfold ts_8
 simp only [lstS,lst1,sclS,t1,t2,t3,t4]
theorem d8_n (xs:List Int) (r:Rrf):tn_8 (toS xs r) nod0=(⟨cntV (toS xs r) 9,cntV (toS xs (d8_1 xs r)) 1024,0,0,0,cntV (toS xs (d8_2 xs r)) 1024,0,oneV (toS xs (d8_3 xs r)),0,[],[],0,0,0,0,0,0,0,0⟩:Nod):=by
 have t1:toS xs (d8_1 xs r)=cntS (toS xs r) 9:=toS_cnt xs r _
 have t2:toS xs (d8_2 xs r)=cntS (toS xs (d8_1 xs r)) 1024:=toS_cnt xs (d8_1 xs r) _
 have t3:toS xs (d8_3 xs r)=cntS (toS xs (d8_2 xs r)) 1024:=toS_cnt xs (d8_2 xs r) _
 have t4:toS xs (d8_4 xs r)=smlS (toS xs (d8_3 xs r)) 1:=toS_sml xs (d8_3 xs r) _
 unfold tn_8
 simp only [lstW,lstB,lst1,lstS,sclM,sclH,sclS,t1,t2,t3,t4];rfl
theorem rtake_8v (xs:List Int) (r:Rrf) (i0:Rrf.In xs r) (hf:(toS xs r).Fit) (hk:cntV (toS xs r) 9=8):VM Try.prog 41 [.ptr 100000 0 0] [(100000,.var (rrC xs r))] (.tup [nod (takeR (toS xs r)).1,i64 (takeR (toS xs r)).2]) [(100000,.var (rrC xs (d8_4 xs r)))]:=by
 have e1:takeS (toS xs r)=ts_8 (toS xs r):=by unfold takeS;rw [if_neg (by omega),if_neg (by omega),if_neg (by omega),if_neg (by omega),if_neg (by omega),if_neg (by omega),if_pos hk]
 have e2:takeN (toS xs r)=tn_8 (toS xs r) nod0:=by unfold takeN;rw [if_neg (by omega),if_neg (by omega),if_neg (by omega),if_neg (by omega),if_neg (by omega),if_neg (by omega),if_pos hk]
 have e4:(takeS (toS xs r)).2=(d8_4 xs r).2:=by rw [e1,←d8_s,toS_2]
 have e5:=e2.trans (d8_n xs r)
 have bound:=takeN_le hf
 have h9:In64 (cntV (toS xs r) 9):=by have:=cntV_rng (m:=9) (toS_in i0) (by decide);exact ⟨by omega,by omega⟩
 have i1:Rrf.In xs (d8_1 xs r):=cntR_in i0 _
 have i2:Rrf.In xs (d8_2 xs r):=cntR_in i1 _
 have i3:Rrf.In xs (d8_3 xs r):=cntR_in i2 _
 unfold takeR
 rw [e4,e5]
 rw [e5] at bound
 by_cases hb:(d8_4 xs r).2=0
 ·rw [if_neg (by simpa using hb)]
  by_cases hc:checkE (⟨cntV (toS xs r) 9,cntV (toS xs (d8_1 xs r)) 1024,0,0,0,cntV (toS xs (d8_2 xs r)) 1024,0,oneV (toS xs (d8_3 xs r)),0,[],[],0,0,0,0,0,0,0,0⟩:Nod)=0
  ·rw [if_neg (by simpa using hc)]
   exact rw_8y xs r _ _ _ _ _ _ _ _ (rcnt_v xs r 9 i0 (by decide) (by decide)) (rcnt_v xs (d8_1 xs r) 1024 i1 (by decide) (by decide)) (rcnt_v xs (d8_2 xs r) 1024 i2 (by decide) (by decide)) (rone_v xs (d8_3 xs r) i3) hk h9 hb hc
  ·rw [if_pos hc]
   exact rw_8c xs r _ _ _ _ _ _ _ _ (rcnt_v xs r 9 i0 (by decide) (by decide)) (rcnt_v xs (d8_1 xs r) 1024 i1 (by decide) (by decide)) (rcnt_v xs (d8_2 xs r) 1024 i2 (by decide) (by decide)) (rone_v xs (d8_3 xs r) i3) hk h9 hb hc
 ·rw [if_pos hb]
  exact rw_8b xs r _ _ _ _ _ _ _ _ (rcnt_v xs r 9 i0 (by decide) (by decide)) (rcnt_v xs (d8_1 xs r) 1024 i1 (by decide) (by decide)) (rcnt_v xs (d8_2 xs r) 1024 i2 (by decide) (by decide)) (rone_v xs (d8_3 xs r) i3) hk h9 hb
def d9_1 (xs:List Int) (r:Rrf):Rrf:=cntR xs r 9
def d9_2 (xs:List Int) (r:Rrf):Rrf:=cntR xs (d9_1 xs r) 1024
theorem d9_in {xs:List Int} {r:Rrf} (i0:Rrf.In xs r):Rrf.In xs (d9_2 xs r):=by
 have i1:Rrf.In xs (d9_1 xs r):=cntR_in i0 _
 have i2:Rrf.In xs (d9_2 xs r):=cntR_in i1 _
 exact i2
theorem d9_s (xs:List Int) (r:Rrf):toS xs (d9_2 xs r)=ts_9 (toS xs r):=by
 have t1:toS xs (d9_1 xs r)=cntS (toS xs r) 9:=toS_cnt xs r _
 have t2:toS xs (d9_2 xs r)=cntS (toS xs (d9_1 xs r)) 1024:=toS_cnt xs (d9_1 xs r) _
 unfold ts_9
 simp only [lstS,lst1,sclS,t1,t2]
theorem d9_n (xs:List Int) (r:Rrf):tn_9 (toS xs r) nod0=(⟨cntV (toS xs r) 9,cntV (toS xs (d9_1 xs r)) 1024,0,0,0,0,0,0,0,[],[],0,0,0,0,0,0,0,0⟩:Nod):=by
 have t1:toS xs (d9_1 xs r)=cntS (toS xs r) 9:=toS_cnt xs r _
 have t2:toS xs (d9_2 xs r)=cntS (toS xs (d9_1 xs r)) 1024:=toS_cnt xs (d9_1 xs r) _
 unfold tn_9
 simp only [lstW,lstB,lst1,lstS,sclM,sclH,sclS,t1,t2];rfl
theorem rtake_9v (xs:List Int) (r:Rrf) (i0:Rrf.In xs r) (hf:(toS xs r).Fit) (hk:cntV (toS xs r) 9<1∨8<cntV (toS xs r) 9):VM Try.prog 41 [.ptr 100000 0 0] [(100000,.var (rrC xs r))] (.tup [nod (takeR (toS xs r)).1,i64 (takeR (toS xs r)).2]) [(100000,.var (rrC xs (d9_2 xs r)))]:=by
 have e1:takeS (toS xs r)=ts_9 (toS xs r):=by unfold takeS;rw [if_neg (by omega),if_neg (by omega),if_neg (by omega),if_neg (by omega),if_neg (by omega),if_neg (by omega),if_neg (by omega)]
 have e2:takeN (toS xs r)=tn_9 (toS xs r) nod0:=by unfold takeN;rw [if_neg (by omega),if_neg (by omega),if_neg (by omega),if_neg (by omega),if_neg (by omega),if_neg (by omega),if_neg (by omega)]
 have e4:(takeS (toS xs r)).2=(d9_2 xs r).2:=by rw [e1,←d9_s,toS_2]
 have e5:=e2.trans (d9_n xs r)
 have bound:=takeN_le hf
 have h9:In64 (cntV (toS xs r) 9):=by have:=cntV_rng (m:=9) (toS_in i0) (by decide);exact ⟨by omega,by omega⟩
 have i1:Rrf.In xs (d9_1 xs r):=cntR_in i0 _
 unfold takeR
 rw [e4,e5]
 rw [e5] at bound
 by_cases hb:(d9_2 xs r).2=0
 ·rw [if_neg (by simpa using hb)]
  by_cases hc:checkE (⟨cntV (toS xs r) 9,cntV (toS xs (d9_1 xs r)) 1024,0,0,0,0,0,0,0,[],[],0,0,0,0,0,0,0,0⟩:Nod)=0
  ·rw [if_neg (by simpa using hc)]
   exact rw_9y xs r _ _ _ _ (rcnt_v xs r 9 i0 (by decide) (by decide)) (rcnt_v xs (d9_1 xs r) 1024 i1 (by decide) (by decide)) hk h9 hb hc
  ·rw [if_pos hc]
   exact rw_9c xs r _ _ _ _ (rcnt_v xs r 9 i0 (by decide) (by decide)) (rcnt_v xs (d9_1 xs r) 1024 i1 (by decide) (by decide)) hk h9 hb hc
 ·rw [if_pos hb]
  exact rw_9b xs r _ _ _ _ (rcnt_v xs r 9 i0 (by decide) (by decide)) (rcnt_v xs (d9_1 xs r) 1024 i1 (by decide) (by decide)) hk h9 hb
def takeRr (xs:List Int) (r:Rrf):Rrf:=if cntV (toS xs r) 9=1 then d1_16 xs r else if cntV (toS xs r) 9=2 then d2_15 xs r else if cntV (toS xs r) 9=3 then d3_13 xs r else if cntV (toS xs r) 9=4∨cntV (toS xs r) 9=5 then d4_5 xs r else if cntV (toS xs r) 9=6 then d6_12 xs r else if cntV (toS xs r) 9=7 then d7_8 xs r else if cntV (toS xs r) 9=8 then d8_4 xs r else d9_2 xs r
theorem takeRr_in {xs:List Int} {r:Rrf} (h:Rrf.In xs r):Rrf.In xs (takeRr xs r):=by
 by_cases k1:cntV (toS xs r) 9=1
 ·rw [show takeRr xs r=d1_16 xs r from by unfold takeRr;rw [if_pos k1]]
  exact d1_in h
 by_cases k2:cntV (toS xs r) 9=2
 ·rw [show takeRr xs r=d2_15 xs r from by unfold takeRr;rw [if_neg k1,if_pos k2]]
  exact d2_in h
 by_cases k3:cntV (toS xs r) 9=3
 ·rw [show takeRr xs r=d3_13 xs r from by unfold takeRr;rw [if_neg k1,if_neg k2,if_pos k3]]
  exact d3_in h
 by_cases k4:cntV (toS xs r) 9=4∨cntV (toS xs r) 9=5
 ·rw [show takeRr xs r=d4_5 xs r from by unfold takeRr;rw [if_neg k1,if_neg k2,if_neg k3,if_pos k4]]
  exact d4_in h
 by_cases k6:cntV (toS xs r) 9=6
 ·rw [show takeRr xs r=d6_12 xs r from by unfold takeRr;rw [if_neg k1,if_neg k2,if_neg k3,if_neg k4,if_pos k6]]
  exact d6_in h
 by_cases k7:cntV (toS xs r) 9=7
 ·rw [show takeRr xs r=d7_8 xs r from by unfold takeRr;rw [if_neg k1,if_neg k2,if_neg k3,if_neg k4,if_neg k6,if_pos k7]]
  exact d7_in h
 by_cases k8:cntV (toS xs r) 9=8
 ·rw [show takeRr xs r=d8_4 xs r from by unfold takeRr;rw [if_neg k1,if_neg k2,if_neg k3,if_neg k4,if_neg k6,if_neg k7,if_pos k8]]
  exact d8_in h
 rw [show takeRr xs r=d9_2 xs r from by unfold takeRr;rw [if_neg k1,if_neg k2,if_neg k3,if_neg k4,if_neg k6,if_neg k7,if_neg k8]]
 exact d9_in h
theorem takeRr_s (xs:List Int) (r:Rrf):toS xs (takeRr xs r)=takeS (toS xs r):=by
 by_cases k1:cntV (toS xs r) 9=1
 ·rw [show takeRr xs r=d1_16 xs r from by unfold takeRr;rw [if_pos k1],show takeS (toS xs r)=ts_1 (toS xs r) from by unfold takeS;rw [if_pos k1]]
  exact d1_s xs r
 by_cases k2:cntV (toS xs r) 9=2
 ·rw [show takeRr xs r=d2_15 xs r from by unfold takeRr;rw [if_neg k1,if_pos k2],show takeS (toS xs r)=ts_2 (toS xs r) from by unfold takeS;rw [if_neg k1,if_pos k2]]
  exact d2_s xs r
 by_cases k3:cntV (toS xs r) 9=3
 ·rw [show takeRr xs r=d3_13 xs r from by unfold takeRr;rw [if_neg k1,if_neg k2,if_pos k3],show takeS (toS xs r)=ts_3 (toS xs r) from by unfold takeS;rw [if_neg k1,if_neg k2,if_pos k3]]
  exact d3_s xs r
 by_cases k4:cntV (toS xs r) 9=4∨cntV (toS xs r) 9=5
 ·rw [show takeRr xs r=d4_5 xs r from by unfold takeRr;rw [if_neg k1,if_neg k2,if_neg k3,if_pos k4],show takeS (toS xs r)=ts_4 (toS xs r) from by unfold takeS;rw [if_neg k1,if_neg k2,if_neg k3,if_pos k4]]
  exact d4_s xs r
 by_cases k6:cntV (toS xs r) 9=6
 ·rw [show takeRr xs r=d6_12 xs r from by unfold takeRr;rw [if_neg k1,if_neg k2,if_neg k3,if_neg k4,if_pos k6],show takeS (toS xs r)=ts_6 (toS xs r) from by unfold takeS;rw [if_neg k1,if_neg k2,if_neg k3,if_neg k4,if_pos k6]]
  exact d6_s xs r
 by_cases k7:cntV (toS xs r) 9=7
 ·rw [show takeRr xs r=d7_8 xs r from by unfold takeRr;rw [if_neg k1,if_neg k2,if_neg k3,if_neg k4,if_neg k6,if_pos k7],show takeS (toS xs r)=ts_7 (toS xs r) from by unfold takeS;rw [if_neg k1,if_neg k2,if_neg k3,if_neg k4,if_neg k6,if_pos k7]]
  exact d7_s xs r
 by_cases k8:cntV (toS xs r) 9=8
 ·rw [show takeRr xs r=d8_4 xs r from by unfold takeRr;rw [if_neg k1,if_neg k2,if_neg k3,if_neg k4,if_neg k6,if_neg k7,if_pos k8],show takeS (toS xs r)=ts_8 (toS xs r) from by unfold takeS;rw [if_neg k1,if_neg k2,if_neg k3,if_neg k4,if_neg k6,if_neg k7,if_pos k8]]
  exact d8_s xs r
 rw [show takeRr xs r=d9_2 xs r from by unfold takeRr;rw [if_neg k1,if_neg k2,if_neg k3,if_neg k4,if_neg k6,if_neg k7,if_neg k8],show takeS (toS xs r)=ts_9 (toS xs r) from by unfold takeS;rw [if_neg k1,if_neg k2,if_neg k3,if_neg k4,if_neg k6,if_neg k7,if_neg k8]]
 exact d9_s xs r
theorem rtake_v (xs:List Int) (r:Rrf) (h:Rrf.In xs r) (hf:(toS xs r).Fit):VM Try.prog 41 [.ptr 100000 0 0] [(100000,.var (rrC xs r))] (.tup [nod (takeR (toS xs r)).1,i64 (takeR (toS xs r)).2]) [(100000,.var (rrC xs (takeRr xs r)))]:=by
 by_cases k1:cntV (toS xs r) 9=1
 ·rw [show takeRr xs r=d1_16 xs r from by unfold takeRr;rw [if_pos k1]]
  exact rtake_1v xs r h hf k1
 by_cases k2:cntV (toS xs r) 9=2
 ·rw [show takeRr xs r=d2_15 xs r from by unfold takeRr;rw [if_neg k1,if_pos k2]]
  exact rtake_2v xs r h hf k2
 by_cases k3:cntV (toS xs r) 9=3
 ·rw [show takeRr xs r=d3_13 xs r from by unfold takeRr;rw [if_neg k1,if_neg k2,if_pos k3]]
  exact rtake_3v xs r h hf k3
 by_cases k4:cntV (toS xs r) 9=4∨cntV (toS xs r) 9=5
 ·rw [show takeRr xs r=d4_5 xs r from by unfold takeRr;rw [if_neg k1,if_neg k2,if_neg k3,if_pos k4]]
  exact rtake_4v xs r h hf k4
 by_cases k6:cntV (toS xs r) 9=6
 ·rw [show takeRr xs r=d6_12 xs r from by unfold takeRr;rw [if_neg k1,if_neg k2,if_neg k3,if_neg k4,if_pos k6]]
  exact rtake_6v xs r h hf k6
 by_cases k7:cntV (toS xs r) 9=7
 ·rw [show takeRr xs r=d7_8 xs r from by unfold takeRr;rw [if_neg k1,if_neg k2,if_neg k3,if_neg k4,if_neg k6,if_pos k7]]
  exact rtake_7v xs r h hf k7
 by_cases k8:cntV (toS xs r) 9=8
 ·rw [show takeRr xs r=d8_4 xs r from by unfold takeRr;rw [if_neg k1,if_neg k2,if_neg k3,if_neg k4,if_neg k6,if_neg k7,if_pos k8]]
  exact rtake_8v xs r h hf k8
 rw [show takeRr xs r=d9_2 xs r from by unfold takeRr;rw [if_neg k1,if_neg k2,if_neg k3,if_neg k4,if_neg k6,if_neg k7,if_neg k8]]
 exact rtake_9v xs r h hf (by omega)
def tkR (xs:List Int) (r:Rrf):Nat→Rrf
 | 0=>r
 | k+1=>takeRr xs (tkR xs r k)
theorem tkR_in {xs:List Int} {r:Rrf} (h:Rrf.In xs r) (k:Nat):Rrf.In xs (tkR xs r k):=by
 induction k with
 | zero=>exact h
 | succ k ih=>exact takeRr_in ih
theorem tkR_s (xs:List Int) (r:Rrf) (k:Nat):toS xs (tkR xs r k)=tkS (toS xs r) k:=by
 induction k with
 | zero=>rfl
 | succ k ih=>rw [tkR,takeRr_s,ih];rfl
noncomputable def rtkb_y_I (xs:List Int) (r:Rrf) (k:Nat):VS:=stt 65 [(0,.ptr 100000 0 0),(2,.ptr 2 0 0),(4,.ptr 4 0 0),(5,i64 (cntV (toS xs r) 8)),(6,i64 k)] [(2,.var [.any,.any,.any,.any,.any]),(4,.var [.own 900,bv false,ints .i8 [],ints .i32 [],i32 0]),(900,.slc 47 19 ((tkL (toS xs (cntR xs r 8)) k).map nodC)),(100000,.var (rrC xs (tkR xs (cntR xs r 8) k)))]
noncomputable def rtkb_y_Z (xs:List Int) (r:Rrf):VS:=rtkb_y_I xs r ((cntV (toS xs r) 8).toNat)
theorem rtkb_y_s (xs:List Int) (r:Rrf) (h:Rrf.In xs r) (hf:(toS xs r).Fit) (hh:∀ k,k<(cntV (toS xs r) 8).toNat→(takeR (toS xs (tkR xs (cntR xs r 8) k))).2=0) (k:Nat) (hk:k<(cntV (toS xs r) 8).toNat):VT Try.prog (fnC Try.f120 [1,1,1,0,1,0,0]) (rtkb_y_I xs r k) .normal (rtkb_y_I xs r (k+1)):=by
 have q:=cntV_rng (m:=8) (toS_in h) (by decide)
 have q0:=tkR_in (cntR_in h 8) k
 have q1:=tkL_len (toS xs (cntR xs r 8)) k
 have q6:=tkR_s xs (cntR xs r 8) k
 have q7:(toS xs (tkR xs (cntR xs r 8) k)).Fit:=by rw [q6];exact tkS_fit (by rw [toS_cnt];exact cnt_fit hf 8) k
 have q2:=hh k hk
 have oz1 := @rtake_v (xs) (tkR xs (cntR xs r 8) k) q0 q7
 exact VT.run (W:=[.r [] [],.br true,.r [] [cm oz1],.r [] [],.br false,.r [] [],.r [] [.n ((↑k:Int)+1)]]) (G:=[.any (rg [(7,2),(11,12),(25,6)]),.drop [7,28],.ren 29 900,.weak 6 (i64 (↑(k+1):Int)),.blk 900 (Blk.slc 47 19 (List.map nodC (tkL (toS xs (cntR xs r 8)) (k+1)))),.blk 100000 (Blk.var [AV.sl 1 (List.map (row1 IntKind.u8) xs),i64 (↑(tkR xs (cntR xs r 8) (k+1)).fst:Int),i64 (tkR xs (cntR xs r 8) (k+1)).snd]),.sort]) (by kernel_rfl) (.c (decide_eq_true (p:=((↑k:Int)<cntV (toS xs r) 8)) (by omega))<|.c oz1<|.c (show ((takeR (toS xs (tkR xs (cntR xs r 8) k))).snd != 0)=false by (simp;omega))<|.c (show ((List.map nodC (tkL (toS xs (cntR xs r 8)) k)).length+1)*168≤140737488355328 by (simp;omega))<|.c (show (List.map nodC (tkL (toS xs (cntR xs r 8)) k)).length+1≤9223372036854775807 by (simp;omega))<|.c (i6n ((↑k:Int)+1) (by omega))<|.c (Weak.int (k:=.i64) (show (((↑k:Int)+1):Int)=((↑(k+1):Int)) from (by omega)))<|.c (show BlkW (Blk.slc 47 19 (List.map nodC (tkL (toS xs (cntR xs r 8)) k)++[[i64 (takeR (toS xs (tkR xs (cntR xs r 8) k))).fst.kd,i64 (takeR (toS xs (tkR xs (cntR xs r 8) k))).fst.na,i64 (takeR (toS xs (tkR xs (cntR xs r 8) k))).fst.nb,i64 (takeR (toS xs (tkR xs (cntR xs r 8) k))).fst.nk,i64 (takeR (toS xs (tkR xs (cntR xs r 8) k))).fst.ns,i64 (takeR (toS xs (tkR xs (cntR xs r 8) k))).fst.np,i64 (takeR (toS xs (tkR xs (cntR xs r 8) k))).fst.no,i8 (takeR (toS xs (tkR xs (cntR xs r 8) k))).fst.za,i8 (takeR (toS xs (tkR xs (cntR xs r 8) k))).fst.zb,AV.sl 1 (List.map (row1 IntKind.i8) (takeR (toS xs (tkR xs (cntR xs r 8) k))).fst.w),AV.sl 1 (List.map (row1 IntKind.i32) (takeR (toS xs (tkR xs (cntR xs r 8) k))).fst.b),i32 (takeR (toS xs (tkR xs (cntR xs r 8) k))).fst.qm,i64 (takeR (toS xs (tkR xs (cntR xs r 8) k))).fst.qs,i8 (takeR (toS xs (tkR xs (cntR xs r 8) k))).fst.qz,i32 (takeR (toS xs (tkR xs (cntR xs r 8) k))).fst.rm,i64 (takeR (toS xs (tkR xs (cntR xs r 8) k))).fst.rs,i8 (takeR (toS xs (tkR xs (cntR xs r 8) k))).fst.rz,i8 (takeR (toS xs (tkR xs (cntR xs r 8) k))).fst.lo,i8 (takeR (toS xs (tkR xs (cntR xs r 8) k))).fst.hi]])) (Blk.slc 47 19 (List.map nodC (tkL (toS xs (cntR xs r 8)) (k+1)))) from (BlkW.rows (e:=47) (z:=19) (rows_to (nodC) (r:=List.map nodC (tkL (toS xs (cntR xs r 8)) k)++[[i64 (takeR (toS xs (tkR xs (cntR xs r 8) k))).fst.kd,i64 (takeR (toS xs (tkR xs (cntR xs r 8) k))).fst.na,i64 (takeR (toS xs (tkR xs (cntR xs r 8) k))).fst.nb,i64 (takeR (toS xs (tkR xs (cntR xs r 8) k))).fst.nk,i64 (takeR (toS xs (tkR xs (cntR xs r 8) k))).fst.ns,i64 (takeR (toS xs (tkR xs (cntR xs r 8) k))).fst.np,i64 (takeR (toS xs (tkR xs (cntR xs r 8) k))).fst.no,i8 (takeR (toS xs (tkR xs (cntR xs r 8) k))).fst.za,i8 (takeR (toS xs (tkR xs (cntR xs r 8) k))).fst.zb,AV.sl 1 (List.map (row1 IntKind.i8) (takeR (toS xs (tkR xs (cntR xs r 8) k))).fst.w),AV.sl 1 (List.map (row1 IntKind.i32) (takeR (toS xs (tkR xs (cntR xs r 8) k))).fst.b),i32 (takeR (toS xs (tkR xs (cntR xs r 8) k))).fst.qm,i64 (takeR (toS xs (tkR xs (cntR xs r 8) k))).fst.qs,i8 (takeR (toS xs (tkR xs (cntR xs r 8) k))).fst.qz,i32 (takeR (toS xs (tkR xs (cntR xs r 8) k))).fst.rm,i64 (takeR (toS xs (tkR xs (cntR xs r 8) k))).fst.rs,i8 (takeR (toS xs (tkR xs (cntR xs r 8) k))).fst.rz,i8 (takeR (toS xs (tkR xs (cntR xs r 8) k))).fst.lo,i8 (takeR (toS xs (tkR xs (cntR xs r 8) k))).fst.hi]]) (l:=tkL (toS xs (cntR xs r 8)) k++[Nod.mk (takeR (toS xs (tkR xs (cntR xs r 8) k))).fst.kd (takeR (toS xs (tkR xs (cntR xs r 8) k))).fst.na (takeR (toS xs (tkR xs (cntR xs r 8) k))).fst.nb (takeR (toS xs (tkR xs (cntR xs r 8) k))).fst.nk (takeR (toS xs (tkR xs (cntR xs r 8) k))).fst.ns (takeR (toS xs (tkR xs (cntR xs r 8) k))).fst.np (takeR (toS xs (tkR xs (cntR xs r 8) k))).fst.no (takeR (toS xs (tkR xs (cntR xs r 8) k))).fst.za (takeR (toS xs (tkR xs (cntR xs r 8) k))).fst.zb (takeR (toS xs (tkR xs (cntR xs r 8) k))).fst.w (takeR (toS xs (tkR xs (cntR xs r 8) k))).fst.b (takeR (toS xs (tkR xs (cntR xs r 8) k))).fst.qm (takeR (toS xs (tkR xs (cntR xs r 8) k))).fst.qs (takeR (toS xs (tkR xs (cntR xs r 8) k))).fst.qz (takeR (toS xs (tkR xs (cntR xs r 8) k))).fst.rm (takeR (toS xs (tkR xs (cntR xs r 8) k))).fst.rs (takeR (toS xs (tkR xs (cntR xs r 8) k))).fst.rz (takeR (toS xs (tkR xs (cntR xs r 8) k))).fst.lo (takeR (toS xs (tkR xs (cntR xs r 8) k))).fst.hi]) (m:=tkL (toS xs (cntR xs r 8)) (k+1)) (by first | (simp only [List.map_append,List.map_cons,List.map_nil,List.map_set,List.map_replicate,List.map_take,List.map_drop];done) | rfl | (simp only [List.map_append,List.map_cons,List.map_nil,List.map_set,List.map_replicate,List.map_take,List.map_drop];rfl) | (simp only [List.map_append,List.map_cons,List.map_nil,List.map_set,List.map_replicate,List.map_take,List.map_drop,nodC,ints];done)) (show (tkL (toS xs (cntR xs r 8)) k++[Nod.mk (takeR (toS xs (tkR xs (cntR xs r 8) k))).fst.kd (takeR (toS xs (tkR xs (cntR xs r 8) k))).fst.na (takeR (toS xs (tkR xs (cntR xs r 8) k))).fst.nb (takeR (toS xs (tkR xs (cntR xs r 8) k))).fst.nk (takeR (toS xs (tkR xs (cntR xs r 8) k))).fst.ns (takeR (toS xs (tkR xs (cntR xs r 8) k))).fst.np (takeR (toS xs (tkR xs (cntR xs r 8) k))).fst.no (takeR (toS xs (tkR xs (cntR xs r 8) k))).fst.za (takeR (toS xs (tkR xs (cntR xs r 8) k))).fst.zb (takeR (toS xs (tkR xs (cntR xs r 8) k))).fst.w (takeR (toS xs (tkR xs (cntR xs r 8) k))).fst.b (takeR (toS xs (tkR xs (cntR xs r 8) k))).fst.qm (takeR (toS xs (tkR xs (cntR xs r 8) k))).fst.qs (takeR (toS xs (tkR xs (cntR xs r 8) k))).fst.qz (takeR (toS xs (tkR xs (cntR xs r 8) k))).fst.rm (takeR (toS xs (tkR xs (cntR xs r 8) k))).fst.rs (takeR (toS xs (tkR xs (cntR xs r 8) k))).fst.rz (takeR (toS xs (tkR xs (cntR xs r 8) k))).fst.lo (takeR (toS xs (tkR xs (cntR xs r 8) k))).fst.hi])=(tkL (toS xs (cntR xs r 8)) (k+1)) from (by (have w:=congrArg (fun z=>tkL (toS xs (cntR xs r 8)) k++[(takeR z).1]) q6;exact w))))))<|.c (show BlkW (Blk.var [AV.sl 1 (List.map (row1 IntKind.u8) xs),i64 (↑(takeRr xs (tkR xs (cntR xs r 8) k)).fst:Int),i64 (takeRr xs (tkR xs (cntR xs r 8) k)).snd]) (Blk.var [AV.sl 1 (List.map (row1 IntKind.u8) xs),i64 (↑(tkR xs (cntR xs r 8) (k+1)).fst:Int),i64 (tkR xs (cntR xs r 8) (k+1)).snd]) from (BlkW.var (m:=[AV.sl 1 (List.map (row1 IntKind.u8) xs),i64 (↑(tkR xs (cntR xs r 8) (k+1)).fst:Int),i64 (tkR xs (cntR xs r 8) (k+1)).snd]) (.cons (.refl _) (.cons (Weak.int (show (((↑(takeRr xs (tkR xs (cntR xs r 8) k)).fst:Int)):Int)=((↑(tkR xs (cntR xs r 8) (k+1)).fst:Int)) from (by rfl))) (.cons (Weak.int (show (((takeRr xs (tkR xs (cntR xs r 8) k)).snd):Int)=((tkR xs (cntR xs r 8) (k+1)).snd) from (by rfl))) .nil)))))<|.n)
theorem rtkb_y_e (xs:List Int) (r:Rrf) (h:Rrf.In xs r) (hf:(toS xs r).Fit) (hh:∀ k,k<(cntV (toS xs r) 8).toNat→(takeR (toS xs (tkR xs (cntR xs r 8) k))).2=0):VT Try.prog (fnC Try.f120 [1,1,1,0,1,0,0]) (rtkb_y_I xs r ((cntV (toS xs r) 8).toNat)) (.exit 0) (rtkb_y_Z xs r):=by
 exact VT.run (W:=[.r [] [],.br false]) (G:=[.any [11,12,13],.sort]) (by kernel_rfl) (.c (decide_eq_false (p:=((↑(cntV (toS xs r) 8).toNat:Int)<cntV (toS xs r) 8)) (by omega))<|.n)
theorem rtkb_y (xs:List Int) (r:Rrf) (h:Rrf.In xs r) (hf:(toS xs r).Fit) (hh:∀ k,k<(cntV (toS xs r) 8).toNat→(takeR (toS xs (tkR xs (cntR xs r 8) k))).2=0):VT Try.prog (fnC Try.f120 [1,1,1,0,1,0]) (rtkb_y_I xs r 0) (.exit 0) (rtkb_y_Z xs r) :=
 VT.loop (fun k=>rtkb_y_I xs r k) ((cntV (toS xs r) 8).toNat) (fun k hk=>rtkb_y_s xs r h hf hh k hk) (rtkb_y_e xs r h hf hh) (by intro h;cases h)
noncomputable def rtkb_n_I (xs:List Int) (r:Rrf) (m:Nat) (k:Nat):VS:=stt 65 [(0,.ptr 100000 0 0),(2,.ptr 2 0 0),(4,.ptr 4 0 0),(5,i64 (cntV (toS xs r) 8)),(6,i64 k)] [(2,.var [.any,.any,.any,.any,.any]),(4,.var [.own 900,bv false,ints .i8 [],ints .i32 [],i32 0]),(900,.slc 47 19 ((tkL (toS xs (cntR xs r 8)) k).map nodC)),(100000,.var (rrC xs (tkR xs (cntR xs r 8) k)))]
noncomputable def rtkb_n_Z (xs:List Int) (r:Rrf) (m:Nat):VS:=stt 65 [(2,.ptr 2 0 0),(3,i64 (takeR (toS xs (tkR xs (cntR xs r 8) m))).2)] [(2,.var [nilv,bv false,nilv,nilv,i32 0]),(100000,.var (rrC xs (tkR xs (cntR xs r 8) (m+1))))]
theorem rtkb_n_s (xs:List Int) (r:Rrf) (m:Nat) (h:Rrf.In xs r) (hf:(toS xs r).Fit) (hm:m<(cntV (toS xs r) 8).toNat) (hg:(takeR (toS xs (tkR xs (cntR xs r 8) m))).2≠0) (hh:∀ k,k<m→(takeR (toS xs (tkR xs (cntR xs r 8) k))).2=0) (k:Nat) (hk:k<m):VT Try.prog (fnC Try.f120 [1,1,1,0,1,0,0]) (rtkb_n_I xs r m k) .normal (rtkb_n_I xs r m (k+1)):=by
 have q:=cntV_rng (m:=8) (toS_in h) (by decide)
 have q0:=tkR_in (cntR_in h 8) k
 have q1:=tkL_len (toS xs (cntR xs r 8)) k
 have q6:=tkR_s xs (cntR xs r 8) k
 have q7:(toS xs (tkR xs (cntR xs r 8) k)).Fit:=by rw [q6];exact tkS_fit (by rw [toS_cnt];exact cnt_fit hf 8) k
 have q2:=hh k hk
 have oz1 := @rtake_v (xs) (tkR xs (cntR xs r 8) k) q0 q7
 exact VT.run (W:=[.r [] [],.br true,.r [] [cm oz1],.r [] [],.br false,.r [] [],.r [] [.n ((↑k:Int)+1)]]) (G:=[.any (rg [(7,2),(11,12),(25,6)]),.drop [7,28],.ren 29 900,.weak 6 (i64 (↑(k+1):Int)),.blk 900 (Blk.slc 47 19 (List.map nodC (tkL (toS xs (cntR xs r 8)) (k+1)))),.blk 100000 (Blk.var [AV.sl 1 (List.map (row1 IntKind.u8) xs),i64 (↑(tkR xs (cntR xs r 8) (k+1)).fst:Int),i64 (tkR xs (cntR xs r 8) (k+1)).snd]),.sort]) (by kernel_rfl) (.c (decide_eq_true (p:=((↑k:Int)<cntV (toS xs r) 8)) (by omega))<|.c oz1<|.c (show ((takeR (toS xs (tkR xs (cntR xs r 8) k))).snd != 0)=false by (simp;omega))<|.c (show ((List.map nodC (tkL (toS xs (cntR xs r 8)) k)).length+1)*168≤140737488355328 by (simp;omega))<|.c (show (List.map nodC (tkL (toS xs (cntR xs r 8)) k)).length+1≤9223372036854775807 by (simp;omega))<|.c (i6n ((↑k:Int)+1) (by omega))<|.c (Weak.int (k:=.i64) (show (((↑k:Int)+1):Int)=((↑(k+1):Int)) from (by omega)))<|.c (show BlkW (Blk.slc 47 19 (List.map nodC (tkL (toS xs (cntR xs r 8)) k)++[[i64 (takeR (toS xs (tkR xs (cntR xs r 8) k))).fst.kd,i64 (takeR (toS xs (tkR xs (cntR xs r 8) k))).fst.na,i64 (takeR (toS xs (tkR xs (cntR xs r 8) k))).fst.nb,i64 (takeR (toS xs (tkR xs (cntR xs r 8) k))).fst.nk,i64 (takeR (toS xs (tkR xs (cntR xs r 8) k))).fst.ns,i64 (takeR (toS xs (tkR xs (cntR xs r 8) k))).fst.np,i64 (takeR (toS xs (tkR xs (cntR xs r 8) k))).fst.no,i8 (takeR (toS xs (tkR xs (cntR xs r 8) k))).fst.za,i8 (takeR (toS xs (tkR xs (cntR xs r 8) k))).fst.zb,AV.sl 1 (List.map (row1 IntKind.i8) (takeR (toS xs (tkR xs (cntR xs r 8) k))).fst.w),AV.sl 1 (List.map (row1 IntKind.i32) (takeR (toS xs (tkR xs (cntR xs r 8) k))).fst.b),i32 (takeR (toS xs (tkR xs (cntR xs r 8) k))).fst.qm,i64 (takeR (toS xs (tkR xs (cntR xs r 8) k))).fst.qs,i8 (takeR (toS xs (tkR xs (cntR xs r 8) k))).fst.qz,i32 (takeR (toS xs (tkR xs (cntR xs r 8) k))).fst.rm,i64 (takeR (toS xs (tkR xs (cntR xs r 8) k))).fst.rs,i8 (takeR (toS xs (tkR xs (cntR xs r 8) k))).fst.rz,i8 (takeR (toS xs (tkR xs (cntR xs r 8) k))).fst.lo,i8 (takeR (toS xs (tkR xs (cntR xs r 8) k))).fst.hi]])) (Blk.slc 47 19 (List.map nodC (tkL (toS xs (cntR xs r 8)) (k+1)))) from (BlkW.rows (e:=47) (z:=19) (rows_to (nodC) (r:=List.map nodC (tkL (toS xs (cntR xs r 8)) k)++[[i64 (takeR (toS xs (tkR xs (cntR xs r 8) k))).fst.kd,i64 (takeR (toS xs (tkR xs (cntR xs r 8) k))).fst.na,i64 (takeR (toS xs (tkR xs (cntR xs r 8) k))).fst.nb,i64 (takeR (toS xs (tkR xs (cntR xs r 8) k))).fst.nk,i64 (takeR (toS xs (tkR xs (cntR xs r 8) k))).fst.ns,i64 (takeR (toS xs (tkR xs (cntR xs r 8) k))).fst.np,i64 (takeR (toS xs (tkR xs (cntR xs r 8) k))).fst.no,i8 (takeR (toS xs (tkR xs (cntR xs r 8) k))).fst.za,i8 (takeR (toS xs (tkR xs (cntR xs r 8) k))).fst.zb,AV.sl 1 (List.map (row1 IntKind.i8) (takeR (toS xs (tkR xs (cntR xs r 8) k))).fst.w),AV.sl 1 (List.map (row1 IntKind.i32) (takeR (toS xs (tkR xs (cntR xs r 8) k))).fst.b),i32 (takeR (toS xs (tkR xs (cntR xs r 8) k))).fst.qm,i64 (takeR (toS xs (tkR xs (cntR xs r 8) k))).fst.qs,i8 (takeR (toS xs (tkR xs (cntR xs r 8) k))).fst.qz,i32 (takeR (toS xs (tkR xs (cntR xs r 8) k))).fst.rm,i64 (takeR (toS xs (tkR xs (cntR xs r 8) k))).fst.rs,i8 (takeR (toS xs (tkR xs (cntR xs r 8) k))).fst.rz,i8 (takeR (toS xs (tkR xs (cntR xs r 8) k))).fst.lo,i8 (takeR (toS xs (tkR xs (cntR xs r 8) k))).fst.hi]]) (l:=tkL (toS xs (cntR xs r 8)) k++[Nod.mk (takeR (toS xs (tkR xs (cntR xs r 8) k))).fst.kd (takeR (toS xs (tkR xs (cntR xs r 8) k))).fst.na (takeR (toS xs (tkR xs (cntR xs r 8) k))).fst.nb (takeR (toS xs (tkR xs (cntR xs r 8) k))).fst.nk (takeR (toS xs (tkR xs (cntR xs r 8) k))).fst.ns (takeR (toS xs (tkR xs (cntR xs r 8) k))).fst.np (takeR (toS xs (tkR xs (cntR xs r 8) k))).fst.no (takeR (toS xs (tkR xs (cntR xs r 8) k))).fst.za (takeR (toS xs (tkR xs (cntR xs r 8) k))).fst.zb (takeR (toS xs (tkR xs (cntR xs r 8) k))).fst.w (takeR (toS xs (tkR xs (cntR xs r 8) k))).fst.b (takeR (toS xs (tkR xs (cntR xs r 8) k))).fst.qm (takeR (toS xs (tkR xs (cntR xs r 8) k))).fst.qs (takeR (toS xs (tkR xs (cntR xs r 8) k))).fst.qz (takeR (toS xs (tkR xs (cntR xs r 8) k))).fst.rm (takeR (toS xs (tkR xs (cntR xs r 8) k))).fst.rs (takeR (toS xs (tkR xs (cntR xs r 8) k))).fst.rz (takeR (toS xs (tkR xs (cntR xs r 8) k))).fst.lo (takeR (toS xs (tkR xs (cntR xs r 8) k))).fst.hi]) (m:=tkL (toS xs (cntR xs r 8)) (k+1)) (by first | (simp only [List.map_append,List.map_cons,List.map_nil,List.map_set,List.map_replicate,List.map_take,List.map_drop];done) | rfl | (simp only [List.map_append,List.map_cons,List.map_nil,List.map_set,List.map_replicate,List.map_take,List.map_drop];rfl) | (simp only [List.map_append,List.map_cons,List.map_nil,List.map_set,List.map_replicate,List.map_take,List.map_drop,nodC,ints];done)) (show (tkL (toS xs (cntR xs r 8)) k++[Nod.mk (takeR (toS xs (tkR xs (cntR xs r 8) k))).fst.kd (takeR (toS xs (tkR xs (cntR xs r 8) k))).fst.na (takeR (toS xs (tkR xs (cntR xs r 8) k))).fst.nb (takeR (toS xs (tkR xs (cntR xs r 8) k))).fst.nk (takeR (toS xs (tkR xs (cntR xs r 8) k))).fst.ns (takeR (toS xs (tkR xs (cntR xs r 8) k))).fst.np (takeR (toS xs (tkR xs (cntR xs r 8) k))).fst.no (takeR (toS xs (tkR xs (cntR xs r 8) k))).fst.za (takeR (toS xs (tkR xs (cntR xs r 8) k))).fst.zb (takeR (toS xs (tkR xs (cntR xs r 8) k))).fst.w (takeR (toS xs (tkR xs (cntR xs r 8) k))).fst.b (takeR (toS xs (tkR xs (cntR xs r 8) k))).fst.qm (takeR (toS xs (tkR xs (cntR xs r 8) k))).fst.qs (takeR (toS xs (tkR xs (cntR xs r 8) k))).fst.qz (takeR (toS xs (tkR xs (cntR xs r 8) k))).fst.rm (takeR (toS xs (tkR xs (cntR xs r 8) k))).fst.rs (takeR (toS xs (tkR xs (cntR xs r 8) k))).fst.rz (takeR (toS xs (tkR xs (cntR xs r 8) k))).fst.lo (takeR (toS xs (tkR xs (cntR xs r 8) k))).fst.hi])=(tkL (toS xs (cntR xs r 8)) (k+1)) from (by (have w:=congrArg (fun z=>tkL (toS xs (cntR xs r 8)) k++[(takeR z).1]) q6;exact w))))))<|.c (show BlkW (Blk.var [AV.sl 1 (List.map (row1 IntKind.u8) xs),i64 (↑(takeRr xs (tkR xs (cntR xs r 8) k)).fst:Int),i64 (takeRr xs (tkR xs (cntR xs r 8) k)).snd]) (Blk.var [AV.sl 1 (List.map (row1 IntKind.u8) xs),i64 (↑(tkR xs (cntR xs r 8) (k+1)).fst:Int),i64 (tkR xs (cntR xs r 8) (k+1)).snd]) from (BlkW.var (m:=[AV.sl 1 (List.map (row1 IntKind.u8) xs),i64 (↑(tkR xs (cntR xs r 8) (k+1)).fst:Int),i64 (tkR xs (cntR xs r 8) (k+1)).snd]) (.cons (.refl _) (.cons (Weak.int (show (((↑(takeRr xs (tkR xs (cntR xs r 8) k)).fst:Int)):Int)=((↑(tkR xs (cntR xs r 8) (k+1)).fst:Int)) from (by rfl))) (.cons (Weak.int (show (((takeRr xs (tkR xs (cntR xs r 8) k)).snd):Int)=((tkR xs (cntR xs r 8) (k+1)).snd) from (by rfl))) .nil)))))<|.n)
theorem rtkb_n_e (xs:List Int) (r:Rrf) (m:Nat) (h:Rrf.In xs r) (hf:(toS xs r).Fit) (hm:m<(cntV (toS xs r) 8).toNat) (hg:(takeR (toS xs (tkR xs (cntR xs r 8) m))).2≠0) (hh:∀ k,k<m→(takeR (toS xs (tkR xs (cntR xs r 8) k))).2=0):VT Try.prog (fnC Try.f120 [1,1,1,0,1,0,0]) (rtkb_n_I xs r m (m)) (.ret) (rtkb_n_Z xs r m):=by
 have q:=cntV_rng (m:=8) (toS_in h) (by decide)
 have q0:=tkR_in (cntR_in h 8) m
 have q1:=tkL_len (toS xs (cntR xs r 8)) m
 have q6:=tkR_s xs (cntR xs r 8) m
 have q7:(toS xs (tkR xs (cntR xs r 8) m)).Fit:=by rw [q6];exact tkS_fit (by rw [toS_cnt];exact cnt_fit hf 8) m
 have oz1 := @rtake_v (xs) (tkR xs (cntR xs r 8) m) q0 q7
 exact VT.run (W:=[.r [] [],.br true,.r [] [cm oz1],.r [] [],.br true,.r [] []]) (G:=[.any (rg [(0,1),(4,5),(11,3),(16,9)]),.drop [4,900,7],.blk 100000 (Blk.var [AV.sl 1 (List.map (row1 IntKind.u8) xs),i64 (↑(tkR xs (cntR xs r 8) (m+1)).fst:Int),i64 (tkR xs (cntR xs r 8) (m+1)).snd]),.sort]) (by kernel_rfl) (.c (decide_eq_true (p:=((↑m:Int)<cntV (toS xs r) 8)) (by omega))<|.c oz1<|.c (show ((takeR (toS xs (tkR xs (cntR xs r 8) m))).snd != 0)=true by (simp;omega))<|.c (show BlkW (Blk.var [AV.sl 1 (List.map (row1 IntKind.u8) xs),i64 (↑(takeRr xs (tkR xs (cntR xs r 8) m)).fst:Int),i64 (takeRr xs (tkR xs (cntR xs r 8) m)).snd]) (Blk.var [AV.sl 1 (List.map (row1 IntKind.u8) xs),i64 (↑(tkR xs (cntR xs r 8) (m+1)).fst:Int),i64 (tkR xs (cntR xs r 8) (m+1)).snd]) from (BlkW.var (m:=[AV.sl 1 (List.map (row1 IntKind.u8) xs),i64 (↑(tkR xs (cntR xs r 8) (m+1)).fst:Int),i64 (tkR xs (cntR xs r 8) (m+1)).snd]) (.cons (.refl _) (.cons (Weak.int (show (((↑(takeRr xs (tkR xs (cntR xs r 8) m)).fst:Int)):Int)=((↑(tkR xs (cntR xs r 8) (m+1)).fst:Int)) from (by rfl))) (.cons (Weak.int (show (((takeRr xs (tkR xs (cntR xs r 8) m)).snd):Int)=((tkR xs (cntR xs r 8) (m+1)).snd) from (by rfl))) .nil)))))<|.n)
theorem rtkb_n (xs:List Int) (r:Rrf) (m:Nat) (h:Rrf.In xs r) (hf:(toS xs r).Fit) (hm:m<(cntV (toS xs r) 8).toNat) (hg:(takeR (toS xs (tkR xs (cntR xs r 8) m))).2≠0) (hh:∀ k,k<m→(takeR (toS xs (tkR xs (cntR xs r 8) k))).2=0):VT Try.prog (fnC Try.f120 [1,1,1,0,1,0]) (rtkb_n_I xs r m 0) (.ret) (rtkb_n_Z xs r m) :=
 VT.loop (fun k=>rtkb_n_I xs r m k) (m) (fun k hk=>rtkb_n_s xs r m h hf hm hg hh k hk) (rtkb_n_e xs r m h hf hm hg hh) (by intro h;cases h)
theorem rptake_f (xs:List Int) (r:Rrf) (m:Nat) (h:Rrf.In xs r) (hf:(toS xs r).Fit) (hm:m<(cntV (toS xs r) 8).toNat) (hg:(takeR (toS xs (tkR xs (cntR xs r 8) m))).2≠0) (hh:∀ k,k<m→(takeR (toS xs (tkR xs (cntR xs r 8) k))).2=0):VM Try.prog 120 ([.ptr 100000 0 0]) ([(100000,.var (rrC xs r))]) (.tup [.agg [.sl 19 [],bv false,.sl 1 [],.sl 1 [],i32 0],i64 (takeR (toS xs (tkR xs (cntR xs r 8) m))).2]) ([(100000,.var (rrC xs (tkR xs (cntR xs r 8) (m+1))))]):=by
 have q:=cntV_rng (m:=8) (toS_in h) (by decide)
 have q0:=tkR_in (cntR_in h 8) m
 have q1:=tkL_len (toS xs (cntR xs r 8)) m
 have q6:=tkR_s xs (cntR xs r 8) m
 have q7:(toS xs (tkR xs (cntR xs r 8) m)).Fit:=by rw [q6];exact tkS_fit (by rw [toS_cnt];exact cnt_fit hf 8) m
 have i2:=cntR_in q0 1
 have i3:=widR_in (cntR_in (smlR_in (cntR_in i2 16384) 0) 16384) 0
 have q9:=cntV_rng (m:=2147483647) (toS_in i3) (by decide)
 have oz0 := @rcnt_v (xs) (r) (8) h (by omega) (by omega)
 have oz5 := @rtkb_n (xs) (r) (m) h hf hm hg hh
 exact VM.run (fn:=Try.f120) (W:=[.r [] [],.r [] [],.r [] [cm oz0],.r [] [],.code [.any [3,9,10],.weak 6 (i64 (↑0:Int)),.nilc 900 47 19 4 0,.blk 2 (Blk.var [AV.any,AV.any,AV.any,AV.any,AV.any]),.blk 4 (Blk.var [AV.own 900,bv false,AV.sl 1 [],AV.sl 1 [],i32 0]),.blk 100000 (Blk.var [AV.sl 1 (List.map (row1 IntKind.u8) xs),i64 (↑(tkR xs (cntR xs r 8) 0).fst:Int),i64 (tkR xs (cntR xs r 8) 0).snd]),.sort] (Exit.ret) (zO oz5)]) (G:=[.drop [2],.weak 0 (AV.tup [AV.agg [AV.sl 19 [],bv false,AV.sl 1 [],AV.sl 1 [],i32 0],i64 (takeR (toS xs (tkR xs (cntR xs r 8) m))).snd]),.sort]) Try.func120 (by kernel_rfl) (.c oz0<|.c (Weak.int (k:=.i64) (show ((0):Int)=((↑0:Int)) from (by omega)))<|.c (show BlkW (Blk.var [nilv,bv false,nilv,nilv,i32 (0:Int)]) (Blk.var [AV.any,AV.any,AV.any,AV.any,AV.any]) from (BlkW.var (m:=[AV.any,AV.any,AV.any,AV.any,AV.any]) (.cons (Weak.any _) (.cons (Weak.any _) (.cons (Weak.any _) (.cons (Weak.any _) (.cons (Weak.any _) .nil)))))))<|.c (show BlkW (Blk.var [AV.own (900:Nat),bv false,nilv,nilv,i32 (0:Int)]) (Blk.var [AV.own (900:Nat),bv false,AV.sl (1:Nat) [],AV.sl (1:Nat) [],i32 (0:Int)]) from (BlkW.var (m:=[AV.own 900,bv false,AV.sl 1 [],AV.sl 1 [],i32 0]) (.cons (.refl _) (.cons (.refl _) (.cons (Weak.nil _) (.cons (Weak.nil _) (.cons (.refl _) .nil)))))))<|.c (show BlkW (Blk.var [AV.sl 1 (List.map (row1 IntKind.u8) xs),i64 (↑(cntR xs r 8).fst:Int),i64 (cntR xs r 8).snd]) (Blk.var [AV.sl 1 (List.map (row1 IntKind.u8) xs),i64 (↑(tkR xs (cntR xs r 8) 0).fst:Int),i64 (tkR xs (cntR xs r 8) 0).snd]) from (BlkW.var (m:=[AV.sl 1 (List.map (row1 IntKind.u8) xs),i64 (↑(tkR xs (cntR xs r 8) 0).fst:Int),i64 (tkR xs (cntR xs r 8) 0).snd]) (.cons (.refl _) (.cons (Weak.int (show (((↑(cntR xs r 8).fst:Int)):Int)=((↑(tkR xs (cntR xs r 8) 0).fst:Int)) from (by rfl))) (.cons (Weak.int (show (((cntR xs r 8).snd):Int)=((tkR xs (cntR xs r 8) 0).snd) from (by rfl))) .nil)))))<|.c oz5<|.c (show Weak (AV.tup [AV.agg [nilv,bv false,nilv,nilv,i32 0],i64 (takeR (toS xs (tkR xs (cntR xs r 8) m))).snd]) (AV.tup [AV.agg [AV.sl 19 [],bv false,AV.sl 1 [],AV.sl 1 [],i32 0],i64 (takeR (toS xs (tkR xs (cntR xs r 8) m))).snd]) from (Weak.tup (.cons (Weak.agg (.cons (Weak.nil _) (.cons (.refl _) (.cons (Weak.nil _) (.cons (Weak.nil _) (.cons (.refl _) .nil)))))) (.cons (.refl _) .nil))))<|.n)
theorem rptake_nb (xs:List Int) (r:Rrf) (h:Rrf.In xs r) (hf:(toS xs r).Fit) (hh:∀ k,k<(cntV (toS xs r) 8).toNat→(takeR (toS xs (tkR xs (cntR xs r 8) k))).2=0) (hx:cntV (toS xs (tkR xs (cntR xs r 8) (cntV (toS xs r) 8).toNat)) 1≠1) (hb:(cntR xs (tkR xs (cntR xs r 8) (cntV (toS xs r) 8).toNat) 1).2≠0):VM Try.prog 120 ([.ptr 100000 0 0]) ([(100000,.var (rrC xs r))]) (.tup [.agg [.sl 19 [],bv false,.sl 1 [],.sl 1 [],i32 0],i64 (cntR xs (tkR xs (cntR xs r 8) (cntV (toS xs r) 8).toNat) 1).2]) ([(100000,.var (rrC xs (cntR xs (tkR xs (cntR xs r 8) (cntV (toS xs r) 8).toNat) 1)))]):=by
 have q:=cntV_rng (m:=8) (toS_in h) (by decide)
 have q0:=tkR_in (cntR_in h 8) (cntV (toS xs r) 8).toNat
 have q1:=tkL_len (toS xs (cntR xs r 8)) (cntV (toS xs r) 8).toNat
 have q6:=tkR_s xs (cntR xs r 8) (cntV (toS xs r) 8).toNat
 have q7:(toS xs (tkR xs (cntR xs r 8) (cntV (toS xs r) 8).toNat)).Fit:=by rw [q6];exact tkS_fit (by rw [toS_cnt];exact cnt_fit hf 8) (cntV (toS xs r) 8).toNat
 have i2:=cntR_in q0 1
 have i3:=widR_in (cntR_in (smlR_in (cntR_in i2 16384) (cntV (toS xs (cntR xs (tkR xs (cntR xs r 8) (cntV (toS xs r) 8).toNat) 1)) 16384)) 16384) (cntV (toS xs (smlR xs (cntR xs (cntR xs (tkR xs (cntR xs r 8) (cntV (toS xs r) 8).toNat) 1) 16384) (cntV (toS xs (cntR xs (tkR xs (cntR xs r 8) (cntV (toS xs r) 8).toNat) 1)) 16384))) 16384)
 have q9:=cntV_rng (m:=2147483647) (toS_in i3) (by decide)
 have oz0 := @rcnt_v (xs) (r) (8) h (by omega) (by omega)
 have oz5 := @rtkb_y (xs) (r) h hf hh
 have oz6 := @rcnt_v (xs) (tkR xs (cntR xs r 8) (cntV (toS xs r) 8).toNat) (1) q0 (by omega) (by omega)
 exact VM.run (fn:=Try.f120) (W:=[.r [] [],.r [] [],.r [] [cm oz0],.r [] [],.code [.any [3,9,10],.weak 6 (i64 (↑0:Int)),.nilc 900 47 19 4 0,.blk 2 (Blk.var [AV.any,AV.any,AV.any,AV.any,AV.any]),.blk 4 (Blk.var [AV.own 900,bv false,AV.sl 1 [],AV.sl 1 [],i32 0]),.blk 100000 (Blk.var [AV.sl 1 (List.map (row1 IntKind.u8) xs),i64 (↑(tkR xs (cntR xs r 8) 0).fst:Int),i64 (tkR xs (cntR xs r 8) 0).snd]),.sort] (Exit.exit 0) (zO oz5),.r [] [cm oz6],.r [] [],.br false,.r [] [],.br true,.r [] []]) (G:=[.drop [2,4,900],.weak 0 (AV.tup [AV.agg [AV.sl 19 [],bv false,AV.sl 1 [],AV.sl 1 [],i32 0],i64 (cntR xs (tkR xs (cntR xs r 8) (cntV (toS xs r) 8).toNat) 1).snd]),.sort]) Try.func120 (by kernel_rfl) (.c oz0<|.c (Weak.int (k:=.i64) (show ((0):Int)=((↑0:Int)) from (by omega)))<|.c (show BlkW (Blk.var [nilv,bv false,nilv,nilv,i32 (0:Int)]) (Blk.var [AV.any,AV.any,AV.any,AV.any,AV.any]) from (BlkW.var (m:=[AV.any,AV.any,AV.any,AV.any,AV.any]) (.cons (Weak.any _) (.cons (Weak.any _) (.cons (Weak.any _) (.cons (Weak.any _) (.cons (Weak.any _) .nil)))))))<|.c (show BlkW (Blk.var [AV.own (900:Nat),bv false,nilv,nilv,i32 (0:Int)]) (Blk.var [AV.own (900:Nat),bv false,AV.sl (1:Nat) [],AV.sl (1:Nat) [],i32 (0:Int)]) from (BlkW.var (m:=[AV.own 900,bv false,AV.sl 1 [],AV.sl 1 [],i32 0]) (.cons (.refl _) (.cons (.refl _) (.cons (Weak.nil _) (.cons (Weak.nil _) (.cons (.refl _) .nil)))))))<|.c (show BlkW (Blk.var [AV.sl 1 (List.map (row1 IntKind.u8) xs),i64 (↑(cntR xs r 8).fst:Int),i64 (cntR xs r 8).snd]) (Blk.var [AV.sl 1 (List.map (row1 IntKind.u8) xs),i64 (↑(tkR xs (cntR xs r 8) 0).fst:Int),i64 (tkR xs (cntR xs r 8) 0).snd]) from (BlkW.var (m:=[AV.sl 1 (List.map (row1 IntKind.u8) xs),i64 (↑(tkR xs (cntR xs r 8) 0).fst:Int),i64 (tkR xs (cntR xs r 8) 0).snd]) (.cons (.refl _) (.cons (Weak.int (show (((↑(cntR xs r 8).fst:Int)):Int)=((↑(tkR xs (cntR xs r 8) 0).fst:Int)) from (by rfl))) (.cons (Weak.int (show (((cntR xs r 8).snd):Int)=((tkR xs (cntR xs r 8) 0).snd) from (by rfl))) .nil)))))<|.c oz5<|.c oz6<|.c (show (cntV (toS xs (tkR xs (cntR xs r 8) (cntV (toS xs r) 8).toNat)) 1==1)=false by (refine decide_eq_false ?_;omega))<|.c (show ((cntR xs (tkR xs (cntR xs r 8) (cntV (toS xs r) 8).toNat) 1).snd != 0)=true by (simp;omega))<|.c (show Weak (AV.tup [AV.agg [nilv,bv false,nilv,nilv,i32 0],i64 (cntR xs (tkR xs (cntR xs r 8) (cntV (toS xs r) 8).toNat) 1).snd]) (AV.tup [AV.agg [AV.sl 19 [],bv false,AV.sl 1 [],AV.sl 1 [],i32 0],i64 (cntR xs (tkR xs (cntR xs r 8) (cntV (toS xs r) 8).toNat) 1).snd]) from (Weak.tup (.cons (Weak.agg (.cons (Weak.nil _) (.cons (.refl _) (.cons (Weak.nil _) (.cons (Weak.nil _) (.cons (.refl _) .nil)))))) (.cons (.refl _) .nil))))<|.n)
theorem rptake_ny (xs:List Int) (r:Rrf) (h:Rrf.In xs r) (hf:(toS xs r).Fit) (hh:∀ k,k<(cntV (toS xs r) 8).toNat→(takeR (toS xs (tkR xs (cntR xs r 8) k))).2=0) (hx:cntV (toS xs (tkR xs (cntR xs r 8) (cntV (toS xs r) 8).toNat)) 1≠1) (hb:(cntR xs (tkR xs (cntR xs r 8) (cntV (toS xs r) 8).toNat) 1).2=0):VM Try.prog 120 ([.ptr 100000 0 0]) ([(100000,.var (rrC xs r))]) (.tup [.agg [.sl 19 ((tkL (toS xs (cntR xs r 8)) (cntV (toS xs r) 8).toNat).map nodC),bv (cntV (toS xs (tkR xs (cntR xs r 8) (cntV (toS xs r) 8).toNat)) 1==1),ints .i8 [],ints .i32 [],i32 0],i64 0]) ([(100000,.var (rrC xs (cntR xs (tkR xs (cntR xs r 8) (cntV (toS xs r) 8).toNat) 1)))]):=by
 have q:=cntV_rng (m:=8) (toS_in h) (by decide)
 have q0:=tkR_in (cntR_in h 8) (cntV (toS xs r) 8).toNat
 have q1:=tkL_len (toS xs (cntR xs r 8)) (cntV (toS xs r) 8).toNat
 have q6:=tkR_s xs (cntR xs r 8) (cntV (toS xs r) 8).toNat
 have q7:(toS xs (tkR xs (cntR xs r 8) (cntV (toS xs r) 8).toNat)).Fit:=by rw [q6];exact tkS_fit (by rw [toS_cnt];exact cnt_fit hf 8) (cntV (toS xs r) 8).toNat
 have i2:=cntR_in q0 1
 have i3:=widR_in (cntR_in (smlR_in (cntR_in i2 16384) (cntV (toS xs (cntR xs (tkR xs (cntR xs r 8) (cntV (toS xs r) 8).toNat) 1)) 16384)) 16384) (cntV (toS xs (smlR xs (cntR xs (cntR xs (tkR xs (cntR xs r 8) (cntV (toS xs r) 8).toNat) 1) 16384) (cntV (toS xs (cntR xs (tkR xs (cntR xs r 8) (cntV (toS xs r) 8).toNat) 1)) 16384))) 16384)
 have q9:=cntV_rng (m:=2147483647) (toS_in i3) (by decide)
 have oz0 := @rcnt_v (xs) (r) (8) h (by omega) (by omega)
 have oz5 := @rtkb_y (xs) (r) h hf hh
 have oz6 := @rcnt_v (xs) (tkR xs (cntR xs r 8) (cntV (toS xs r) 8).toNat) (1) q0 (by omega) (by omega)
 exact VM.run (fn:=Try.f120) (W:=[.r [] [],.r [] [],.r [] [cm oz0],.r [] [],.code [.any [3,9,10],.weak 6 (i64 (↑0:Int)),.nilc 900 47 19 4 0,.blk 2 (Blk.var [AV.any,AV.any,AV.any,AV.any,AV.any]),.blk 4 (Blk.var [AV.own 900,bv false,AV.sl 1 [],AV.sl 1 [],i32 0]),.blk 100000 (Blk.var [AV.sl 1 (List.map (row1 IntKind.u8) xs),i64 (↑(tkR xs (cntR xs r 8) 0).fst:Int),i64 (tkR xs (cntR xs r 8) 0).snd]),.sort] (Exit.exit 0) (zO oz5),.r [] [cm oz6],.r [] [],.br false,.r [] [],.br false,.r [] []]) (G:=[.frz 900,.drop [2,4],.sort]) Try.func120 (by kernel_rfl) (.c oz0<|.c (Weak.int (k:=.i64) (show ((0):Int)=((↑0:Int)) from (by omega)))<|.c (show BlkW (Blk.var [nilv,bv false,nilv,nilv,i32 (0:Int)]) (Blk.var [AV.any,AV.any,AV.any,AV.any,AV.any]) from (BlkW.var (m:=[AV.any,AV.any,AV.any,AV.any,AV.any]) (.cons (Weak.any _) (.cons (Weak.any _) (.cons (Weak.any _) (.cons (Weak.any _) (.cons (Weak.any _) .nil)))))))<|.c (show BlkW (Blk.var [AV.own (900:Nat),bv false,nilv,nilv,i32 (0:Int)]) (Blk.var [AV.own (900:Nat),bv false,AV.sl (1:Nat) [],AV.sl (1:Nat) [],i32 (0:Int)]) from (BlkW.var (m:=[AV.own 900,bv false,AV.sl 1 [],AV.sl 1 [],i32 0]) (.cons (.refl _) (.cons (.refl _) (.cons (Weak.nil _) (.cons (Weak.nil _) (.cons (.refl _) .nil)))))))<|.c (show BlkW (Blk.var [AV.sl 1 (List.map (row1 IntKind.u8) xs),i64 (↑(cntR xs r 8).fst:Int),i64 (cntR xs r 8).snd]) (Blk.var [AV.sl 1 (List.map (row1 IntKind.u8) xs),i64 (↑(tkR xs (cntR xs r 8) 0).fst:Int),i64 (tkR xs (cntR xs r 8) 0).snd]) from (BlkW.var (m:=[AV.sl 1 (List.map (row1 IntKind.u8) xs),i64 (↑(tkR xs (cntR xs r 8) 0).fst:Int),i64 (tkR xs (cntR xs r 8) 0).snd]) (.cons (.refl _) (.cons (Weak.int (show (((↑(cntR xs r 8).fst:Int)):Int)=((↑(tkR xs (cntR xs r 8) 0).fst:Int)) from (by rfl))) (.cons (Weak.int (show (((cntR xs r 8).snd):Int)=((tkR xs (cntR xs r 8) 0).snd) from (by rfl))) .nil)))))<|.c oz5<|.c oz6<|.c (show (cntV (toS xs (tkR xs (cntR xs r 8) (cntV (toS xs r) 8).toNat)) 1==1)=false by (refine decide_eq_false ?_;omega))<|.c (show ((cntR xs (tkR xs (cntR xs r 8) (cntV (toS xs r) 8).toNat) 1).snd != 0)=false by (simp;omega))<|.n)
theorem rptake_yb (xs:List Int) (r:Rrf) (h:Rrf.In xs r) (hf:(toS xs r).Fit) (hh:∀ k,k<(cntV (toS xs r) 8).toNat→(takeR (toS xs (tkR xs (cntR xs r 8) k))).2=0) (hx:cntV (toS xs (tkR xs (cntR xs r 8) (cntV (toS xs r) 8).toNat)) 1=1) (hb:(cntR xs (widR xs (cntR xs (smlR xs (cntR xs (cntR xs (tkR xs (cntR xs r 8) (cntV (toS xs r) 8).toNat) 1) 16384) (cntV (toS xs (cntR xs (tkR xs (cntR xs r 8) (cntV (toS xs r) 8).toNat) 1)) 16384)) 16384) (cntV (toS xs (smlR xs (cntR xs (cntR xs (tkR xs (cntR xs r 8) (cntV (toS xs r) 8).toNat) 1) 16384) (cntV (toS xs (cntR xs (tkR xs (cntR xs r 8) (cntV (toS xs r) 8).toNat) 1)) 16384))) 16384)) 2147483647).2≠0):VM Try.prog 120 ([.ptr 100000 0 0]) ([(100000,.var (rrC xs r))]) (.tup [.agg [.sl 19 [],bv false,.sl 1 [],.sl 1 [],i32 0],i64 (cntR xs (widR xs (cntR xs (smlR xs (cntR xs (cntR xs (tkR xs (cntR xs r 8) (cntV (toS xs r) 8).toNat) 1) 16384) (cntV (toS xs (cntR xs (tkR xs (cntR xs r 8) (cntV (toS xs r) 8).toNat) 1)) 16384)) 16384) (cntV (toS xs (smlR xs (cntR xs (cntR xs (tkR xs (cntR xs r 8) (cntV (toS xs r) 8).toNat) 1) 16384) (cntV (toS xs (cntR xs (tkR xs (cntR xs r 8) (cntV (toS xs r) 8).toNat) 1)) 16384))) 16384)) 2147483647).2]) ([(100000,.var (rrC xs (cntR xs (widR xs (cntR xs (smlR xs (cntR xs (cntR xs (tkR xs (cntR xs r 8) (cntV (toS xs r) 8).toNat) 1) 16384) (cntV (toS xs (cntR xs (tkR xs (cntR xs r 8) (cntV (toS xs r) 8).toNat) 1)) 16384)) 16384) (cntV (toS xs (smlR xs (cntR xs (cntR xs (tkR xs (cntR xs r 8) (cntV (toS xs r) 8).toNat) 1) 16384) (cntV (toS xs (cntR xs (tkR xs (cntR xs r 8) (cntV (toS xs r) 8).toNat) 1)) 16384))) 16384)) 2147483647)))]):=by
 have q:=cntV_rng (m:=8) (toS_in h) (by decide)
 have q0:=tkR_in (cntR_in h 8) (cntV (toS xs r) 8).toNat
 have q1:=tkL_len (toS xs (cntR xs r 8)) (cntV (toS xs r) 8).toNat
 have q6:=tkR_s xs (cntR xs r 8) (cntV (toS xs r) 8).toNat
 have q7:(toS xs (tkR xs (cntR xs r 8) (cntV (toS xs r) 8).toNat)).Fit:=by rw [q6];exact tkS_fit (by rw [toS_cnt];exact cnt_fit hf 8) (cntV (toS xs r) 8).toNat
 have i2:=cntR_in q0 1
 have i3:=widR_in (cntR_in (smlR_in (cntR_in i2 16384) (cntV (toS xs (cntR xs (tkR xs (cntR xs r 8) (cntV (toS xs r) 8).toNat) 1)) 16384)) 16384) (cntV (toS xs (smlR xs (cntR xs (cntR xs (tkR xs (cntR xs r 8) (cntV (toS xs r) 8).toNat) 1) 16384) (cntV (toS xs (cntR xs (tkR xs (cntR xs r 8) (cntV (toS xs r) 8).toNat) 1)) 16384))) 16384)
 have q9:=cntV_rng (m:=2147483647) (toS_in i3) (by decide)
 have oz0 := @rcnt_v (xs) (r) (8) h (by omega) (by omega)
 have oz5 := @rtkb_y (xs) (r) h hf hh
 have oz6 := @rcnt_v (xs) (tkR xs (cntR xs r 8) (cntV (toS xs r) 8).toNat) (1) q0 (by omega) (by omega)
 have oz8 := @rcnt_v (xs) (cntR xs (tkR xs (cntR xs r 8) (cntV (toS xs r) 8).toNat) 1) (16384) i2 (by omega) (by omega)
 have oz9 := @rsmall_v (xs) (cntR xs (cntR xs (tkR xs (cntR xs r 8) (cntV (toS xs r) 8).toNat) 1) 16384) (cntV (toS xs (cntR xs (tkR xs (cntR xs r 8) (cntV (toS xs r) 8).toNat) 1)) 16384) (by (repeat first | exact q0 | exact i2 | exact i3 | exact h | apply cntR_in | apply smlR_in | apply widR_in))
 have oz10 := @rcnt_v (xs) (smlR xs (cntR xs (cntR xs (tkR xs (cntR xs r 8) (cntV (toS xs r) 8).toNat) 1) 16384) (cntV (toS xs (cntR xs (tkR xs (cntR xs r 8) (cntV (toS xs r) 8).toNat) 1)) 16384)) (16384) (by (repeat first | exact q0 | exact i2 | exact i3 | exact h | apply cntR_in | apply smlR_in | apply widR_in)) (by omega) (by omega)
 have oz11 := @rwide_v (xs) (cntR xs (smlR xs (cntR xs (cntR xs (tkR xs (cntR xs r 8) (cntV (toS xs r) 8).toNat) 1) 16384) (cntV (toS xs (cntR xs (tkR xs (cntR xs r 8) (cntV (toS xs r) 8).toNat) 1)) 16384)) 16384) (cntV (toS xs (smlR xs (cntR xs (cntR xs (tkR xs (cntR xs r 8) (cntV (toS xs r) 8).toNat) 1) 16384) (cntV (toS xs (cntR xs (tkR xs (cntR xs r 8) (cntV (toS xs r) 8).toNat) 1)) 16384))) 16384) (by (repeat first | exact q0 | exact i2 | exact i3 | exact h | apply cntR_in | apply smlR_in | apply widR_in))
 have oz12 := @rcnt_v (xs) (widR xs (cntR xs (smlR xs (cntR xs (cntR xs (tkR xs (cntR xs r 8) (cntV (toS xs r) 8).toNat) 1) 16384) (cntV (toS xs (cntR xs (tkR xs (cntR xs r 8) (cntV (toS xs r) 8).toNat) 1)) 16384)) 16384) (cntV (toS xs (smlR xs (cntR xs (cntR xs (tkR xs (cntR xs r 8) (cntV (toS xs r) 8).toNat) 1) 16384) (cntV (toS xs (cntR xs (tkR xs (cntR xs r 8) (cntV (toS xs r) 8).toNat) 1)) 16384))) 16384)) (2147483647) i3 (by omega) (by omega)
 have oz13:=(IntWalk.i32_in (cntV (toS xs (widR xs (cntR xs (smlR xs (cntR xs (cntR xs (tkR xs (cntR xs r 8) (cntV (toS xs r) 8).toNat) 1) 16384) (cntV (toS xs (cntR xs (tkR xs (cntR xs r 8) (cntV (toS xs r) 8).toNat) 1)) 16384)) 16384) (cntV (toS xs (smlR xs (cntR xs (cntR xs (tkR xs (cntR xs r 8) (cntV (toS xs r) 8).toNat) 1) 16384) (cntV (toS xs (cntR xs (tkR xs (cntR xs r 8) (cntV (toS xs r) 8).toNat) 1)) 16384))) 16384))) 2147483647) (by omega))
 exact VM.run (fn:=Try.f120) (W:=[.r [] [],.r [] [],.r [] [cm oz0],.r [] [],.code [.any [3,9,10],.weak 6 (i64 (↑0:Int)),.nilc 900 47 19 4 0,.blk 2 (Blk.var [AV.any,AV.any,AV.any,AV.any,AV.any]),.blk 4 (Blk.var [AV.own 900,bv false,AV.sl 1 [],AV.sl 1 [],i32 0]),.blk 100000 (Blk.var [AV.sl 1 (List.map (row1 IntKind.u8) xs),i64 (↑(tkR xs (cntR xs r 8) 0).fst:Int),i64 (tkR xs (cntR xs r 8) 0).snd]),.sort] (Exit.exit 0) (zO oz5),.r [] [cm oz6],.r [] [],.br true,.r [] [cm oz8,cm oz9],.r [] [cm oz10,cm oz11],.r [] [cm oz12,.n (nO oz13)],.r [] [],.br true,.r [] []]) (G:=[.drop [2,4,900],.weak 0 (AV.tup [AV.agg [AV.sl 19 [],bv false,AV.sl 1 [],AV.sl 1 [],i32 0],i64 (cntR xs (widR xs (cntR xs (smlR xs (cntR xs (cntR xs (tkR xs (cntR xs r 8) (cntV (toS xs r) 8).toNat) 1) 16384) (cntV (toS xs (cntR xs (tkR xs (cntR xs r 8) (cntV (toS xs r) 8).toNat) 1)) 16384)) 16384) (cntV (toS xs (smlR xs (cntR xs (cntR xs (tkR xs (cntR xs r 8) (cntV (toS xs r) 8).toNat) 1) 16384) (cntV (toS xs (cntR xs (tkR xs (cntR xs r 8) (cntV (toS xs r) 8).toNat) 1)) 16384))) 16384)) 2147483647).snd]),.sort]) Try.func120 (by kernel_rfl) (.c oz0<|.c (Weak.int (k:=.i64) (show ((0):Int)=((↑0:Int)) from (by omega)))<|.c (show BlkW (Blk.var [nilv,bv false,nilv,nilv,i32 (0:Int)]) (Blk.var [AV.any,AV.any,AV.any,AV.any,AV.any]) from (BlkW.var (m:=[AV.any,AV.any,AV.any,AV.any,AV.any]) (.cons (Weak.any _) (.cons (Weak.any _) (.cons (Weak.any _) (.cons (Weak.any _) (.cons (Weak.any _) .nil)))))))<|.c (show BlkW (Blk.var [AV.own (900:Nat),bv false,nilv,nilv,i32 (0:Int)]) (Blk.var [AV.own (900:Nat),bv false,AV.sl (1:Nat) [],AV.sl (1:Nat) [],i32 (0:Int)]) from (BlkW.var (m:=[AV.own 900,bv false,AV.sl 1 [],AV.sl 1 [],i32 0]) (.cons (.refl _) (.cons (.refl _) (.cons (Weak.nil _) (.cons (Weak.nil _) (.cons (.refl _) .nil)))))))<|.c (show BlkW (Blk.var [AV.sl 1 (List.map (row1 IntKind.u8) xs),i64 (↑(cntR xs r 8).fst:Int),i64 (cntR xs r 8).snd]) (Blk.var [AV.sl 1 (List.map (row1 IntKind.u8) xs),i64 (↑(tkR xs (cntR xs r 8) 0).fst:Int),i64 (tkR xs (cntR xs r 8) 0).snd]) from (BlkW.var (m:=[AV.sl 1 (List.map (row1 IntKind.u8) xs),i64 (↑(tkR xs (cntR xs r 8) 0).fst:Int),i64 (tkR xs (cntR xs r 8) 0).snd]) (.cons (.refl _) (.cons (Weak.int (show (((↑(cntR xs r 8).fst:Int)):Int)=((↑(tkR xs (cntR xs r 8) 0).fst:Int)) from (by rfl))) (.cons (Weak.int (show (((cntR xs r 8).snd):Int)=((tkR xs (cntR xs r 8) 0).snd) from (by rfl))) .nil)))))<|.c oz5<|.c oz6<|.c (show (cntV (toS xs (tkR xs (cntR xs r 8) (cntV (toS xs r) 8).toNat)) 1==1)=true by (refine decide_eq_true ?_;omega))<|.c oz8<|.c oz9<|.c oz10<|.c oz11<|.c oz12<|.c oz13<|.c (show ((cntR xs (widR xs (cntR xs (smlR xs (cntR xs (cntR xs (tkR xs (cntR xs r 8) (cntV (toS xs r) 8).toNat) 1) 16384) (cntV (toS xs (cntR xs (tkR xs (cntR xs r 8) (cntV (toS xs r) 8).toNat) 1)) 16384)) 16384) (cntV (toS xs (smlR xs (cntR xs (cntR xs (tkR xs (cntR xs r 8) (cntV (toS xs r) 8).toNat) 1) 16384) (cntV (toS xs (cntR xs (tkR xs (cntR xs r 8) (cntV (toS xs r) 8).toNat) 1)) 16384))) 16384)) 2147483647).snd != 0)=true by (simp;omega))<|.c (show Weak (AV.tup [AV.agg [nilv,bv false,nilv,nilv,i32 0],i64 (cntR xs (widR xs (cntR xs (smlR xs (cntR xs (cntR xs (tkR xs (cntR xs r 8) (cntV (toS xs r) 8).toNat) 1) 16384) (cntV (toS xs (cntR xs (tkR xs (cntR xs r 8) (cntV (toS xs r) 8).toNat) 1)) 16384)) 16384) (cntV (toS xs (smlR xs (cntR xs (cntR xs (tkR xs (cntR xs r 8) (cntV (toS xs r) 8).toNat) 1) 16384) (cntV (toS xs (cntR xs (tkR xs (cntR xs r 8) (cntV (toS xs r) 8).toNat) 1)) 16384))) 16384)) 2147483647).snd]) (AV.tup [AV.agg [AV.sl 19 [],bv false,AV.sl 1 [],AV.sl 1 [],i32 0],i64 (cntR xs (widR xs (cntR xs (smlR xs (cntR xs (cntR xs (tkR xs (cntR xs r 8) (cntV (toS xs r) 8).toNat) 1) 16384) (cntV (toS xs (cntR xs (tkR xs (cntR xs r 8) (cntV (toS xs r) 8).toNat) 1)) 16384)) 16384) (cntV (toS xs (smlR xs (cntR xs (cntR xs (tkR xs (cntR xs r 8) (cntV (toS xs r) 8).toNat) 1) 16384) (cntV (toS xs (cntR xs (tkR xs (cntR xs r 8) (cntV (toS xs r) 8).toNat) 1)) 16384))) 16384)) 2147483647).snd]) from (Weak.tup (.cons (Weak.agg (.cons (Weak.nil _) (.cons (.refl _) (.cons (Weak.nil _) (.cons (Weak.nil _) (.cons (.refl _) .nil)))))) (.cons (.refl _) .nil))))<|.n)
theorem rptake_yy (xs:List Int) (r:Rrf) (h:Rrf.In xs r) (hf:(toS xs r).Fit) (hh:∀ k,k<(cntV (toS xs r) 8).toNat→(takeR (toS xs (tkR xs (cntR xs r 8) k))).2=0) (hx:cntV (toS xs (tkR xs (cntR xs r 8) (cntV (toS xs r) 8).toNat)) 1=1) (hb:(cntR xs (widR xs (cntR xs (smlR xs (cntR xs (cntR xs (tkR xs (cntR xs r 8) (cntV (toS xs r) 8).toNat) 1) 16384) (cntV (toS xs (cntR xs (tkR xs (cntR xs r 8) (cntV (toS xs r) 8).toNat) 1)) 16384)) 16384) (cntV (toS xs (smlR xs (cntR xs (cntR xs (tkR xs (cntR xs r 8) (cntV (toS xs r) 8).toNat) 1) 16384) (cntV (toS xs (cntR xs (tkR xs (cntR xs r 8) (cntV (toS xs r) 8).toNat) 1)) 16384))) 16384)) 2147483647).2=0):VM Try.prog 120 ([.ptr 100000 0 0]) ([(100000,.var (rrC xs r))]) (.tup [.agg [.sl 19 ((tkL (toS xs (cntR xs r 8)) (cntV (toS xs r) 8).toNat).map nodC),bv (cntV (toS xs (tkR xs (cntR xs r 8) (cntV (toS xs r) 8).toNat)) 1==1),ints .i8 (smlV (toS xs (cntR xs (cntR xs (tkR xs (cntR xs r 8) (cntV (toS xs r) 8).toNat) 1) 16384)) (cntV (toS xs (cntR xs (tkR xs (cntR xs r 8) (cntV (toS xs r) 8).toNat) 1)) 16384)),ints .i32 (widV (toS xs (cntR xs (smlR xs (cntR xs (cntR xs (tkR xs (cntR xs r 8) (cntV (toS xs r) 8).toNat) 1) 16384) (cntV (toS xs (cntR xs (tkR xs (cntR xs r 8) (cntV (toS xs r) 8).toNat) 1)) 16384)) 16384)) (cntV (toS xs (smlR xs (cntR xs (cntR xs (tkR xs (cntR xs r 8) (cntV (toS xs r) 8).toNat) 1) 16384) (cntV (toS xs (cntR xs (tkR xs (cntR xs r 8) (cntV (toS xs r) 8).toNat) 1)) 16384))) 16384)),i32 (cntV (toS xs (widR xs (cntR xs (smlR xs (cntR xs (cntR xs (tkR xs (cntR xs r 8) (cntV (toS xs r) 8).toNat) 1) 16384) (cntV (toS xs (cntR xs (tkR xs (cntR xs r 8) (cntV (toS xs r) 8).toNat) 1)) 16384)) 16384) (cntV (toS xs (smlR xs (cntR xs (cntR xs (tkR xs (cntR xs r 8) (cntV (toS xs r) 8).toNat) 1) 16384) (cntV (toS xs (cntR xs (tkR xs (cntR xs r 8) (cntV (toS xs r) 8).toNat) 1)) 16384))) 16384))) 2147483647)],i64 0]) ([(100000,.var (rrC xs (cntR xs (widR xs (cntR xs (smlR xs (cntR xs (cntR xs (tkR xs (cntR xs r 8) (cntV (toS xs r) 8).toNat) 1) 16384) (cntV (toS xs (cntR xs (tkR xs (cntR xs r 8) (cntV (toS xs r) 8).toNat) 1)) 16384)) 16384) (cntV (toS xs (smlR xs (cntR xs (cntR xs (tkR xs (cntR xs r 8) (cntV (toS xs r) 8).toNat) 1) 16384) (cntV (toS xs (cntR xs (tkR xs (cntR xs r 8) (cntV (toS xs r) 8).toNat) 1)) 16384))) 16384)) 2147483647)))]):=by
 have q:=cntV_rng (m:=8) (toS_in h) (by decide)
 have q0:=tkR_in (cntR_in h 8) (cntV (toS xs r) 8).toNat
 have q1:=tkL_len (toS xs (cntR xs r 8)) (cntV (toS xs r) 8).toNat
 have q6:=tkR_s xs (cntR xs r 8) (cntV (toS xs r) 8).toNat
 have q7:(toS xs (tkR xs (cntR xs r 8) (cntV (toS xs r) 8).toNat)).Fit:=by rw [q6];exact tkS_fit (by rw [toS_cnt];exact cnt_fit hf 8) (cntV (toS xs r) 8).toNat
 have i2:=cntR_in q0 1
 have i3:=widR_in (cntR_in (smlR_in (cntR_in i2 16384) (cntV (toS xs (cntR xs (tkR xs (cntR xs r 8) (cntV (toS xs r) 8).toNat) 1)) 16384)) 16384) (cntV (toS xs (smlR xs (cntR xs (cntR xs (tkR xs (cntR xs r 8) (cntV (toS xs r) 8).toNat) 1) 16384) (cntV (toS xs (cntR xs (tkR xs (cntR xs r 8) (cntV (toS xs r) 8).toNat) 1)) 16384))) 16384)
 have q9:=cntV_rng (m:=2147483647) (toS_in i3) (by decide)
 have oz0 := @rcnt_v (xs) (r) (8) h (by omega) (by omega)
 have oz5 := @rtkb_y (xs) (r) h hf hh
 have oz6 := @rcnt_v (xs) (tkR xs (cntR xs r 8) (cntV (toS xs r) 8).toNat) (1) q0 (by omega) (by omega)
 have oz8 := @rcnt_v (xs) (cntR xs (tkR xs (cntR xs r 8) (cntV (toS xs r) 8).toNat) 1) (16384) i2 (by omega) (by omega)
 have oz9 := @rsmall_v (xs) (cntR xs (cntR xs (tkR xs (cntR xs r 8) (cntV (toS xs r) 8).toNat) 1) 16384) (cntV (toS xs (cntR xs (tkR xs (cntR xs r 8) (cntV (toS xs r) 8).toNat) 1)) 16384) (by (repeat first | exact q0 | exact i2 | exact i3 | exact h | apply cntR_in | apply smlR_in | apply widR_in))
 have oz10 := @rcnt_v (xs) (smlR xs (cntR xs (cntR xs (tkR xs (cntR xs r 8) (cntV (toS xs r) 8).toNat) 1) 16384) (cntV (toS xs (cntR xs (tkR xs (cntR xs r 8) (cntV (toS xs r) 8).toNat) 1)) 16384)) (16384) (by (repeat first | exact q0 | exact i2 | exact i3 | exact h | apply cntR_in | apply smlR_in | apply widR_in)) (by omega) (by omega)
 have oz11 := @rwide_v (xs) (cntR xs (smlR xs (cntR xs (cntR xs (tkR xs (cntR xs r 8) (cntV (toS xs r) 8).toNat) 1) 16384) (cntV (toS xs (cntR xs (tkR xs (cntR xs r 8) (cntV (toS xs r) 8).toNat) 1)) 16384)) 16384) (cntV (toS xs (smlR xs (cntR xs (cntR xs (tkR xs (cntR xs r 8) (cntV (toS xs r) 8).toNat) 1) 16384) (cntV (toS xs (cntR xs (tkR xs (cntR xs r 8) (cntV (toS xs r) 8).toNat) 1)) 16384))) 16384) (by (repeat first | exact q0 | exact i2 | exact i3 | exact h | apply cntR_in | apply smlR_in | apply widR_in))
 have oz12 := @rcnt_v (xs) (widR xs (cntR xs (smlR xs (cntR xs (cntR xs (tkR xs (cntR xs r 8) (cntV (toS xs r) 8).toNat) 1) 16384) (cntV (toS xs (cntR xs (tkR xs (cntR xs r 8) (cntV (toS xs r) 8).toNat) 1)) 16384)) 16384) (cntV (toS xs (smlR xs (cntR xs (cntR xs (tkR xs (cntR xs r 8) (cntV (toS xs r) 8).toNat) 1) 16384) (cntV (toS xs (cntR xs (tkR xs (cntR xs r 8) (cntV (toS xs r) 8).toNat) 1)) 16384))) 16384)) (2147483647) i3 (by omega) (by omega)
 have oz13:=(IntWalk.i32_in (cntV (toS xs (widR xs (cntR xs (smlR xs (cntR xs (cntR xs (tkR xs (cntR xs r 8) (cntV (toS xs r) 8).toNat) 1) 16384) (cntV (toS xs (cntR xs (tkR xs (cntR xs r 8) (cntV (toS xs r) 8).toNat) 1)) 16384)) 16384) (cntV (toS xs (smlR xs (cntR xs (cntR xs (tkR xs (cntR xs r 8) (cntV (toS xs r) 8).toNat) 1) 16384) (cntV (toS xs (cntR xs (tkR xs (cntR xs r 8) (cntV (toS xs r) 8).toNat) 1)) 16384))) 16384))) 2147483647) (by omega))
 exact VM.run (fn:=Try.f120) (W:=[.r [] [],.r [] [],.r [] [cm oz0],.r [] [],.code [.any [3,9,10],.weak 6 (i64 (↑0:Int)),.nilc 900 47 19 4 0,.blk 2 (Blk.var [AV.any,AV.any,AV.any,AV.any,AV.any]),.blk 4 (Blk.var [AV.own 900,bv false,AV.sl 1 [],AV.sl 1 [],i32 0]),.blk 100000 (Blk.var [AV.sl 1 (List.map (row1 IntKind.u8) xs),i64 (↑(tkR xs (cntR xs r 8) 0).fst:Int),i64 (tkR xs (cntR xs r 8) 0).snd]),.sort] (Exit.exit 0) (zO oz5),.r [] [cm oz6],.r [] [],.br true,.r [] [cm oz8,cm oz9],.r [] [cm oz10,cm oz11],.r [] [cm oz12,.n (nO oz13)],.r [] [],.br false,.r [] []]) (G:=[.frz 900,.drop [2,4],.sort]) Try.func120 (by kernel_rfl) (.c oz0<|.c (Weak.int (k:=.i64) (show ((0):Int)=((↑0:Int)) from (by omega)))<|.c (show BlkW (Blk.var [nilv,bv false,nilv,nilv,i32 (0:Int)]) (Blk.var [AV.any,AV.any,AV.any,AV.any,AV.any]) from (BlkW.var (m:=[AV.any,AV.any,AV.any,AV.any,AV.any]) (.cons (Weak.any _) (.cons (Weak.any _) (.cons (Weak.any _) (.cons (Weak.any _) (.cons (Weak.any _) .nil)))))))<|.c (show BlkW (Blk.var [AV.own (900:Nat),bv false,nilv,nilv,i32 (0:Int)]) (Blk.var [AV.own (900:Nat),bv false,AV.sl (1:Nat) [],AV.sl (1:Nat) [],i32 (0:Int)]) from (BlkW.var (m:=[AV.own 900,bv false,AV.sl 1 [],AV.sl 1 [],i32 0]) (.cons (.refl _) (.cons (.refl _) (.cons (Weak.nil _) (.cons (Weak.nil _) (.cons (.refl _) .nil)))))))<|.c (show BlkW (Blk.var [AV.sl 1 (List.map (row1 IntKind.u8) xs),i64 (↑(cntR xs r 8).fst:Int),i64 (cntR xs r 8).snd]) (Blk.var [AV.sl 1 (List.map (row1 IntKind.u8) xs),i64 (↑(tkR xs (cntR xs r 8) 0).fst:Int),i64 (tkR xs (cntR xs r 8) 0).snd]) from (BlkW.var (m:=[AV.sl 1 (List.map (row1 IntKind.u8) xs),i64 (↑(tkR xs (cntR xs r 8) 0).fst:Int),i64 (tkR xs (cntR xs r 8) 0).snd]) (.cons (.refl _) (.cons (Weak.int (show (((↑(cntR xs r 8).fst:Int)):Int)=((↑(tkR xs (cntR xs r 8) 0).fst:Int)) from (by rfl))) (.cons (Weak.int (show (((cntR xs r 8).snd):Int)=((tkR xs (cntR xs r 8) 0).snd) from (by rfl))) .nil)))))<|.c oz5<|.c oz6<|.c (show (cntV (toS xs (tkR xs (cntR xs r 8) (cntV (toS xs r) 8).toNat)) 1==1)=true by (refine decide_eq_true ?_;omega))<|.c oz8<|.c oz9<|.c oz10<|.c oz11<|.c oz12<|.c oz13<|.c (show ((cntR xs (widR xs (cntR xs (smlR xs (cntR xs (cntR xs (tkR xs (cntR xs r 8) (cntV (toS xs r) 8).toNat) 1) 16384) (cntV (toS xs (cntR xs (tkR xs (cntR xs r 8) (cntV (toS xs r) 8).toNat) 1)) 16384)) 16384) (cntV (toS xs (smlR xs (cntR xs (cntR xs (tkR xs (cntR xs r 8) (cntV (toS xs r) 8).toNat) 1) 16384) (cntV (toS xs (cntR xs (tkR xs (cntR xs r 8) (cntV (toS xs r) 8).toNat) 1)) 16384))) 16384)) 2147483647).snd != 0)=false by (simp;omega))<|.n)
def takeRB (xs:List Int):Nat→Rrf→Rrf
 | 0,r=>r
 | n+1,r=>if (takeR (toS xs r)).2≠0 then takeRr xs r else takeRB xs n (takeRr xs r)
theorem takeRB_in {xs:List Int}:∀ {n:Nat} {r:Rrf},Rrf.In xs r→Rrf.In xs (takeRB xs n r):=by
 intro n
 induction n with
 | zero=>intro r h;exact h
 | succ n ih =>
  intro r h
  rw [takeRB]
  split
  ·exact takeRr_in h
  ·exact ih (takeRr_in h)
theorem takeRB_s (xs:List Int):∀ (n:Nat) (r:Rrf),toS xs (takeRB xs n r)=(takeB n (toS xs r)).2:=by
 intro n
 induction n with
 | zero=>intro r;rfl
 | succ n ih =>
  intro r
  rw [takeRB,takeB]
  by_cases h:(takeR (toS xs r)).2≠0
  ·rw [if_pos h,if_pos h];exact takeRr_s xs r
  ·rw [if_neg h,if_neg h,ih,takeRr_s]
theorem tkR_succ (xs:List Int) (r:Rrf) (k:Nat):tkR xs r (k+1)=tkR xs (takeRr xs r) k:=by
 induction k with
 | zero=>rfl
 | succ k ih=>rw [tkR,ih];rfl
theorem takeRB_n {xs:List Int} {n:Nat}:∀ {r:Rrf} {m:Nat},m<n→(takeR (toS xs (tkR xs r m))).2≠0→(∀ k,k<m→(takeR (toS xs (tkR xs r k))).2=0)→takeRB xs n r=tkR xs r (m+1):=by
 induction n with
 | zero=>intro r m hm;omega
 | succ n ih =>
  intro r m hm hf h
  cases m with
  | zero=>rw [takeRB,if_pos (by exact hf)];rfl
  | succ m =>
   have h0:(takeR (toS xs r)).2=0:=h 0 (by omega)
   rw [takeRB,if_neg (by simpa using h0),tkR_succ xs r (m+1)]
   rw [tkR_succ] at hf
   refine ih (by omega) hf fun k hk=>?_
   rw [←tkR_succ];exact h (k+1) (by omega)
def exR (xs:List Int) (r:Rrf):Rrf:=if cntV (toS xs r) 1=1 then cntR xs (widR xs (cntR xs (smlR xs (cntR xs (cntR xs r 1) 16384) (cntV (toS xs (cntR xs r 1)) 16384)) 16384) (cntV (toS xs (smlR xs (cntR xs (cntR xs r 1) 16384) (cntV (toS xs (cntR xs r 1)) 16384))) 16384)) 2147483647 else cntR xs r 1
theorem exR_in {xs:List Int} {r:Rrf} (h:Rrf.In xs r):Rrf.In xs (exR xs r):=by
 unfold exR
 split
 ·exact cntR_in (widR_in (cntR_in (smlR_in (cntR_in (cntR_in h _) _) _) _) _) _
 ·exact cntR_in h _
theorem exR_s (xs:List Int) (r:Rrf):toS xs (exR xs r)=exS (toS xs r):=by
 unfold exR exS
 by_cases h:cntV (toS xs r) 1=1
 ·rw [if_pos h,if_pos h];simp only [lstS,lst1,toS_cnt,toS_sml,toS_wid]
 ·rw [if_neg h,if_neg h,toS_cnt]
def blkRr (xs:List Int) (r:Rrf):Rrf:=if (takeB (cntV (toS xs r) 8).toNat (cntS (toS xs r) 8)).1≠0 then takeRB xs (cntV (toS xs r) 8).toNat (cntR xs r 8) else exR xs (tkR xs (cntR xs r 8) (cntV (toS xs r) 8).toNat)
theorem tkR_n (xs:List Int) (r:Rrf) (k:Nat):(takeR (toS xs (tkR xs (cntR xs r 8) k))).2=(takeR (tkS (cntS (toS xs r) 8) k)).2:=by rw [tkR_s,toS_cnt]
theorem blkRr_in {xs:List Int} {r:Rrf} (h:Rrf.In xs r):Rrf.In xs (blkRr xs r):=by
 unfold blkRr
 split
 ·exact takeRB_in (cntR_in h 8)
 ·exact exR_in (tkR_in (cntR_in h 8) _)
theorem blkRr_s (xs:List Int) (r:Rrf):toS xs (blkRr xs r)=(blkT (toS xs r)).2:=by
 unfold blkRr blkT
 by_cases h:(takeB (cntV (toS xs r) 8).toNat (cntS (toS xs r) 8)).1≠0
 ·rw [if_pos h,if_pos h,takeRB_s,toS_cnt]
 ·rw [if_neg h,if_neg h,exR_s,tkR_s,toS_cnt]
  unfold stB
  split<;>rfl
theorem rptake_v (xs:List Int) (r:Rrf) (h:Rrf.In xs r) (hf:(toS xs r).Fit):VM Try.prog 120 [.ptr 100000 0 0] [(100000,.var (rrC xs r))] (.tup [blc (blkT (toS xs r)).1.1,i64 (blkT (toS xs r)).1.2]) [(100000,.var (rrC xs (blkRr xs r)))]:=by
 rcases blkT_cases (toS xs r) with ⟨m,hm,hg,hh⟩ | ⟨hh,hb⟩ | ⟨hh,hb⟩
 ·have hh2:∀ k,k<m→(takeR (toS xs (tkR xs (cntR xs r 8) k))).2=0:=fun k hk=>by rw [tkR_n];exact hh k hk
  have hg2:(takeR (toS xs (tkR xs (cntR xs r 8) m))).2≠0:=by rw [tkR_n];exact hg
  have e:blkRr xs r=tkR xs (cntR xs r 8) (m+1):=by
   unfold blkRr;rw [takeB_n hm hg hh,if_pos (by exact hg),takeRB_n hm hg2 hh2]
  rw [blkT_f hm hg hh,e,←tkR_n]
  exact rptake_f xs r m h hf hm hg2 hh2
 ·have hh2:∀ k,k<(cntV (toS xs r) 8).toNat→(takeR (toS xs (tkR xs (cntR xs r 8) k))).2=0:=fun k hk=>by rw [tkR_n];exact hh k hk
  have e:blkRr xs r=exR xs (tkR xs (cntR xs r 8) (cntV (toS xs r) 8).toNat):=by
   unfold blkRr;rw [takeB_y hh,if_neg (by simp)]
  have es:stB (toS xs r)=toS xs (tkR xs (cntR xs r 8) (cntV (toS xs r) 8).toNat):=by unfold stB;rw [tkR_s,toS_cnt]
  have e2:exS (stB (toS xs r))=toS xs (exR xs (tkR xs (cntR xs r 8) (cntV (toS xs r) 8).toNat)):=by rw [es,exR_s]
  rw [blkT_b hh hb,e]
  rw [e2,toS_2] at hb ⊢
  unfold exR at hb ⊢
  by_cases hx:cntV (toS xs (tkR xs (cntR xs r 8) (cntV (toS xs r) 8).toNat)) 1=1
  ·rw [if_pos hx] at hb ⊢;exact rptake_yb xs r h hf hh2 hx hb
  ·rw [if_neg hx] at hb ⊢;exact rptake_nb xs r h hf hh2 hx hb
 ·have hh2:∀ k,k<(cntV (toS xs r) 8).toNat→(takeR (toS xs (tkR xs (cntR xs r 8) k))).2=0:=fun k hk=>by rw [tkR_n];exact hh k hk
  have e:blkRr xs r=exR xs (tkR xs (cntR xs r 8) (cntV (toS xs r) 8).toNat):=by
   unfold blkRr;rw [takeB_y hh,if_neg (by simp)]
  have es:stB (toS xs r)=toS xs (tkR xs (cntR xs r 8) (cntV (toS xs r) 8).toNat):=by unfold stB;rw [tkR_s,toS_cnt]
  have e2:exS (stB (toS xs r))=toS xs (exR xs (tkR xs (cntR xs r 8) (cntV (toS xs r) 8).toNat)):=by rw [es,exR_s]
  have en:nodesT (toS xs r)=tkL (toS xs (cntR xs r 8)) (cntV (toS xs r) 8).toNat:=by unfold nodesT;rw [toS_cnt]
  rw [blkT_y hh hb,e,en]
  rw [e2,toS_2] at hb
  unfold exN
  rw [es]
  unfold exR at hb ⊢
  by_cases hx:cntV (toS xs (tkR xs (cntR xs r 8) (cntV (toS xs r) 8).toNat)) 1=1
  ·rw [if_pos hx] at hb ⊢
   rw [if_pos hx]
   have q:=rptake_yy xs r h hf hh2 hx hb
   rw [show (cntV (toS xs (tkR xs (cntR xs r 8) (cntV (toS xs r) 8).toNat)) 1==1)=true from by simpa using hx] at q
   simp only [lstW,lstB,lst1,lstS,toS_cnt,toS_sml,toS_wid] at q ⊢
   exact q
  ·rw [if_neg hx] at hb ⊢
   rw [if_neg hx]
   have q:=rptake_ny xs r h hf hh2 hx hb
   rw [show (cntV (toS xs (tkR xs (cntR xs r 8) (cntV (toS xs r) 8).toNat)) 1==1)=false from by simpa using hx] at q
   exact q
def mkS (s:Rst):Nat→Rst
 | 0=>s
 | k+1=>(blkT (mkS s k)).2
def mkL (s:Rst):Nat→List Blc
 | 0=>[]
 | k+1=>mkL s k++[(blkT (mkS s k)).1.1]
theorem mkS_fit {s:Rst} (h:s.Fit) (k:Nat):(mkS s k).Fit:=by
 induction k with
 | zero=>exact h
 | succ k ih=>exact blkT_fit ih
theorem mkL_len (s:Rst) (k:Nat):(mkL s k).length=k:=by
 induction k with
 | zero=>rfl
 | succ k ih=>rw [mkL,lla,ih];rfl
def mkR (xs:List Int) (r:Rrf):Nat→Rrf
 | 0=>r
 | k+1=>blkRr xs (mkR xs r k)
theorem mkR_in {xs:List Int} {r:Rrf} (h:Rrf.In xs r) (k:Nat):Rrf.In xs (mkR xs r k):=by
 induction k with
 | zero=>exact h
 | succ k ih=>exact blkRr_in ih
theorem mkR_s (xs:List Int) (r:Rrf) (k:Nat):toS xs (mkR xs r k)=mkS (toS xs r) k:=by
 induction k with
 | zero=>rfl
 | succ k ih=>rw [mkR,blkRr_s,ih];rfl
noncomputable def ptm_y_I (s:Rst) (k:Nat):VS:=stt 44 [(0,.ptr 100000 0 0),(2,.ptr 2 0 0),(4,.ptr 4 0 0),(5,.ptr 5 0 0),(18,i64 (cntV s 6)),(19,i64 k)] [(2,.var [.any]),(4,.var [.ptr 100000 0 0]),(5,.var [.own 900]),(900,.slc 85 5 ((mkL (cntS s 6) k).map blcC)),(100000,.var (rdC (mkS (cntS s 6) k)))]
noncomputable def ptm_y_Z (s:Rst):VS:=ptm_y_I s ((cntV s 6).toNat)
theorem ptm_y_s (s:Rst) (h:s.Fit) (hh:∀ k,k<(cntV s 6).toNat→(blkT (mkS (cntS s 6) k)).1.2=0) (k:Nat) (hk:k<(cntV s 6).toNat):VT Try.prog (fnC Try.f52 [1,1,1,1,1,0,1,0,0]) (ptm_y_I s k) .normal (ptm_y_I s (k+1)):=by
 have q:=cntV_rng (m:=6) h.i (by decide)
 have q0:=mkS_fit (cnt_fit h 6) k
 have q1:=mkL_len (cntS s 6) k
 have q2:=hh k hk
 have oz1 := @ptake_v (mkS (cntS s 6) k) q0
 exact VT.run (W:=[.r [] [],.br true,.r [] [cm oz1],.r [] [],.br false,.r [] [],.r [] [.n ((↑k:Int)+1)]]) (G:=[.any (rg [(7,2),(20,8),(30,7)]),.drop [7,33],.ren 34 900,.weak 19 (i64 (↑(k+1):Int)),.blk 900 (Blk.slc 85 5 (List.map blcC (mkL (cntS s 6) (k+1)))),.blk 100000 (Blk.var [AV.sl 1 (List.map (row1 IntKind.u8) (mkS (cntS s 6) (k+1)).fst),i64 (mkS (cntS s 6) (k+1)).snd]),.sort]) (by kernel_rfl) (.c (decide_eq_true (p:=((↑k:Int)<cntV s 6)) (by omega))<|.c oz1<|.c (show ((blkT (mkS (cntS s 6) k)).fst.snd != 0)=false by (simp;omega))<|.c (show ((List.map blcC (mkL (cntS s 6) k)).length+1)*88≤140737488355328 by (simp;omega))<|.c (show (List.map blcC (mkL (cntS s 6) k)).length+1≤9223372036854775807 by (simp;omega))<|.c (i6n ((↑k:Int)+1) (by omega))<|.c (Weak.int (k:=.i64) (show (((↑k:Int)+1):Int)=((↑(k+1):Int)) from (by omega)))<|.c (show BlkW (Blk.slc 85 5 (List.map blcC (mkL (cntS s 6) k)++[[AV.sl 19 (List.map nodC (blkT (mkS (cntS s 6) k)).fst.fst.n),bv (blkT (mkS (cntS s 6) k)).fst.fst.ex,AV.sl 1 (List.map (row1 IntKind.i8) (blkT (mkS (cntS s 6) k)).fst.fst.w),AV.sl 1 (List.map (row1 IntKind.i32) (blkT (mkS (cntS s 6) k)).fst.fst.b),i32 (blkT (mkS (cntS s 6) k)).fst.fst.nd]])) (Blk.slc 85 5 (List.map blcC (mkL (cntS s 6) (k+1)))) from (BlkW.rows (e:=85) (z:=5) (rows_to (blcC) (r:=List.map blcC (mkL (cntS s 6) k)++[[AV.sl 19 (List.map nodC (blkT (mkS (cntS s 6) k)).fst.fst.n),bv (blkT (mkS (cntS s 6) k)).fst.fst.ex,AV.sl 1 (List.map (row1 IntKind.i8) (blkT (mkS (cntS s 6) k)).fst.fst.w),AV.sl 1 (List.map (row1 IntKind.i32) (blkT (mkS (cntS s 6) k)).fst.fst.b),i32 (blkT (mkS (cntS s 6) k)).fst.fst.nd]]) (l:=mkL (cntS s 6) k++[Blc.mk (blkT (mkS (cntS s 6) k)).fst.fst.n (blkT (mkS (cntS s 6) k)).fst.fst.ex (blkT (mkS (cntS s 6) k)).fst.fst.w (blkT (mkS (cntS s 6) k)).fst.fst.b (blkT (mkS (cntS s 6) k)).fst.fst.nd]) (m:=mkL (cntS s 6) (k+1)) (by first | (simp only [List.map_append,List.map_cons,List.map_nil,List.map_set,List.map_replicate,List.map_take,List.map_drop];done) | rfl | (simp only [List.map_append,List.map_cons,List.map_nil,List.map_set,List.map_replicate,List.map_take,List.map_drop];rfl) | (simp only [List.map_append,List.map_cons,List.map_nil,List.map_set,List.map_replicate,List.map_take,List.map_drop,blcC,ints];done)) (show (mkL (cntS s 6) k++[Blc.mk (blkT (mkS (cntS s 6) k)).fst.fst.n (blkT (mkS (cntS s 6) k)).fst.fst.ex (blkT (mkS (cntS s 6) k)).fst.fst.w (blkT (mkS (cntS s 6) k)).fst.fst.b (blkT (mkS (cntS s 6) k)).fst.fst.nd])=(mkL (cntS s 6) (k+1)) from (by rfl)))))<|.c (show BlkW (Blk.var [AV.sl 1 (List.map (row1 IntKind.u8) (blkT (mkS (cntS s 6) k)).snd.fst),i64 (blkT (mkS (cntS s 6) k)).snd.snd]) (Blk.var [AV.sl 1 (List.map (row1 IntKind.u8) (mkS (cntS s 6) (k+1)).fst),i64 (mkS (cntS s 6) (k+1)).snd]) from (BlkW.var (m:=[AV.sl 1 (List.map (row1 IntKind.u8) (mkS (cntS s 6) (k+1)).fst),i64 (mkS (cntS s 6) (k+1)).snd]) (.cons (Weak.rows (rows_to (row1 IntKind.u8) (r:=List.map (row1 IntKind.u8) (blkT (mkS (cntS s 6) k)).snd.fst) (l:=(blkT (mkS (cntS s 6) k)).snd.fst) (m:=(mkS (cntS s 6) (k+1)).fst) rfl (show ((blkT (mkS (cntS s 6) k)).snd.fst)=((mkS (cntS s 6) (k+1)).fst) from (by rfl)))) (.cons (Weak.int (show (((blkT (mkS (cntS s 6) k)).snd.snd):Int)=((mkS (cntS s 6) (k+1)).snd) from (by rfl))) .nil))))<|.n)
theorem ptm_y_e (s:Rst) (h:s.Fit) (hh:∀ k,k<(cntV s 6).toNat→(blkT (mkS (cntS s 6) k)).1.2=0):VT Try.prog (fnC Try.f52 [1,1,1,1,1,0,1,0,0]) (ptm_y_I s ((cntV s 6).toNat)) (.exit 0) (ptm_y_Z s):=by
 exact VT.run (W:=[.r [] [],.br false]) (G:=[.any [20],.sort]) (by kernel_rfl) (.c (decide_eq_false (p:=((↑(cntV s 6).toNat:Int)<cntV s 6)) (by omega))<|.n)
theorem ptm_y (s:Rst) (h:s.Fit) (hh:∀ k,k<(cntV s 6).toNat→(blkT (mkS (cntS s 6) k)).1.2=0):VT Try.prog (fnC Try.f52 [1,1,1,1,1,0,1,0]) (ptm_y_I s 0) (.exit 0) (ptm_y_Z s) :=
 VT.loop (fun k=>ptm_y_I s k) ((cntV s 6).toNat) (fun k hk=>ptm_y_s s h hh k hk) (ptm_y_e s h hh) (by intro h;cases h)
noncomputable def ptm_n_I (s:Rst) (m:Nat) (k:Nat):VS:=stt 44 [(0,.ptr 100000 0 0),(2,.ptr 2 0 0),(4,.ptr 4 0 0),(5,.ptr 5 0 0),(18,i64 (cntV s 6)),(19,i64 k)] [(2,.var [.any]),(4,.var [.ptr 100000 0 0]),(5,.var [.own 900]),(900,.slc 85 5 ((mkL (cntS s 6) k).map blcC)),(100000,.var (rdC (mkS (cntS s 6) k)))]
noncomputable def ptm_n_Z (s:Rst) (m:Nat):VS:=stt 44 [(2,.ptr 2 0 0),(3,i64 (blkT (mkS (cntS s 6) m)).1.2)] [(2,.var [nilv]),(100000,.var (rdC (mkS (cntS s 6) (m+1))))]
theorem ptm_n_s (s:Rst) (m:Nat) (h:s.Fit) (hm:m<(cntV s 6).toNat) (hf:(blkT (mkS (cntS s 6) m)).1.2≠0) (hh:∀ k,k<m→(blkT (mkS (cntS s 6) k)).1.2=0) (k:Nat) (hk:k<m):VT Try.prog (fnC Try.f52 [1,1,1,1,1,0,1,0,0]) (ptm_n_I s m k) .normal (ptm_n_I s m (k+1)):=by
 have q:=cntV_rng (m:=6) h.i (by decide)
 have q0:=mkS_fit (cnt_fit h 6) k
 have q1:=mkL_len (cntS s 6) k
 have q2:=hh k hk
 have oz1 := @ptake_v (mkS (cntS s 6) k) q0
 exact VT.run (W:=[.r [] [],.br true,.r [] [cm oz1],.r [] [],.br false,.r [] [],.r [] [.n ((↑k:Int)+1)]]) (G:=[.any (rg [(7,2),(20,8),(30,7)]),.drop [7,33],.ren 34 900,.weak 19 (i64 (↑(k+1):Int)),.blk 900 (Blk.slc 85 5 (List.map blcC (mkL (cntS s 6) (k+1)))),.blk 100000 (Blk.var [AV.sl 1 (List.map (row1 IntKind.u8) (mkS (cntS s 6) (k+1)).fst),i64 (mkS (cntS s 6) (k+1)).snd]),.sort]) (by kernel_rfl) (.c (decide_eq_true (p:=((↑k:Int)<cntV s 6)) (by omega))<|.c oz1<|.c (show ((blkT (mkS (cntS s 6) k)).fst.snd != 0)=false by (simp;omega))<|.c (show ((List.map blcC (mkL (cntS s 6) k)).length+1)*88≤140737488355328 by (simp;omega))<|.c (show (List.map blcC (mkL (cntS s 6) k)).length+1≤9223372036854775807 by (simp;omega))<|.c (i6n ((↑k:Int)+1) (by omega))<|.c (Weak.int (k:=.i64) (show (((↑k:Int)+1):Int)=((↑(k+1):Int)) from (by omega)))<|.c (show BlkW (Blk.slc 85 5 (List.map blcC (mkL (cntS s 6) k)++[[AV.sl 19 (List.map nodC (blkT (mkS (cntS s 6) k)).fst.fst.n),bv (blkT (mkS (cntS s 6) k)).fst.fst.ex,AV.sl 1 (List.map (row1 IntKind.i8) (blkT (mkS (cntS s 6) k)).fst.fst.w),AV.sl 1 (List.map (row1 IntKind.i32) (blkT (mkS (cntS s 6) k)).fst.fst.b),i32 (blkT (mkS (cntS s 6) k)).fst.fst.nd]])) (Blk.slc 85 5 (List.map blcC (mkL (cntS s 6) (k+1)))) from (BlkW.rows (e:=85) (z:=5) (rows_to (blcC) (r:=List.map blcC (mkL (cntS s 6) k)++[[AV.sl 19 (List.map nodC (blkT (mkS (cntS s 6) k)).fst.fst.n),bv (blkT (mkS (cntS s 6) k)).fst.fst.ex,AV.sl 1 (List.map (row1 IntKind.i8) (blkT (mkS (cntS s 6) k)).fst.fst.w),AV.sl 1 (List.map (row1 IntKind.i32) (blkT (mkS (cntS s 6) k)).fst.fst.b),i32 (blkT (mkS (cntS s 6) k)).fst.fst.nd]]) (l:=mkL (cntS s 6) k++[Blc.mk (blkT (mkS (cntS s 6) k)).fst.fst.n (blkT (mkS (cntS s 6) k)).fst.fst.ex (blkT (mkS (cntS s 6) k)).fst.fst.w (blkT (mkS (cntS s 6) k)).fst.fst.b (blkT (mkS (cntS s 6) k)).fst.fst.nd]) (m:=mkL (cntS s 6) (k+1)) (by first | (simp only [List.map_append,List.map_cons,List.map_nil,List.map_set,List.map_replicate,List.map_take,List.map_drop];done) | rfl | (simp only [List.map_append,List.map_cons,List.map_nil,List.map_set,List.map_replicate,List.map_take,List.map_drop];rfl) | (simp only [List.map_append,List.map_cons,List.map_nil,List.map_set,List.map_replicate,List.map_take,List.map_drop,blcC,ints];done)) (show (mkL (cntS s 6) k++[Blc.mk (blkT (mkS (cntS s 6) k)).fst.fst.n (blkT (mkS (cntS s 6) k)).fst.fst.ex (blkT (mkS (cntS s 6) k)).fst.fst.w (blkT (mkS (cntS s 6) k)).fst.fst.b (blkT (mkS (cntS s 6) k)).fst.fst.nd])=(mkL (cntS s 6) (k+1)) from (by rfl)))))<|.c (show BlkW (Blk.var [AV.sl 1 (List.map (row1 IntKind.u8) (blkT (mkS (cntS s 6) k)).snd.fst),i64 (blkT (mkS (cntS s 6) k)).snd.snd]) (Blk.var [AV.sl 1 (List.map (row1 IntKind.u8) (mkS (cntS s 6) (k+1)).fst),i64 (mkS (cntS s 6) (k+1)).snd]) from (BlkW.var (m:=[AV.sl 1 (List.map (row1 IntKind.u8) (mkS (cntS s 6) (k+1)).fst),i64 (mkS (cntS s 6) (k+1)).snd]) (.cons (Weak.rows (rows_to (row1 IntKind.u8) (r:=List.map (row1 IntKind.u8) (blkT (mkS (cntS s 6) k)).snd.fst) (l:=(blkT (mkS (cntS s 6) k)).snd.fst) (m:=(mkS (cntS s 6) (k+1)).fst) rfl (show ((blkT (mkS (cntS s 6) k)).snd.fst)=((mkS (cntS s 6) (k+1)).fst) from (by rfl)))) (.cons (Weak.int (show (((blkT (mkS (cntS s 6) k)).snd.snd):Int)=((mkS (cntS s 6) (k+1)).snd) from (by rfl))) .nil))))<|.n)
theorem ptm_n_e (s:Rst) (m:Nat) (h:s.Fit) (hm:m<(cntV s 6).toNat) (hf:(blkT (mkS (cntS s 6) m)).1.2≠0) (hh:∀ k,k<m→(blkT (mkS (cntS s 6) k)).1.2=0):VT Try.prog (fnC Try.f52 [1,1,1,1,1,0,1,0,0]) (ptm_n_I s m (m)) (.ret) (ptm_n_Z s m):=by
 have q:=cntV_rng (m:=6) h.i (by decide)
 have q0:=mkS_fit (cnt_fit h 6) m
 have q1:=mkL_len (cntS s 6) m
 have oz1 := @ptake_v (mkS (cntS s 6) m) q0
 exact VT.run (W:=[.r [] [],.br true,.r [] [cm oz1],.r [] [],.br true,.r [] []]) (G:=[.any (rg [(0,1),(4,2),(7,2),(18,12)]),.drop [4,5,900,7],.blk 100000 (Blk.var [AV.sl 1 (List.map (row1 IntKind.u8) (mkS (cntS s 6) (m+1)).fst),i64 (mkS (cntS s 6) (m+1)).snd]),.sort]) (by kernel_rfl) (.c (decide_eq_true (p:=((↑m:Int)<cntV s 6)) (by omega))<|.c oz1<|.c (show ((blkT (mkS (cntS s 6) m)).fst.snd != 0)=true by (simp;omega))<|.c (show BlkW (Blk.var [AV.sl 1 (List.map (row1 IntKind.u8) (blkT (mkS (cntS s 6) m)).snd.fst),i64 (blkT (mkS (cntS s 6) m)).snd.snd]) (Blk.var [AV.sl 1 (List.map (row1 IntKind.u8) (mkS (cntS s 6) (m+1)).fst),i64 (mkS (cntS s 6) (m+1)).snd]) from (BlkW.var (m:=[AV.sl 1 (List.map (row1 IntKind.u8) (mkS (cntS s 6) (m+1)).fst),i64 (mkS (cntS s 6) (m+1)).snd]) (.cons (Weak.rows (rows_to (row1 IntKind.u8) (r:=List.map (row1 IntKind.u8) (blkT (mkS (cntS s 6) m)).snd.fst) (l:=(blkT (mkS (cntS s 6) m)).snd.fst) (m:=(mkS (cntS s 6) (m+1)).fst) rfl (show ((blkT (mkS (cntS s 6) m)).snd.fst)=((mkS (cntS s 6) (m+1)).fst) from (by rfl)))) (.cons (Weak.int (show (((blkT (mkS (cntS s 6) m)).snd.snd):Int)=((mkS (cntS s 6) (m+1)).snd) from (by rfl))) .nil))))<|.n)
theorem ptm_n (s:Rst) (m:Nat) (h:s.Fit) (hm:m<(cntV s 6).toNat) (hf:(blkT (mkS (cntS s 6) m)).1.2≠0) (hh:∀ k,k<m→(blkT (mkS (cntS s 6) k)).1.2=0):VT Try.prog (fnC Try.f52 [1,1,1,1,1,0,1,0]) (ptm_n_I s m 0) (.ret) (ptm_n_Z s m) :=
 VT.loop (fun k=>ptm_n_I s m k) (m) (fun k hk=>ptm_n_s s m h hm hf hh k hk) (ptm_n_e s m h hm hf hh) (by intro h;cases h)
theorem ptmod_f (s:Rst) (m:Nat) (h:s.Fit) (hm:m<(cntV s 6).toNat) (hf:(blkT (mkS (cntS s 6) m)).1.2≠0) (hh:∀ k,k<m→(blkT (mkS (cntS s 6) k)).1.2=0):VM Try.prog 52 ([.ptr 100000 0 0]) ([(100000,.var (rdC s))]) (.tup [.agg [.sl 5 []],i64 (blkT (mkS (cntS s 6) m)).1.2]) ([(100000,.var (rdC (mkS (cntS s 6) (m+1))))]):=by
 have q:=cntV_rng (m:=6) h.i (by decide)
 have q0:=mkS_fit (cnt_fit h 6) (cntV s 6).toNat
 have q1:=mkL_len (cntS s 6) (cntV s 6).toNat
 have qi:=h.i
 have qe:=q0.e
 have oz1 := @tnum_1 (s) (0) (6) qi (by omega) (by omega)
 have oz5 := @ptm_n (s) (m) h hm hf hh
 exact VM.run (fn:=Try.f52) (W:=[.r [] [],.r [] [],.br false,.r [] [],.r [] [],.r [] [.callm [(100000,100000),(6,100001)] [] (rM oz1) (oM oz1)],.r [] [],.code [.any [3,6,10,11,13,14,15,16,17],.drop [6],.weak 19 (i64 (↑0:Int)),.nilc 900 85 5 5 0,.blk 2 (Blk.var [AV.any]),.blk 100000 (Blk.var [AV.sl 1 (List.map (row1 IntKind.u8) (mkS (cntS s 6) 0).fst),i64 (mkS (cntS s 6) 0).snd]),.sort] (Exit.ret) (zO oz5)]) (G:=[.drop [2],.weak 0 (AV.tup [AV.agg [AV.sl 5 []],i64 (blkT (mkS (cntS s 6) m)).fst.snd]),.sort]) Try.func52 (by kernel_rfl) (.c z0_<|.c oz1<|.c (Weak.int (k:=.i64) (show ((0):Int)=((↑0:Int)) from (by omega)))<|.c (show BlkW (Blk.var [nilv]) (Blk.var [AV.any]) from (BlkW.var (m:=[AV.any]) (.cons (Weak.any _) .nil)))<|.c (show BlkW (Blk.var [AV.sl 1 (List.map (row1 IntKind.u8) (cntS s 6).fst),i64 (cntS s 6).snd]) (Blk.var [AV.sl 1 (List.map (row1 IntKind.u8) (mkS (cntS s 6) 0).fst),i64 (mkS (cntS s 6) 0).snd]) from (BlkW.var (m:=[AV.sl 1 (List.map (row1 IntKind.u8) (mkS (cntS s 6) 0).fst),i64 (mkS (cntS s 6) 0).snd]) (.cons (Weak.rows (rows_to (row1 IntKind.u8) (r:=List.map (row1 IntKind.u8) (cntS s 6).fst) (l:=(cntS s 6).fst) (m:=(mkS (cntS s 6) 0).fst) rfl (show ((cntS s 6).fst)=((mkS (cntS s 6) 0).fst) from (by rfl)))) (.cons (Weak.int (show (((cntS s 6).snd):Int)=((mkS (cntS s 6) 0).snd) from (by rfl))) .nil))))<|.c oz5<|.c (show Weak (AV.tup [AV.agg [nilv],i64 (blkT (mkS (cntS s 6) m)).fst.snd]) (AV.tup [AV.agg [AV.sl 5 []],i64 (blkT (mkS (cntS s 6) m)).fst.snd]) from (Weak.tup (.cons (Weak.agg (.cons (Weak.nil _) .nil)) (.cons (.refl _) .nil))))<|.n)
theorem ptmod_b (s:Rst) (h:s.Fit) (hh:∀ k,k<(cntV s 6).toNat→(blkT (mkS (cntS s 6) k)).1.2=0) (hb:(mkS (cntS s 6) (cntV s 6).toNat).2≠0):VM Try.prog 52 ([.ptr 100000 0 0]) ([(100000,.var (rdC s))]) (.tup [.agg [.sl 5 []],i64 (mkS (cntS s 6) (cntV s 6).toNat).2]) ([(100000,.var (rdC (mkS (cntS s 6) (cntV s 6).toNat)))]):=by
 have q:=cntV_rng (m:=6) h.i (by decide)
 have q0:=mkS_fit (cnt_fit h 6) (cntV s 6).toNat
 have q1:=mkL_len (cntS s 6) (cntV s 6).toNat
 have qi:=h.i
 have qe:=q0.e
 have oz1 := @tnum_1 (s) (0) (6) qi (by omega) (by omega)
 have oz5 := @ptm_y (s) h hh
 have oz6 := @bad_v (mkS (cntS s 6) (cntV s 6).toNat) qe
 exact VM.run (fn:=Try.f52) (W:=[.r [] [],.r [] [],.br false,.r [] [],.r [] [],.r [] [.callm [(100000,100000),(6,100001)] [] (rM oz1) (oM oz1)],.r [] [],.code [.any [3,6,10,11,13,14,15,16,17],.drop [6],.weak 19 (i64 (↑0:Int)),.nilc 900 85 5 5 0,.blk 2 (Blk.var [AV.any]),.blk 100000 (Blk.var [AV.sl 1 (List.map (row1 IntKind.u8) (mkS (cntS s 6) 0).fst),i64 (mkS (cntS s 6) 0).snd]),.sort] (Exit.exit 0) (zO oz5),.r [] [cm oz6],.r [] [],.br true,.r [] []]) (G:=[.drop [2,4,5,900],.weak 0 (AV.tup [AV.agg [AV.sl 5 []],i64 (mkS (cntS s 6) (cntV s 6).toNat).snd]),.sort]) Try.func52 (by kernel_rfl) (.c z0_<|.c oz1<|.c (Weak.int (k:=.i64) (show ((0):Int)=((↑0:Int)) from (by omega)))<|.c (show BlkW (Blk.var [nilv]) (Blk.var [AV.any]) from (BlkW.var (m:=[AV.any]) (.cons (Weak.any _) .nil)))<|.c (show BlkW (Blk.var [AV.sl 1 (List.map (row1 IntKind.u8) (cntS s 6).fst),i64 (cntS s 6).snd]) (Blk.var [AV.sl 1 (List.map (row1 IntKind.u8) (mkS (cntS s 6) 0).fst),i64 (mkS (cntS s 6) 0).snd]) from (BlkW.var (m:=[AV.sl 1 (List.map (row1 IntKind.u8) (mkS (cntS s 6) 0).fst),i64 (mkS (cntS s 6) 0).snd]) (.cons (Weak.rows (rows_to (row1 IntKind.u8) (r:=List.map (row1 IntKind.u8) (cntS s 6).fst) (l:=(cntS s 6).fst) (m:=(mkS (cntS s 6) 0).fst) rfl (show ((cntS s 6).fst)=((mkS (cntS s 6) 0).fst) from (by rfl)))) (.cons (Weak.int (show (((cntS s 6).snd):Int)=((mkS (cntS s 6) 0).snd) from (by rfl))) .nil))))<|.c oz5<|.c oz6<|.c (show ((mkS (cntS s 6) (cntV s 6).toNat).snd != 0)=true by (simp;omega))<|.c (show Weak (AV.tup [AV.agg [nilv],i64 (mkS (cntS s 6) (cntV s 6).toNat).snd]) (AV.tup [AV.agg [AV.sl 5 []],i64 (mkS (cntS s 6) (cntV s 6).toNat).snd]) from (Weak.tup (.cons (Weak.agg (.cons (Weak.nil _) .nil)) (.cons (.refl _) .nil))))<|.n)
theorem ptmod_y (s:Rst) (h:s.Fit) (hh:∀ k,k<(cntV s 6).toNat→(blkT (mkS (cntS s 6) k)).1.2=0) (hb:(mkS (cntS s 6) (cntV s 6).toNat).2=0):VM Try.prog 52 ([.ptr 100000 0 0]) ([(100000,.var (rdC s))]) (.tup [.agg [.sl 5 ((mkL (cntS s 6) (cntV s 6).toNat).map blcC)],i64 0]) ([(100000,.var (rdC (mkS (cntS s 6) (cntV s 6).toNat)))]):=by
 have q:=cntV_rng (m:=6) h.i (by decide)
 have q0:=mkS_fit (cnt_fit h 6) (cntV s 6).toNat
 have q1:=mkL_len (cntS s 6) (cntV s 6).toNat
 have qi:=h.i
 have qe:=q0.e
 have oz1 := @tnum_1 (s) (0) (6) qi (by omega) (by omega)
 have oz5 := @ptm_y (s) h hh
 have oz6 := @bad_v (mkS (cntS s 6) (cntV s 6).toNat) qe
 exact VM.run (fn:=Try.f52) (W:=[.r [] [],.r [] [],.br false,.r [] [],.r [] [],.r [] [.callm [(100000,100000),(6,100001)] [] (rM oz1) (oM oz1)],.r [] [],.code [.any [3,6,10,11,13,14,15,16,17],.drop [6],.weak 19 (i64 (↑0:Int)),.nilc 900 85 5 5 0,.blk 2 (Blk.var [AV.any]),.blk 100000 (Blk.var [AV.sl 1 (List.map (row1 IntKind.u8) (mkS (cntS s 6) 0).fst),i64 (mkS (cntS s 6) 0).snd]),.sort] (Exit.exit 0) (zO oz5),.r [] [cm oz6],.r [] [],.br false,.r [] []]) (G:=[.frz 900,.drop [2,4,5],.sort]) Try.func52 (by kernel_rfl) (.c z0_<|.c oz1<|.c (Weak.int (k:=.i64) (show ((0):Int)=((↑0:Int)) from (by omega)))<|.c (show BlkW (Blk.var [nilv]) (Blk.var [AV.any]) from (BlkW.var (m:=[AV.any]) (.cons (Weak.any _) .nil)))<|.c (show BlkW (Blk.var [AV.sl 1 (List.map (row1 IntKind.u8) (cntS s 6).fst),i64 (cntS s 6).snd]) (Blk.var [AV.sl 1 (List.map (row1 IntKind.u8) (mkS (cntS s 6) 0).fst),i64 (mkS (cntS s 6) 0).snd]) from (BlkW.var (m:=[AV.sl 1 (List.map (row1 IntKind.u8) (mkS (cntS s 6) 0).fst),i64 (mkS (cntS s 6) 0).snd]) (.cons (Weak.rows (rows_to (row1 IntKind.u8) (r:=List.map (row1 IntKind.u8) (cntS s 6).fst) (l:=(cntS s 6).fst) (m:=(mkS (cntS s 6) 0).fst) rfl (show ((cntS s 6).fst)=((mkS (cntS s 6) 0).fst) from (by rfl)))) (.cons (Weak.int (show (((cntS s 6).snd):Int)=((mkS (cntS s 6) 0).snd) from (by rfl))) .nil))))<|.c oz5<|.c oz6<|.c (show ((mkS (cntS s 6) (cntV s 6).toNat).snd != 0)=false by (simp;omega))<|.n)
noncomputable def rtm_y_I (xs:List Int) (r:Rrf) (k:Nat):VS:=stt 42 [(0,.ptr 100000 0 0),(2,.ptr 2 0 0),(4,.ptr 4 0 0),(5,i64 (cntV (toS xs r) 6)),(6,i64 k)] [(2,.var [.any]),(4,.var [.own 900]),(900,.slc 85 5 ((mkL (toS xs (cntR xs r 6)) k).map blcC)),(100000,.var (rrC xs (mkR xs (cntR xs r 6) k)))]
noncomputable def rtm_y_Z (xs:List Int) (r:Rrf):VS:=rtm_y_I xs r ((cntV (toS xs r) 6).toNat)
theorem rtm_y_s (xs:List Int) (r:Rrf) (h:Rrf.In xs r) (hf:(toS xs r).Fit) (hh:∀ k,k<(cntV (toS xs r) 6).toNat→(blkT (toS xs (mkR xs (cntR xs r 6) k))).1.2=0) (k:Nat) (hk:k<(cntV (toS xs r) 6).toNat):VT Try.prog (fnC Try.f53 [1,1,1,0,1,0,0]) (rtm_y_I xs r k) .normal (rtm_y_I xs r (k+1)):=by
 have q:=cntV_rng (m:=6) (toS_in h) (by decide)
 have q0:=mkR_in (cntR_in h 6) k
 have q1:=mkL_len (toS xs (cntR xs r 6)) k
 have q6:=mkR_s xs (cntR xs r 6) k
 have q7:(toS xs (mkR xs (cntR xs r 6) k)).Fit:=by rw [q6];exact mkS_fit (by rw [toS_cnt];exact cnt_fit hf 6) k
 have q2:=hh k hk
 have oz1 := @rptake_v (xs) (mkR xs (cntR xs r 6) k) q0 q7
 exact VT.run (W:=[.r [] [],.br true,.r [] [cm oz1],.r [] [],.br false,.r [] [],.r [] [.n ((↑k:Int)+1)]]) (G:=[.any (rg [(7,2),(11,12),(25,6)]),.drop [7,28],.ren 29 900,.weak 6 (i64 (↑(k+1):Int)),.blk 900 (Blk.slc 85 5 (List.map blcC (mkL (toS xs (cntR xs r 6)) (k+1)))),.blk 100000 (Blk.var [AV.sl 1 (List.map (row1 IntKind.u8) xs),i64 (↑(mkR xs (cntR xs r 6) (k+1)).fst:Int),i64 (mkR xs (cntR xs r 6) (k+1)).snd]),.sort]) (by kernel_rfl) (.c (decide_eq_true (p:=((↑k:Int)<cntV (toS xs r) 6)) (by omega))<|.c oz1<|.c (show ((blkT (toS xs (mkR xs (cntR xs r 6) k))).fst.snd != 0)=false by (simp;omega))<|.c (show ((List.map blcC (mkL (toS xs (cntR xs r 6)) k)).length+1)*88≤140737488355328 by (simp;omega))<|.c (show (List.map blcC (mkL (toS xs (cntR xs r 6)) k)).length+1≤9223372036854775807 by (simp;omega))<|.c (i6n ((↑k:Int)+1) (by omega))<|.c (Weak.int (k:=.i64) (show (((↑k:Int)+1):Int)=((↑(k+1):Int)) from (by omega)))<|.c (show BlkW (Blk.slc 85 5 (List.map blcC (mkL (toS xs (cntR xs r 6)) k)++[[AV.sl 19 (List.map nodC (blkT (toS xs (mkR xs (cntR xs r 6) k))).fst.fst.n),bv (blkT (toS xs (mkR xs (cntR xs r 6) k))).fst.fst.ex,AV.sl 1 (List.map (row1 IntKind.i8) (blkT (toS xs (mkR xs (cntR xs r 6) k))).fst.fst.w),AV.sl 1 (List.map (row1 IntKind.i32) (blkT (toS xs (mkR xs (cntR xs r 6) k))).fst.fst.b),i32 (blkT (toS xs (mkR xs (cntR xs r 6) k))).fst.fst.nd]])) (Blk.slc 85 5 (List.map blcC (mkL (toS xs (cntR xs r 6)) (k+1)))) from (BlkW.rows (e:=85) (z:=5) (rows_to (blcC) (r:=List.map blcC (mkL (toS xs (cntR xs r 6)) k)++[[AV.sl 19 (List.map nodC (blkT (toS xs (mkR xs (cntR xs r 6) k))).fst.fst.n),bv (blkT (toS xs (mkR xs (cntR xs r 6) k))).fst.fst.ex,AV.sl 1 (List.map (row1 IntKind.i8) (blkT (toS xs (mkR xs (cntR xs r 6) k))).fst.fst.w),AV.sl 1 (List.map (row1 IntKind.i32) (blkT (toS xs (mkR xs (cntR xs r 6) k))).fst.fst.b),i32 (blkT (toS xs (mkR xs (cntR xs r 6) k))).fst.fst.nd]]) (l:=mkL (toS xs (cntR xs r 6)) k++[Blc.mk (blkT (toS xs (mkR xs (cntR xs r 6) k))).fst.fst.n (blkT (toS xs (mkR xs (cntR xs r 6) k))).fst.fst.ex (blkT (toS xs (mkR xs (cntR xs r 6) k))).fst.fst.w (blkT (toS xs (mkR xs (cntR xs r 6) k))).fst.fst.b (blkT (toS xs (mkR xs (cntR xs r 6) k))).fst.fst.nd]) (m:=mkL (toS xs (cntR xs r 6)) (k+1)) (by first | (simp only [List.map_append,List.map_cons,List.map_nil,List.map_set,List.map_replicate,List.map_take,List.map_drop];done) | rfl | (simp only [List.map_append,List.map_cons,List.map_nil,List.map_set,List.map_replicate,List.map_take,List.map_drop];rfl) | (simp only [List.map_append,List.map_cons,List.map_nil,List.map_set,List.map_replicate,List.map_take,List.map_drop,blcC,ints];done)) (show (mkL (toS xs (cntR xs r 6)) k++[Blc.mk (blkT (toS xs (mkR xs (cntR xs r 6) k))).fst.fst.n (blkT (toS xs (mkR xs (cntR xs r 6) k))).fst.fst.ex (blkT (toS xs (mkR xs (cntR xs r 6) k))).fst.fst.w (blkT (toS xs (mkR xs (cntR xs r 6) k))).fst.fst.b (blkT (toS xs (mkR xs (cntR xs r 6) k))).fst.fst.nd])=(mkL (toS xs (cntR xs r 6)) (k+1)) from (by (have w:=congrArg (fun z=>mkL (toS xs (cntR xs r 6)) k++[(blkT z).1.1]) q6;exact w))))))<|.c (show BlkW (Blk.var [AV.sl 1 (List.map (row1 IntKind.u8) xs),i64 (↑(blkRr xs (mkR xs (cntR xs r 6) k)).fst:Int),i64 (blkRr xs (mkR xs (cntR xs r 6) k)).snd]) (Blk.var [AV.sl 1 (List.map (row1 IntKind.u8) xs),i64 (↑(mkR xs (cntR xs r 6) (k+1)).fst:Int),i64 (mkR xs (cntR xs r 6) (k+1)).snd]) from (BlkW.var (m:=[AV.sl 1 (List.map (row1 IntKind.u8) xs),i64 (↑(mkR xs (cntR xs r 6) (k+1)).fst:Int),i64 (mkR xs (cntR xs r 6) (k+1)).snd]) (.cons (.refl _) (.cons (Weak.int (show (((↑(blkRr xs (mkR xs (cntR xs r 6) k)).fst:Int)):Int)=((↑(mkR xs (cntR xs r 6) (k+1)).fst:Int)) from (by rfl))) (.cons (Weak.int (show (((blkRr xs (mkR xs (cntR xs r 6) k)).snd):Int)=((mkR xs (cntR xs r 6) (k+1)).snd) from (by rfl))) .nil)))))<|.n)
theorem rtm_y_e (xs:List Int) (r:Rrf) (h:Rrf.In xs r) (hf:(toS xs r).Fit) (hh:∀ k,k<(cntV (toS xs r) 6).toNat→(blkT (toS xs (mkR xs (cntR xs r 6) k))).1.2=0):VT Try.prog (fnC Try.f53 [1,1,1,0,1,0,0]) (rtm_y_I xs r ((cntV (toS xs r) 6).toNat)) (.exit 0) (rtm_y_Z xs r):=by
 exact VT.run (W:=[.r [] [],.br false]) (G:=[.any [11,12,13],.sort]) (by kernel_rfl) (.c (decide_eq_false (p:=((↑(cntV (toS xs r) 6).toNat:Int)<cntV (toS xs r) 6)) (by omega))<|.n)
theorem rtm_y (xs:List Int) (r:Rrf) (h:Rrf.In xs r) (hf:(toS xs r).Fit) (hh:∀ k,k<(cntV (toS xs r) 6).toNat→(blkT (toS xs (mkR xs (cntR xs r 6) k))).1.2=0):VT Try.prog (fnC Try.f53 [1,1,1,0,1,0]) (rtm_y_I xs r 0) (.exit 0) (rtm_y_Z xs r) :=
 VT.loop (fun k=>rtm_y_I xs r k) ((cntV (toS xs r) 6).toNat) (fun k hk=>rtm_y_s xs r h hf hh k hk) (rtm_y_e xs r h hf hh) (by intro h;cases h)
noncomputable def rtm_n_I (xs:List Int) (r:Rrf) (m:Nat) (k:Nat):VS:=stt 42 [(0,.ptr 100000 0 0),(2,.ptr 2 0 0),(4,.ptr 4 0 0),(5,i64 (cntV (toS xs r) 6)),(6,i64 k)] [(2,.var [.any]),(4,.var [.own 900]),(900,.slc 85 5 ((mkL (toS xs (cntR xs r 6)) k).map blcC)),(100000,.var (rrC xs (mkR xs (cntR xs r 6) k)))]
noncomputable def rtm_n_Z (xs:List Int) (r:Rrf) (m:Nat):VS:=stt 42 [(2,.ptr 2 0 0),(3,i64 (blkT (toS xs (mkR xs (cntR xs r 6) m))).1.2)] [(2,.var [nilv]),(100000,.var (rrC xs (mkR xs (cntR xs r 6) (m+1))))]
theorem rtm_n_s (xs:List Int) (r:Rrf) (m:Nat) (h:Rrf.In xs r) (hf:(toS xs r).Fit) (hm:m<(cntV (toS xs r) 6).toNat) (hg:(blkT (toS xs (mkR xs (cntR xs r 6) m))).1.2≠0) (hh:∀ k,k<m→(blkT (toS xs (mkR xs (cntR xs r 6) k))).1.2=0) (k:Nat) (hk:k<m):VT Try.prog (fnC Try.f53 [1,1,1,0,1,0,0]) (rtm_n_I xs r m k) .normal (rtm_n_I xs r m (k+1)):=by
 have q:=cntV_rng (m:=6) (toS_in h) (by decide)
 have q0:=mkR_in (cntR_in h 6) k
 have q1:=mkL_len (toS xs (cntR xs r 6)) k
 have q6:=mkR_s xs (cntR xs r 6) k
 have q7:(toS xs (mkR xs (cntR xs r 6) k)).Fit:=by rw [q6];exact mkS_fit (by rw [toS_cnt];exact cnt_fit hf 6) k
 have q2:=hh k hk
 have oz1 := @rptake_v (xs) (mkR xs (cntR xs r 6) k) q0 q7
 exact VT.run (W:=[.r [] [],.br true,.r [] [cm oz1],.r [] [],.br false,.r [] [],.r [] [.n ((↑k:Int)+1)]]) (G:=[.any (rg [(7,2),(11,12),(25,6)]),.drop [7,28],.ren 29 900,.weak 6 (i64 (↑(k+1):Int)),.blk 900 (Blk.slc 85 5 (List.map blcC (mkL (toS xs (cntR xs r 6)) (k+1)))),.blk 100000 (Blk.var [AV.sl 1 (List.map (row1 IntKind.u8) xs),i64 (↑(mkR xs (cntR xs r 6) (k+1)).fst:Int),i64 (mkR xs (cntR xs r 6) (k+1)).snd]),.sort]) (by kernel_rfl) (.c (decide_eq_true (p:=((↑k:Int)<cntV (toS xs r) 6)) (by omega))<|.c oz1<|.c (show ((blkT (toS xs (mkR xs (cntR xs r 6) k))).fst.snd != 0)=false by (simp;omega))<|.c (show ((List.map blcC (mkL (toS xs (cntR xs r 6)) k)).length+1)*88≤140737488355328 by (simp;omega))<|.c (show (List.map blcC (mkL (toS xs (cntR xs r 6)) k)).length+1≤9223372036854775807 by (simp;omega))<|.c (i6n ((↑k:Int)+1) (by omega))<|.c (Weak.int (k:=.i64) (show (((↑k:Int)+1):Int)=((↑(k+1):Int)) from (by omega)))<|.c (show BlkW (Blk.slc 85 5 (List.map blcC (mkL (toS xs (cntR xs r 6)) k)++[[AV.sl 19 (List.map nodC (blkT (toS xs (mkR xs (cntR xs r 6) k))).fst.fst.n),bv (blkT (toS xs (mkR xs (cntR xs r 6) k))).fst.fst.ex,AV.sl 1 (List.map (row1 IntKind.i8) (blkT (toS xs (mkR xs (cntR xs r 6) k))).fst.fst.w),AV.sl 1 (List.map (row1 IntKind.i32) (blkT (toS xs (mkR xs (cntR xs r 6) k))).fst.fst.b),i32 (blkT (toS xs (mkR xs (cntR xs r 6) k))).fst.fst.nd]])) (Blk.slc 85 5 (List.map blcC (mkL (toS xs (cntR xs r 6)) (k+1)))) from (BlkW.rows (e:=85) (z:=5) (rows_to (blcC) (r:=List.map blcC (mkL (toS xs (cntR xs r 6)) k)++[[AV.sl 19 (List.map nodC (blkT (toS xs (mkR xs (cntR xs r 6) k))).fst.fst.n),bv (blkT (toS xs (mkR xs (cntR xs r 6) k))).fst.fst.ex,AV.sl 1 (List.map (row1 IntKind.i8) (blkT (toS xs (mkR xs (cntR xs r 6) k))).fst.fst.w),AV.sl 1 (List.map (row1 IntKind.i32) (blkT (toS xs (mkR xs (cntR xs r 6) k))).fst.fst.b),i32 (blkT (toS xs (mkR xs (cntR xs r 6) k))).fst.fst.nd]]) (l:=mkL (toS xs (cntR xs r 6)) k++[Blc.mk (blkT (toS xs (mkR xs (cntR xs r 6) k))).fst.fst.n (blkT (toS xs (mkR xs (cntR xs r 6) k))).fst.fst.ex (blkT (toS xs (mkR xs (cntR xs r 6) k))).fst.fst.w (blkT (toS xs (mkR xs (cntR xs r 6) k))).fst.fst.b (blkT (toS xs (mkR xs (cntR xs r 6) k))).fst.fst.nd]) (m:=mkL (toS xs (cntR xs r 6)) (k+1)) (by first | (simp only [List.map_append,List.map_cons,List.map_nil,List.map_set,List.map_replicate,List.map_take,List.map_drop];done) | rfl | (simp only [List.map_append,List.map_cons,List.map_nil,List.map_set,List.map_replicate,List.map_take,List.map_drop];rfl) | (simp only [List.map_append,List.map_cons,List.map_nil,List.map_set,List.map_replicate,List.map_take,List.map_drop,blcC,ints];done)) (show (mkL (toS xs (cntR xs r 6)) k++[Blc.mk (blkT (toS xs (mkR xs (cntR xs r 6) k))).fst.fst.n (blkT (toS xs (mkR xs (cntR xs r 6) k))).fst.fst.ex (blkT (toS xs (mkR xs (cntR xs r 6) k))).fst.fst.w (blkT (toS xs (mkR xs (cntR xs r 6) k))).fst.fst.b (blkT (toS xs (mkR xs (cntR xs r 6) k))).fst.fst.nd])=(mkL (toS xs (cntR xs r 6)) (k+1)) from (by (have w:=congrArg (fun z=>mkL (toS xs (cntR xs r 6)) k++[(blkT z).1.1]) q6;exact w))))))<|.c (show BlkW (Blk.var [AV.sl 1 (List.map (row1 IntKind.u8) xs),i64 (↑(blkRr xs (mkR xs (cntR xs r 6) k)).fst:Int),i64 (blkRr xs (mkR xs (cntR xs r 6) k)).snd]) (Blk.var [AV.sl 1 (List.map (row1 IntKind.u8) xs),i64 (↑(mkR xs (cntR xs r 6) (k+1)).fst:Int),i64 (mkR xs (cntR xs r 6) (k+1)).snd]) from (BlkW.var (m:=[AV.sl 1 (List.map (row1 IntKind.u8) xs),i64 (↑(mkR xs (cntR xs r 6) (k+1)).fst:Int),i64 (mkR xs (cntR xs r 6) (k+1)).snd]) (.cons (.refl _) (.cons (Weak.int (show (((↑(blkRr xs (mkR xs (cntR xs r 6) k)).fst:Int)):Int)=((↑(mkR xs (cntR xs r 6) (k+1)).fst:Int)) from (by rfl))) (.cons (Weak.int (show (((blkRr xs (mkR xs (cntR xs r 6) k)).snd):Int)=((mkR xs (cntR xs r 6) (k+1)).snd) from (by rfl))) .nil)))))<|.n)
theorem rtm_n_e (xs:List Int) (r:Rrf) (m:Nat) (h:Rrf.In xs r) (hf:(toS xs r).Fit) (hm:m<(cntV (toS xs r) 6).toNat) (hg:(blkT (toS xs (mkR xs (cntR xs r 6) m))).1.2≠0) (hh:∀ k,k<m→(blkT (toS xs (mkR xs (cntR xs r 6) k))).1.2=0):VT Try.prog (fnC Try.f53 [1,1,1,0,1,0,0]) (rtm_n_I xs r m (m)) (.ret) (rtm_n_Z xs r m):=by
 have q:=cntV_rng (m:=6) (toS_in h) (by decide)
 have q0:=mkR_in (cntR_in h 6) m
 have q1:=mkL_len (toS xs (cntR xs r 6)) m
 have q6:=mkR_s xs (cntR xs r 6) m
 have q7:(toS xs (mkR xs (cntR xs r 6) m)).Fit:=by rw [q6];exact mkS_fit (by rw [toS_cnt];exact cnt_fit hf 6) m
 have oz1 := @rptake_v (xs) (mkR xs (cntR xs r 6) m) q0 q7
 exact VT.run (W:=[.r [] [],.br true,.r [] [cm oz1],.r [] [],.br true,.r [] []]) (G:=[.any (rg [(0,1),(4,5),(11,3),(16,9)]),.drop [4,900,7],.blk 100000 (Blk.var [AV.sl 1 (List.map (row1 IntKind.u8) xs),i64 (↑(mkR xs (cntR xs r 6) (m+1)).fst:Int),i64 (mkR xs (cntR xs r 6) (m+1)).snd]),.sort]) (by kernel_rfl) (.c (decide_eq_true (p:=((↑m:Int)<cntV (toS xs r) 6)) (by omega))<|.c oz1<|.c (show ((blkT (toS xs (mkR xs (cntR xs r 6) m))).fst.snd != 0)=true by (simp;omega))<|.c (show BlkW (Blk.var [AV.sl 1 (List.map (row1 IntKind.u8) xs),i64 (↑(blkRr xs (mkR xs (cntR xs r 6) m)).fst:Int),i64 (blkRr xs (mkR xs (cntR xs r 6) m)).snd]) (Blk.var [AV.sl 1 (List.map (row1 IntKind.u8) xs),i64 (↑(mkR xs (cntR xs r 6) (m+1)).fst:Int),i64 (mkR xs (cntR xs r 6) (m+1)).snd]) from (BlkW.var (m:=[AV.sl 1 (List.map (row1 IntKind.u8) xs),i64 (↑(mkR xs (cntR xs r 6) (m+1)).fst:Int),i64 (mkR xs (cntR xs r 6) (m+1)).snd]) (.cons (.refl _) (.cons (Weak.int (show (((↑(blkRr xs (mkR xs (cntR xs r 6) m)).fst:Int)):Int)=((↑(mkR xs (cntR xs r 6) (m+1)).fst:Int)) from (by rfl))) (.cons (Weak.int (show (((blkRr xs (mkR xs (cntR xs r 6) m)).snd):Int)=((mkR xs (cntR xs r 6) (m+1)).snd) from (by rfl))) .nil)))))<|.n)
theorem rtm_n (xs:List Int) (r:Rrf) (m:Nat) (h:Rrf.In xs r) (hf:(toS xs r).Fit) (hm:m<(cntV (toS xs r) 6).toNat) (hg:(blkT (toS xs (mkR xs (cntR xs r 6) m))).1.2≠0) (hh:∀ k,k<m→(blkT (toS xs (mkR xs (cntR xs r 6) k))).1.2=0):VT Try.prog (fnC Try.f53 [1,1,1,0,1,0]) (rtm_n_I xs r m 0) (.ret) (rtm_n_Z xs r m) :=
 VT.loop (fun k=>rtm_n_I xs r m k) (m) (fun k hk=>rtm_n_s xs r m h hf hm hg hh k hk) (rtm_n_e xs r m h hf hm hg hh) (by intro h;cases h)
theorem rtmod_f (xs:List Int) (r:Rrf) (m:Nat) (h:Rrf.In xs r) (hf:(toS xs r).Fit) (hm:m<(cntV (toS xs r) 6).toNat) (hg:(blkT (toS xs (mkR xs (cntR xs r 6) m))).1.2≠0) (hh:∀ k,k<m→(blkT (toS xs (mkR xs (cntR xs r 6) k))).1.2=0):VM Try.prog 53 ([.ptr 100000 0 0]) ([(100000,.var (rrC xs r))]) (.tup [.agg [.sl 5 []],i64 (blkT (toS xs (mkR xs (cntR xs r 6) m))).1.2]) ([(100000,.var (rrC xs (mkR xs (cntR xs r 6) (m+1))))]):=by
 have q:=cntV_rng (m:=6) (toS_in h) (by decide)
 have q0:=mkR_in (cntR_in h 6) m
 have q1:=mkL_len (toS xs (cntR xs r 6)) m
 have q6:=mkR_s xs (cntR xs r 6) m
 have q7:(toS xs (mkR xs (cntR xs r 6) m)).Fit:=by rw [q6];exact mkS_fit (by rw [toS_cnt];exact cnt_fit hf 6) m
 have oz0 := @rcnt_v (xs) (r) (6) h (by omega) (by omega)
 have oz4 := @rtm_n (xs) (r) (m) h hf hm hg hh
 exact VM.run (fn:=Try.f53) (W:=[.r [] [],.r [] [],.r [] [cm oz0],.r [] [],.code [.any [3,9,10],.weak 6 (i64 (↑0:Int)),.nilc 900 85 5 4 0,.blk 2 (Blk.var [AV.any]),.blk 100000 (Blk.var [AV.sl 1 (List.map (row1 IntKind.u8) xs),i64 (↑(mkR xs (cntR xs r 6) 0).fst:Int),i64 (mkR xs (cntR xs r 6) 0).snd]),.sort] (Exit.ret) (zO oz4)]) (G:=[.drop [2],.weak 0 (AV.tup [AV.agg [AV.sl 5 []],i64 (blkT (toS xs (mkR xs (cntR xs r 6) m))).fst.snd]),.sort]) Try.func53 (by kernel_rfl) (.c oz0<|.c (Weak.int (k:=.i64) (show ((0):Int)=((↑0:Int)) from (by omega)))<|.c (show BlkW (Blk.var [nilv]) (Blk.var [AV.any]) from (BlkW.var (m:=[AV.any]) (.cons (Weak.any _) .nil)))<|.c (show BlkW (Blk.var [AV.sl 1 (List.map (row1 IntKind.u8) xs),i64 (↑(cntR xs r 6).fst:Int),i64 (cntR xs r 6).snd]) (Blk.var [AV.sl 1 (List.map (row1 IntKind.u8) xs),i64 (↑(mkR xs (cntR xs r 6) 0).fst:Int),i64 (mkR xs (cntR xs r 6) 0).snd]) from (BlkW.var (m:=[AV.sl 1 (List.map (row1 IntKind.u8) xs),i64 (↑(mkR xs (cntR xs r 6) 0).fst:Int),i64 (mkR xs (cntR xs r 6) 0).snd]) (.cons (.refl _) (.cons (Weak.int (show (((↑(cntR xs r 6).fst:Int)):Int)=((↑(mkR xs (cntR xs r 6) 0).fst:Int)) from (by rfl))) (.cons (Weak.int (show (((cntR xs r 6).snd):Int)=((mkR xs (cntR xs r 6) 0).snd) from (by rfl))) .nil)))))<|.c oz4<|.c (show Weak (AV.tup [AV.agg [nilv],i64 (blkT (toS xs (mkR xs (cntR xs r 6) m))).fst.snd]) (AV.tup [AV.agg [AV.sl 5 []],i64 (blkT (toS xs (mkR xs (cntR xs r 6) m))).fst.snd]) from (Weak.tup (.cons (Weak.agg (.cons (Weak.nil _) .nil)) (.cons (.refl _) .nil))))<|.n)
theorem rtmod_b (xs:List Int) (r:Rrf) (h:Rrf.In xs r) (hf:(toS xs r).Fit) (hh:∀ k,k<(cntV (toS xs r) 6).toNat→(blkT (toS xs (mkR xs (cntR xs r 6) k))).1.2=0) (hb:(mkR xs (cntR xs r 6) (cntV (toS xs r) 6).toNat).2≠0):VM Try.prog 53 ([.ptr 100000 0 0]) ([(100000,.var (rrC xs r))]) (.tup [.agg [.sl 5 []],i64 (mkR xs (cntR xs r 6) (cntV (toS xs r) 6).toNat).2]) ([(100000,.var (rrC xs (mkR xs (cntR xs r 6) (cntV (toS xs r) 6).toNat)))]):=by
 have q:=cntV_rng (m:=6) (toS_in h) (by decide)
 have q0:=mkR_in (cntR_in h 6) (cntV (toS xs r) 6).toNat
 have q1:=mkL_len (toS xs (cntR xs r 6)) (cntV (toS xs r) 6).toNat
 have q6:=mkR_s xs (cntR xs r 6) (cntV (toS xs r) 6).toNat
 have q7:(toS xs (mkR xs (cntR xs r 6) (cntV (toS xs r) 6).toNat)).Fit:=by rw [q6];exact mkS_fit (by rw [toS_cnt];exact cnt_fit hf 6) (cntV (toS xs r) 6).toNat
 have oz0 := @rcnt_v (xs) (r) (6) h (by omega) (by omega)
 have oz4 := @rtm_y (xs) (r) h hf hh
 exact VM.run (fn:=Try.f53) (W:=[.r [] [],.r [] [],.r [] [cm oz0],.r [] [],.code [.any [3,9,10],.weak 6 (i64 (↑0:Int)),.nilc 900 85 5 4 0,.blk 2 (Blk.var [AV.any]),.blk 100000 (Blk.var [AV.sl 1 (List.map (row1 IntKind.u8) xs),i64 (↑(mkR xs (cntR xs r 6) 0).fst:Int),i64 (mkR xs (cntR xs r 6) 0).snd]),.sort] (Exit.exit 0) (zO oz4),.r [] [],.br true,.r [] []]) (G:=[.drop [2,4,900],.weak 0 (AV.tup [AV.agg [AV.sl 5 []],i64 (mkR xs (cntR xs r 6) (cntV (toS xs r) 6).toNat).snd]),.sort]) Try.func53 (by kernel_rfl) (.c oz0<|.c (Weak.int (k:=.i64) (show ((0):Int)=((↑0:Int)) from (by omega)))<|.c (show BlkW (Blk.var [nilv]) (Blk.var [AV.any]) from (BlkW.var (m:=[AV.any]) (.cons (Weak.any _) .nil)))<|.c (show BlkW (Blk.var [AV.sl 1 (List.map (row1 IntKind.u8) xs),i64 (↑(cntR xs r 6).fst:Int),i64 (cntR xs r 6).snd]) (Blk.var [AV.sl 1 (List.map (row1 IntKind.u8) xs),i64 (↑(mkR xs (cntR xs r 6) 0).fst:Int),i64 (mkR xs (cntR xs r 6) 0).snd]) from (BlkW.var (m:=[AV.sl 1 (List.map (row1 IntKind.u8) xs),i64 (↑(mkR xs (cntR xs r 6) 0).fst:Int),i64 (mkR xs (cntR xs r 6) 0).snd]) (.cons (.refl _) (.cons (Weak.int (show (((↑(cntR xs r 6).fst:Int)):Int)=((↑(mkR xs (cntR xs r 6) 0).fst:Int)) from (by rfl))) (.cons (Weak.int (show (((cntR xs r 6).snd):Int)=((mkR xs (cntR xs r 6) 0).snd) from (by rfl))) .nil)))))<|.c oz4<|.c (show ((mkR xs (cntR xs r 6) (cntV (toS xs r) 6).toNat).snd != 0)=true by (simp;omega))<|.c (show Weak (AV.tup [AV.agg [nilv],i64 (mkR xs (cntR xs r 6) (cntV (toS xs r) 6).toNat).snd]) (AV.tup [AV.agg [AV.sl 5 []],i64 (mkR xs (cntR xs r 6) (cntV (toS xs r) 6).toNat).snd]) from (Weak.tup (.cons (Weak.agg (.cons (Weak.nil _) .nil)) (.cons (.refl _) .nil))))<|.n)
theorem rtmod_y (xs:List Int) (r:Rrf) (h:Rrf.In xs r) (hf:(toS xs r).Fit) (hh:∀ k,k<(cntV (toS xs r) 6).toNat→(blkT (toS xs (mkR xs (cntR xs r 6) k))).1.2=0) (hb:(mkR xs (cntR xs r 6) (cntV (toS xs r) 6).toNat).2=0):VM Try.prog 53 ([.ptr 100000 0 0]) ([(100000,.var (rrC xs r))]) (.tup [.agg [.sl 5 ((mkL (toS xs (cntR xs r 6)) (cntV (toS xs r) 6).toNat).map blcC)],i64 0]) ([(100000,.var (rrC xs (mkR xs (cntR xs r 6) (cntV (toS xs r) 6).toNat)))]):=by
 have q:=cntV_rng (m:=6) (toS_in h) (by decide)
 have q0:=mkR_in (cntR_in h 6) (cntV (toS xs r) 6).toNat
 have q1:=mkL_len (toS xs (cntR xs r 6)) (cntV (toS xs r) 6).toNat
 have q6:=mkR_s xs (cntR xs r 6) (cntV (toS xs r) 6).toNat
 have q7:(toS xs (mkR xs (cntR xs r 6) (cntV (toS xs r) 6).toNat)).Fit:=by rw [q6];exact mkS_fit (by rw [toS_cnt];exact cnt_fit hf 6) (cntV (toS xs r) 6).toNat
 have oz0 := @rcnt_v (xs) (r) (6) h (by omega) (by omega)
 have oz4 := @rtm_y (xs) (r) h hf hh
 exact VM.run (fn:=Try.f53) (W:=[.r [] [],.r [] [],.r [] [cm oz0],.r [] [],.code [.any [3,9,10],.weak 6 (i64 (↑0:Int)),.nilc 900 85 5 4 0,.blk 2 (Blk.var [AV.any]),.blk 100000 (Blk.var [AV.sl 1 (List.map (row1 IntKind.u8) xs),i64 (↑(mkR xs (cntR xs r 6) 0).fst:Int),i64 (mkR xs (cntR xs r 6) 0).snd]),.sort] (Exit.exit 0) (zO oz4),.r [] [],.br false,.r [] []]) (G:=[.frz 900,.drop [2,4],.sort]) Try.func53 (by kernel_rfl) (.c oz0<|.c (Weak.int (k:=.i64) (show ((0):Int)=((↑0:Int)) from (by omega)))<|.c (show BlkW (Blk.var [nilv]) (Blk.var [AV.any]) from (BlkW.var (m:=[AV.any]) (.cons (Weak.any _) .nil)))<|.c (show BlkW (Blk.var [AV.sl 1 (List.map (row1 IntKind.u8) xs),i64 (↑(cntR xs r 6).fst:Int),i64 (cntR xs r 6).snd]) (Blk.var [AV.sl 1 (List.map (row1 IntKind.u8) xs),i64 (↑(mkR xs (cntR xs r 6) 0).fst:Int),i64 (mkR xs (cntR xs r 6) 0).snd]) from (BlkW.var (m:=[AV.sl 1 (List.map (row1 IntKind.u8) xs),i64 (↑(mkR xs (cntR xs r 6) 0).fst:Int),i64 (mkR xs (cntR xs r 6) 0).snd]) (.cons (.refl _) (.cons (Weak.int (show (((↑(cntR xs r 6).fst:Int)):Int)=((↑(mkR xs (cntR xs r 6) 0).fst:Int)) from (by rfl))) (.cons (Weak.int (show (((cntR xs r 6).snd):Int)=((mkR xs (cntR xs r 6) 0).snd) from (by rfl))) .nil)))))<|.c oz4<|.c (show ((mkR xs (cntR xs r 6) (cntV (toS xs r) 6).toNat).snd != 0)=false by (simp;omega))<|.n)
def takeM:Nat→Rst→Int×Rst
 | 0,s=>(0,s)
 | n+1,s=>if (blkT s).1.2≠0 then ((blkT s).1.2,(blkT s).2) else takeM n (blkT s).2
theorem mkS_succ (s:Rst) (k:Nat):mkS s (k+1)=mkS (blkT s).2 k:=by
 induction k with
 | zero=>rfl
 | succ k ih=>rw [mkS,ih];rfl
theorem takeM_y {n:Nat}:∀ {s:Rst},(∀ k,k<n→(blkT (mkS s k)).1.2=0)→takeM n s=(0,mkS s n):=by
 induction n with
 | zero=>intro s _;rfl
 | succ n ih =>
  intro s h
  have h0:(blkT s).1.2=0:=h 0 (by omega)
  rw [takeM,if_neg (by simpa using h0),mkS_succ]
  refine ih fun k hk=>?_
  rw [←mkS_succ];exact h (k+1) (by omega)
theorem takeM_n {n:Nat}:∀ {s:Rst} {m:Nat},m<n→(blkT (mkS s m)).1.2≠0→(∀ k,k<m→(blkT (mkS s k)).1.2=0)→takeM n s=((blkT (mkS s m)).1.2,mkS s (m+1)):=by
 induction n with
 | zero=>intro s m hm;omega
 | succ n ih =>
  intro s m hm hf h
  cases m with
  | zero=>rw [takeM,if_pos (by exact hf)];rfl
  | succ m =>
   have h0:(blkT s).1.2=0:=h 0 (by omega)
   rw [takeM,if_neg (by simpa using h0),mkS_succ s m,mkS_succ s (m+1)]
   rw [mkS_succ] at hf
   refine ih (by omega) hf fun k hk=>?_
   rw [←mkS_succ];exact h (k+1) (by omega)
def mdlT (s:Rst):(List Blc×Int)×Rst :=
 if (takeM (cntV s 6).toNat (cntS s 6)).1≠0 then (([],(takeM (cntV s 6).toNat (cntS s 6)).1),(takeM (cntV s 6).toNat (cntS s 6)).2)
 else if (mkS (cntS s 6) (cntV s 6).toNat).2≠0 then (([],(mkS (cntS s 6) (cntV s 6).toNat).2),mkS (cntS s 6) (cntV s 6).toNat) else ((mkL (cntS s 6) (cntV s 6).toNat,0),mkS (cntS s 6) (cntV s 6).toNat)
theorem ptmod_v (s:Rst) (h:s.Fit):VM Try.prog 52 [.ptr 100000 0 0] [(100000,.var (rdC s))] (.tup [.agg [.sl 5 ((mdlT s).1.1.map blcC)],i64 (mdlT s).1.2]) [(100000,.var (rdC (mdlT s).2))]:=by
 unfold mdlT
 rcases first_of (n:=(cntV s 6).toNat) (p:=fun k=>(blkT (mkS (cntS s 6) k)).1.2=0) with hh | ⟨m,hm,hf,hh⟩
 ·rw [takeM_y hh,if_neg (by simp)]
  by_cases hb:(mkS (cntS s 6) (cntV s 6).toNat).2=0
  ·rw [if_neg (by simpa using hb)];exact ptmod_y s h hh hb
  ·rw [if_pos hb];exact ptmod_b s h hh hb
 ·rw [takeM_n hm hf hh,if_pos (by exact hf)];exact ptmod_f s m h hm hf hh
theorem rtmod_v (xs:List Int) (r:Rrf) (h:Rrf.In xs r) (hf:(toS xs r).Fit):∃ q,Rrf.In xs q∧toS xs q=(mdlT (toS xs r)).2∧VM Try.prog 53 [.ptr 100000 0 0] [(100000,.var (rrC xs r))] (.tup [.agg [.sl 5 ((mdlT (toS xs r)).1.1.map blcC)],i64 (mdlT (toS xs r)).1.2]) [(100000,.var (rrC xs q))]:=by
 have e:∀ k,toS xs (mkR xs (cntR xs r 6) k)=mkS (cntS (toS xs r) 6) k:=fun k=>by rw [mkR_s,toS_cnt]
 have i:=mkR_in (cntR_in h 6)
 unfold mdlT
 rcases first_of (n:=(cntV (toS xs r) 6).toNat) (p:=fun k=>(blkT (mkS (cntS (toS xs r) 6) k)).1.2=0) with hh | ⟨m,hm,hg,hh⟩
 ·have h2:∀ k,k<(cntV (toS xs r) 6).toNat→(blkT (toS xs (mkR xs (cntR xs r 6) k))).1.2=0:=fun k hk=>by rw [e];exact hh k hk
  rw [takeM_y hh,if_neg (by simp)]
  by_cases hb:(mkR xs (cntR xs r 6) (cntV (toS xs r) 6).toNat).2=0
  ·rw [if_neg (by rw [←e,toS_2];simpa using hb)]
   refine ⟨_,i _,e _,?_⟩
   have q:=rtmod_y xs r h hf h2 hb
   rw [toS_cnt] at q
   exact q
  ·rw [if_pos (by rw [←e,toS_2];exact hb)]
   refine ⟨_,i _,e _,?_⟩
   rw [←e,toS_2]
   exact rtmod_b xs r h hf h2 hb
 ·have h2:∀ k,k<m→(blkT (toS xs (mkR xs (cntR xs r 6) k))).1.2=0:=fun k hk=>by rw [e];exact hh k hk
  have g2:(blkT (toS xs (mkR xs (cntR xs r 6) m))).1.2≠0:=by rw [e];exact hg
  rw [takeM_n hm hg hh,if_pos (by exact hg)]
  refine ⟨_,i _,e _,?_⟩
  rw [←e]
  exact rtmod_f xs r m h hf hm g2 h2
structure SB (x:Blc):Prop where
 l:x.n.length≤100
 n:∀ n∈x.n,n.w.length≤100000∧n.b.length≤100000
 w:x.w.length≤100000
 b:x.b.length≤100000
theorem blkT_SB {s:Rst} (h:s.Fit):SB (blkT s).1.1:=by
 have q:=cntV_rng (m:=8) h.i (by decide)
 rcases blkT_cases s with ⟨m,hm,hf,hh⟩ | ⟨hh,hb⟩ | ⟨hh,hb⟩
 ·rw [blkT_f hm hf hh];exact ⟨Nat.zero_le _,fun y hy=>(List.not_mem_nil hy).elim,Nat.zero_le _,Nat.zero_le _⟩
 ·rw [blkT_b hh hb];exact ⟨Nat.zero_le _,fun y hy=>(List.not_mem_nil hy).elim,Nat.zero_le _,Nat.zero_le _⟩
 ·have sm:=blkT_sm (s:=s) h.l
  rw [blkT_y hh hb] at sm ⊢
  have en:(exN (stB s) (nodesT s)).n=nodesT s:=by unfold exN;split<;>rfl
  have ln:(nodesT s).length=(cntV s 8).toNat:=tkL_len _ _
  have st:=(tkS_fit (cnt_fit h 8) (cntV s 8).toNat)
  refine ⟨by rw [en,ln];omega,sm,?_,?_⟩
  ·unfold exN
   split
   ·exact lstW_le (cnt_fit st 1)
   ·exact Nat.zero_le _
  ·unfold exN
   split
   ·exact lstB_le (cnt_fit st 1)
   ·exact Nat.zero_le _
theorem mkL_SB {s:Rst} (h:s.Fit) (n:Nat):∀ x∈mkL s n,SB x:=by
 induction n with
 | zero=>intro y hy;cases hy
 | succ n ih =>
  intro y hy
  rw [mkL,List.mem_append] at hy
  rcases hy with hy | hy
  ·exact ih y hy
  ·rw [List.mem_singleton] at hy;subst hy;exact blkT_SB (mkS_fit h n)
theorem mdlT_SB {s:Rst} (h:s.Fit):(∀ x∈(mdlT s).1.1,SB x)∧(mdlT s).1.1.length≤100:=by
 have q:=cntV_rng (m:=6) h.i (by decide)
 unfold mdlT
 split
 ·exact ⟨fun y hy=>(List.not_mem_nil hy).elim,Nat.zero_le _⟩
 ·split
  ·exact ⟨fun y hy=>(List.not_mem_nil hy).elim,Nat.zero_le _⟩
  ·refine ⟨mkL_SB (cnt_fit h 6) _,?_⟩
   dsimp only
   rw [mkL_len];omega
theorem mdlT_2 {s:Rst} (h:(mdlT s).1.2=0):(mdlT s).2.2=0:=by
 unfold mdlT at h ⊢
 split
 ·rename_i q;rw [if_pos q] at h;exact absurd h q
 ·rename_i q
  rw [if_neg q] at h
  split
  ·rename_i g;rw [if_pos g] at h;exact absurd h g
  ·rename_i g;exact Classical.not_not.1 g
noncomputable def smod_l_I (l:List Blc) (k:Nat):VS:=stt 32 [(2,.ptr 2 0 0),(3,.ptr 3 0 0),(5,i64 k)] [(2,.var [.sl 5 (l.map blcC)]),(3,.var [.sl 5 (l.map blcC)])]
noncomputable def smod_l_Z (l:List Blc):VS:=smod_l_I l (l.length)
theorem smod_l_s (l:List Blc) (hl:l.length≤100) (h:∀ x∈l,SB x) (k:Nat) (hk:k<l.length):VT Try.prog (fnC Try.f54 [1,1,0,1,0,0]) (smod_l_I l k) .normal (smod_l_I l (k+1)):=by
 have q:=getD_in h hk
 obtain ⟨q1,q2,q3,q4⟩:=q
 have oz1:=(show 0≤(↑k:Int) by omega)
 have oz2:=(map_at (blcC) (default) (l:=l) (i:=k) hk)
 have oz5 := @sblk_v (l.getD k default) q1 q2 q3 q4
 exact VT.run (W:=[.r [] [],.br true,.r [] [.row (sO oz2),.row (sO oz2),.callr (rO oz5)],.br false,.r [] [.n ((↑k:Int)+1)]]) (G:=[.any (rg [(13,19)]),.weak 5 (i64 (↑(k+1):Int)),.sort]) (by kernel_rfl) (.c (show decide ((↑k:Int)<(↑(List.map blcC l).length:Int))=true by (simp;omega))<|.c oz1<|.c oz2<|.c oz1<|.c oz2<|.c oz5<|.c z0_<|.c (i6n ((↑k:Int)+1) (by omega))<|.c (Weak.int (k:=.i64) (show (((↑k:Int)+1):Int)=((↑(k+1):Int)) from (by omega)))<|.n)
theorem smod_l_e (l:List Blc) (hl:l.length≤100) (h:∀ x∈l,SB x):VT Try.prog (fnC Try.f54 [1,1,0,1,0,0]) (smod_l_I l (l.length)) (.exit 0) (smod_l_Z l):=by
 exact VT.run (W:=[.r [] [],.br false]) (G:=[.any (rg [(13,5)]),.sort]) (by kernel_rfl) (.c (show decide ((↑l.length:Int)<(↑(List.map blcC l).length:Int))=false by (simp;done))<|.n)
theorem smod_l (l:List Blc) (hl:l.length≤100) (h:∀ x∈l,SB x):VT Try.prog (fnC Try.f54 [1,1,0,1,0]) (smod_l_I l 0) (.exit 0) (smod_l_Z l) :=
 VT.loop (fun k=>smod_l_I l k) (l.length) (fun k hk=>smod_l_s l hl h k hk) (smod_l_e l hl h) (by intro h;cases h)
theorem smod_v (l:List Blc) (hl:l.length≤100) (h:∀ x∈l,SB x):VC Try.prog 54 ([.agg [.sl 5 (l.map blcC)],.agg [.sl 5 (l.map blcC)]]) (bv true):=by
 have oz2 := @smod_l (l) hl h
 exact VC.run (fn:=Try.f54) (W:=[.r [] [],.r [] [],.br false,.r [] [],.code [.any (rg [(0,2),(4,1),(6,7)]),.weak 5 (i64 (↑0:Int)),.sort] (Exit.exit 0) (zO oz2),.r [] []]) Try.func54 (by kernel_rfl) (.c (show ((↑(List.map blcC l).length:Int) != (↑(List.map blcC l).length:Int))=false by (simp;done))<|.c (Weak.int (k:=.i64) (show ((0):Int)=((↑0:Int)) from (by omega)))<|.c oz2<|.n)
theorem few31_m (m:Mdl):VC Try.prog 45 [.agg [i64 0,i64 0,i64 0,i64 0,.sl 1 [mdlC m]]] (bv (mdlS m)) :=
 VC.to (few31_v ⟨0,0,0,0,[m]⟩) (by simp [bunS])
theorem Mdl.fw {m:Mdl} (ok:m.Ok) (h:mdlS m=true):m.Fw:=by
 simp only [mdlS,Bool.and_eq_true,decide_eq_true_eq,List.all_eq_true] at h
 exact ⟨fun x hx=>Blc.fw (ok.l x hx) (h.2 x hx),h.1⟩
theorem packModels_f (m:Mdl) (d:List Int) (few:mdlS m=false):VC Try.prog 11 ([.agg (mdlC m),.sl 1 (d.map (row1 .u8))]) (bv true):=by
 have oz0 := @few31_m (Mdl.mk m.l)
 have oz2 := @known34_v
 exact VC.run (fn:=Try.f11) (W:=[.r [] [],.r [] [.callr (rO oz0),.op false,.op false,.op false,.sel 1],.br true,.r [] [.callr (rO oz2)]]) Try.func11 (by kernel_rfl) (.c oz0<|.c (show (!mdlS (Mdl.mk m.l) || decide ((↑(List.map (row1 IntKind.u8) d).length:Int) > 3000))=true by (rw [few];rfl))<|.c oz2<|.n)
theorem packModels_g (m:Mdl) (d:List Int) (few:mdlS m=true) (h:d.length > 3000):VC Try.prog 11 ([.agg (mdlC m),.sl 1 (d.map (row1 .u8))]) (bv true):=by
 have oz1 := @few31_y (Bun.mk 0 0 0 0 [Mdl.mk m.l]) (by (simp;done)) (by (simp;omega))
 have oz2:=z0_
 have oz7 := @known34_v
 exact VC.run (fn:=Try.f11) (W:=[.r [] [],.r [] [.call (aO oz1) (rO oz1),.br true,.br true,.br true,.br false],.br true,.r [] [.callr (rO oz7)]]) Try.func11 (by kernel_rfl) (.c (show WeakL [AV.agg [i64 0,i64 0,i64 0,i64 0,AV.sl 1 [[AV.sl 5 (List.map blcC m.l)]]]] [AV.agg [i64 (Bun.mk 0 0 0 0 [Mdl.mk m.l]).h,i64 (Bun.mk 0 0 0 0 [Mdl.mk m.l]).x,i64 (Bun.mk 0 0 0 0 [Mdl.mk m.l]).c,i64 (Bun.mk 0 0 0 0 [Mdl.mk m.l]).cl,AV.sl 1 [[AV.sl 5 (List.map blcC (Mdl.mk m.l).l)]]]] from (.cons (Weak.agg (.cons (.refl _) (.cons (.refl _) (.cons (.refl _) (.cons (.refl _) (.cons (Weak.rows (rows_to (mdlC) (r:=[[AV.sl 5 (List.map blcC m.l)]]) (l:=[Mdl.mk m.l]) (m:=[Mdl.mk m.l]) (by first | (simp only [List.map_append,List.map_cons,List.map_nil,List.map_set,List.map_replicate,List.map_take,List.map_drop];done) | rfl | (simp only [List.map_append,List.map_cons,List.map_nil,List.map_set,List.map_replicate,List.map_take,List.map_drop];rfl) | (simp only [List.map_append,List.map_cons,List.map_nil,List.map_set,List.map_replicate,List.map_take,List.map_drop,mdlC,ints];done)) rfl)) .nil)))))) .nil))<|.c oz1<|.c oz2<|.c oz2<|.c oz2<|.c oz2<|.c (show decide ((↑(List.map (row1 IntKind.u8) d).length:Int) > 3000)=true by (simp;omega))<|.c oz7<|.n)
theorem packModels_y (m:Mdl) (d:List Int) (q:Rrf) (few:mdlS m=true) (fw:m.Fw) (hd:Byt d) (he:(mdlT (d,0)).1.2=0) (vq:VM Try.prog 53 [.ptr 100000 0 0] [(100000,.var [.sl 1 (d.map (row1 .u8)),i64 0,i64 0])] (.tup [.agg [.sl 5 ((mdlT (d,0)).1.1.map blcC)],i64 (mdlT (d,0)).1.2]) [(100000,.var (rrC d q))]) (vl:VM Try.prog 44 [.ptr 100000 0 0] [(100000,.var (rrC d q))] (i64 ((mdlT (d,0)).2.1.length:Nat)) [(100000,.var (rrC d q))]):VC Try.prog 11 ([.agg (mdlC m),.sl 1 (d.map (row1 .u8))]) (bv true):=by
 have ql:=hd.l
 have qi:=hd.fit
 have q1:=modelR_le fw
 obtain ⟨q2,q3⟩:=mdlT_SB qi
 have z0:((mdlT (d,0)).1.2 != 0)=false:=by rw [he];rfl
 have z1:((modelR m).2==(modelR m).2)=true:=by simp
 have z2:((mdlT (d,0)).1.2==(mdlT (d,0)).1.2)=true:=by simp
 have z3:(((mdlT (d,0)).2.1.length:Int)==((mdlT (d,0)).2.1.length:Int))=true:=by simp
 have oz1 := @few31_y (Bun.mk 0 0 0 0 [Mdl.mk m.l]) (by (simp;done)) (by (simp;omega))
 have oz2:=z0_
 have oz7 := @pmodel_v (Mdl.mk m.l) fw
 have oz8 := @rmodel_v (Mdl.mk m.l) fw
 have oz9 := @read_v (d) (by omega)
 have oz10 := @ptmod_v ((d,0)) qi
 have oz11 := @vq
 have oz15 := @same06_v ((modelR (Mdl.mk m.l)).fst) q1
 have oz17:=z1_
 have oz24 := @smod_v ((mdlT (d,0)).fst.fst) q3 q2
 have oz31 := @left_v ((mdlT (d,0)).snd)
 have oz34 := @vl
 have oz40 := @known34_v
 exact VC.run (fn:=Try.f11) (W:=[.r [] [],.r [] [.call (aO oz1) (rO oz1),.br true,.br true,.br true,.br false],.br false,.r [] [.callr (rO oz7)],.r [] [.callr (rO oz8)],.r [] [.callm [] [(950,20000)] (rM oz9) (oM oz9)],.r [] [.callm [(20000,100000)] [] (rM oz10) (oM oz10)],.r [] [.callm [(40,100000)] [] (rM oz11) (oM oz11)],.r [] [.br true,.br true,.br true,.callr (rO oz15),.br true,.br true,.br true,.br true,.br true,.br true,.br true,.br true,.callr (rO oz24),.br true,.br true,.br true,.br true,.br true,.br true,.callm [(20000,100000)] [] (rM oz31) (oM oz31),.br true,.br true,.callm [(40,100000)] [] (rM oz34) (oM oz34),.br true,.br true,.br false,.br true,.br true,.callr (rO oz40),.br true]]) Try.func11 (by kernel_rfl) (.c (show WeakL [AV.agg [i64 0,i64 0,i64 0,i64 0,AV.sl 1 [[AV.sl 5 (List.map blcC m.l)]]]] [AV.agg [i64 (Bun.mk 0 0 0 0 [Mdl.mk m.l]).h,i64 (Bun.mk 0 0 0 0 [Mdl.mk m.l]).x,i64 (Bun.mk 0 0 0 0 [Mdl.mk m.l]).c,i64 (Bun.mk 0 0 0 0 [Mdl.mk m.l]).cl,AV.sl 1 [[AV.sl 5 (List.map blcC (Mdl.mk m.l).l)]]]] from (.cons (Weak.agg (.cons (.refl _) (.cons (.refl _) (.cons (.refl _) (.cons (.refl _) (.cons (Weak.rows (rows_to (mdlC) (r:=[[AV.sl 5 (List.map blcC m.l)]]) (l:=[Mdl.mk m.l]) (m:=[Mdl.mk m.l]) (by first | (simp only [List.map_append,List.map_cons,List.map_nil,List.map_set,List.map_replicate,List.map_take,List.map_drop];done) | rfl | (simp only [List.map_append,List.map_cons,List.map_nil,List.map_set,List.map_replicate,List.map_take,List.map_drop];rfl) | (simp only [List.map_append,List.map_cons,List.map_nil,List.map_set,List.map_replicate,List.map_take,List.map_drop,mdlC,ints];done)) rfl)) .nil)))))) .nil))<|.c oz1<|.c oz2<|.c oz2<|.c oz2<|.c oz2<|.c (show decide ((↑(List.map (row1 IntKind.u8) d).length:Int) > 3000)=false by (simp;omega))<|.c oz7<|.c oz8<|.c oz9<|.c oz10<|.c oz11<|.c z1<|.c z1<|.c z1<|.c oz15<|.c z1<|.c oz17<|.c oz17<|.c oz17<|.c oz17<|.c z2<|.c z2<|.c z2<|.c oz24<|.c z2<|.c oz17<|.c oz17<|.c oz17<|.c z0<|.c z0<|.c oz31<|.c z0<|.c z0<|.c oz34<|.c z0<|.c oz17<|.c z0<|.c oz17<|.c z3<|.c oz40<|.c z3<|.n)
theorem packModels_n (m:Mdl) (d:List Int) (q:Rrf) (few:mdlS m=true) (fw:m.Fw) (hd:Byt d) (he:(mdlT (d,0)).1.2≠0) (vq:VM Try.prog 53 [.ptr 100000 0 0] [(100000,.var [.sl 1 (d.map (row1 .u8)),i64 0,i64 0])] (.tup [.agg [.sl 5 ((mdlT (d,0)).1.1.map blcC)],i64 (mdlT (d,0)).1.2]) [(100000,.var (rrC d q))]):VC Try.prog 11 ([.agg (mdlC m),.sl 1 (d.map (row1 .u8))]) (bv true):=by
 have ql:=hd.l
 have qi:=hd.fit
 have q1:=modelR_le fw
 obtain ⟨q2,q3⟩:=mdlT_SB qi
 have z0:((mdlT (d,0)).1.2 != 0)=true:=by simpa using he
 have z1:((modelR m).2==(modelR m).2)=true:=by simp
 have z2:((mdlT (d,0)).1.2==(mdlT (d,0)).1.2)=true:=by simp
 have z3:(((mdlT (d,0)).2.1.length:Int)==((mdlT (d,0)).2.1.length:Int))=true:=by simp
 have oz1 := @few31_y (Bun.mk 0 0 0 0 [Mdl.mk m.l]) (by (simp;done)) (by (simp;omega))
 have oz2:=z0_
 have oz7 := @pmodel_v (Mdl.mk m.l) fw
 have oz8 := @rmodel_v (Mdl.mk m.l) fw
 have oz9 := @read_v (d) (by omega)
 have oz10 := @ptmod_v ((d,0)) qi
 have oz11 := @vq
 have oz15 := @same06_v ((modelR (Mdl.mk m.l)).fst) q1
 have oz17:=z1_
 have oz24 := @smod_v ((mdlT (d,0)).fst.fst) q3 q2
 have oz29:=(show ((mdlT (d,0)).fst.snd != 0) = !false by (simp;omega))
 have oz38 := @known34_v
 exact VC.run (fn:=Try.f11) (W:=[.r [] [],.r [] [.call (aO oz1) (rO oz1),.br true,.br true,.br true,.br false],.br false,.r [] [.callr (rO oz7)],.r [] [.callr (rO oz8)],.r [] [.callm [] [(950,20000)] (rM oz9) (oM oz9)],.r [] [.callm [(20000,100000)] [] (rM oz10) (oM oz10)],.r [] [.callm [(40,100000)] [] (rM oz11) (oM oz11)],.r [] [.br true,.br true,.br true,.callr (rO oz15),.br true,.br true,.br true,.br true,.br true,.br true,.br true,.br true,.callr (rO oz24),.br true,.br true,.br true,.br true,.br false,.br false,.br false,.br false,.br false,.br true,.br true,.br true,.br true,.callr (rO oz38),.br true]]) Try.func11 (by kernel_rfl) (.c (show WeakL [AV.agg [i64 0,i64 0,i64 0,i64 0,AV.sl 1 [[AV.sl 5 (List.map blcC m.l)]]]] [AV.agg [i64 (Bun.mk 0 0 0 0 [Mdl.mk m.l]).h,i64 (Bun.mk 0 0 0 0 [Mdl.mk m.l]).x,i64 (Bun.mk 0 0 0 0 [Mdl.mk m.l]).c,i64 (Bun.mk 0 0 0 0 [Mdl.mk m.l]).cl,AV.sl 1 [[AV.sl 5 (List.map blcC (Mdl.mk m.l).l)]]]] from (.cons (Weak.agg (.cons (.refl _) (.cons (.refl _) (.cons (.refl _) (.cons (.refl _) (.cons (Weak.rows (rows_to (mdlC) (r:=[[AV.sl 5 (List.map blcC m.l)]]) (l:=[Mdl.mk m.l]) (m:=[Mdl.mk m.l]) (by first | (simp only [List.map_append,List.map_cons,List.map_nil,List.map_set,List.map_replicate,List.map_take,List.map_drop];done) | rfl | (simp only [List.map_append,List.map_cons,List.map_nil,List.map_set,List.map_replicate,List.map_take,List.map_drop];rfl) | (simp only [List.map_append,List.map_cons,List.map_nil,List.map_set,List.map_replicate,List.map_take,List.map_drop,mdlC,ints];done)) rfl)) .nil)))))) .nil))<|.c oz1<|.c oz2<|.c oz2<|.c oz2<|.c oz2<|.c (show decide ((↑(List.map (row1 IntKind.u8) d).length:Int) > 3000)=false by (simp;omega))<|.c oz7<|.c oz8<|.c oz9<|.c oz10<|.c oz11<|.c z1<|.c z1<|.c z1<|.c oz15<|.c z1<|.c oz17<|.c oz17<|.c oz17<|.c oz17<|.c z2<|.c z2<|.c z2<|.c oz24<|.c z2<|.c oz17<|.c oz17<|.c oz17<|.c oz29<|.c oz29<|.c oz29<|.c oz29<|.c oz29<|.c oz17<|.c z0<|.c oz17<|.c oz17<|.c oz38<|.c oz17<|.n)
theorem packModels_v (m:Mdl) (d:List Int) (ok:m.Ok) (hd:∀ v∈d,0≤v∧v≤255):VC Try.prog 11 [.agg (mdlC m),.sl 1 (d.map (row1 .u8))] (bv true):=by
 cases few:mdlS m with
 | false=>exact packModels_f m d few
 | true =>
  by_cases h:d.length > 3000
  ·exact packModels_g m d few h
  ·have fw:=Mdl.fw ok few
   have hB:Byt d:=⟨hd,by omega⟩
   have i0:Rrf.In d (0,0):=⟨hB.b,by have:=hB.l;omega,Nat.zero_le _⟩
   have t0:toS d (0,0)=(d,0):=by simp [toS]
   obtain ⟨q,iq,sq,vq⟩:=rtmod_v d (0,0) i0 (by rw [t0];exact hB.fit)
   rw [t0] at sq vq
   by_cases he:(mdlT (d,0)).1.2=0
   ·have e2:q.2=0:=by rw [←toS_2 d,sq];exact mdlT_2 he
    have e3:(mdlT (d,0)).2.1=d.drop q.1:=by rw [←sq];unfold toS;rw [if_pos e2]
    have vl:=rleft_y d q.1 iq.a iq.l
    rw [show (q.1,(0:Int))=q from Prod.ext rfl e2.symm,←e3] at vl
    exact packModels_y m d q few fw hB he vq vl
   ·exact packModels_n m d q few fw hB he vq
end Go.Proofs.Ytgecmooedhnenaa
