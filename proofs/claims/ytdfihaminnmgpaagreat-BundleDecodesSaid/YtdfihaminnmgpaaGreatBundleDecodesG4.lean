/- A part of this claim. No condition. -/
import Derived.Outline
import Derived.Test.YtdfihaminnmgpaaGreatProg
import Derived.WalkKit
import Derived.Below
import Derived.LoopTactic
import Derived.RegionTactic
import Derived.ChangeAlike
import Derived.BigRegion
import Derived.Deep.QuietTactic
import Derived.BigQuiet
import Derived.Lib.Hide
import Derived.WalkSpells
import Derived.WalkLawsBesides
import Derived.WalkSmall
import Derived.Laws.BytesString
import Derived.Laws.IdiomStrings
import Derived.Laws.BitsAllLaws
import Derived.Laws.AppendOwnNone
import Derived.PlainAid
import Derived.Laws.Tables
import Derived.Laws.CopyOwn
import Derived.Deep.WholeRow
import Derived.Laws.ResultCell
import Derived.Shelf.Bits.Mul64
import Derived.Handy
import Derived.ScopeJumps
import Derived.OwnWalk
import Derived.Deep.Slices
import Derived.ProofKit
import Derived.OpenShut
import Derived.ShutString
import Derived.ChangeOld
import Derived.Deep.LoopGhost
import Derived.Lib.SlBytesConst
import Derived.Test.YtdfihaminnmgpaaGreatBundleDecodesG3
set_option maxRecDepth 100000
set_option maxHeartbeats 2000000
set_option linter.unusedVariables false
set_option linter.unusedSimpArgs false
set_option linter.unnecessarySimpa false
namespace Go.Proofs.YtdfihaminnmgpaaGreat
open Go.RowKit
open BlkW renaming rows→CW_
open Bool renaming and_eq_true→P_,and_eq_false_iff→R_,or_eq_false_iff→T_,not_eq_false'→W_,not_eq_true'→Y_,or_eq_true→D_,and_true→AO_,false_and→BQ_,not_false→BR_,true_and→BU_,and_false→BW_,false_eq_true→BA_,not_true→BB_,false_or→BC_,or_false→BD_,true_eq_false→CH_,not_eq_eq_eq_not→BO_
open Exit renaming exit→BS_,ret→DT_
open Int renaming toNat_natCast→AF_,tdiv_eq_ediv_of_nonneg→BH_,tmod_eq_emod_of_nonneg→CF_,not_lt→CQ_,not_le→CI_
open IntKind renaming i64→U_
open IntWalk renaming u64_in→DQ_,i32_in→AI_
open List renaming map→K_,drop→O_,take→Q_,map_replicate→S_,length_map→V_,map_append→X_,map_cons→A_,map_take→B_,map_drop→C_,map_nil→AM_,map_set→AN_,getElem?_eq_getElem→AP_,length_drop→AS_,getD_eq_getElem?_getD→AU_,getElem?_map→AX_,length_append→AD_,length_cons→AJ_,eq_nil_of_length_eq_zero→BK_,length_take→BL_,length_set→BF_,getElem_mem→CN_,getD_cons_zero→BM_,getD_cons_succ→BY_,take_of_length_le→BJ_,length_replicate→BN_,map_eq_nil_iff→BV_,length_range→BX_,length_nil→BE_,mem_append→CA_
open Nat renaming le_refl→AE_,zero_add→BT_
open Tryz renaming prog→M_
open Value renaming slice→AK_,int→AW_,bool→BI_,agg→CX_
open Weak renaming int→N_,nil→AV_,tup→AA_,rows→AH_,agg→AZ_,bool→AB_
open WeakL renaming refl→AQ_
theorem around_v (a:Shp) (p:Int) (ok:a.Ok) (h0:0<elems a.h a.x a.c):VC M_ 209 ([shp a,i64 p]) (.tup [shp (aroundE a p).1,i64 (aroundE a p).2]):=by
 have q:=elems_ok h0
 have q2:=elems_in (a.h+2*p) (a.x+2*p) a.c
 have q3:=ok.c
 rcases bft (decide (p<0) || decide (p>4)) with hc0|hc0
 ·have gc0:p<0∨p>4:=gc0_ hc0
  exact (cR_ [r_,.r [] [o_,o_,.sel 1],b_,r_] (AV.tup [AV.agg [i64 0,i64 0,i64 0],i64 2]) Tryz.func209 (.d hc0)).weak (AQ_ _) (AA_ (.cons (AZ_ (.cons (N_ l0_) (.cons (N_ l0_) (.cons (N_ l0_) .nil)))) (.cons (N_ l0_) .nil)))
 ·have gc0:¬p<0∧¬p>4:=gc0_ hc0
  have oz1:=(i6n (2*p) a_)
  have oz2:=(i6n (a.h+2*p) a_)
  have oz4:=(i6n (a.x+2*p) a_)
  have oz5:=@sRight_v (Shp.mk (a.h+2*p) (a.x+2*p) a.c) (by (exact Shp.mk_ok ⟨by omega,by omega⟩ ⟨by omega,by omega⟩ q3))
  rcases bft (!decide (0<elems (a.h+2*p) (a.x+2*p) a.c)) with hc1|hc1
  ·have gc1:=bnt hc1
   exact (cR_ [r_,.r [] [o_,o_,.sel 1],d_,.r [] [.n (nO oz1),.n (nO oz2),.n (nO oz1),.n (nO oz4)],.r [] [cr oz5],b_,r_] (AV.tup [AV.agg [i64 0,i64 0,i64 0],i64 5]) Tryz.func209 (.d7 hc0 oz1 oz2 oz1 oz4 oz5 hc1)).weak (AQ_ _) (AA_ (.cons (AZ_ (.cons (N_ l0_) (.cons (N_ l0_) (.cons (N_ l0_) .nil)))) (.cons (N_ l0_) .nil)))
  ·have gc1:=bnf hc1
   exact (cR_ [r_,.r [] [o_,o_,.sel 1],d_,.r [] [.n (nO oz1),.n (nO oz2),.n (nO oz1),.n (nO oz4)],.r [] [cr oz5],d_,r_] (AV.tup [AV.agg [i64 (a.h+2*p),i64 (a.x+2*p),i64 a.c],i64 0]) Tryz.func209 (.d7 hc0 oz1 oz2 oz1 oz4 oz5 hc1)).weak (AQ_ _) (AA_ (.cons (AZ_ (.cons (N_ l0_) (.cons (N_ l0_) (.cons (N_ l0_) .nil)))) (.cons (N_ l0_) .nil)))
theorem plainShape_v (n:Nod) (a b:Shp) (ok:a.Ok) (okb:b.Ok) (hk:6≤n.kd) (hk9:n.kd≤9):VC M_ 191 ([nod n,shp a,shp b]) (.tup [shp (shapeE n a b).1,i64 (shapeE n a b).2]):=by
 obtain ⟨p1,p2,p3⟩:=id ok
 have q2:=elems_in a.h a.x a.c
 have oz0:=@sRight_v (a) ok
 rcases bft (!decide (0<elems a.h a.x a.c)) with hc0|hc0
 ·have gc0:=bnt hc0
  exact (cR_ [r_,.r [] [cr oz0],b_,r_] (AV.tup [AV.agg [i64 0,i64 0,i64 0],i64 5]) Tryz.func191 (.d2 oz0 hc0)).weak (AQ_ _) (AA_ (.cons (AZ_ (.cons (N_ n_) (.cons (N_ n_) (.cons (N_ n_) .nil)))) (.cons (N_ n_) .nil)))
 ·have gc0:=bnf hc0
  rcases bft (n.kd==6) with hc1|hc1
  ·have gc1:n.kd=6:=bet hc1
   have oz3:=(show BinTo M_ BinOp.neq 23 (Operand.tmp 16) (Operand.tmp 17) (CX_ #[AW_ U_ a.h,AW_ U_ a.x,AW_ U_ a.c]) (CX_ #[AW_ U_ b.h,AW_ U_ b.x,AW_ U_ b.c]) (BI_ !eqNums [(U_,a.h,b.h),(U_,a.x,b.x),(U_,a.c,b.c)]) from ((bin_nums (l:=[(U_,a.h,b.h),(U_,a.x,b.x),(U_,a.c,b.c)]) w_ w_ w_ w_ _ _).2))
   rcases bft (!eqNums [(U_,a.h,b.h),(U_,a.x,b.x),(U_,a.c,b.c)]) with hc2|hc2
   ·have gc2:¬(a.h=b.h∧a.x=b.x∧a.c=b.c):=gc0_ hc2
    exact (cR_ [r_,.r [] [cr oz0],d_,r_,r_,b_,.r [] [.v (BI_ !eqNums [(U_,a.h,b.h),(U_,a.x,b.x),(U_,a.c,b.c)])],b_,r_] (AV.tup [AV.agg [i64 0,i64 0,i64 0],i64 5]) Tryz.func191 (.d5 oz0 hc0 hc1 oz3 hc2)).weak (AQ_ _) (AA_ (.cons (AZ_ (.cons (N_ n_) (.cons (N_ n_) (.cons (N_ n_) .nil)))) (.cons (N_ n_) .nil)))
   ·have gc2:a.h=b.h∧a.x=b.x∧a.c=b.c:=gc0_ hc2
    exact (cR_ [r_,.r [] [cr oz0],d_,r_,r_,b_,.r [] [.v (BI_ !eqNums [(U_,a.h,b.h),(U_,a.x,b.x),(U_,a.c,b.c)])],d_,r_] (AV.tup [AV.agg [i64 a.h,i64 a.x,i64 a.c],i64 0]) Tryz.func191 (.d5 oz0 hc0 hc1 oz3 hc2)).weak (AQ_ _) (AA_ (.cons (AZ_ (.cons (N_ n_) (.cons (N_ n_) (.cons (N_ n_) .nil)))) (.cons (N_ n_) .nil)))
  ·have gc1:¬n.kd=6:=bef hc1
   rcases bft (n.kd==8) with hc2|hc2
   ·have gc2:n.kd=8:=bet hc2
    have oz4:=@around_v (a) (n.np) ok gc0
    exact (cR_ [r_,.r [] [cr oz0],d_,r_,r_,d_,r_,b_,.r [] [cr oz4]] (AV.tup [AV.agg [i64 (aroundE a n.np).fst.h,i64 (aroundE a n.np).fst.x,i64 (aroundE a n.np).fst.c],i64 (aroundE a n.np).snd]) Tryz.func191 (.d5 oz0 hc0 hc1 hc2 oz4)).weak (AQ_ _) (AA_ (.cons (AZ_ (.cons (N_ n_) (.cons (N_ n_) (.cons (N_ n_) .nil)))) (.cons (N_ n_) .nil)))
   ·have gc2:¬n.kd=8:=bef hc2
    rcases bft (n.kd==9) with hc3|hc3
    ·have gc3:n.kd=9:=bet hc3
     have oz5:=@elems_v (a.h) (a.x) (a.c) p1 p2 p3
     exact (cR_ [r_,.r [] [cr oz0],d_,r_,r_,d_,r_,d_,r_,b_,.r [] [cr oz5]] (AV.tup [AV.agg [i64 1,i64 1,i64 (elems a.h a.x a.c)],i64 0]) Tryz.func191 (.d6 oz0 hc0 hc1 hc2 hc3 oz5)).weak (AQ_ _) (AA_ (.cons (AZ_ (.cons (N_ n_) (.cons (N_ n_) (.cons (N_ n_) .nil)))) (.cons (N_ n_) .nil)))
    ·have gc3:¬n.kd=9:=bef hc3
     exact (cR_ [r_,.r [] [cr oz0],d_,r_,r_,d_,r_,d_,r_,d_,r_] (AV.tup [AV.agg [i64 a.h,i64 a.x,i64 a.c],i64 0]) Tryz.func191 (.d5 oz0 hc0 hc1 hc2 hc3)).weak (AQ_ _) (AA_ (.cons (AZ_ (.cons (N_ n_) (.cons (N_ n_) (.cons (N_ n_) .nil)))) (.cons (N_ n_) .nil)))
theorem kshape_v (n:Nod) (a b:Shp) (ok:a.Ok) (okb:b.Ok) (okn:n.Ok):VC M_ 158 ([nod n,shp a,shp b]) (.tup [shp (shapeE n a b).1,i64 (shapeE n a b).2]):=by
 obtain ⟨p1,p2,p3⟩:=id ok
 rcases bft (n.kd==1) with hc0|hc0
 ·have gc0:n.kd=1:=bet hc0
  have oz1:=@convShape_v (a) (n) ok okn
  exact (cR_ [r_,r_,r_,b_,.r [] [cr oz1]] (AV.tup [AV.agg [i64 (convE a n).fst.h,i64 (convE a n).fst.x,i64 (convE a n).fst.c],i64 (convE a n).snd]) Tryz.func158 (.d2 hc0 oz1)).weak (AQ_ _) (AA_ (.cons (AZ_ (.cons (N_ n_) (.cons (N_ n_) (.cons (N_ n_) .nil)))) (.cons (N_ n_) .nil)))
 ·have gc0:¬n.kd=1:=bef hc0
  rcases bft (n.kd==2) with hc1|hc1
  ·have gc1:n.kd=2:=bet hc1
   have oz2:=@depthShape_v (a) (n) ok okn
   exact (cR_ [r_,r_,r_,d_,r_,b_,.r [] [cr oz2]] (AV.tup [AV.agg [i64 (depthE a n).fst.h,i64 (depthE a n).fst.x,i64 (depthE a n).fst.c],i64 (depthE a n).snd]) Tryz.func158 (.d3 hc0 hc1 oz2)).weak (AQ_ _) (AA_ (.cons (AZ_ (.cons (N_ n_) (.cons (N_ n_) (.cons (N_ n_) .nil)))) (.cons (N_ n_) .nil)))
  ·have gc1:¬n.kd=2:=bef hc1
   rcases bft (n.kd==3) with hc2|hc2
   ·have gc2:n.kd=3:=bet hc2
    have oz3:=@denseShape_v (a) (n) ok okn
    exact (cR_ [r_,r_,r_,d_,r_,d_,r_,b_,.r [] [cr oz3]] (AV.tup [AV.agg [i64 (denseE a n).fst.h,i64 (denseE a n).fst.x,i64 (denseE a n).fst.c],i64 (denseE a n).snd]) Tryz.func158 (.d4 hc0 hc1 hc2 oz3)).weak (AQ_ _) (AA_ (.cons (AZ_ (.cons (N_ n_) (.cons (N_ n_) (.cons (N_ n_) .nil)))) (.cons (N_ n_) .nil)))
   ·have gc2:¬n.kd=3:=bef hc2
    rcases bft (n.kd==4) with hc3|hc3
    ·have gc3:n.kd=4:=bet hc3
     have oz5:=@slide_v (a) (n.nk) (n.ns) (n.np) (a.c) ok p3
     exact (cR_ [r_,r_,r_,d_,r_,d_,r_,d_,r_,b_,b_,.r [] [cr oz5]] (AV.tup [AV.agg [i64 (slideE a n.nk n.ns n.np a.c).fst.h,i64 (slideE a n.nk n.ns n.np a.c).fst.x,i64 (slideE a n.nk n.ns n.np a.c).fst.c],i64 (slideE a n.nk n.ns n.np a.c).snd]) Tryz.func158 (.d6 hc0 hc1 hc2 hc3 hc3 oz5)).weak (AQ_ _) (AA_ (.cons (AZ_ (.cons (N_ n_) (.cons (N_ n_) (.cons (N_ n_) .nil)))) (.cons (N_ n_) .nil)))
    ·have gc3:¬n.kd=4:=bef hc3
     rcases bft (n.kd==5) with hc4|hc4
     ·have gc4:n.kd=5:=bet hc4
      have oz5:=@slide_v (a) (n.nk) (n.ns) (n.np) (a.c) ok p3
      exact (cR_ [r_,r_,r_,d_,r_,d_,r_,d_,r_,d_,r_,b_,.r [] [cr oz5]] (AV.tup [AV.agg [i64 (slideE a n.nk n.ns n.np a.c).fst.h,i64 (slideE a n.nk n.ns n.np a.c).fst.x,i64 (slideE a n.nk n.ns n.np a.c).fst.c],i64 (slideE a n.nk n.ns n.np a.c).snd]) Tryz.func158 (.d6 hc0 hc1 hc2 hc3 hc4 oz5)).weak (AQ_ _) (AA_ (.cons (AZ_ (.cons (N_ n_) (.cons (N_ n_) (.cons (N_ n_) .nil)))) (.cons (N_ n_) .nil)))
     ·have gc4:¬n.kd=5:=bef hc4
      rcases bft (n.kd==6) with hc5|hc5
      ·have gc5:n.kd=6:=bet hc5
       have oz7:=@plainShape_v (n) (a) (b) ok okb a_ a_
       exact cR_ [r_,r_,r_,d_,r_,d_,r_,d_,r_,d_,r_,d_,r_,b_,b_,.r [] [cr oz7]] _ Tryz.func158 (.d8 hc0 hc1 hc2 hc3 hc4 hc5 hc5 oz7)
      ·have gc5:¬n.kd=6:=bef hc5
       rcases bft (n.kd==7) with hc6|hc6
       ·have gc6:n.kd=7:=bet hc6
        have oz8:=@plainShape_v (n) (a) (b) ok okb a_ a_
        exact cR_ [r_,r_,r_,d_,r_,d_,r_,d_,r_,d_,r_,d_,r_,d_,r_,b_,b_,.r [] [cr oz8]] _ Tryz.func158 (.c8 hc0 hc1 hc2 hc3 hc4 hc5 hc6 hc6<|.d oz8)
       ·have gc6:¬n.kd=7:=bef hc6
        rcases bft (n.kd==8) with hc7|hc7
        ·have gc7:n.kd=8:=bet hc7
         have oz9:=@plainShape_v (n) (a) (b) ok okb a_ a_
         exact cR_ [r_,r_,r_,d_,r_,d_,r_,d_,r_,d_,r_,d_,r_,d_,r_,d_,r_,b_,b_,.r [] [cr oz9]] _ Tryz.func158 (.c8 hc0 hc1 hc2 hc3 hc4 hc5 hc6 hc7<|.d2 hc7 oz9)
        ·have gc7:¬n.kd=8:=bef hc7
         rcases bft (n.kd==9) with hc8|hc8
         ·have gc8:n.kd=9:=bet hc8
          have oz9:=@plainShape_v (n) (a) (b) ok okb a_ a_
          exact cR_ [r_,r_,r_,d_,r_,d_,r_,d_,r_,d_,r_,d_,r_,d_,r_,d_,r_,d_,r_,b_,.r [] [cr oz9]] _ Tryz.func158 (.c8 hc0 hc1 hc2 hc3 hc4 hc5 hc6 hc7<|.d2 hc8 oz9)
         ·have gc8:¬n.kd=9:=bef hc8
          exact (cR_ [r_,r_,r_,d_,r_,d_,r_,d_,r_,d_,r_,d_,r_,d_,r_,d_,r_,d_,r_,d_,r_] (AV.tup [AV.agg [i64 0,i64 0,i64 0],i64 6]) Tryz.func158 (.c8 hc0 hc1 hc2 hc3 hc4 hc5 hc6 hc7<|.d hc8)).weak (AQ_ _) (AA_ (.cons (AZ_ (.cons (N_ n_) (.cons (N_ n_) (.cons (N_ n_) .nil)))) (.cons (N_ n_) .nil)))
theorem refKshape_v (n:Nod) (a b:Shp) (ok:a.Ok) (okb:b.Ok) (okn:n.Ok):VC M_ 79 ([nod n,shp a,shp b]) (.tup [shp (shapeE n a b).1,i64 (shapeE n a b).2]):=by
 obtain ⟨p1,p2,p3⟩:=id ok
 have q2:=elems_in a.h a.x a.c
 have q4:=fun (h:0<elems a.h a.x a.c)=>elems_ok h
 rcases bft (n.kd==1) with hc0|hc0
 ·have gc0:n.kd=1:=bet hc0
  have oz1:=@refConvShape_v (a) (n) ok okn
  exact (cR_ [r_,r_,b_,.r [] [cr oz1]] (AV.tup [AV.agg [i64 (convE a n).fst.h,i64 (convE a n).fst.x,i64 (convE a n).fst.c],i64 (convE a n).snd]) Tryz.func79 (.d2 hc0 oz1)).weak (AQ_ _) (AA_ (.cons (AZ_ (.cons (N_ k_) (.cons (N_ k_) (.cons (N_ k_) .nil)))) (.cons (N_ k_) .nil)))
 ·have gc0:¬n.kd=1:=bef hc0
  rcases bft (n.kd==2) with hc1|hc1
  ·have gc1:n.kd=2:=bet hc1
   have oz2:=@refDepthShape_v (a) (n) ok okn
   exact (cR_ [r_,r_,d_,r_,b_,.r [] [cr oz2]] (AV.tup [AV.agg [i64 (depthE a n).fst.h,i64 (depthE a n).fst.x,i64 (depthE a n).fst.c],i64 (depthE a n).snd]) Tryz.func79 (.d3 hc0 hc1 oz2)).weak (AQ_ _) (AA_ (.cons (AZ_ (.cons (N_ k_) (.cons (N_ k_) (.cons (N_ k_) .nil)))) (.cons (N_ k_) .nil)))
  ·have gc1:¬n.kd=2:=bef hc1
   rcases bft (n.kd==3) with hc2|hc2
   ·have gc2:n.kd=3:=bet hc2
    have oz3:=@refDenseShape_v (a) (n) ok okn
    exact (cR_ [r_,r_,d_,r_,d_,r_,b_,.r [] [cr oz3]] (AV.tup [AV.agg [i64 (denseE a n).fst.h,i64 (denseE a n).fst.x,i64 (denseE a n).fst.c],i64 (denseE a n).snd]) Tryz.func79 (.d4 hc0 hc1 hc2 oz3)).weak (AQ_ _) (AA_ (.cons (AZ_ (.cons (N_ k_) (.cons (N_ k_) (.cons (N_ k_) .nil)))) (.cons (N_ k_) .nil)))
   ·have gc2:¬n.kd=3:=bef hc2
    rcases bft (n.kd==4 || n.kd==5) with hc3|hc3
    ·have gc3:n.kd=4∨n.kd=5:=gc0_ hc3
     have oz4:=@refSlide_v (a) (n.nk) (n.ns) (n.np) (a.c) ok p3
     exact (cR_ [r_,r_,d_,r_,d_,r_,d_,.r [] [o_,o_,o_,.sel 1],b_,.r [] [cr oz4]] (AV.tup [AV.agg [i64 (slideE a n.nk n.ns n.np a.c).fst.h,i64 (slideE a n.nk n.ns n.np a.c).fst.x,i64 (slideE a n.nk n.ns n.np a.c).fst.c],i64 (slideE a n.nk n.ns n.np a.c).snd]) Tryz.func79 (.d5 hc0 hc1 hc2 hc3 oz4)).weak (AQ_ _) (AA_ (.cons (AZ_ (.cons (N_ k_) (.cons (N_ k_) (.cons (N_ k_) .nil)))) (.cons (N_ k_) .nil)))
    ·have gc3:¬n.kd=4∧¬n.kd=5:=gc0_ hc3
     rcases bft (decide (n.kd<1) || decide (n.kd>9)) with hc4|hc4
     ·have gc4:n.kd<1∨n.kd>9:=gc0_ hc4
      exact (cR_ [r_,r_,d_,r_,d_,r_,d_,.r [] [o_,o_,o_,.sel 1],d_,.r [] [o_,o_,o_,.sel 1],b_,r_] (AV.tup [AV.agg [i64 0,i64 0,i64 0],i64 6]) Tryz.func79 (.d5 hc0 hc1 hc2 hc3 hc4)).weak (AQ_ _) (AA_ (.cons (AZ_ (.cons (N_ k_) (.cons (N_ k_) (.cons (N_ k_) .nil)))) (.cons (N_ k_) .nil)))
     ·have gc4:¬n.kd<1∧¬n.kd>9:=gc0_ hc4
      have oz5:=@refElems_v (a.h) (a.x) (a.c) p1 p2 p3
      have oz6:=(show BinTo M_ BinOp.neq 23 (Operand.tmp 70) (Operand.tmp 71) (CX_ #[AW_ U_ a.h,AW_ U_ a.x,AW_ U_ a.c]) (CX_ #[AW_ U_ b.h,AW_ U_ b.x,AW_ U_ b.c]) (BI_ !eqNums [(U_,a.h,b.h),(U_,a.x,b.x),(U_,a.c,b.c)]) from ((bin_nums (l:=[(U_,a.h,b.h),(U_,a.x,b.x),(U_,a.c,b.c)]) w_ w_ w_ w_ _ _).2))
      rcases bft (elems a.h a.x a.c==0 || n.kd==6 && !eqNums [(U_,a.h,b.h),(U_,a.x,b.x),(U_,a.c,b.c)]) with hc5|hc5
      ·have gc5:elems a.h a.x a.c=0∨n.kd=6∧¬(a.h=b.h∧a.x=b.x∧a.c=b.c):=gc0_ hc5
       exact (cR_ [r_,r_,d_,r_,d_,r_,d_,.r [] [o_,o_,o_,.sel 1],d_,.r [] [o_,o_,o_,.sel 1],d_,.r [] [cr oz5,o_,o_,o_,o_,o_,o_,o_,.v (BI_ !eqNums [(U_,a.h,b.h),(U_,a.x,b.x),(U_,a.c,b.c)]),o_,.sel 2,.sel 1],b_,r_] (AV.tup [AV.agg [i64 0,i64 0,i64 0],i64 5]) Tryz.func79 (.d8 hc0 hc1 hc2 hc3 hc4 oz5 oz6 hc5)).weak (AQ_ _) (AA_ (.cons (AZ_ (.cons (N_ k_) (.cons (N_ k_) (.cons (N_ k_) .nil)))) (.cons (N_ k_) .nil)))
      ·have gc5:¬elems a.h a.x a.c=0∧(¬n.kd=6∨a.h=b.h∧a.x=b.x∧a.c=b.c):=gc0_ hc5
       rcases bft (n.kd==9) with hc6|hc6
       ·have gc6:n.kd=9:=bet hc6
        exact (cR_ [r_,r_,d_,r_,d_,r_,d_,.r [] [o_,o_,o_,.sel 1],d_,.r [] [o_,o_,o_,.sel 1],d_,.r [] [cr oz5,o_,o_,o_,o_,o_,o_,o_,.v (BI_ !eqNums [(U_,a.h,b.h),(U_,a.x,b.x),(U_,a.c,b.c)]),o_,.sel 2,.sel 1],d_,r_,b_,.r [] [cr oz5]] (AV.tup [AV.agg [i64 1,i64 1,i64 (elems a.h a.x a.c)],i64 0]) Tryz.func79 (.c8 hc0 hc1 hc2 hc3 hc4 oz5 oz6 hc5<|.d2 hc6 oz5)).weak (AQ_ _) (AA_ (.cons (AZ_ (.cons (N_ k_) (.cons (N_ k_) (.cons (N_ k_) .nil)))) (.cons (N_ k_) .nil)))
       ·have gc6:¬n.kd=9:=bef hc6
        rcases bft (n.kd==8) with hc7|hc7
        ·have gc7:n.kd=8:=bet hc7
         rcases bft (decide (n.np<0) || decide (n.np>4)) with hc8|hc8
         ·have gc8:n.np<0∨n.np>4:=gc0_ hc8
          exact (cR_ [r_,r_,d_,r_,d_,r_,d_,.r [] [o_,o_,o_,.sel 1],d_,.r [] [o_,o_,o_,.sel 1],d_,.r [] [cr oz5,o_,o_,o_,o_,o_,o_,o_,.v (BI_ !eqNums [(U_,a.h,b.h),(U_,a.x,b.x),(U_,a.c,b.c)]),o_,.sel 2,.sel 1],d_,r_,d_,r_,b_,.r [] [o_,o_,o_,.sel 1],b_,r_] (AV.tup [AV.agg [i64 0,i64 0,i64 0],i64 2]) Tryz.func79 (.c8 hc0 hc1 hc2 hc3 hc4 oz5 oz6 hc5<|.d3 hc6 hc7 hc8)).weak (AQ_ _) (AA_ (.cons (AZ_ (.cons (N_ k_) (.cons (N_ k_) (.cons (N_ k_) .nil)))) (.cons (N_ k_) .nil)))
         ·have gc8:¬n.np<0∧¬n.np>4:=gc0_ hc8
          have oz11:=(i6n (2*n.np) a_)
          have oz12:=(i6n (a.h+2*n.np) a_)
          have oz14:=(i6n (a.x+2*n.np) a_)
          have oz15:=@refElems_v (a.h+2*n.np) (a.x+2*n.np) (a.c) a_ a_ p3
          rcases bft (elems (a.h+2*n.np) (a.x+2*n.np) a.c==0) with hc9|hc9
          ·have gc9:elems (a.h+2*n.np) (a.x+2*n.np) a.c=0:=bet hc9
           exact (cR_ [r_,r_,d_,r_,d_,r_,d_,.r [] [o_,o_,o_,.sel 1],d_,.r [] [o_,o_,o_,.sel 1],d_,.r [] [cr oz5,o_,o_,o_,o_,o_,o_,o_,.v (BI_ !eqNums [(U_,a.h,b.h),(U_,a.x,b.x),(U_,a.c,b.c)]),o_,.sel 2,.sel 1],d_,r_,d_,r_,b_,.r [] [o_,o_,o_,.sel 1],d_,.r [] [.n (nO oz11),.n (nO oz12),.n (nO oz11),.n (nO oz14)],.r [] [cr oz15],b_,r_] (AV.tup [AV.agg [i64 0,i64 0,i64 0],i64 5]) Tryz.func79 (.c8 hc0 hc1 hc2 hc3 hc4 oz5 oz6 hc5<|.c8 hc6 hc7 hc8 oz11 oz12 oz11 oz14 oz15<|.d hc9)).weak (AQ_ _) (AA_ (.cons (AZ_ (.cons (N_ k_) (.cons (N_ k_) (.cons (N_ k_) .nil)))) (.cons (N_ k_) .nil)))
          ·have gc9:¬elems (a.h+2*n.np) (a.x+2*n.np) a.c=0:=bef hc9
           exact (cR_ [r_,r_,d_,r_,d_,r_,d_,.r [] [o_,o_,o_,.sel 1],d_,.r [] [o_,o_,o_,.sel 1],d_,.r [] [cr oz5,o_,o_,o_,o_,o_,o_,o_,.v (BI_ !eqNums [(U_,a.h,b.h),(U_,a.x,b.x),(U_,a.c,b.c)]),o_,.sel 2,.sel 1],d_,r_,d_,r_,b_,.r [] [o_,o_,o_,.sel 1],d_,.r [] [.n (nO oz11),.n (nO oz12),.n (nO oz11),.n (nO oz14)],.r [] [cr oz15],d_,r_] (AV.tup [AV.agg [i64 (a.h+2*n.np),i64 (a.x+2*n.np),i64 a.c],i64 0]) Tryz.func79 (.c8 hc0 hc1 hc2 hc3 hc4 oz5 oz6 hc5<|.c8 hc6 hc7 hc8 oz11 oz12 oz11 oz14 oz15<|.d hc9)).weak (AQ_ _) (AA_ (.cons (AZ_ (.cons (N_ k_) (.cons (N_ k_) (.cons (N_ k_) .nil)))) (.cons (N_ k_) .nil)))
        ·have gc7:¬n.kd=8:=bef hc7
         exact (cR_ [r_,r_,d_,r_,d_,r_,d_,.r [] [o_,o_,o_,.sel 1],d_,.r [] [o_,o_,o_,.sel 1],d_,.r [] [cr oz5,o_,o_,o_,o_,o_,o_,o_,.v (BI_ !eqNums [(U_,a.h,b.h),(U_,a.x,b.x),(U_,a.c,b.c)]),o_,.sel 2,.sel 1],d_,r_,d_,r_,d_,r_] (AV.tup [AV.agg [i64 a.h,i64 a.x,i64 a.c],i64 0]) Tryz.func79 (.c8 hc0 hc1 hc2 hc3 hc4 oz5 oz6 hc5<|.d2 hc6 hc7)).weak (AQ_ _) (AA_ (.cons (AZ_ (.cons (N_ k_) (.cons (N_ k_) (.cons (N_ k_) .nil)))) (.cons (N_ k_) .nil)))
def oneN (v:Int) (n:Nod):Int:=heldQ (v-n.za) n.qm n.qs n.qz n.lo n.hi
theorem actOne_w (v:Int) (n:Nod) (ok:n.Ok) (hv:In8 v):VC M_ 205 ([i8 v,nod n]) (i8 (oneN v n)):=by
 obtain ⟨q1,q2⟩:=id hv
 obtain ⟨q3,q4⟩:=ok.za
 have oz3:=@held_v (v-n.za) (n.qm) (n.qs) (n.qz) (n.lo) (n.hi) a_ (by (exact ok.qm)) (by (exact ok.qz)) (by (exact ok.lo)) (by (exact ok.hi))
 exact (cR_ [r_,.r [] [.n v,.n n.za,.n (v-n.za),cr oz3]] (i8 (heldQ (v-n.za) n.qm n.qs n.qz n.lo n.hi)) Tryz.func205 (.d4 (AI_ v a_) (AI_ n.za a_) (AI_ (v-n.za) a_) oz3)).weak (AQ_ _) (N_ t0_)
theorem upside_v (a b:Int)  : VC M_ 152 ([.agg [i8 a,i8 b]]) (bv (decide (a>b))):=by
 exact cR_ [r_,r_] _ Tryz.func152 (.n)
def headE (w b:List Int) (lo hi:Int):Int:=if sharedB w b=true then (if (allR w b lo hi 0 false b.length).all holdB=true then 0 else 10) else 9
abbrev hedC (w b:List Int) (nd:Int):List AV:=[ints .i8 w,ints .i32 b,i32 nd]
theorem hd_ok {w b:List Int} (hw:∀ v∈w,In8 v) (hb:∀ v∈b,In32 v):Nod.Ok ⟨0,0,0,0,0,0,0,0,0,w,b,0,0,0,0,0,0,0,0⟩:=by
 constructor<;>first|assumption|(constructor<;>(dsimp only;decide))
theorem hd_len (w b:List Int) (lo hi:Int):(allR w b lo hi 0 (decide ((0:Int)>0)) (if sharedB w b=true then b.length else 0)).length=if sharedB w b=true then b.length else 0:=by simp[allR]
theorem hd_pos {w b:List Int} (h:sharedB w b=true):0<b.length:=by
 simp only[sharedB,P_,E_] at h;exact h.1
theorem hd_le (w b:List Int) (lo hi:Int) (bl:b.length≤100000):(allR w b lo hi 0 (decide ((0:Int)>0)) (if sharedB w b=true then b.length else 0)).length≤1000000:=by rw[hd_len];split<;>omega
theorem hd_sh {w b:List Int} {lo hi:Int} {x:Bool} (h:(((K_ rngC (allR w b lo hi 0 (decide ((0:Int)>0)) (if sharedB w b=true then b.length else 0))).length:Int)==0)=x):sharedB w b = !x:=by
 rw[V_,hd_len] at h
 cases e:sharedB w b with
 | true =>
  have:=hd_pos e
  rw[e,i_ rfl] at h
  cases x with
  | true=>simp at h;subst h;simp at this
  | false=>rfl
 | false=>rw[e] at h;subst h;rfl
theorem hd9 {w b:List Int} {lo hi:Int} (h:(((K_ rngC (allR w b lo hi 0 (decide ((0:Int)>0)) (if sharedB w b=true then b.length else 0))).length:Int)==0)=true):9=headE w b lo hi:=by
 unfold headE;rw[hd_sh h];rfl
theorem hd10 {w b:List Int} {lo hi:Int} {y:Bool} (h:(((K_ rngC (allR w b lo hi 0 (decide ((0:Int)>0)) (if sharedB w b=true then b.length else 0))).length:Int)==0)=false) (h2:(!(allR w b lo hi 0 (decide ((0:Int)>0)) (if sharedB w b=true then b.length else 0)).all holdB)=y):(if y=true then 10 else 0)=headE w b lo hi:=by
 have e:=hd_sh h
 unfold headE
 rw[e] at h2 ⊢
 simp only[BR_,if_true] at h2 ⊢
 rw[show (false:Bool)=decide ((0:Int)>0) from rfl]
 cases y with
 | true=>rw[i_ rfl,j_ (by simpa using h2)]
 | false=>rw[j_ v0_,i_ (by simpa using h2)]
theorem ghead_v (w b:List Int) (nd lo hi:Int) (hw:∀ v∈w,In8 v) (hb:∀ v∈b,In32 v) (wl:w.length≤100000) (bl:b.length≤100000) (h1:In8 lo) (h2:In8 hi):VC M_ 156 ([.agg (hedC w b nd),.agg [i8 lo,i8 hi]]) (i64 (headE w b lo hi)):=by
 have oz0:=@all_v (Nod.mk 0 0 0 0 0 0 0 0 0 w b 0 0 0 0 0 0 0 0) (lo) (hi) (by (exact hd_ok hw hb)) h1 h2 wl bl
 rcases bft ((↑(K_ rngC (allR w b lo hi 0 (decide (0>0)) (if sharedB w b=true then b.length else 0))).length:Int)==0) with hc0|hc0
 ·have gc0:(↑(K_ rngC (allR w b lo hi 0 (decide (0>0)) (if sharedB w b=true then b.length else 0))).length:Int)=0:=m_
  exact (cR_ [r_,.r [] [cr oz0],r_,b_,r_] (i64 9) Tryz.func156 (.d2 oz0 hc0)).weak (AQ_ _) (N_ (by (exact hd9 b0_)))
 ·have gc0:¬(↑(K_ rngC (allR w b lo hi 0 (decide (0>0)) (if sharedB w b=true then b.length else 0))).length:Int)=0:=m_
  have oz2:=@holds_v (allR w b lo hi 0 (decide (0>0)) (if sharedB w b=true then b.length else 0)) (by (exact hd_le w b lo hi bl))
  rcases bft (!(allR w b lo hi 0 (decide (0>0)) (if sharedB w b=true then b.length else 0)).all holdB) with hc1|hc1
  ·have gc1:(allR w b lo hi 0 (decide (0>0)) (if sharedB w b=true then b.length else 0)).all holdB=false:=d0_
   exact (cR_ [r_,.r [] [cr oz0],r_,d_,.r [] [cr oz2],b_,r_] (i64 10) Tryz.func156 (.d4 oz0 hc0 oz2 hc1)).weak (AQ_ _) (N_ (by (exact hd10 (y:=true) b0_ b0_)))
  ·have gc1:(allR w b lo hi 0 (decide (0>0)) (if sharedB w b=true then b.length else 0)).all holdB=true:=d0_
   exact (cR_ [r_,.r [] [cr oz0],r_,d_,.r [] [cr oz2],d_,r_] (i64 0) Tryz.func156 (.d4 oz0 hc0 oz2 hc1)).weak (AQ_ _) (N_ (by (exact hd10 (y:=false) b0_ b0_)))
def rowsR (f:Nat→Rng):Nat→Rng
 | 0=>⟨0,0⟩
 | k+1=>if k=0 then ⟨min (f 0).lo (f 0).lo,max (f 0).hi (f 0).hi⟩ else ⟨min (rowsR f k).lo (f k).lo,max (rowsR f k).hi (f k).hi⟩
theorem shared_v (w b:List Int) (wl:w.length≤100000) (bl:b.length≤100000):VC M_ 108 ([ints .i8 w,ints .i32 b]) (bv (sharedB w b)):=by
 have q4:(b.length:Int)≠0→0≤(w.length:Int) % (b.length:Int)∧(w.length:Int) % (b.length:Int)<(b.length:Int):=fun h=>⟨Int.emod_nonneg _ h,Int.emod_lt_of_pos _ a_⟩
 exact (cR_ [r_,.r [] [o_,o_,o_,o_,p_,.n (((K_ (row1 .i8) w).length:Int) % ((K_ (row1 .i32) b).length:Int)),o_,.sel 2]] (bv (decide (((K_ (row1 .i32) b).length:Int)>0)&&((K_ (row1 .i8) w).length:Int) % ((K_ (row1 .i32) b).length:Int)==0)) Tryz.func108 (.d2 (show decide (((K_ (row1 .i32) b).length:Int)>0)=true→((K_ (row1 .i32) b).length:Int)≠0 from (fun hc0=>have gc0:((K_ (row1 .i32) b).length:Int)>0:=m_;a_)) (show decide (((K_ (row1 .i32) b).length:Int)>0)=true→((K_ (row1 .i8) w).length:Int).tmod ((K_ (row1 .i32) b).length:Int)=((K_ (row1 .i8) w).length:Int) % ((K_ (row1 .i32) b).length:Int) from (fun hc0=>have gc0:((K_ (row1 .i32) b).length:Int)>0:=m_;(CF_ a_))))).weak (AQ_ _) (AB_ (by (simp only[V_,sharedB];rw[Bool.eq_iff_iff];simp only[P_,E_,I_];omega)))
theorem spA_f {v lo hi z:Int} {g:Bool} (h:g=false):spA v lo hi z g=⟨min (v*(lo-z)) (v*(hi-z)),max (v*(lo-z)) (v*(hi-z))⟩:=by subst h;rfl
noncomputable def row24_l_I (w:List Int) (bias lo hi z:Int) (g:Bool) (k:Nat):VS:=stt 72 [(0,ints .i8 w),(2,i8 lo),(3,i8 hi),(4,i8 z),(5,bv g),(14,i64 (rowR w bias lo hi z g k).lo),(15,i64 (rowR w bias lo hi z g k).hi),(16,i64 k)] []
noncomputable def row24_l_Z (w:List Int) (bias lo hi z:Int) (g:Bool):VS:=row24_l_I w bias lo hi z g (w.length)
theorem row24_l_s (w:List Int) (bias lo hi z:Int) (g:Bool) (hw:∀ v∈w,In8 v) (wl:w.length≤1000000) (hb:In32 bias) (h1:In8 lo) (h2:In8 hi) (h3:In8 z) (k:Nat) (hk:k<w.length):VT M_ (fnC Tryz.f140 [1,1,0,1,0,0]) (row24_l_I w bias lo hi z g k) .normal (row24_l_I w bias lo hi z g (k+1)):=by
 have q1:=gt8 hw k
 have q2:=rowR_bd g hw hb h1 h2 h3 k
 have q3:=spA_bd g (v:=w.getD k 0) (gt_of hw (by unfold In8;omega) k) h1 h2 h3
 unfold In8 at h1 h2 h3
 have q4:=prod_bd (a:=w.getD k 0) (b:=lo-z) q1 a_
 have q5:=prod_bd (a:=w.getD k 0) (b:=hi-z) q1 a_
 have oz0:=(h_ (decide ((↑k:Int)<((K_ (row1 .i8) w).length:Int))=true))
 have oz1:=(s_ (0≤(↑k:Int)))
 have oz2:=(map_at (row1 .i8) (0) (l:=w) (i:=k) hk)
 have oz3:=(i6n (w.getD k 0) a_)
 have oz4:=(i6n lo a_)
 have oz5:=(i6n z a_)
 have oz6:=(i6n (lo-z) a_)
 have oz7:=(i6n (w.getD k 0*(lo-z)) a_)
 have oz11:=(i6n hi a_)
 have oz13:=(i6n (hi-z) a_)
 have oz14:=(i6n (w.getD k 0*(hi-z)) a_)
 rcases bft (g) with hc0|hc0
 ·have gc0:g=true:=m_
  have oz16:=(i6n ((rowR w bias lo hi z g k).lo+if 0<if w.getD k 0*(hi-z)<w.getD k 0*(lo-z) then w.getD k 0*(hi-z) else w.getD k 0*(lo-z) then 0 else if w.getD k 0*(hi-z)<w.getD k 0*(lo-z) then w.getD k 0*(hi-z) else w.getD k 0*(lo-z)) a_)
  have oz17:=(i6n ((rowR w bias lo hi z g k).hi+if 0>if w.getD k 0*(hi-z)>w.getD k 0*(lo-z) then w.getD k 0*(hi-z) else w.getD k 0*(lo-z) then 0 else if w.getD k 0*(hi-z)>w.getD k 0*(lo-z) then w.getD k 0*(hi-z) else w.getD k 0*(lo-z)) a_)
  have oz19:=(N_ (k:=.i64) (show (((rowR w bias lo hi z g k).lo+if 0<if w.getD k 0*(hi-z)<w.getD k 0*(lo-z) then w.getD k 0*(hi-z) else w.getD k 0*(lo-z) then 0 else if w.getD k 0*(hi-z)<w.getD k 0*(lo-z) then w.getD k 0*(hi-z) else w.getD k 0*(lo-z)):Int)=((rowR w bias lo hi z g (k+1)).lo) from (by (simp only[rowR,spA,i_ (by assumption:g=true)];(repeat split)<;>omega))))
  have oz20:=(N_ (k:=.i64) (show (((rowR w bias lo hi z g k).hi+if 0>if w.getD k 0*(hi-z)>w.getD k 0*(lo-z) then w.getD k 0*(hi-z) else w.getD k 0*(lo-z) then 0 else if w.getD k 0*(hi-z)>w.getD k 0*(lo-z) then w.getD k 0*(hi-z) else w.getD k 0*(lo-z)):Int)=((rowR w bias lo hi z g (k+1)).hi) from (by (simp only[rowR,spA,i_ (by assumption:g=true)];(repeat split)<;>omega))))
  exact tR_ [r_,b_,.r [] [.row (sO oz2),.n (nO oz3),.n (nO oz4),.n (nO oz5),.n (nO oz6),.n (nO oz7),.row (sO oz2),.n (nO oz3),.n (nO oz11),.n (nO oz5),.n (nO oz13),.n (nO oz14)],r_,r_,b_,r_,r_,.r [] [.n (nO oz16),.n (nO oz17)],.r [] [.n ((↑k:Int)+1)]] [.any (rg [(17,4),(25,45)]),.weak 14 (wO oz19),.weak 15 (wO oz20),.weak 16 (i64 (↑(k+1):Int)),.sort] (.c8 oz0 oz1 oz2 oz3 oz4 oz5 oz6 oz7<|.c8 oz1 oz2 oz3 oz11 oz5 oz13 oz14 hc0<|.d6 oz16 oz17 (i6n ((↑k:Int)+1) a_) oz19 oz20 (wS_ k))
 ·have gc0:g=false:=m_
  have oz16:=(i6n ((rowR w bias lo hi z g k).lo+if w.getD k 0*(hi-z)<w.getD k 0*(lo-z) then w.getD k 0*(hi-z) else w.getD k 0*(lo-z)) a_)
  have oz17:=(i6n ((rowR w bias lo hi z g k).hi+if w.getD k 0*(hi-z)>w.getD k 0*(lo-z) then w.getD k 0*(hi-z) else w.getD k 0*(lo-z)) a_)
  have oz19:=(N_ (k:=.i64) (show (((rowR w bias lo hi z g k).lo+if w.getD k 0*(hi-z)<w.getD k 0*(lo-z) then w.getD k 0*(hi-z) else w.getD k 0*(lo-z)):Int)=((rowR w bias lo hi z g (k+1)).lo) from (by (rw[rowR,spA_f b0_];dsimp only;split<;>omega))))
  have oz20:=(N_ (k:=.i64) (show (((rowR w bias lo hi z g k).hi+if w.getD k 0*(hi-z)>w.getD k 0*(lo-z) then w.getD k 0*(hi-z) else w.getD k 0*(lo-z)):Int)=((rowR w bias lo hi z g (k+1)).hi) from (by (rw[rowR,spA_f b0_];dsimp only;split<;>omega))))
  exact tR_ [r_,b_,.r [] [.row (sO oz2),.n (nO oz3),.n (nO oz4),.n (nO oz5),.n (nO oz6),.n (nO oz7),.row (sO oz2),.n (nO oz3),.n (nO oz11),.n (nO oz5),.n (nO oz13),.n (nO oz14)],r_,r_,d_,.r [] [.n (nO oz16),.n (nO oz17)],.r [] [.n ((↑k:Int)+1)]] [.any (rg [(17,4),(25,35),(64,6)]),.weak 14 (wO oz19),.weak 15 (wO oz20),.weak 16 (i64 (↑(k+1):Int)),.sort] (.c8 oz0 oz1 oz2 oz3 oz4 oz5 oz6 oz7<|.c8 oz1 oz2 oz3 oz11 oz5 oz13 oz14 hc0<|.d6 oz16 oz17 (i6n ((↑k:Int)+1) a_) oz19 oz20 (wS_ k))
theorem row24_l_e (w:List Int) (bias lo hi z:Int) (g:Bool) (hw:∀ v∈w,In8 v) (wl:w.length≤1000000) (hb:In32 bias) (h1:In8 lo) (h2:In8 hi) (h3:In8 z):VT M_ (fnC Tryz.f140 [1,1,0,1,0,0]) (row24_l_I w bias lo hi z g (w.length)) (.exit 0) (row24_l_Z w bias lo hi z g):=by
 exact tR_ [r_,d_] [.any (rg [(25,4)]),.sort] (.d (s0_ (decide ((w.length:Int)<((K_ (row1 .i8) w).length:Int))=false)))
theorem row24_l (w:List Int) (bias lo hi z:Int) (g:Bool) (hw:∀ v∈w,In8 v) (wl:w.length≤1000000) (hb:In32 bias) (h1:In8 lo) (h2:In8 hi) (h3:In8 z):VT M_ (fnC Tryz.f140 [1,1,0,1,0]) (row24_l_I w bias lo hi z g 0) (.exit 0) (row24_l_Z w bias lo hi z g) :=
 VT.loop (fun k=>row24_l_I w bias lo hi z g k) (w.length) (fun k hk=>row24_l_s w bias lo hi z g hw wl hb h1 h2 h3 k hk) (row24_l_e w bias lo hi z g hw wl hb h1 h2 h3) c0_
theorem row24_v (w:List Int) (bias lo hi z:Int) (g:Bool) (hw:∀ v∈w,In8 v) (wl:w.length≤1000000) (hb:In32 bias) (h1:In8 lo) (h2:In8 hi) (h3:In8 z):VC M_ 140 ([ints .i8 w,i32 bias,i8 lo,i8 hi,i8 z,bv g]) (.tup [i64 (rowR w bias lo hi z g w.length).lo,i64 (rowR w bias lo hi z g w.length).hi]):=by
 obtain ⟨b1,b2⟩:=id hb
 have oz0:=(i6n bias a_)
 have oz4:=@row24_l (w) (bias) (lo) (hi) (z) (g) hw wl hb h1 h2 h3
 exact cR_ [r_,.r [] [.n (nO oz0),.n (nO oz0)],r_,.code [.any [1,12,13,21,22,23,24],.weak 15 (i64 (rowR w bias lo hi z g 0).hi),.weak 16 (i64 (↑0:Int)),.sort] (BS_ 0) (zO oz4),r_] _ Tryz.func140 (.d5 oz0 oz0 (N_ (k:=.i64) (show ((bias):Int)=((rowR w bias lo hi z g 0).hi) from t0_)) w0_ oz4)
theorem rows_a {f:Nat→Rng} {k:Nat} (h:((k:Int)==0)=true):(if (f k).lo<(f k).lo then (f k).lo else (f k).lo)=(rowsR f (k+1)).lo:=by
 have:k=0:=by simpa using h
 subst this;rw[rowsR,i_ rfl];dsimp only;split<;>omega
theorem rows_b {f:Nat→Rng} {k:Nat} (h:((k:Int)==0)=true):(if (f k).hi>(f k).hi then (f k).hi else (f k).hi)=(rowsR f (k+1)).hi:=by
 have:k=0:=by simpa using h
 subst this;rw[rowsR,i_ rfl];dsimp only;split<;>omega
theorem rows_c {f:Nat→Rng} {k:Nat} (h:((k:Int)==0)=false):(if (f k).lo<(rowsR f k).lo then (f k).lo else (rowsR f k).lo)=(rowsR f (k+1)).lo:=by
 have:¬ k=0:=by simpa using h
 rw[rowsR,j_ this];dsimp only;split<;>omega
theorem rows_d {f:Nat→Rng} {k:Nat} (h:((k:Int)==0)=false):(if (f k).hi>(rowsR f k).hi then (f k).hi else (rowsR f k).hi)=(rowsR f (k+1)).hi:=by
 have:¬ k=0:=by simpa using h
 rw[rowsR,j_ this];dsimp only;split<;>omega
noncomputable def rows_l_I (w b:List Int) (lo hi z:Int) (g:Bool) (k:Nat):VS:=stt 71 [(0,ints .i8 w),(1,ints .i32 b),(2,i8 lo),(3,i8 hi),(4,i8 z),(5,bv g),(15,i64 (rowsR (spRow w b lo hi z g) k).lo),(16,i64 (rowsR (spRow w b lo hi z g) k).hi),(17,i64 ((w.length:Int)/(b.length:Int))),(18,i64 k)] []
noncomputable def rows_l_Z (w b:List Int) (lo hi z:Int) (g:Bool):VS:=rows_l_I w b lo hi z g (b.length)
theorem rows_l_s (w b:List Int) (lo hi z:Int) (g:Bool) (hw:∀ v∈w,In8 v) (hb:∀ v∈b,In32 v) (wl:w.length≤100000) (bl:b.length≤100000) (b0:0<b.length) (h1:In8 lo) (h2:In8 hi) (h3:In8 z) (k:Nat) (hk:k<b.length):VT M_ (fnC Tryz.f109 [1,1,1,0,1,0,0]) (rows_l_I w b lo hi z g k) .normal (rows_l_I w b lo hi z g (k+1)):=by
 have q1:=share_bd (m:=w.length) hk
 have q2:=gt32 hb k
 have oz0:=(h_ (decide ((↑k:Int)<((K_ (row1 .i32) b).length:Int))=true))
 have oz1:=(i6n ((↑k:Int)*((w.length:Int)/(b.length:Int))) a_)
 have oz2:=(i6n ((↑k:Int)+1) a_)
 have oz3:=(i6n (((↑k:Int)+1)*((w.length:Int)/(b.length:Int))) a_)
 have oz4:=(s_ ((↑k:Int)*((w.length:Int)/(b.length:Int))=(↑((↑k:Int)*((w.length:Int)/(b.length:Int))).toNat:Int)))
 have oz5:=(s_ (((↑k:Int)+1)*((w.length:Int)/(b.length:Int))=(↑(((↑k:Int)+1)*((w.length:Int)/(b.length:Int))).toNat:Int)))
 have oz6:=(s_ (((↑k:Int)*((w.length:Int)/(b.length:Int))).toNat≤(((↑k:Int)+1)*((w.length:Int)/(b.length:Int))).toNat))
 have oz7:=(h_ ((((↑k:Int)+1)*((w.length:Int)/(b.length:Int))).toNat≤(K_ (row1 .i8) w).length))
 have oz8:=(s_ (0≤(↑k:Int)))
 have oz9:=(map_at (row1 .i32) (0) (l:=b) (i:=k) hk)
 have oz10:=(show WeakL [AV.sl 1 (Q_ ((((↑k:Int)+1)*((w.length:Int)/(b.length:Int))).toNat-((↑k:Int)*((w.length:Int)/(b.length:Int))).toNat) (O_ ((↑k:Int)*((w.length:Int)/(b.length:Int))).toNat (K_ (row1 .i8) w))),i32 (b.getD k 0),i8 lo,i8 hi,i8 z,bv g] [AV.sl 1 (K_ (row1 .i8) (Q_ ((((↑k:Int)+1)*((w.length:Int)/(b.length:Int))).toNat-((↑k:Int)*((w.length:Int)/(b.length:Int))).toNat) (O_ ((↑k:Int)*((w.length:Int)/(b.length:Int))).toNat w))),i32 (b.getD k 0),i8 lo,i8 hi,i8 z,bv g] from (.cons (AH_ (rows_to (row1 .i8) (r:=Q_ ((((↑k:Int)+1)*((w.length:Int)/(b.length:Int))).toNat-((↑k:Int)*((w.length:Int)/(b.length:Int))).toNat) (O_ ((↑k:Int)*((w.length:Int)/(b.length:Int))).toNat (K_ (row1 .i8) w))) (l:=Q_ ((((↑k:Int)+1)*((w.length:Int)/(b.length:Int))).toNat-((↑k:Int)*((w.length:Int)/(b.length:Int))).toNat) (O_ ((↑k:Int)*((w.length:Int)/(b.length:Int))).toNat w)) (m:=Q_ ((((↑k:Int)+1)*((w.length:Int)/(b.length:Int))).toNat-((↑k:Int)*((w.length:Int)/(b.length:Int))).toNat) (O_ ((↑k:Int)*((w.length:Int)/(b.length:Int))).toNat w)) g_ rfl)) (.cons (.refl _) (.cons (.refl _) (.cons (.refl _) (.cons (.refl _) (.cons (.refl _) .nil)))))))
 have oz11:=@row24_v (Q_ ((((↑k:Int)+1)*((w.length:Int)/(b.length:Int))).toNat-((↑k:Int)*((w.length:Int)/(b.length:Int))).toNat) (O_ ((↑k:Int)*((w.length:Int)/(b.length:Int))).toNat w)) (b.getD k 0) (lo) (hi) (z) (g) (by (exact fun v hv=>hw v (mem_td hv))) (by (rw[BL_,AS_];omega)) q2 h1 h2 h3
 rcases bft ((↑k:Int)==0) with hc0|hc0
 ·have gc0:(↑k:Int)=0:=bet hc0
  have oz14:=(N_ (k:=.i64) (show ((if (rowR (Q_ ((((↑k:Int)+1)*((w.length:Int)/(b.length:Int))).toNat-((↑k:Int)*((w.length:Int)/(b.length:Int))).toNat) (O_ ((↑k:Int)*((w.length:Int)/(b.length:Int))).toNat w)) (b.getD k 0) lo hi z g (Q_ ((((↑k:Int)+1)*((w.length:Int)/(b.length:Int))).toNat-((↑k:Int)*((w.length:Int)/(b.length:Int))).toNat) (O_ ((↑k:Int)*((w.length:Int)/(b.length:Int))).toNat w)).length).lo<(rowR (Q_ ((((↑k:Int)+1)*((w.length:Int)/(b.length:Int))).toNat-((↑k:Int)*((w.length:Int)/(b.length:Int))).toNat) (O_ ((↑k:Int)*((w.length:Int)/(b.length:Int))).toNat w)) (b.getD k 0) lo hi z g (Q_ ((((↑k:Int)+1)*((w.length:Int)/(b.length:Int))).toNat-((↑k:Int)*((w.length:Int)/(b.length:Int))).toNat) (O_ ((↑k:Int)*((w.length:Int)/(b.length:Int))).toNat w)).length).lo then (rowR (Q_ ((((↑k:Int)+1)*((w.length:Int)/(b.length:Int))).toNat-((↑k:Int)*((w.length:Int)/(b.length:Int))).toNat) (O_ ((↑k:Int)*((w.length:Int)/(b.length:Int))).toNat w)) (b.getD k 0) lo hi z g (Q_ ((((↑k:Int)+1)*((w.length:Int)/(b.length:Int))).toNat-((↑k:Int)*((w.length:Int)/(b.length:Int))).toNat) (O_ ((↑k:Int)*((w.length:Int)/(b.length:Int))).toNat w)).length).lo else (rowR (Q_ ((((↑k:Int)+1)*((w.length:Int)/(b.length:Int))).toNat-((↑k:Int)*((w.length:Int)/(b.length:Int))).toNat) (O_ ((↑k:Int)*((w.length:Int)/(b.length:Int))).toNat w)) (b.getD k 0) lo hi z g (Q_ ((((↑k:Int)+1)*((w.length:Int)/(b.length:Int))).toNat-((↑k:Int)*((w.length:Int)/(b.length:Int))).toNat) (O_ ((↑k:Int)*((w.length:Int)/(b.length:Int))).toNat w)).length).lo):Int)=((rowsR (spRow w b lo hi z g) (k+1)).lo) from (by (refine rows_a (f:=spRow w b lo hi z g) ?_;assumption))))
  have oz15:=(N_ (k:=.i64) (show ((if (rowR (Q_ ((((↑k:Int)+1)*((w.length:Int)/(b.length:Int))).toNat-((↑k:Int)*((w.length:Int)/(b.length:Int))).toNat) (O_ ((↑k:Int)*((w.length:Int)/(b.length:Int))).toNat w)) (b.getD k 0) lo hi z g (Q_ ((((↑k:Int)+1)*((w.length:Int)/(b.length:Int))).toNat-((↑k:Int)*((w.length:Int)/(b.length:Int))).toNat) (O_ ((↑k:Int)*((w.length:Int)/(b.length:Int))).toNat w)).length).hi>(rowR (Q_ ((((↑k:Int)+1)*((w.length:Int)/(b.length:Int))).toNat-((↑k:Int)*((w.length:Int)/(b.length:Int))).toNat) (O_ ((↑k:Int)*((w.length:Int)/(b.length:Int))).toNat w)) (b.getD k 0) lo hi z g (Q_ ((((↑k:Int)+1)*((w.length:Int)/(b.length:Int))).toNat-((↑k:Int)*((w.length:Int)/(b.length:Int))).toNat) (O_ ((↑k:Int)*((w.length:Int)/(b.length:Int))).toNat w)).length).hi then (rowR (Q_ ((((↑k:Int)+1)*((w.length:Int)/(b.length:Int))).toNat-((↑k:Int)*((w.length:Int)/(b.length:Int))).toNat) (O_ ((↑k:Int)*((w.length:Int)/(b.length:Int))).toNat w)) (b.getD k 0) lo hi z g (Q_ ((((↑k:Int)+1)*((w.length:Int)/(b.length:Int))).toNat-((↑k:Int)*((w.length:Int)/(b.length:Int))).toNat) (O_ ((↑k:Int)*((w.length:Int)/(b.length:Int))).toNat w)).length).hi else (rowR (Q_ ((((↑k:Int)+1)*((w.length:Int)/(b.length:Int))).toNat-((↑k:Int)*((w.length:Int)/(b.length:Int))).toNat) (O_ ((↑k:Int)*((w.length:Int)/(b.length:Int))).toNat w)) (b.getD k 0) lo hi z g (Q_ ((((↑k:Int)+1)*((w.length:Int)/(b.length:Int))).toNat-((↑k:Int)*((w.length:Int)/(b.length:Int))).toNat) (O_ ((↑k:Int)*((w.length:Int)/(b.length:Int))).toNat w)).length).hi):Int)=((rowsR (spRow w b lo hi z g) (k+1)).hi) from (by (refine rows_b (f:=spRow w b lo hi z g) ?_;assumption))))
  exact tR_ [r_,b_,.r [] [.n (nO oz1),.n (nO oz2),.n (nO oz3),.nats ((↑k:Int)*((w.length:Int)/(b.length:Int))).toNat (((↑k:Int)+1)*((w.length:Int)/(b.length:Int))).toNat,.row (sO oz9),ca oz11],r_,b_,r_,r_,.r [] [.n (nO oz2)]] [.any (rg [(19,2),(26,37)]),.weak 15 (wO oz14),.weak 16 (wO oz15),.weak 18 (i64 (↑(k+1):Int)),.sort] (.c8 oz0 oz1 oz2 oz3 oz4 oz5 oz6 oz7<|.c8 oz8 oz9 oz10 oz11 hc0 oz2 oz14 oz15<|.d (wS_ k))
 ·have gc0:¬(↑k:Int)=0:=bef hc0
  have oz14:=(N_ (k:=.i64) (show ((if (rowR (Q_ ((((↑k:Int)+1)*((w.length:Int)/(b.length:Int))).toNat-((↑k:Int)*((w.length:Int)/(b.length:Int))).toNat) (O_ ((↑k:Int)*((w.length:Int)/(b.length:Int))).toNat w)) (b.getD k 0) lo hi z g (Q_ ((((↑k:Int)+1)*((w.length:Int)/(b.length:Int))).toNat-((↑k:Int)*((w.length:Int)/(b.length:Int))).toNat) (O_ ((↑k:Int)*((w.length:Int)/(b.length:Int))).toNat w)).length).lo<(rowsR (spRow w b lo hi z g) k).lo then (rowR (Q_ ((((↑k:Int)+1)*((w.length:Int)/(b.length:Int))).toNat-((↑k:Int)*((w.length:Int)/(b.length:Int))).toNat) (O_ ((↑k:Int)*((w.length:Int)/(b.length:Int))).toNat w)) (b.getD k 0) lo hi z g (Q_ ((((↑k:Int)+1)*((w.length:Int)/(b.length:Int))).toNat-((↑k:Int)*((w.length:Int)/(b.length:Int))).toNat) (O_ ((↑k:Int)*((w.length:Int)/(b.length:Int))).toNat w)).length).lo else (rowsR (spRow w b lo hi z g) k).lo):Int)=((rowsR (spRow w b lo hi z g) (k+1)).lo) from (by (refine rows_c (f:=spRow w b lo hi z g) ?_;assumption))))
  have oz15:=(N_ (k:=.i64) (show ((if (rowR (Q_ ((((↑k:Int)+1)*((w.length:Int)/(b.length:Int))).toNat-((↑k:Int)*((w.length:Int)/(b.length:Int))).toNat) (O_ ((↑k:Int)*((w.length:Int)/(b.length:Int))).toNat w)) (b.getD k 0) lo hi z g (Q_ ((((↑k:Int)+1)*((w.length:Int)/(b.length:Int))).toNat-((↑k:Int)*((w.length:Int)/(b.length:Int))).toNat) (O_ ((↑k:Int)*((w.length:Int)/(b.length:Int))).toNat w)).length).hi>(rowsR (spRow w b lo hi z g) k).hi then (rowR (Q_ ((((↑k:Int)+1)*((w.length:Int)/(b.length:Int))).toNat-((↑k:Int)*((w.length:Int)/(b.length:Int))).toNat) (O_ ((↑k:Int)*((w.length:Int)/(b.length:Int))).toNat w)) (b.getD k 0) lo hi z g (Q_ ((((↑k:Int)+1)*((w.length:Int)/(b.length:Int))).toNat-((↑k:Int)*((w.length:Int)/(b.length:Int))).toNat) (O_ ((↑k:Int)*((w.length:Int)/(b.length:Int))).toNat w)).length).hi else (rowsR (spRow w b lo hi z g) k).hi):Int)=((rowsR (spRow w b lo hi z g) (k+1)).hi) from (by (refine rows_d (f:=spRow w b lo hi z g) ?_;assumption))))
  exact tR_ [r_,b_,.r [] [.n (nO oz1),.n (nO oz2),.n (nO oz3),.nats ((↑k:Int)*((w.length:Int)/(b.length:Int))).toNat (((↑k:Int)+1)*((w.length:Int)/(b.length:Int))).toNat,.row (sO oz9),ca oz11],r_,d_,r_,.r [] [.n (nO oz2)]] [.any (rg [(19,2),(26,29),(57,6)]),.weak 15 (wO oz14),.weak 16 (wO oz15),.weak 18 (i64 (↑(k+1):Int)),.sort] (.c8 oz0 oz1 oz2 oz3 oz4 oz5 oz6 oz7<|.c8 oz8 oz9 oz10 oz11 hc0 oz2 oz14 oz15<|.d (wS_ k))
theorem rows_l_e (w b:List Int) (lo hi z:Int) (g:Bool) (hw:∀ v∈w,In8 v) (hb:∀ v∈b,In32 v) (wl:w.length≤100000) (bl:b.length≤100000) (b0:0<b.length) (h1:In8 lo) (h2:In8 hi) (h3:In8 z):VT M_ (fnC Tryz.f109 [1,1,1,0,1,0,0]) (rows_l_I w b lo hi z g (b.length)) (.exit 0) (rows_l_Z w b lo hi z g):=by
 exact tR_ [r_,d_] [.any (rg [(26,4)]),.sort] (.d (s0_ (decide ((b.length:Int)<((K_ (row1 .i32) b).length:Int))=false)))
theorem rows_l (w b:List Int) (lo hi z:Int) (g:Bool) (hw:∀ v∈w,In8 v) (hb:∀ v∈b,In32 v) (wl:w.length≤100000) (bl:b.length≤100000) (b0:0<b.length) (h1:In8 lo) (h2:In8 hi) (h3:In8 z):VT M_ (fnC Tryz.f109 [1,1,1,0,1,0]) (rows_l_I w b lo hi z g 0) (.exit 0) (rows_l_Z w b lo hi z g) :=
 VT.loop (fun k=>rows_l_I w b lo hi z g k) (b.length) (fun k hk=>rows_l_s w b lo hi z g hw hb wl bl b0 h1 h2 h3 k hk) (rows_l_e w b lo hi z g hw hb wl bl b0 h1 h2 h3) c0_
theorem rows_v (w b:List Int) (lo hi z:Int) (g:Bool) (hw:∀ v∈w,In8 v) (hb:∀ v∈b,In32 v) (wl:w.length≤100000) (bl:b.length≤100000) (b0:0<b.length) (h1:In8 lo) (h2:In8 hi) (h3:In8 z):VC M_ 109 ([ints .i8 w,ints .i32 b,i8 lo,i8 hi,i8 z,bv g]) (.tup [i64 (rowsR (spRow w b lo hi z g) b.length).lo,i64 (rowsR (spRow w b lo hi z g) b.length).hi,bv (decide ((rowsR (spRow w b lo hi z g) b.length).lo ≥ -2147483648)&&decide ((rowsR (spRow w b lo hi z g) b.length).hi≤2147483647))]):=by
 have q1:(0≤(w.length:Int)/(b.length:Int)∧(w.length:Int)/(b.length:Int)≤w.length):=⟨Int.ediv_nonneg a_ a_,Int.ediv_le_self _ a_⟩
 have oz1:=(show IntKind.i64.wrap (((K_ (row1 .i8) w).length:Int).tdiv ((K_ (row1 .i32) b).length:Int))=((K_ (row1 .i8) w).length:Int)/((K_ (row1 .i32) b).length:Int) from (Eq.trans (congrArg _ (BH_ a_)) (by with_reducible exact i6n _ (by simp only[V_] at *;omega))))
 have oz4:=(N_ (k:=.i64) (show ((((K_ (row1 .i8) w).length:Int)/((K_ (row1 .i32) b).length:Int)):Int)=((w.length:Int)/(b.length:Int)) from k0_))
 have oz6:=@rows_l (w) (b) (lo) (hi) (z) (g) hw hb wl bl b0 h1 h2 h3
 exact cR_ [r_,r_,.r [] [.n (((K_ (row1 .i8) w).length:Int)/((K_ (row1 .i32) b).length:Int))],r_,.code [.any (rg [(12,3),(21,5)]),.weak 15 (i64 (rowsR (spRow w b lo hi z g) 0).lo),.weak 16 (i64 (rowsR (spRow w b lo hi z g) 0).hi),.weak 17 (wO oz4),.weak 18 (i64 (↑0:Int)),.sort] (BS_ 0) (zO oz6),.r [] [o_,o_,.sel 2]] _ Tryz.func109 (.d7 (show ((K_ (row1 .i32) b).length:Int)≠0 by (simp only[V_] at *;omega)) oz1 (N_ (k:=.i64) (show ((0):Int)=((rowsR (spRow w b lo hi z g) 0).lo) from t0_)) (N_ (k:=.i64) (show ((0):Int)=((rowsR (spRow w b lo hi z g) 0).hi) from t0_)) oz4 w0_ oz6)
theorem rowsR_iff (f:Nat→Rng):∀ k,((rowsR f (k+1)).lo ≥ -2147483648∧(rowsR f (k+1)).hi≤2147483647)↔∀ i,i<k+1→holdB (f i)=true
 | 0=>by
  rw[show rowsR f (0+1)=⟨min (f 0).lo (f 0).lo,max (f 0).hi (f 0).hi⟩ by rw[rowsR,i_ rfl]]
  simp only[holdB,P_,E_]
  constructor
  ·intro h i hi
   rw[show i=0 by omega];omega
  ·intro h;have:=h 0 a_;omega
 | k+1=>by
  have ih:=rowsR_iff f k
  rw[rowsR,j_ a_]
  dsimp only
  constructor
  ·intro h i hi
   by_cases e:i=k+1
   ·subst e;simp only[holdB,P_,E_];omega
   ·exact ih.1 a_ i a_
  ·intro h
   have h1:=ih.2 fun i hi=>h i a_
   have h2:=h (k+1) a_
   simp only[holdB,P_,E_] at h2
   omega
theorem rows_all {w b:List Int} {lo hi z:Int} {g:Bool} (b0:0<b.length):(decide ((rowsR (spRow w b lo hi z g) b.length).lo ≥ -2147483648)&&decide ((rowsR (spRow w b lo hi z g) b.length).hi≤2147483647))=(allR w b lo hi z g b.length).all holdB:=by
 obtain ⟨n,hn⟩:∃ n,b.length=n+1:=⟨b.length-1,by omega⟩
 rw[hn,Bool.eq_iff_iff,P_,E_,E_,rowsR_iff,allR,List.all_map,List.all_eq_true]
 constructor
 ·intro h i hi;exact h i (List.mem_range.1 hi)
 ·intro h i hi;exact h i (List.mem_range.2 hi)
theorem refHead_v (w b:List Int) (nd lo hi:Int) (hw:∀ v∈w,In8 v) (hb:∀ v∈b,In32 v) (wl:w.length≤100000) (bl:b.length≤100000) (h1:In8 lo) (h2:In8 hi):VC M_ 76 ([.agg (hedC w b nd),.agg [i8 lo,i8 hi]]) (i64 (headE w b lo hi)):=by
 have q1:=@hd_pos w b
 have q2:=@rows_all w b lo hi 0 false
 have oz0:=@shared_v (w) (b) wl bl
 rcases bft (!sharedB w b) with hc0|hc0
 ·have gc0:sharedB w b=false:=m_
  exact (cR_ [r_,.r [] [cr oz0],b_,r_] (i64 9) Tryz.func76 (.d2 oz0 hc0)).weak (AQ_ _) (N_ (by (unfold headE;simp_all;done)))
 ·have gc0:sharedB w b=true:=m_
  have oz2:=@rows_v (w) (b) (lo) (hi) (0) (false) hw hb wl bl (by (exact q1 e1_)) h1 h2 a_
  rcases bft (!(decide ((rowsR (spRow w b lo hi 0 false) b.length).lo ≥ -2147483648)&&decide ((rowsR (spRow w b lo hi 0 false) b.length).hi≤2147483647))) with hc1|hc1
  ·have gc1:¬(rowsR (spRow w b lo hi 0 false) b.length).lo ≥ -2147483648∨¬(rowsR (spRow w b lo hi 0 false) b.length).hi≤2147483647:=gc0_ hc1
   exact (cR_ [r_,.r [] [cr oz0],d_,.r [] [cr oz2],r_,b_,r_] (i64 10) Tryz.func76 (.d4 oz0 hc0 oz2 hc1)).weak (AQ_ _) (N_ (by (unfold headE;simp_all;done)))
  ·have gc1:(rowsR (spRow w b lo hi 0 false) b.length).lo ≥ -2147483648∧(rowsR (spRow w b lo hi 0 false) b.length).hi≤2147483647:=gc0_ hc1
   exact (cR_ [r_,.r [] [cr oz0],d_,.r [] [cr oz2],r_,d_,r_] (i64 0) Tryz.func76 (.d4 oz0 hc0 oz2 hc1)).weak (AQ_ _) (N_ (by (unfold headE;simp_all;done)))
abbrev rchC (r:Rng):List AV:=[i8 r.lo,i8 r.hi]
abbrev rch (r:Rng):AV:=.agg (rchC r)
def bothR (l:List Rng):Nat→Rng
 | 0=>l.getD 0 default
 | k+1=>⟨min (bothR l k).lo (l.getD k default).lo,max (bothR l k).hi (l.getD k default).hi⟩
noncomputable def both_l_I (l:List Rng) (k:Nat):VS:=stt 32 [(2,.ptr 2 0 0),(3,.ptr 3 0 0),(13,.sl 2 (l.map rngC)),(14,i64 l.length),(15,i64 k)] [(2,.var [i64 0,i64 0]),(3,.var (rngC (bothR l k)))]
noncomputable def both_l_Z (l:List Rng):VS:=both_l_I l (l.length)
theorem both_l_s (l:List Rng) (hl:l.length≤1000000) (k:Nat) (hk:k<l.length):VT M_ (fnC Tryz.f211 [1,1,1,0,1,0,0]) (both_l_I l k) .normal (both_l_I l (k+1)):=by
 have oz2:=(map_at (rngC) (default) (l:=l) (i:=k) hk)
 exact tR_ [r_,b_,.r [] [.row (sO oz2)],r_,.r [] [.n ((↑k:Int)+1)]] [.any (rg [(5,1),(16,15)]),.drop [5],.weak 15 (i64 (↑(k+1):Int)),.blk 3 (Blk.var [i64 (bothR l (k+1)).lo,i64 (bothR l (k+1)).hi]),.sort] (.d6 (decide_eq_true (p:=((↑k:Int)<(l.length:Int))) a_) (s_ (0≤(↑k:Int))) oz2 (i6n ((↑k:Int)+1) a_) (wS_ k) (show BlkW (Blk.var [i64 (if (l.getD k default).lo<(bothR l k).lo then (l.getD k default).lo else (bothR l k).lo),i64 (if (l.getD k default).hi>(bothR l k).hi then (l.getD k default).hi else (bothR l k).hi)]) (Blk.var [i64 (bothR l (k+1)).lo,i64 (bothR l (k+1)).hi]) from (BlkW.var (m:=[i64 (bothR l (k+1)).lo,i64 (bothR l (k+1)).hi]) (.cons (N_ (by (simp only[bothR];split<;>omega))) (.cons (N_ (by (simp only[bothR];split<;>omega))) .nil)))))
theorem both_l_e (l:List Rng) (hl:l.length≤1000000):VT M_ (fnC Tryz.f211 [1,1,1,0,1,0,0]) (both_l_I l (l.length)) (.exit 0) (both_l_Z l):=by
 exact tR_ [r_,d_] [.any [16],.sort] (.d (decide_eq_false (p:=((l.length:Int)<(l.length:Int))) a_))
theorem both_l (l:List Rng) (hl:l.length≤1000000):VT M_ (fnC Tryz.f211 [1,1,1,0,1,0]) (both_l_I l 0) (.exit 0) (both_l_Z l) :=
 VT.loop (fun k=>both_l_I l k) (l.length) (fun k hk=>both_l_s l hl k hk) (both_l_e l hl) c0_
theorem z3_:(0:Int)≤(0:Int):=by omega
theorem both_v (l:List Rng) (hl:l.length≤1000000):VC M_ 211 ([.sl 2 (l.map rngC)]) (rng (bothR l l.length)):=by
 rcases bft (((K_ rngC l).length:Int)==0) with hc0|hc0
 ·have gc0:((K_ rngC l).length:Int)=0:=bet hc0
  exact (cR_ [r_,r_,b_,r_] (AV.agg [i64 0,i64 0]) Tryz.func211 (.d hc0)).weak (AQ_ _) (AZ_ (.cons (N_ (by (have:l=[]:=BK_ (by simp only[V_] at *;omega);subst this;rfl))) (.cons (N_ (by (have:l=[]:=BK_ (by simp only[V_] at *;omega);subst this;rfl))) .nil)))
 ·have gc0:¬((K_ rngC l).length:Int)=0:=bef hc0
  have oz2:=(map_at (rngC) (default) (l:=l) (i:=0) (by (simp only[V_] at *;omega)))
  have oz6:=@both_l (l) hl
  exact cR_ [r_,r_,d_,.r [] [.row (sO oz2)],r_,.code [.any [0,6,7,8,10,11,12],.weak 14 (i64 (l.length:Int)),.weak 15 (i64 (↑0:Int)),.blk 3 (Blk.var [i64 (bothR l 0).lo,i64 (bothR l 0).hi]),.sort] (BS_ 0) (zO oz6),r_] _ Tryz.func211 (.d7 hc0 z3_ oz2 (N_ (k:=.i64) (show ((((K_ rngC l).length:Int)):Int)=((l.length:Int)) from k0_)) w0_ (show BlkW (Blk.var [i64 (l.getD 0 default).lo,i64 (l.getD 0 default).hi]) (Blk.var [i64 (bothR l 0).lo,i64 (bothR l 0).hi]) from (BlkW.var (m:=[i64 (bothR l 0).lo,i64 (bothR l 0).hi]) (.cons (N_ t0_) (.cons (N_ t0_) .nil)))) oz6)
def held32 (v:Int):Int:=if 2147483647<if -2147483648>v then -2147483648 else v then 2147483647 else if -2147483648>v then -2147483648 else v
theorem held32_in (v:Int):In32 (held32 v):=by unfold held32 In32;omega
theorem min_if (a b:Int):(if b<a then b else a)=min a b:=by omega
theorem max_if (a b:Int):(if b>a then b else a)=max a b:=by omega
def afterE (r:Rng) (n:Nod):Rng:=⟨min (heldQ (held32 r.lo) n.qm n.qs n.qz n.lo n.hi) (heldQ (held32 r.hi) n.qm n.qs n.qz n.lo n.hi),max (heldQ (held32 r.lo) n.qm n.qs n.qz n.lo n.hi) (heldQ (held32 r.hi) n.qm n.qs n.qz n.lo n.hi)⟩
theorem after_v (r:Rng) (n:Nod) (ok:n.Ok):VC M_ 210 ([rng r,.agg [i32 n.qm,i64 n.qs,i8 n.qz],i8 n.lo,i8 n.hi]) (.tup [i8 (afterE r n).lo,i8 (afterE r n).hi]):=by
 have ok_qm:=ok.qm
 have ok_qz:=ok.qz
 have ok_lo:=ok.lo
 have ok_hi:=ok.hi
 have q1:=held32_in r.lo
 have q2:=held32_in r.hi
 have oz0:=(AI_ (if 2147483647<if -2147483648>r.lo then -2147483648 else r.lo then 2147483647 else if -2147483648>r.lo then -2147483648 else r.lo) a_)
 have oz1:=@held_v (if 2147483647<if -2147483648>r.lo then -2147483648 else r.lo then 2147483647 else if -2147483648>r.lo then -2147483648 else r.lo) (n.qm) (n.qs) (n.qz) (n.lo) (n.hi) a_ ok_qm ok_qz ok_lo ok_hi
 have oz2:=(AI_ (if 2147483647<if -2147483648>r.hi then -2147483648 else r.hi then 2147483647 else if -2147483648>r.hi then -2147483648 else r.hi) a_)
 have oz3:=@held_v (if 2147483647<if -2147483648>r.hi then -2147483648 else r.hi then 2147483647 else if -2147483648>r.hi then -2147483648 else r.hi) (n.qm) (n.qs) (n.qz) (n.lo) (n.hi) a_ ok_qm ok_qz ok_lo ok_hi
 exact (cR_ [r_,.r [] [.n (nO oz0),cr oz1],.r [] [.n (nO oz2),cr oz3],r_] (AV.tup [i8 (if heldQ (if 2147483647<if -2147483648>r.hi then -2147483648 else r.hi then 2147483647 else if -2147483648>r.hi then -2147483648 else r.hi) n.qm n.qs n.qz n.lo n.hi<heldQ (if 2147483647<if -2147483648>r.lo then -2147483648 else r.lo then 2147483647 else if -2147483648>r.lo then -2147483648 else r.lo) n.qm n.qs n.qz n.lo n.hi then heldQ (if 2147483647<if -2147483648>r.hi then -2147483648 else r.hi then 2147483647 else if -2147483648>r.hi then -2147483648 else r.hi) n.qm n.qs n.qz n.lo n.hi else heldQ (if 2147483647<if -2147483648>r.lo then -2147483648 else r.lo then 2147483647 else if -2147483648>r.lo then -2147483648 else r.lo) n.qm n.qs n.qz n.lo n.hi),i8 (if heldQ (if 2147483647<if -2147483648>r.hi then -2147483648 else r.hi then 2147483647 else if -2147483648>r.hi then -2147483648 else r.hi) n.qm n.qs n.qz n.lo n.hi>heldQ (if 2147483647<if -2147483648>r.lo then -2147483648 else r.lo then 2147483647 else if -2147483648>r.lo then -2147483648 else r.lo) n.qm n.qs n.qz n.lo n.hi then heldQ (if 2147483647<if -2147483648>r.hi then -2147483648 else r.hi then 2147483647 else if -2147483648>r.hi then -2147483648 else r.hi) n.qm n.qs n.qz n.lo n.hi else heldQ (if 2147483647<if -2147483648>r.lo then -2147483648 else r.lo then 2147483647 else if -2147483648>r.lo then -2147483648 else r.lo) n.qm n.qs n.qz n.lo n.hi)]) Tryz.func210 (.d4 oz0 oz1 oz2 oz3)).weak (AQ_ _) (AA_ (.cons (N_ (by (exact min_if _ _))) (.cons (N_ (by (exact max_if _ _))) .nil)))
theorem clamp_in (v:Int) {lo hi:Int} (h1:In8 lo) (h2:In8 hi):In8 (clampI v lo hi):=by
 unfold clampI;split
 ·exact h1
 ·split
  ·exact h2
  ·omega
theorem refHeld_v (a m s z lo hi:Int) (ha:In32 a) (hm:In32 m) (hz:In8 z) (hl:In8 lo) (hh:In8 hi):VC M_ 170 ([i32 a,.agg [i32 m,i64 s,i8 z],i8 lo,i8 hi]) (i8 (heldQ a m s z lo hi)):=by
 have q1:=mul_bd32 a m ha.1 ha.2 hm.1 hm.2
 have q2:=rnd_bd (a*m) s 4611686018427387904 q1.1 q1.2
 have q3:=clamp_in (rnd (a*m) s+z) hl hh
 have oz0:=@refRight_v (m) (s) (z)
 rcases bft (!rightQ m s) with hc0|hc0
 ·have gc0:rightQ m s=false:=m_
  exact (cR_ [r_,.r [] [cr oz0],b_,r_] (i8 0) Tryz.func170 (.d2 oz0 hc0)).weak (AQ_ _) (N_ (by (unfold heldQ;rw[j_ e1_])))
 ·have gc0:rightQ m s=true:=m_
  have oz5:=@refRound_v (a*m) (s) a_
  have oz10:=@refSatHeld_v (rnd (a*m) s+z) (lo) (hi)
  have oz11:=(IntWalk.i8_in (clampI (rnd (a*m) s+z) lo hi) a_)
  exact (cR_ [r_,.r [] [cr oz0],d_,.r [] [.n a,.n m,.n (a*m),cr oz5,.n z,.n (rnd (a*m) s+z)],.r [] [.n lo,.n hi,cr oz10,.n (nO oz11)]] (i8 (clampI (rnd (a*m) s+z) lo hi)) Tryz.func170 (.c8 oz0 hc0 (i6n a a_) (i6n m a_) (i6n (a*m) a_) oz5 (i6n z a_) (i6n (rnd (a*m) s+z) a_)<|.d4 (i6n lo a_) (i6n hi a_) oz10 oz11)).weak (AQ_ _) (N_ (by (unfold heldQ;rw[i_ e1_])))
theorem refAfter_v (r:Rng) (n:Nod) (ok:n.Ok):VC M_ 137 ([i64 r.lo,i64 r.hi,.agg [i32 n.qm,i64 n.qs,i8 n.qz],i8 n.lo,i8 n.hi]) (.tup [i8 (afterE r n).lo,i8 (afterE r n).hi]):=by
 have ok_qm:=ok.qm
 have ok_qz:=ok.qz
 have ok_lo:=ok.lo
 have ok_hi:=ok.hi
 have q1:=held32_in r.lo
 have q2:=held32_in r.hi
 have oz0:=(AI_ (if 2147483647<if -2147483648>r.lo then -2147483648 else r.lo then 2147483647 else if -2147483648>r.lo then -2147483648 else r.lo) a_)
 have oz1:=@refHeld_v (if 2147483647<if -2147483648>r.lo then -2147483648 else r.lo then 2147483647 else if -2147483648>r.lo then -2147483648 else r.lo) (n.qm) (n.qs) (n.qz) (n.lo) (n.hi) a_ ok_qm ok_qz ok_lo ok_hi
 have oz2:=(AI_ (if 2147483647<if -2147483648>r.hi then -2147483648 else r.hi then 2147483647 else if -2147483648>r.hi then -2147483648 else r.hi) a_)
 have oz3:=@refHeld_v (if 2147483647<if -2147483648>r.hi then -2147483648 else r.hi then 2147483647 else if -2147483648>r.hi then -2147483648 else r.hi) (n.qm) (n.qs) (n.qz) (n.lo) (n.hi) a_ ok_qm ok_qz ok_lo ok_hi
 exact (cR_ [r_,.r [] [.n (nO oz0),cr oz1],.r [] [.n (nO oz2),cr oz3],r_] (AV.tup [i8 (if heldQ (if 2147483647<if -2147483648>r.hi then -2147483648 else r.hi then 2147483647 else if -2147483648>r.hi then -2147483648 else r.hi) n.qm n.qs n.qz n.lo n.hi<heldQ (if 2147483647<if -2147483648>r.lo then -2147483648 else r.lo then 2147483647 else if -2147483648>r.lo then -2147483648 else r.lo) n.qm n.qs n.qz n.lo n.hi then heldQ (if 2147483647<if -2147483648>r.hi then -2147483648 else r.hi then 2147483647 else if -2147483648>r.hi then -2147483648 else r.hi) n.qm n.qs n.qz n.lo n.hi else heldQ (if 2147483647<if -2147483648>r.lo then -2147483648 else r.lo then 2147483647 else if -2147483648>r.lo then -2147483648 else r.lo) n.qm n.qs n.qz n.lo n.hi),i8 (if heldQ (if 2147483647<if -2147483648>r.hi then -2147483648 else r.hi then 2147483647 else if -2147483648>r.hi then -2147483648 else r.hi) n.qm n.qs n.qz n.lo n.hi>heldQ (if 2147483647<if -2147483648>r.lo then -2147483648 else r.lo then 2147483647 else if -2147483648>r.lo then -2147483648 else r.lo) n.qm n.qs n.qz n.lo n.hi then heldQ (if 2147483647<if -2147483648>r.hi then -2147483648 else r.hi then 2147483647 else if -2147483648>r.hi then -2147483648 else r.hi) n.qm n.qs n.qz n.lo n.hi else heldQ (if 2147483647<if -2147483648>r.lo then -2147483648 else r.lo then 2147483647 else if -2147483648>r.lo then -2147483648 else r.lo) n.qm n.qs n.qz n.lo n.hi)]) Tryz.func137 (.d4 oz0 oz1 oz2 oz3)).weak (AQ_ _) (AA_ (.cons (N_ (by (exact min_if _ _))) (.cons (N_ (by (exact max_if _ _))) .nil)))
def joinE (x y:Int) (n:Nod):Int:=if (rightQ n.qm n.qs&&rightQ n.rm n.rs)=true then clampI (rnd ((x-n.za)*n.qm) n.qs+rnd ((y-n.zb)*n.rm) n.rs+n.qz) n.lo n.hi else 0
theorem mul_bd9 (a m:Int) (a0 : -255≤a) (a1:a≤255) (hm:In32 m) : -547608330240≤a*m∧a*m≤547608330240:=by
 obtain ⟨m0,m1⟩:=hm
 have h1:(a.natAbs*m.natAbs:Nat)≤255*2147483648:=Nat.mul_le_mul a_ a_
 have:=Int.natAbs_mul a m
 omega
theorem joinP (v z m s:Int) (h1:In8 v) (h2:In8 z) (h3:In32 m):(-547608330240≤(v-z)*m∧(v-z)*m≤547608330240) ∧ -547608330240≤rnd ((v-z)*m) s∧rnd ((v-z)*m) s≤547608330240:=by
 have q:=mul_bd9 (v-z) m a_ a_ h3
 exact ⟨q,rnd_bd _ s _ q.1 q.2⟩
theorem joinMay_v (n:Nod)  : VC M_ 212 ([nod n]) (bv (rightQ n.qm n.qs&&rightQ n.rm n.rs)):=by
 have oz0:=@right_v (n.qm) (n.qs) (n.qz)
 have oz1:=@right_v (n.rm) (n.rs) (n.rz)
 exact cR_ [r_,.r [] [cr oz0,o_,o_,o_,cr oz1,.sel 2]] _ Tryz.func212 (.d2 oz0 oz1)
theorem joinScaled_v (v z m s z2:Int) (h1:In8 v) (h2:In8 z) (h3:In32 m):VC M_ 214 ([i8 v,i8 z,.agg [i32 m,i64 s,i8 z2]]) (i64 (rnd ((v-z)*m) s)):=by
 have oz3:=@scale_v (v-z) (m) (s) a_ h3
 exact cR_ [r_,.r [] [.n v,.n z,.n (v-z),cr oz3]] _ Tryz.func214 (.d4 (AI_ v a_) (AI_ z a_) (AI_ (v-z) a_) oz3)
theorem joinOne_v (x y:Int) (n:Nod) (ok:n.Ok) (hx:In8 x) (hy:In8 y):VC M_ 204 ([i8 x,i8 y,nod n]) (i8 (joinE x y n)):=by
 have ok_za:=ok.za
 have ok_zb:=ok.zb
 have ok_qm:=ok.qm
 have ok_rm:=ok.rm
 have ok_lo:=ok.lo
 have ok_hi:=ok.hi
 have ok_qz:=ok.qz
 have q1:=joinP x n.za n.qm n.qs hx ok.za ok.qm
 have q2:=joinP y n.zb n.rm n.rs hy ok.zb ok.rm
 have oz0:=@joinMay_v (n)
 rcases bft (!(rightQ n.qm n.qs&&rightQ n.rm n.rs)) with hc0|hc0
 ·have gc0:rightQ n.qm n.qs=false∨rightQ n.rm n.rs=false:=gc0_ hc0
  exact (cR_ [r_,.r [] [cr oz0],b_,r_] (i8 0) Tryz.func204 (.d2 oz0 hc0)).weak (AQ_ _) (N_ (by (unfold joinE;rw[j_ (by intro hh;simp only[P_] at hh;simp_all)])))
 ·have gc0:rightQ n.qm n.qs=true∧rightQ n.rm n.rs=true:=gc0_ hc0
  have oz2:=@joinScaled_v (x) (n.za) (n.qm) (n.qs) (n.qz) hx ok_za ok_qm
  have oz3:=@joinScaled_v (y) (n.zb) (n.rm) (n.rs) (n.rz) hy ok_zb ok_rm
  have oz4:=(i6n (rnd ((x-n.za)*n.qm) n.qs+rnd ((y-n.zb)*n.rm) n.rs) a_)
  have oz6:=(i6n (rnd ((x-n.za)*n.qm) n.qs+rnd ((y-n.zb)*n.rm) n.rs+n.qz) a_)
  have oz7:=@clamp_v (rnd ((x-n.za)*n.qm) n.qs+rnd ((y-n.zb)*n.rm) n.rs+n.qz) (n.lo) (n.hi) ok_lo ok_hi
  exact (cR_ [r_,.r [] [cr oz0],d_,.r [] [cr oz2,cr oz3,.n (nO oz4),.n n.qz,.n (nO oz6),cr oz7]] (i8 (clampI (rnd ((x-n.za)*n.qm) n.qs+rnd ((y-n.zb)*n.rm) n.rs+n.qz) n.lo n.hi)) Tryz.func204 (.d8 oz0 hc0 oz2 oz3 oz4 (i6n n.qz a_) oz6 oz7)).weak (AQ_ _) (N_ (by (unfold joinE;rw[i_ e1_])))
theorem refJoinOne_v (x y:Int) (n:Nod) (ok:n.Ok) (hx:In8 x) (hy:In8 y):VC M_ 138 ([i8 x,i8 y,nod n]) (i8 (joinE x y n)):=by
 have ok_za:=ok.za
 have ok_zb:=ok.zb
 have ok_qm:=ok.qm
 have ok_rm:=ok.rm
 have ok_lo:=ok.lo
 have ok_hi:=ok.hi
 have ok_qz:=ok.qz
 have q1:=joinP x n.za n.qm n.qs hx ok.za ok.qm
 have q2:=joinP y n.zb n.rm n.rs hy ok.zb ok.rm
 have q3:=clamp_in (rnd ((x-n.za)*n.qm) n.qs+rnd ((y-n.zb)*n.rm) n.rs+n.qz) ok.lo ok.hi
 have oz0:=@refRight_v (n.qm) (n.qs) (n.qz)
 have oz1:=@refRight_v (n.rm) (n.rs) (n.rz)
 rcases bft (!rightQ n.qm n.qs || !rightQ n.rm n.rs) with hc0|hc0
 ·have gc0:rightQ n.qm n.qs=false∨rightQ n.rm n.rs=false:=gc0_ hc0
  exact (cR_ [r_,.r [] [cr oz0,o_,o_,o_,cr oz1,o_,.sel 1],b_,r_] (i8 0) Tryz.func138 (.d3 oz0 oz1 hc0)).weak (AQ_ _) (N_ (by (unfold joinE;rw[j_ (by intro hh;simp only[P_] at hh;simp_all)])))
 ·have gc0:rightQ n.qm n.qs=true∧rightQ n.rm n.rs=true:=gc0_ hc0
  have oz8:=@refRound_v ((x-n.za)*n.qm) (n.qs) a_
  have oz14:=@refRound_v ((y-n.zb)*n.rm) (n.rs) a_
  have oz15:=(i6n (rnd ((x-n.za)*n.qm) n.qs+rnd ((y-n.zb)*n.rm) n.rs) a_)
  have oz17:=(i6n (rnd ((x-n.za)*n.qm) n.qs+rnd ((y-n.zb)*n.rm) n.rs+n.qz) a_)
  have oz20:=@refSatHeld_v (rnd ((x-n.za)*n.qm) n.qs+rnd ((y-n.zb)*n.rm) n.rs+n.qz) (n.lo) (n.hi)
  have oz21:=(IntWalk.i8_in (clampI (rnd ((x-n.za)*n.qm) n.qs+rnd ((y-n.zb)*n.rm) n.rs+n.qz) n.lo n.hi) a_)
  exact (cR_ [r_,.r [] [cr oz0,o_,o_,o_,cr oz1,o_,.sel 1],d_,.r [] [.n x,.n n.za,.n (x-n.za),.n n.qm,.n ((x-n.za)*n.qm),cr oz8],.r [] [.n y,.n n.zb,.n (y-n.zb),.n n.rm,.n ((y-n.zb)*n.rm),cr oz14],.r [] [.n (nO oz15),.n n.qz,.n (nO oz17),.n n.lo,.n n.hi,cr oz20,.n (nO oz21)]] (i8 (clampI (rnd ((x-n.za)*n.qm) n.qs+rnd ((y-n.zb)*n.rm) n.rs+n.qz) n.lo n.hi)) Tryz.func138 (.c8 oz0 oz1 hc0 (i6n x a_) (i6n n.za a_) (i6n (x-n.za) a_) (i6n n.qm a_) (i6n ((x-n.za)*n.qm) a_)<|.c8 oz8 (i6n y a_) (i6n n.zb a_) (i6n (y-n.zb) a_) (i6n n.rm a_) (i6n ((y-n.zb)*n.rm) a_) oz14 oz15<|.d6 (i6n n.qz a_) oz17 (i6n n.lo a_) (i6n n.hi a_) oz20 oz21)).weak (AQ_ _) (N_ (by (unfold joinE;rw[i_ e1_])))
theorem refActOne_v (v:Int) (n:Nod) (ok:n.Ok) (hv:In8 v):VC M_ 139 ([i8 v,nod n]) (i8 (oneN v n)):=by
 have ok_za:=ok.za
 have ok_qm:=ok.qm
 have ok_qz:=ok.qz
 have ok_lo:=ok.lo
 have ok_hi:=ok.hi
 have oz3:=@refHeld_v (v-n.za) (n.qm) (n.qs) (n.qz) (n.lo) (n.hi) a_ ok_qm ok_qz ok_lo ok_hi
 exact (cR_ [r_,.r [] [.n v,.n n.za,.n (v-n.za),cr oz3]] (i8 (heldQ (v-n.za) n.qm n.qs n.qz n.lo n.hi)) Tryz.func139 (.d4 (AI_ v a_) (AI_ n.za a_) (AI_ (v-n.za) a_) oz3)).weak (AQ_ _) (N_ t0_)
theorem all_le (w b:List Int) (lo hi z:Int) (g:Bool) (bl:b.length≤100000):(allR w b lo hi z g (if sharedB w b=true then b.length else 0)).length≤1000000:=by
 have:(allR w b lo hi z g (if sharedB w b=true then b.length else 0)).length=if sharedB w b=true then b.length else 0:=by simp[allR]
 rw[this];split<;>omega
def spansN (n:Nod) (a:Rng):List Rng:=allR n.w n.b a.lo a.hi n.za (decide (n.np>0)) (if sharedB n.w n.b=true then n.b.length else 0)
def sumG (n:Nod) (a:Rng):Rng×Int:=if (spansN n a).all holdB=true then (afterE (bothR (spansN n a) (spansN n a).length) n,0) else (⟨0,0⟩,10)
theorem sumG_y {n:Nod} {a:Rng} (h:(allR n.w n.b a.lo a.hi n.za (decide (n.np>0)) (if sharedB n.w n.b=true then n.b.length else 0)).all holdB=true):sumG n a=(afterE (bothR (spansN n a) (spansN n a).length) n,0):=i_ h
theorem summed_v (n:Nod) (a:Rng) (ok:n.Ok) (h1:In8 a.lo) (h2:In8 a.hi) (wl:n.w.length≤100000) (bl:n.b.length≤100000):VC M_ 203 ([nod n,rch a]) (.tup [rch (sumG n a).1,i64 (sumG n a).2]):=by
 have q:=all_le n.w n.b a.lo a.hi n.za (decide (n.np>0)) bl
 have oz0:=@all_v (n) (a.lo) (a.hi) ok h1 h2 wl bl
 have oz1:=@holds_v (allR n.w n.b a.lo a.hi n.za (decide (n.np>0)) (if sharedB n.w n.b=true then n.b.length else 0)) q
 rcases bft (!(allR n.w n.b a.lo a.hi n.za (decide (n.np>0)) (if sharedB n.w n.b=true then n.b.length else 0)).all holdB) with hc0|hc0
 ·have gc0:(allR n.w n.b a.lo a.hi n.za (decide (n.np>0)) (if sharedB n.w n.b=true then n.b.length else 0)).all holdB=false:=m_
  exact (cR_ [r_,.r [] [cr oz0],.r [] [cr oz1],b_,r_] (AV.tup [AV.agg [i8 0,i8 0],i64 10]) Tryz.func203 (.d3 oz0 oz1 hc0)).weak (AQ_ _) (AA_ (.cons (AZ_ (.cons (N_ (by (unfold sumG spansN;rw[j_ e1_]))) (.cons (N_ (by (unfold sumG spansN;rw[j_ e1_]))) .nil))) (.cons (N_ (by (unfold sumG spansN;rw[j_ e1_]))) .nil)))
 ·have gc0:(allR n.w n.b a.lo a.hi n.za (decide (n.np>0)) (if sharedB n.w n.b=true then n.b.length else 0)).all holdB=true:=m_
  have oz3:=@both_v (allR n.w n.b a.lo a.hi n.za (decide (n.np>0)) (if sharedB n.w n.b=true then n.b.length else 0)) q
  have oz4:=@after_v (bothR (allR n.w n.b a.lo a.hi n.za (decide (n.np>0)) (if sharedB n.w n.b=true then n.b.length else 0)) (allR n.w n.b a.lo a.hi n.za (decide (n.np>0)) (if sharedB n.w n.b=true then n.b.length else 0)).length) (n) ok
  exact (cR_ [r_,.r [] [cr oz0],.r [] [cr oz1],d_,.r [] [cr oz3,cr oz4],r_] (AV.tup [AV.agg [i8 (afterE (bothR (allR n.w n.b a.lo a.hi n.za (decide (n.np>0)) (if sharedB n.w n.b=true then n.b.length else 0)) (allR n.w n.b a.lo a.hi n.za (decide (n.np>0)) (if sharedB n.w n.b=true then n.b.length else 0)).length) n).lo,i8 (afterE (bothR (allR n.w n.b a.lo a.hi n.za (decide (n.np>0)) (if sharedB n.w n.b=true then n.b.length else 0)) (allR n.w n.b a.lo a.hi n.za (decide (n.np>0)) (if sharedB n.w n.b=true then n.b.length else 0)).length) n).hi],i64 0]) Tryz.func203 (.d5 oz0 oz1 hc0 oz3 oz4)).weak (AQ_ _) (AA_ (.cons (AZ_ (.cons (N_ (by (rw[sumG_y b0_]<;>rfl))) (.cons (N_ (by (rw[sumG_y b0_]<;>rfl))) .nil))) (.cons (N_ (by (rw[sumG_y b0_]<;>rfl))) .nil)))
instance:Inhabited Nod:=⟨⟨0,0,0,0,0,0,0,0,0,[],[],0,0,0,0,0,0,0,0⟩⟩
instance:Inhabited Shp:=⟨⟨0,0,0⟩⟩
abbrev shpC (s:Shp):List AV:=[i64 s.h,i64 s.x,i64 s.c]
def firstBad (p:Nat→Bool):Nat→Nat
 | 0=>0
 | n+1=>if firstBad p n<n then firstBad p n else if p n=true then n+1 else n
theorem firstBad_all {p:Nat→Bool}:∀ {n},(∀ k,k<n→p k=true)→firstBad p n=n
 | 0,_=>rfl
 | n+1,h=>by rw[firstBad,firstBad_all fun k hk=>h k a_,j_ a_,i_ (h n a_)]
theorem firstBad_at {p:Nat→Bool} {m:Nat} (hp:p m=false) (h:∀ k,k<m→p k=true):∀ {n},m<n→firstBad p n=m
 | n+1,hm=>by
  by_cases e:m=n
  ·subst e;rw[firstBad,firstBad_all h,j_ a_,j_ (by simp[hp])]
  ·rw[firstBad,firstBad_at hp h (s_ (m<n)),i_ a_]
theorem firstBad_le {p:Nat→Bool}:∀ n,firstBad p n≤n
 | 0=>AE_ _
 | n+1=>by have:=firstBad_le (p:=p) n;rw[firstBad];split<;>(try split)<;>omega
def growL {α:Type} (f:Nod→List α→α×Int) (l:List Nod) (x:α):Nat→List α
 | 0=>[x]
 | k+1=>growL f l x k++[(f (l.getD k default) (growL f l x k)).1]
def errL {α:Type} (f:Nod→List α→α×Int) (l:List Nod) (x:α) (k:Nat):Int:=(f (l.getD k default) (growL f l x k)).2
theorem growL_len {α:Type} (f:Nod→List α→α×Int) (l:List Nod) (x:α):∀ k,(growL f l x k).length=k+1
 | 0=>rfl
 | k+1=>by rw[growL,AD_,growL_len f l x k];rfl
theorem growL_all {α:Type} {f:Nod→List α→α×Int} {l:List Nod} {x:α} {p:α→Prop} (h0:p x) {n:Nat} (h:∀ k,k<n→(∀ y∈growL f l x k,p y)→p (f (l.getD k default) (growL f l x k)).1):∀ k,k≤n→∀ y∈growL f l x k,p y
 | 0,_=>by intro y hy;simp only[growL,List.mem_singleton] at hy;subst hy;exact h0
 | k+1,hk=>by
  have ih:=growL_all h0 h k a_
  intro y hy
  rw[growL,CA_,List.mem_singleton] at hy
  rcases hy with hy|rfl
  ·exact ih y hy
  ·exact h k a_ ih
theorem getD_in {α:Type} [Inhabited α] {l:List α} {p:α→Prop} (h:∀ y∈l,p y) {i:Nat} (hi:i<l.length):p (l.getD i default):=by
 rw[AU_,AP_ hi];exact h _ (CN_ hi)
def takesL (n:Nod):List Int:=if n.kd=6 then [n.na,n.nb] else [n.na]
def secN (n:Nod):Int:=if n.kd=6 then n.nb else n.na
def thereB (n:Nod) (m:Int):Bool:=decide (0≤n.na)&&decide (n.na<m)&&decide (0≤secN n)&&decide (secN n<m)
theorem takes_v (n:Nod)  : VC M_ 186 ([nod n]) (ints .i64 (takesL n)):=by
 rcases bft (n.kd==6) with hc0|hc0
 ·have gc0:n.kd=6:=bet hc0
  exact (cR_ [r_,r_,b_,r_] (AV.sl 1 [[i64 n.na],[i64 n.nb]]) Tryz.func186 (.d hc0)).weak (AQ_ _) (AH_ (rows_to (row1 .i64) (r:=[[i64 n.na],[i64 n.nb]]) (l:=[n.na,n.nb]) (m:=takesL n) g_ (show ([n.na,n.nb])=(takesL n) from (by (unfold takesL;rw[i_ e1_])))))
 ·have gc0:¬n.kd=6:=bef hc0
  exact (cR_ [r_,r_,d_,r_] (AV.sl 1 [[i64 n.na]]) Tryz.func186 (.d hc0)).weak (AQ_ _) (AH_ (rows_to (row1 .i64) (r:=[[i64 n.na]]) (l:=[n.na]) (m:=takesL n) g_ (show ([n.na])=(takesL n) from (by (unfold takesL;rw[j_ e1_])))))
theorem takes_len (n:Nod):1≤(takesL n).length∧(takesL n).length≤2:=by unfold takesL;split<;>simp
theorem takes_last (n:Nod) {i:Nat} (hi:i=(takesL n).length-1):(takesL n).getD i 0=secN n:=by subst hi;unfold takesL secN;split<;>rfl
theorem takes_there (n:Nod) (m:Int):(∀ k,k<(takesL n).length→decide (0≤(takesL n).getD k 0∧(takesL n).getD k 0<m)=true)↔thereB n m=true:=by
 unfold takesL thereB secN
 split
 ·simp only[AJ_,BE_,P_,E_]
  constructor
  ·intro h
   have h0:=h 0 a_;have h1:=h 1 a_
   simp only[BM_,BY_] at h0 h1
   omega
  ·intro h k hk
   match k,hk with
   | 0,_=>simp only[BM_];omega
   | 1,_=>simp only[BM_,BY_];omega
   | k+2,hk=>omega
 ·simp only[AJ_,BE_,P_,E_]
  constructor
  ·intro h
   have h0:=h 0 a_
   simp only[BM_] at h0
   omega
  ·intro h k hk
   have:k=0:=by omega
   subst this
   simp only[BM_];omega
noncomputable def there_ly_I (l:List Int) (m:Int) (k:Nat):VS:=stt 22 [(1,i64 m),(8,ints .i64 l),(9,i64 l.length),(10,i64 k)] []
noncomputable def there_ly_Z (l:List Int) (m:Int):VS:=there_ly_I l m (l.length)
theorem there_ly_s (l:List Int) (m:Int) (hl:l.length≤1000) (h:∀ k,k<l.length→0≤l.getD k 0∧l.getD k 0<m) (k:Nat) (hk:k<l.length):VT M_ (fnC Tryz.f157 [1,0,1,0,0]) (there_ly_I l m k) .normal (there_ly_I l m (k+1)):=by
 have q:=h k hk
 have oz3:=(decide_eq_false (p:=(l.getD k 0<0)) a_)
 exact tR_ [r_,b_,.r [] [.row [i64 (l.getD k 0)]],.r [] [e_,e_,e_,f_],d_,.r [] [.n ((↑k:Int)+1)]] [.any (rg [(6,1),(11,11)]),.weak 10 (i64 (↑(k+1):Int)),.sort] (.c8 (decide_eq_true (p:=((↑k:Int)<(l.length:Int))) a_) (s_ (0≤(↑k:Int))) (map_at (row1 .i64) (0) (l:=l) (i:=k) hk) oz3 oz3 oz3 oz3 (decide_eq_false (p:=(l.getD k 0≥m)) a_)<|.d2 (i6n ((↑k:Int)+1) a_) (wS_ k))
theorem there_ly_e (l:List Int) (m:Int) (hl:l.length≤1000) (h:∀ k,k<l.length→0≤l.getD k 0∧l.getD k 0<m):VT M_ (fnC Tryz.f157 [1,0,1,0,0]) (there_ly_I l m (l.length)) (.exit 0) (there_ly_Z l m):=by
 exact tR_ [r_,d_] [.any [11],.sort] (.d (decide_eq_false (p:=((l.length:Int)<(l.length:Int))) a_))
theorem there_ly (l:List Int) (m:Int) (hl:l.length≤1000) (h:∀ k,k<l.length→0≤l.getD k 0∧l.getD k 0<m):VT M_ (fnC Tryz.f157 [1,0,1,0]) (there_ly_I l m 0) (.exit 0) (there_ly_Z l m) :=
 VT.loop (fun k=>there_ly_I l m k) (l.length) (fun k hk=>there_ly_s l m hl h k hk) (there_ly_e l m hl h) c0_
noncomputable def there_ln_I (l:List Int) (m:Int) (j:Nat) (k:Nat):VS:=stt 22 [(1,i64 m),(8,ints .i64 l),(9,i64 l.length),(10,i64 k)] []
noncomputable def there_ln_Z (l:List Int) (m:Int) (j:Nat):VS:=stt 22 [(4,bv false)] []
theorem there_ln_s (l:List Int) (m:Int) (j:Nat) (hl:l.length≤1000) (hj:j<l.length) (hf:¬ (0≤l.getD j 0∧l.getD j 0<m)) (h:∀ k,k<j→0≤l.getD k 0∧l.getD k 0<m) (k:Nat) (hk:k<j):VT M_ (fnC Tryz.f157 [1,0,1,0,0]) (there_ln_I l m j k) .normal (there_ln_I l m j (k+1)):=by
 have q:=h k hk
 have oz3:=(decide_eq_false (p:=(l.getD k 0<0)) a_)
 exact tR_ [r_,b_,.r [] [.row [i64 (l.getD k 0)]],.r [] [e_,e_,e_,f_],d_,.r [] [.n ((↑k:Int)+1)]] [.any (rg [(6,1),(11,11)]),.weak 10 (i64 (↑(k+1):Int)),.sort] (.c8 (decide_eq_true (p:=((↑k:Int)<(l.length:Int))) a_) (s_ (0≤(↑k:Int))) (map_at (row1 .i64) (0) (l:=l) (i:=k) a_) oz3 oz3 oz3 oz3 (decide_eq_false (p:=(l.getD k 0≥m)) a_)<|.d2 (i6n ((↑k:Int)+1) a_) (wS_ k))
theorem there_ln_e (l:List Int) (m:Int) (j:Nat) (hl:l.length≤1000) (hj:j<l.length) (hf:¬ (0≤l.getD j 0∧l.getD j 0<m)) (h:∀ k,k<j→0≤l.getD k 0∧l.getD k 0<m):VT M_ (fnC Tryz.f157 [1,0,1,0,0]) (there_ln_I l m j (j)) (.ret) (there_ln_Z l m j):=by
 exact tR_ [r_,b_,.r [] [.row [i64 (l.getD j 0)]],.r [] [o_,o_,o_,.sel 1],b_,r_] [.any (rg [(1,1),(6,1),(8,9),(20,1)]),.sort] (.d4 (decide_eq_true (p:=((↑j:Int)<(l.length:Int))) a_) (s_ (0≤(↑j:Int))) (map_at (row1 .i64) (0) (l:=l) (i:=j) hj) (f0_ ((decide (l.getD j 0<0) || decide (l.getD j 0≥m))=true)))
theorem there_ln (l:List Int) (m:Int) (j:Nat) (hl:l.length≤1000) (hj:j<l.length) (hf:¬ (0≤l.getD j 0∧l.getD j 0<m)) (h:∀ k,k<j→0≤l.getD k 0∧l.getD k 0<m):VT M_ (fnC Tryz.f157 [1,0,1,0]) (there_ln_I l m j 0) (.ret) (there_ln_Z l m j) :=
 VT.loop (fun k=>there_ln_I l m j k) (j) (fun k hk=>there_ln_s l m j hl hj hf h k hk) (there_ln_e l m j hl hj hf h) c0_
theorem there_y (n:Nod) (m:Int) (h:∀ k,k<(takesL n).length→0≤(takesL n).getD k 0∧(takesL n).getD k 0<m):VC M_ 157 ([nod n,i64 m]) (bv true):=by
 have q:=takes_len n
 have oz0:=@takes_v (n)
 have oz1:=(N_ (k:=.i64) (show ((((K_ (row1 .i64) (takesL n)).length:Int)):Int)=(((takesL n).length:Int)) from k0_))
 have oz3:=@there_ly (takesL n) (m) a_ h
 exact cR_ [r_,.r [] [cr oz0],.code [.any [0,2,4,7],.drop [2],.weak 9 (wO oz1),.weak 10 (i64 (↑0:Int)),.sort] (BS_ 0) (zO oz3),r_] _ Tryz.func157 (.d4 oz0 oz1 w0_ oz3)
theorem there_n (n:Nod) (m:Int) (j:Nat) (hj:j<(takesL n).length) (hf:¬ (0≤(takesL n).getD j 0∧(takesL n).getD j 0<m)) (h:∀ k,k<j→0≤(takesL n).getD k 0∧(takesL n).getD k 0<m):VC M_ 157 ([nod n,i64 m]) (bv false):=by
 have q:=takes_len n
 have oz0:=@takes_v (n)
 have oz1:=(N_ (k:=.i64) (show ((((K_ (row1 .i64) (takesL n)).length:Int)):Int)=(((takesL n).length:Int)) from k0_))
 have oz3:=@there_ln (takesL n) (m) (j) a_ hj hf h
 exact cR_ [r_,.r [] [cr oz0],.code [.any [0,2,4,7],.drop [2],.weak 9 (wO oz1),.weak 10 (i64 (↑0:Int)),.sort] (DT_) (zO oz3)] _ Tryz.func157 (.d4 oz0 oz1 w0_ oz3)
theorem there_v (n:Nod) (m:Int):VC M_ 157 [nod n,i64 m] (bv (thereB n m)):=by
 rcases all_or (fun k=>decide (0≤(takesL n).getD k 0∧(takesL n).getD k 0<m)) (takesL n).length with h|⟨j,h1,h2,h3⟩
 ·rw[(takes_there n m).1 h];exact there_y n m fun k hk=>of_decide_eq_true (h k hk)
 ·have:thereB n m=false:=by
   cases e:thereB n m with
   | false=>rfl
   | true=>have:=(takes_there n m).2 e j h1;rw[h2] at this;cases this
  rw[this];exact there_n n m j h1 (of_decide_eq_false h2) fun k hk=>of_decide_eq_true (h3 k hk)
theorem gof_v (n:Nod)  : VC M_ 159 ([nod n]) (i64 (secN n)):=by
 have q:=takes_len n
 have q2:(K_ (row1 .i64) (takesL n)).length=(takesL n).length:=V_ _
 have oz0:=@takes_v (n)
 have oz1:=(i6n (((K_ (row1 .i64) (takesL n)).length:Int)-1) a_)
 have oz3:=(map_at (row1 .i64) (0) (l:=takesL n) (i:=(((K_ (row1 .i64) (takesL n)).length:Int)-1).toNat) a_)
 exact (cR_ [r_,.r [] [cr oz0],.r [] [.n (nO oz1),.row (sO oz3)]] (i64 ((takesL n).getD (((K_ (row1 .i64) (takesL n)).length:Int)-1).toNat 0)) Tryz.func159 (.d4 oz0 oz1 (s_ (0≤((K_ (row1 .i64) (takesL n)).length:Int)-1)) oz3)).weak (AQ_ _) (N_ (by (exact takes_last n a_)))
theorem refThere_v (n:Nod) (m:Int)  : VC M_ 78 ([nod n,i64 m]) (bv (thereB n m)):=by
 exact (cR_ [r_,.r [] [o_,o_,o_,o_,.sel 2,o_,o_,o_,o_,o_,o_,o_,o_,o_,o_,o_,o_,o_,.sel 2,o_,.sel 1,.sel 2]] (bv (decide (n.na≥0)&&decide (n.na<m)&&(n.kd != 6 || decide (n.nb≥0)&&decide (n.nb<m)))) Tryz.func78 (.n)).weak (AQ_ _) (AB_ (by (unfold thereB secN;rw[Bool.eq_iff_iff];by_cases e6:n.kd=6<;>simp[e6]<;>omega)))
theorem refSecond_v (n:Nod)  : VC M_ 80 ([nod n]) (i64 (secN n)):=by
 rcases bft (n.kd==6) with hc0|hc0
 ·have gc0:n.kd=6:=bet hc0
  exact (cR_ [r_,r_,b_,r_] (i64 n.nb) Tryz.func80 (.d hc0)).weak (AQ_ _) (N_ (by (unfold secN;rw[i_ e1_])))
 ·have gc0:¬n.kd=6:=bef hc0
  exact (cR_ [r_,r_,d_,r_] (i64 n.na) Tryz.func80 (.d hc0)).weak (AQ_ _) (N_ (by (unfold secN;rw[j_ e1_])))
def nextE (n:Nod) (L:List Shp):Shp×Int:=if checkE n≠0 then (⟨0,0,0⟩,checkE n) else if thereB n L.length=true then shapeE n (L.getD n.na.toNat default) (L.getD (secN n).toNat default) else (⟨0,0,0⟩,8)
theorem there_iff {n:Nod} {m:Int}:thereB n m=true↔0≤n.na∧n.na<m∧0≤secN n∧secN n<m:=by
 unfold thereB;simp only[P_,E_];omega
theorem next_v (n:Nod) (L:List Shp) (ok:n.Ok) (okL:∀ s∈L,s.Ok) (hL:L.length≤100) (wl:n.w.length≤100000) (bl:n.b.length≤100000):VC M_ 129 ([nod n,.sl 3 (L.map shpC)]) (.tup [shp (nextE n L).1,i64 (nextE n L).2]):=by
 have q1:=@there_iff n L.length
 have q2:=ok.kd
 have q3:=fun (h:n.na.toNat<L.length)=>getD_in okL h
 have q4:=fun (h:(secN n).toNat<L.length)=>getD_in okL h
 have oz0:=@check_v (n) wl bl q2
 rcases bft (checkE n != 0) with hc0|hc0
 ·have gc0:¬checkE n=0:=bdt hc0
  exact (cR_ [r_,.r [] [cr oz0],r_,b_,r_] (AV.tup [AV.agg [i64 0,i64 0,i64 0],i64 (checkE n)]) Tryz.func129 (.d2 oz0 hc0)).weak (AQ_ _) (AA_ (.cons (AZ_ (.cons (N_ m2_) (.cons (N_ m2_) (.cons (N_ m2_) .nil)))) (.cons (N_ m2_) .nil)))
 ·have gc0:checkE n=0:=bdf hc0
  have oz2:=@there_v (n) (((K_ shpC L).length:Int))
  rcases bft (!thereB n ((K_ shpC L).length:Int)) with hc1|hc1
  ·have gc1:thereB n ((K_ shpC L).length:Int)=false:=d0_
   exact (cR_ [r_,.r [] [cr oz0],r_,d_,.r [] [cr oz2],b_,r_] (AV.tup [AV.agg [i64 0,i64 0,i64 0],i64 8]) Tryz.func129 (.d4 oz0 hc0 oz2 hc1)).weak (AQ_ _) (AA_ (.cons (AZ_ (.cons (N_ b2_) (.cons (N_ b2_) (.cons (N_ b2_) .nil)))) (.cons (N_ b2_) .nil)))
  ·have gc1:thereB n ((K_ shpC L).length:Int)=true:=d0_
   have oz5:=(map_at (shpC) (default) (l:=L) (i:=n.na.toNat) (by (have:=q1.1 e1_;omega)))
   have oz6:=@gof_v (n)
   have oz8:=(map_at (shpC) (default) (l:=L) (i:=(secN n).toNat) (by (have:=q1.1 e1_;omega)))
   have oz9:=@kshape_v (n) (L.getD n.na.toNat default) (L.getD (secN n).toNat default) (by (exact q3 (by have:=q1.1 e1_;omega))) (by (exact q4 (by have:=q1.1 e1_;omega))) ok
   exact (cR_ [r_,.r [] [cr oz0],r_,d_,.r [] [cr oz2],d_,.r [] [.row (sO oz5),cr oz6,.row (sO oz8),cr oz9]] (AV.tup [AV.agg [i64 (shapeE n (L.getD n.na.toNat default) (L.getD (secN n).toNat default)).fst.h,i64 (shapeE n (L.getD n.na.toNat default) (L.getD (secN n).toNat default)).fst.x,i64 (shapeE n (L.getD n.na.toNat default) (L.getD (secN n).toNat default)).fst.c],i64 (shapeE n (L.getD n.na.toNat default) (L.getD (secN n).toNat default)).snd]) Tryz.func129 (.c8 oz0 hc0 oz2 hc1 (show 0≤n.na by (have:=q1.1 e1_;omega)) oz5 oz6 (show 0≤secN n by (have:=q1.1 e1_;omega))<|.d2 oz8 oz9)).weak (AQ_ _) (AA_ (.cons (AZ_ (.cons (N_ c2_) (.cons (N_ c2_) (.cons (N_ c2_) .nil)))) (.cons (N_ c2_) .nil)))
def Rng.In8 (a:Rng):Prop:=Go.Proofs.YtdfihaminnmgpaaGreat.In8 a.lo∧Go.Proofs.YtdfihaminnmgpaaGreat.In8 a.hi
def nodeR (n:Nod) (a b:Rng):Rng×Int :=
 if checkE n≠0 then (⟨0,0⟩,checkE n) else if a.lo>a.hi∨(n.kd=6∧b.lo>b.hi) then (⟨0,0⟩,2)
 else if n.kd=1∨n.kd=2∨n.kd=3 then sumG n a
 else if n.kd=6 then (⟨joinE a.lo b.lo n,joinE a.hi b.hi n⟩,0)
 else if n.kd=7 then (⟨oneN a.lo n,oneN a.hi n⟩,0)
 else if n.kd=8∧n.np>0 then (⟨min a.lo n.za,max a.hi n.za⟩,0) else (a,0)
noncomputable def ends64_l_I (a:Int) (l:List Int) (k:Nat):VS:=stt 27 [(6,i64 (foldR a l k).lo),(7,i64 (foldR a l k).hi),(12,ints .i64 l),(13,i64 l.length),(14,i64 k)] []
noncomputable def ends64_l_Z (a:Int) (l:List Int):VS:=ends64_l_I a l (l.length)
theorem ends64_l_s (a:Int) (l:List Int) (hl:l.length≤1000) (k:Nat) (hk:k<l.length):VT M_ (fnC Tryz.f182 [1,1,0,1,0,0]) (ends64_l_I a l k) .normal (ends64_l_I a l (k+1)):=by
 have oz4:=(N_ (k:=.i64) (show ((if l.getD k 0<(foldR a l k).lo then l.getD k 0 else (foldR a l k).lo):Int)=((foldR a l (k+1)).lo) from a2_))
 have oz5:=(N_ (k:=.i64) (show ((if l.getD k 0>(foldR a l k).hi then l.getD k 0 else (foldR a l k).hi):Int)=((foldR a l (k+1)).hi) from a2_))
 exact tR_ [r_,b_,.r [] [.row [i64 (l.getD k 0)]],r_,.r [] [.n ((↑k:Int)+1)]] [.any (rg [(9,1),(15,10)]),.weak 6 (wO oz4),.weak 7 (wO oz5),.weak 14 (i64 (↑(k+1):Int)),.sort] (.d7 (decide_eq_true (p:=((↑k:Int)<(l.length:Int))) a_) (s_ (0≤(↑k:Int))) (map_at (row1 .i64) (0) (l:=l) (i:=k) hk) (i6n ((↑k:Int)+1) a_) oz4 oz5 (wS_ k))
theorem ends64_l_e (a:Int) (l:List Int) (hl:l.length≤1000):VT M_ (fnC Tryz.f182 [1,1,0,1,0,0]) (ends64_l_I a l (l.length)) (.exit 0) (ends64_l_Z a l):=by
 exact tR_ [r_,d_] [.any [15],.sort] (.d (decide_eq_false (p:=((l.length:Int)<(l.length:Int))) a_))
theorem ends64_l (a:Int) (l:List Int) (hl:l.length≤1000):VT M_ (fnC Tryz.f182 [1,1,0,1,0]) (ends64_l_I a l 0) (.exit 0) (ends64_l_Z a l) :=
 VT.loop (fun k=>ends64_l_I a l k) (l.length) (fun k hk=>ends64_l_s a l hl k hk) (ends64_l_e a l hl) c0_
theorem ends64_v (a:Int) (l:List Int) (hl:l.length≤1000):VC M_ 182 ([i64 a,ints .i64 l]) (.tup [i64 (foldR a l l.length).lo,i64 (foldR a l l.length).hi]):=by
 have oz1:=(N_ (k:=.i64) (show ((((K_ (row1 .i64) l).length:Int)):Int)=((l.length:Int)) from k0_))
 have oz3:=@ends64_l (a) (l) hl
 exact cR_ [r_,r_,r_,.code [.any [0,1,4,5,10,11],.weak 7 (i64 (foldR a l 0).hi),.weak 13 (wO oz1),.weak 14 (i64 (↑0:Int)),.sort] (BS_ 0) (zO oz3),r_] _ Tryz.func182 (.d4 (N_ (k:=.i64) (show ((a):Int)=((foldR a l 0).hi) from t0_)) oz1 w0_ oz3)
theorem ends64_1 (a b:Int):VC M_ 182 [i64 a,.sl 1 [[i64 b]]] (.tup [i64 (min a b),i64 (max a b)]):=ends64_v a [b] v0_
noncomputable def ends8_l_I (a:Int) (l:List Int) (k:Nat):VS:=stt 27 [(6,i8 (foldR a l k).lo),(7,i8 (foldR a l k).hi),(12,ints .i8 l),(13,i64 l.length),(14,i64 k)] []
noncomputable def ends8_l_Z (a:Int) (l:List Int):VS:=ends8_l_I a l (l.length)
theorem ends8_l_s (a:Int) (l:List Int) (hl:l.length≤1000) (k:Nat) (hk:k<l.length):VT M_ (fnC Tryz.f216 [1,1,0,1,0,0]) (ends8_l_I a l k) .normal (ends8_l_I a l (k+1)):=by
 have oz4:=(N_ (k:=.i8) (show ((if l.getD k 0<(foldR a l k).lo then l.getD k 0 else (foldR a l k).lo):Int)=((foldR a l (k+1)).lo) from a2_))
 have oz5:=(N_ (k:=.i8) (show ((if l.getD k 0>(foldR a l k).hi then l.getD k 0 else (foldR a l k).hi):Int)=((foldR a l (k+1)).hi) from a2_))
 exact tR_ [r_,b_,.r [] [.row [i8 (l.getD k 0)]],r_,.r [] [.n ((↑k:Int)+1)]] [.any (rg [(9,1),(15,10)]),.weak 6 (wO oz4),.weak 7 (wO oz5),.weak 14 (i64 (↑(k+1):Int)),.sort] (.d7 (decide_eq_true (p:=((↑k:Int)<(l.length:Int))) a_) (s_ (0≤(↑k:Int))) (map_at (row1 .i8) (0) (l:=l) (i:=k) hk) (i6n ((↑k:Int)+1) a_) oz4 oz5 (wS_ k))
theorem ends8_l_e (a:Int) (l:List Int) (hl:l.length≤1000):VT M_ (fnC Tryz.f216 [1,1,0,1,0,0]) (ends8_l_I a l (l.length)) (.exit 0) (ends8_l_Z a l):=by
 exact tR_ [r_,d_] [.any [15],.sort] (.d (decide_eq_false (p:=((l.length:Int)<(l.length:Int))) a_))
theorem ends8_l (a:Int) (l:List Int) (hl:l.length≤1000):VT M_ (fnC Tryz.f216 [1,1,0,1,0]) (ends8_l_I a l 0) (.exit 0) (ends8_l_Z a l) :=
 VT.loop (fun k=>ends8_l_I a l k) (l.length) (fun k hk=>ends8_l_s a l hl k hk) (ends8_l_e a l hl) c0_
theorem ends8_v (a:Int) (l:List Int) (hl:l.length≤1000):VC M_ 216 ([i8 a,ints .i8 l]) (.tup [i8 (foldR a l l.length).lo,i8 (foldR a l l.length).hi]):=by
 have oz1:=(N_ (k:=.i64) (show ((((K_ (row1 .i8) l).length:Int)):Int)=((l.length:Int)) from k0_))
 have oz3:=@ends8_l (a) (l) hl
 exact cR_ [r_,r_,r_,.code [.any [0,1,4,5,10,11],.weak 7 (i8 (foldR a l 0).hi),.weak 13 (wO oz1),.weak 14 (i64 (↑0:Int)),.sort] (BS_ 0) (zO oz3),r_] _ Tryz.func216 (.d4 (N_ (k:=.i8) (show ((a):Int)=((foldR a l 0).hi) from t0_)) oz1 w0_ oz3)
theorem ends8_2 (a b c:Int):VC M_ 216 [i8 a,.sl 1 [[i8 b],[i8 c]]] (.tup [i8 (min (min a b) c),i8 (max (max a b) c)]):=ends8_v a [b,c] v0_
theorem over_v (a b c:Int)  : VC M_ 206 ([i8 a,.sl 1 [[i8 b],[i8 c]]]) (rch ⟨min (min a b) c,max (max a b) c⟩):=by
 have oz0:=@ends8_2 (a) (b) (c)
 exact cR_ [r_,.r [] [cr oz0],r_] _ Tryz.func206 (.d oz0)
theorem gnode_v (n:Nod) (a b:Rng) (ok:n.Ok) (ha:a.In8) (hb:b.In8) (wl:n.w.length≤100000) (bl:n.b.length≤100000):VC M_ 183 ([nod n,rch a,rch b]) (.tup [rch (nodeR n a b).1,i64 (nodeR n a b).2]):=by
 have ok_kd:=ok.kd
 obtain ⟨p1,p2⟩:=id ha
 obtain ⟨p3,p4⟩:=id hb
 have oz0:=@check_v (n) wl bl ok_kd
 rcases bft (checkE n != 0) with hc0|hc0
 ·have gc0:¬checkE n=0:=bdt hc0
  exact (cR_ [r_,.r [] [cr oz0],r_,b_,r_] (AV.tup [AV.agg [i8 0,i8 0],i64 (checkE n)]) Tryz.func183 (.d2 oz0 hc0)).weak (AQ_ _) (AA_ (.cons (AZ_ (.cons (N_ u_) (.cons (N_ u_) .nil))) (.cons (N_ u_) .nil)))
 ·have gc0:checkE n=0:=bdf hc0
  have oz2:=@upside_v (a.lo) (a.hi)
  have oz3:=@upside_v (b.lo) (b.hi)
  rcases bft (decide (a.lo>a.hi) || n.kd==6&&decide (b.lo>b.hi)) with hc1|hc1
  ·have gc1:a.lo>a.hi∨n.kd=6∧b.lo>b.hi:=gc0_ hc1
   exact (cR_ [r_,.r [] [cr oz0],r_,d_,.r [] [cr oz2,o_,o_,o_,o_,o_,o_,cr oz3,o_,.sel 2,.sel 1],b_,r_] (AV.tup [AV.agg [i8 0,i8 0],i64 2]) Tryz.func183 (.d5 oz0 hc0 oz2 oz3 hc1)).weak (AQ_ _) (AA_ (.cons (AZ_ (.cons (N_ u_) (.cons (N_ u_) .nil))) (.cons (N_ u_) .nil)))
  ·have gc1:¬a.lo>a.hi∧(¬n.kd=6∨¬b.lo>b.hi):=gc0_ hc1
   have oz5:=@sumsK_v (n.kd)
   rcases bft (n.kd==1 || n.kd==2 || n.kd==3) with hc2|hc2
   ·have gc2:(n.kd=1∨n.kd=2)∨n.kd=3:=gc0_ hc2
    have oz7:=@summed_v (n) (a) ok p1 p2 wl bl
    exact (cR_ [r_,.r [] [cr oz0],r_,d_,.r [] [cr oz2,o_,o_,o_,o_,o_,o_,cr oz3,o_,.sel 2,.sel 1],d_,.r [] [cr oz5],b_,.r [] [cr oz7]] (AV.tup [AV.agg [i8 (sumG n a).fst.lo,i8 (sumG n a).fst.hi],i64 (sumG n a).snd]) Tryz.func183 (.d8 oz0 hc0 oz2 oz3 hc1 oz5 hc2 oz7)).weak (AQ_ _) (AA_ (.cons (AZ_ (.cons (N_ u_) (.cons (N_ u_) .nil))) (.cons (N_ u_) .nil)))
   ·have gc2:(¬n.kd=1∧¬n.kd=2)∧¬n.kd=3:=gc0_ hc2
    rcases bft (n.kd==6) with hc3|hc3
    ·have gc3:n.kd=6:=bet hc3
     have oz8:=@joinOne_v (a.lo) (b.lo) (n) ok p1 p3
     have oz9:=@joinOne_v (a.hi) (b.hi) (n) ok p2 p4
     exact (cR_ [r_,.r [] [cr oz0],r_,d_,.r [] [cr oz2,o_,o_,o_,o_,o_,o_,cr oz3,o_,.sel 2,.sel 1],d_,.r [] [cr oz5],d_,r_,b_,.r [] [cr oz8,cr oz9]] (AV.tup [AV.agg [i8 (joinE a.lo b.lo n),i8 (joinE a.hi b.hi n)],i64 0]) Tryz.func183 (.c8 oz0 hc0 oz2 oz3 hc1 oz5 hc2 hc3<|.d2 oz8 oz9)).weak (AQ_ _) (AA_ (.cons (AZ_ (.cons (N_ u_) (.cons (N_ u_) .nil))) (.cons (N_ u_) .nil)))
    ·have gc3:¬n.kd=6:=bef hc3
     rcases bft (n.kd==7) with hc4|hc4
     ·have gc4:n.kd=7:=bet hc4
      have oz9:=@actOne_w (a.lo) (n) ok p1
      have oz10:=@actOne_w (a.hi) (n) ok p2
      exact (cR_ [r_,.r [] [cr oz0],r_,d_,.r [] [cr oz2,o_,o_,o_,o_,o_,o_,cr oz3,o_,.sel 2,.sel 1],d_,.r [] [cr oz5],d_,r_,d_,r_,b_,.r [] [cr oz9,cr oz10]] (AV.tup [AV.agg [i8 (oneN a.lo n),i8 (oneN a.hi n)],i64 0]) Tryz.func183 (.c8 oz0 hc0 oz2 oz3 hc1 oz5 hc2 hc3<|.d3 hc4 oz9 oz10)).weak (AQ_ _) (AA_ (.cons (AZ_ (.cons (N_ u_) (.cons (N_ u_) .nil))) (.cons (N_ u_) .nil)))
     ·have gc4:¬n.kd=7:=bef hc4
      rcases bft (n.kd==8&&decide (n.np>0)) with hc5|hc5
      ·have gc5:n.kd=8∧n.np>0:=gc0_ hc5
       have oz10:=@over_v (n.za) (a.lo) (a.hi)
       exact (cR_ [r_,.r [] [cr oz0],r_,d_,.r [] [cr oz2,o_,o_,o_,o_,o_,o_,cr oz3,o_,.sel 2,.sel 1],d_,.r [] [cr oz5],d_,r_,d_,r_,d_,.r [] [o_,o_,o_,.sel 2],b_,.r [] [cr oz10]] (AV.tup [AV.agg [i8 (Rng.mk (min (min n.za a.lo) a.hi) (max (max n.za a.lo) a.hi)).lo,i8 (Rng.mk (min (min n.za a.lo) a.hi) (max (max n.za a.lo) a.hi)).hi],i64 0]) Tryz.func183 (.c8 oz0 hc0 oz2 oz3 hc1 oz5 hc2 hc3<|.d3 hc4 hc5 oz10)).weak (AQ_ _) (AA_ (.cons (AZ_ (.cons (N_ (by (unfold nodeR;(repeat first|rw[i_ a_]|rw[j_ a_]);dsimp only;omega))) (.cons (N_ (by (unfold nodeR;(repeat first|rw[i_ a_]|rw[j_ a_]);dsimp only;omega))) .nil))) (.cons (N_ u_) .nil)))
      ·have gc5:¬n.kd=8∨¬n.np>0:=gc0_ hc5
       exact (cR_ [r_,.r [] [cr oz0],r_,d_,.r [] [cr oz2,o_,o_,o_,o_,o_,o_,cr oz3,o_,.sel 2,.sel 1],d_,.r [] [cr oz5],d_,r_,d_,r_,d_,.r [] [o_,o_,o_,.sel 2],d_,r_] (AV.tup [AV.agg [i8 a.lo,i8 a.hi],i64 0]) Tryz.func183 (.c8 oz0 hc0 oz2 oz3 hc1 oz5 hc2 hc3<|.d2 hc4 hc5)).weak (AQ_ _) (AA_ (.cons (AZ_ (.cons (N_ u_) (.cons (N_ u_) .nil))) (.cons (N_ u_) .nil)))
def stepR (n:Nod) (L:List Rng):Rng×Int:=if thereB n L.length=true then nodeR n (L.getD n.na.toNat default) (L.getD (secN n).toNat default) else (⟨0,0⟩,8)
theorem gstep_v (n:Nod) (L:List Rng) (ok:n.Ok) (okL:∀ r∈L,r.In8) (hL:L.length≤100) (wl:n.w.length≤100000) (bl:n.b.length≤100000):VC M_ 153 ([nod n,.sl 2 (L.map rchC)]) (.tup [rch (stepR n L).1,i64 (stepR n L).2]):=by
 have q1:=@there_iff n L.length
 have q2:(K_ rchC L).length=L.length:=V_ _
 have q3:=fun (h:n.na.toNat<L.length)=>getD_in okL h
 have q4:=fun (h:(secN n).toNat<L.length)=>getD_in okL h
 have q5:n.kd=6→secN n=n.nb:=fun h=>i_ h
 have q6:¬ n.kd=6→secN n=n.na:=fun h=>j_ h
 rcases bft (n.kd==6) with hc0|hc0
 ·have gc0:n.kd=6:=bet hc0
  have oz1:=@ends64_1 (n.na) (n.nb)
  rcases bft (decide (min n.na n.nb<0) || decide (max n.na n.nb≥((K_ rchC L).length:Int))) with hc1|hc1
  ·have gc1:min n.na n.nb<0∨max n.na n.nb≥((K_ rchC L).length:Int):=gc0_ hc1
   exact (cR_ [r_,r_,r_,b_,r_,.r [] [cr oz1],.r [] [o_,o_,o_,o_,.sel 1],b_,r_] (AV.tup [AV.agg [i8 0,i8 0],i64 8]) Tryz.func153 (.d3 hc0 oz1 hc1)).weak (AQ_ _) (AA_ (.cons (AZ_ (.cons (N_ v1_) (.cons (N_ v1_) .nil))) (.cons (N_ v1_) .nil)))
  ·have gc1:¬min n.na n.nb<0∧¬max n.na n.nb≥((K_ rchC L).length:Int):=gc0_ hc1
   have oz4:=(map_at (rchC) (default) (l:=L) (i:=n.na.toNat) a_)
   have oz6:=(map_at (rchC) (default) (l:=L) (i:=n.nb.toNat) a_)
   have oz7:=@gnode_v (n) (L.getD n.na.toNat default) (L.getD n.nb.toNat default) ok (by (exact q3 a_)) (by (rw[←q5 a_];exact q4 (by rw[q5 a_];omega))) wl bl
   exact (cR_ [r_,r_,r_,b_,r_,.r [] [cr oz1],.r [] [o_,o_,o_,o_,.sel 1],d_,.r [] [.row (sO oz4),.row (sO oz6),cr oz7]] (AV.tup [AV.agg [i8 (nodeR n (L.getD n.na.toNat default) (L.getD n.nb.toNat default)).fst.lo,i8 (nodeR n (L.getD n.na.toNat default) (L.getD n.nb.toNat default)).fst.hi],i64 (nodeR n (L.getD n.na.toNat default) (L.getD n.nb.toNat default)).snd]) Tryz.func153 (.d8 hc0 oz1 hc1 (s_ (0≤n.na)) oz4 (s_ (0≤n.nb)) oz6 oz7)).weak (AQ_ _) (AA_ (.cons (AZ_ (.cons (N_ o2_) (.cons (N_ o2_) .nil))) (.cons (N_ o2_) .nil)))
 ·have gc0:¬n.kd=6:=bef hc0
  have oz1:=@ends64_1 (n.na) (n.na)
  rcases bft (decide (min n.na n.na<0) || decide (max n.na n.na≥((K_ rchC L).length:Int))) with hc1|hc1
  ·have gc1:min n.na n.na<0∨max n.na n.na≥((K_ rchC L).length:Int):=gc0_ hc1
   exact (cR_ [r_,r_,r_,d_,.r [] [cr oz1],.r [] [o_,o_,o_,o_,.sel 1],b_,r_] (AV.tup [AV.agg [i8 0,i8 0],i64 8]) Tryz.func153 (.d3 hc0 oz1 hc1)).weak (AQ_ _) (AA_ (.cons (AZ_ (.cons (N_ v1_) (.cons (N_ v1_) .nil))) (.cons (N_ v1_) .nil)))
  ·have gc1:¬min n.na n.na<0∧¬max n.na n.na≥((K_ rchC L).length:Int):=gc0_ hc1
   have oz3:=(s_ (0≤n.na))
   have oz4:=(map_at (rchC) (default) (l:=L) (i:=n.na.toNat) a_)
   have oz7:=@gnode_v (n) (L.getD n.na.toNat default) (L.getD n.na.toNat default) ok (by (exact q3 a_)) (by (exact q3 a_)) wl bl
   exact (cR_ [r_,r_,r_,d_,.r [] [cr oz1],.r [] [o_,o_,o_,o_,.sel 1],d_,.r [] [.row (sO oz4),.row (sO oz4),cr oz7]] (AV.tup [AV.agg [i8 (nodeR n (L.getD n.na.toNat default) (L.getD n.na.toNat default)).fst.lo,i8 (nodeR n (L.getD n.na.toNat default) (L.getD n.na.toNat default)).fst.hi],i64 (nodeR n (L.getD n.na.toNat default) (L.getD n.na.toNat default)).snd]) Tryz.func153 (.d8 hc0 oz1 hc1 oz3 oz4 oz3 oz4 oz7)).weak (AQ_ _) (AA_ (.cons (AZ_ (.cons (N_ n2_) (.cons (N_ n2_) .nil))) (.cons (N_ n2_) .nil)))
def FOK (l:List Nod) (a:Rng):Prop:=0<l.length∧l.length≤8∧a.lo≤a.hi∧∀ k,k<l.length→errL stepR l a k=0
theorem nodeR_in {n:Nod} {a b:Rng} (ok:n.Ok) (ha:a.In8) (hb:b.In8):(nodeR n a b).1.In8:=by
 have hz:Rng.In8 ⟨0,0⟩:=⟨⟨by dsimp only;decide,by dsimp only;decide⟩,⟨by dsimp only;decide,by dsimp only;decide⟩⟩
 have held:∀ x m s z,In8 (heldQ x m s z n.lo n.hi):=fun x m s z=>by
  unfold heldQ;split
  ·exact clamp_in _ ok.lo ok.hi
  ·exact ⟨by decide,by decide⟩
 unfold nodeR
 split
 ·exact hz
 ·split
  ·exact hz
  ·split
   ·unfold sumG;split
    ·unfold afterE
     have h1:=held (held32 (bothR (spansN n a) (spansN n a).length).lo) n.qm n.qs n.qz
     have h2:=held (held32 (bothR (spansN n a) (spansN n a).length).hi) n.qm n.qs n.qz
     constructor<;>dsimp only<;>omega
    ·exact hz
   ·split
    ·have hj:∀ x y,In8 (joinE x y n):=fun x y=>by
      unfold joinE;split
      ·exact clamp_in _ ok.lo ok.hi
      ·exact ⟨by decide,by decide⟩
     exact ⟨hj _ _,hj _ _⟩
    ·split
     ·exact ⟨held _ _ _ _,held _ _ _ _⟩
     ·obtain ⟨p1,p2⟩:=ha
      have p3:=ok.za
      split
      ·constructor<;>dsimp only<;>omega
      ·exact ⟨p1,p2⟩
theorem stepR_in {n:Nod} {L:List Rng} (ok:n.Ok) (hL:∀ r∈L,r.In8):(stepR n L).1.In8:=by
 unfold stepR
 split
 ·rename_i h
  have h:=there_iff.1 h
  exact nodeR_in ok (getD_in hL a_) (getD_in hL a_)
 ·exact ⟨⟨by dsimp only;decide,by dsimp only;decide⟩,⟨by dsimp only;decide,by dsimp only;decide⟩⟩
theorem flow_in {l:List Nod} {a:Rng} (okl:∀ n∈l,n.Ok) (ha:a.In8) {k:Nat} (hk:k≤l.length):∀ r∈growL stepR l a k,r.In8 :=
 growL_all (n:=k) ha (fun j hj h=>stepR_in (getD_in okl a_) h) k (AE_ _)
noncomputable def flow_ly_I (l:List Nod) (a:Rng) (k:Nat):VS:=stt 50 [(0,.sl 19 (l.map nodC)),(7,.own 900),(25,.sl 19 (l.map nodC)),(26,i64 l.length),(27,i64 k)] [(900,.slc 216 2 ((growL stepR l a k).map rchC))]
noncomputable def flow_ly_Z (l:List Nod) (a:Rng):VS:=flow_ly_I l a (l.length)
theorem flow_ly_s (l:List Nod) (a:Rng) (okl:∀ n∈l,n.Ok) (wl:∀ n∈l,n.w.length≤100000∧n.b.length≤100000) (ha:a.In8) (f8:l.length≤8) (h:∀ k,k<l.length→errL stepR l a k=0) (k:Nat) (hk:k<l.length):VT M_ (fnC Tryz.f127 [1,1,1,0,1,0,0]) (flow_ly_I l a k) .normal (flow_ly_I l a (k+1)):=by
 have q:=h k hk
 have q1:=growL_len stepR l a k
 have q2:=flow_in okl ha (Nat.le_of_lt hk)
 have q3:=getD_in okl hk
 have q4:=getD_in wl hk
 obtain ⟨q5,q6⟩:=q4
 unfold errL at q
 have oz2:=(map_at (nodC) (default) (l:=l) (i:=k) hk)
 have oz3:=@gstep_v (l.getD k default) (growL stepR l a k) q3 q2 a_ q5 q6
 exact tR_ [r_,b_,.r [] [.row (sO oz2)],.r [] [cr oz3],r_,d_,r_,.r [] [.n ((↑k:Int)+1)]] [.any (rg [(8,4),(28,12),(42,5)]),.drop [9,10,44],.ren 45 900,.weak 27 (i64 (↑(k+1):Int)),.blk 900 (Blk.slc 216 2 (K_ rchC (growL stepR l a (k+1)))),.sort] (.c8 (decide_eq_true (p:=((↑k:Int)<(l.length:Int))) a_) (s_ (0≤(↑k:Int))) oz2 oz3 (f0_ (((stepR (l.getD k default) (growL stepR l a k)).snd != 0)=false)) (h_ (((K_ rchC (growL stepR l a k)).length+1)*2≤140737488355328)) (h_ ((K_ rchC (growL stepR l a k)).length+1≤9223372036854775807)) (i6n ((↑k:Int)+1) a_)<|.d2 (wS_ k) (show BlkW (Blk.slc 216 2 (K_ rchC (growL stepR l a k)++[[i8 (stepR (l.getD k default) (growL stepR l a k)).fst.lo,i8 (stepR (l.getD k default) (growL stepR l a k)).fst.hi]])) (Blk.slc 216 2 (K_ rchC (growL stepR l a (k+1)))) from (CW_ (e:=216) (z:=2) (rows_to (rchC) (r:=K_ rchC (growL stepR l a k)++[[i8 (stepR (l.getD k default) (growL stepR l a k)).fst.lo,i8 (stepR (l.getD k default) (growL stepR l a k)).fst.hi]]) (l:=growL stepR l a k++[Rng.mk (stepR (l.getD k default) (growL stepR l a k)).fst.lo (stepR (l.getD k default) (growL stepR l a k)).fst.hi]) (m:=growL stepR l a (k+1)) m0_ (show (growL stepR l a k++[Rng.mk (stepR (l.getD k default) (growL stepR l a k)).fst.lo (stepR (l.getD k default) (growL stepR l a k)).fst.hi])=(growL stepR l a (k+1)) from t0_)))))
theorem flow_ly_e (l:List Nod) (a:Rng) (okl:∀ n∈l,n.Ok) (wl:∀ n∈l,n.w.length≤100000∧n.b.length≤100000) (ha:a.In8) (f8:l.length≤8) (h:∀ k,k<l.length→errL stepR l a k=0):VT M_ (fnC Tryz.f127 [1,1,1,0,1,0,0]) (flow_ly_I l a (l.length)) (.exit 1) (flow_ly_Z l a):=by
 exact tR_ [r_,d_] [.any [28],.sort] (.d (decide_eq_false (p:=((l.length:Int)<(l.length:Int))) a_))
theorem flow_ly (l:List Nod) (a:Rng) (okl:∀ n∈l,n.Ok) (wl:∀ n∈l,n.w.length≤100000∧n.b.length≤100000) (ha:a.In8) (f8:l.length≤8) (h:∀ k,k<l.length→errL stepR l a k=0):VT M_ (fnC Tryz.f127 [1,1,1,0,1,0]) (flow_ly_I l a 0) (.exit 1) (flow_ly_Z l a) :=
 VT.loop (fun k=>flow_ly_I l a k) (l.length) (fun k hk=>flow_ly_s l a okl wl ha f8 h k hk) (flow_ly_e l a okl wl ha f8 h) c0_
noncomputable def flow_ln_I (l:List Nod) (a:Rng) (m:Nat) (k:Nat):VS:=stt 50 [(0,.sl 19 (l.map nodC)),(7,.own 900),(25,.sl 19 (l.map nodC)),(26,i64 l.length),(27,i64 k)] [(900,.slc 216 2 ((growL stepR l a k).map rchC))]
noncomputable def flow_ln_Z (l:List Nod) (a:Rng) (m:Nat):VS:=stt 50 [(4,nilv),(5,i64 m),(6,i64 (errL stepR l a m))] []
theorem flow_ln_s (l:List Nod) (a:Rng) (m:Nat) (okl:∀ n∈l,n.Ok) (wl:∀ n∈l,n.w.length≤100000∧n.b.length≤100000) (ha:a.In8) (f8:l.length≤8) (hm:m<l.length) (hf:errL stepR l a m≠0) (h:∀ k,k<m→errL stepR l a k=0) (k:Nat) (hk:k<m):VT M_ (fnC Tryz.f127 [1,1,1,0,1,0,0]) (flow_ln_I l a m k) .normal (flow_ln_I l a m (k+1)):=by
 have q:=h k hk
 have q1:=growL_len stepR l a k
 have q2:=flow_in okl ha (s_ (k≤l.length))
 have q3:=getD_in okl (s_ (k<l.length))
 have q4:=getD_in wl (s_ (k<l.length))
 obtain ⟨q5,q6⟩:=q4
 unfold errL at q
 have oz2:=(map_at (nodC) (default) (l:=l) (i:=k) a_)
 have oz3:=@gstep_v (l.getD k default) (growL stepR l a k) q3 q2 a_ q5 q6
 exact tR_ [r_,b_,.r [] [.row (sO oz2)],.r [] [cr oz3],r_,d_,r_,.r [] [.n ((↑k:Int)+1)]] [.any (rg [(8,4),(28,12),(42,5)]),.drop [9,10,44],.ren 45 900,.weak 27 (i64 (↑(k+1):Int)),.blk 900 (Blk.slc 216 2 (K_ rchC (growL stepR l a (k+1)))),.sort] (.c8 (decide_eq_true (p:=((↑k:Int)<(l.length:Int))) a_) (s_ (0≤(↑k:Int))) oz2 oz3 (f0_ (((stepR (l.getD k default) (growL stepR l a k)).snd != 0)=false)) (h_ (((K_ rchC (growL stepR l a k)).length+1)*2≤140737488355328)) (h_ ((K_ rchC (growL stepR l a k)).length+1≤9223372036854775807)) (i6n ((↑k:Int)+1) a_)<|.d2 (wS_ k) (show BlkW (Blk.slc 216 2 (K_ rchC (growL stepR l a k)++[[i8 (stepR (l.getD k default) (growL stepR l a k)).fst.lo,i8 (stepR (l.getD k default) (growL stepR l a k)).fst.hi]])) (Blk.slc 216 2 (K_ rchC (growL stepR l a (k+1)))) from (CW_ (e:=216) (z:=2) (rows_to (rchC) (r:=K_ rchC (growL stepR l a k)++[[i8 (stepR (l.getD k default) (growL stepR l a k)).fst.lo,i8 (stepR (l.getD k default) (growL stepR l a k)).fst.hi]]) (l:=growL stepR l a k++[Rng.mk (stepR (l.getD k default) (growL stepR l a k)).fst.lo (stepR (l.getD k default) (growL stepR l a k)).fst.hi]) (m:=growL stepR l a (k+1)) m0_ (show (growL stepR l a k++[Rng.mk (stepR (l.getD k default) (growL stepR l a k)).fst.lo (stepR (l.getD k default) (growL stepR l a k)).fst.hi])=(growL stepR l a (k+1)) from t0_)))))
theorem flow_ln_e (l:List Nod) (a:Rng) (m:Nat) (okl:∀ n∈l,n.Ok) (wl:∀ n∈l,n.w.length≤100000∧n.b.length≤100000) (ha:a.In8) (f8:l.length≤8) (hm:m<l.length) (hf:errL stepR l a m≠0) (h:∀ k,k<m→errL stepR l a k=0):VT M_ (fnC Tryz.f127 [1,1,1,0,1,0,0]) (flow_ln_I l a m (m)) (.ret) (flow_ln_Z l a m):=by
 have q1:=growL_len stepR l a m
 have q2:=flow_in okl ha (Nat.le_of_lt hm)
 have q3:=getD_in okl hm
 have q4:=getD_in wl hm
 obtain ⟨q5,q6⟩:=q4
 unfold errL at hf
 have oz2:=(map_at (nodC) (default) (l:=l) (i:=m) hm)
 have oz3:=@gstep_v (l.getD m default) (growL stepR l a m) q3 q2 a_ q5 q6
 have oz5:=(N_ (k:=.i64) (show (((stepR (l.getD m default) (growL stepR l a m)).snd):Int)=(errL stepR l a m) from t0_))
 exact tR_ [r_,b_,.r [] [.row (sO oz2)],.r [] [cr oz3],r_,b_,r_] [.any (rg [(0,1),(7,5),(25,17)]),.drop [900,9,10],.weak 6 (wO oz5),.sort] (.d6 (decide_eq_true (p:=((↑m:Int)<(l.length:Int))) a_) (s_ (0≤(↑m:Int))) oz2 oz3 (f0_ (((stepR (l.getD m default) (growL stepR l a m)).snd != 0)=true)) oz5)
theorem flow_ln (l:List Nod) (a:Rng) (m:Nat) (okl:∀ n∈l,n.Ok) (wl:∀ n∈l,n.w.length≤100000∧n.b.length≤100000) (ha:a.In8) (f8:l.length≤8) (hm:m<l.length) (hf:errL stepR l a m≠0) (h:∀ k,k<m→errL stepR l a k=0):VT M_ (fnC Tryz.f127 [1,1,1,0,1,0]) (flow_ln_I l a m 0) (.ret) (flow_ln_Z l a m) :=
 VT.loop (fun k=>flow_ln_I l a m k) (m) (fun k hk=>flow_ln_s l a m okl wl ha f8 hm hf h k hk) (flow_ln_e l a m okl wl ha f8 hm hf h) c0_
theorem flow_y (l:List Nod) (a:Rng) (okl:∀ n∈l,n.Ok) (wl:∀ n∈l,n.w.length≤100000∧n.b.length≤100000) (ha:a.In8) (h:FOK l a):VC M_ 127 ([.sl 19 (l.map nodC),rch a]) (.tup [.sl 2 ((growL stepR l a l.length).map rchC),i64 l.length,i64 0]):=by
 obtain ⟨q2,q3,q1,q4⟩:=id h
 have oz2:=@upside_v (a.lo) (a.hi)
 have oz6:=@flow_ly (l) (a) okl wl ha q3 q4
 exact (cR_ [r_,r_,d_,r_,d_,.r [] [cr oz2],d_,r_,r_,.code [.any (rg [(1,1),(3,4),(12,13)]),.drop [3],.ren 24 900,.weak 26 (i64 (l.length:Int)),.weak 27 (i64 (↑0:Int)),.sort] (BS_ 1) (zO oz6),r_] (AV.tup [AV.sl 2 (K_ rchC (growL stepR l a l.length)),i64 ((K_ nodC l).length:Int),i64 0]) Tryz.func127 (.d7 (q_ ((((K_ nodC l).length:Int)==0)=false)) (h_ (decide (((K_ nodC l).length:Int)>8)=false)) oz2 (decide_eq_false (p:=(a.lo>a.hi)) a_) (N_ (k:=.i64) (show ((((K_ nodC l).length:Int)):Int)=((l.length:Int)) from k0_)) w0_ oz6)).weak (AQ_ _) (AA_ (.cons (.refl _) (.cons (N_ k0_) (.cons (.refl _) .nil))))
theorem flow_m (l:List Nod) (a:Rng) (m:Nat) (okl:∀ n∈l,n.Ok) (wl:∀ n∈l,n.w.length≤100000∧n.b.length≤100000) (ha:a.In8) (i:a.lo≤a.hi) (f8:l.length≤8) (hm:m<l.length) (hf:errL stepR l a m≠0) (h:∀ k,k<m→errL stepR l a k=0):VC M_ 127 ([.sl 19 (l.map nodC),rch a]) (.tup [nilv,i64 m,i64 (errL stepR l a m)]):=by
 have oz2:=@upside_v (a.lo) (a.hi)
 have oz6:=@flow_ln (l) (a) (m) okl wl ha f8 hm hf h
 exact cR_ [r_,r_,d_,r_,d_,.r [] [cr oz2],d_,r_,r_,.code [.any (rg [(1,1),(3,4),(12,13)]),.drop [3],.ren 24 900,.weak 26 (i64 (l.length:Int)),.weak 27 (i64 (↑0:Int)),.sort] (DT_) (zO oz6)] _ Tryz.func127 (.d7 (q_ ((((K_ nodC l).length:Int)==0)=false)) (h_ (decide (((K_ nodC l).length:Int)>8)=false)) oz2 (decide_eq_false (p:=(a.lo>a.hi)) a_) (N_ (k:=.i64) (show ((((K_ nodC l).length:Int)):Int)=((l.length:Int)) from k0_)) w0_ oz6)
def flowB (l:List Nod) (a:Rng):Nat→Bool:=fun k=>errL stepR l a k==0
def flowE (l:List Nod) (a:Rng):Int×Int :=
 if l.length=0 then (-1,12) else if 8<l.length then (-1,4) else if a.lo>a.hi then (-1,2)
 else if firstBad (flowB l a) l.length<l.length then (firstBad (flowB l a) l.length,errL stepR l a (firstBad (flowB l a) l.length)) else (l.length,0)
theorem flow_a (l:List Nod) (a:Rng) (hl:l.length≤1000) (h:l.length=0∨8<l.length∨a.lo>a.hi):VC M_ 127 ([.sl 19 (l.map nodC),rch a]) (.tup [nilv,i64 (flowE l a).1,i64 (flowE l a).2]):=by
 rcases bft (((K_ nodC l).length:Int)==0) with hc0|hc0
 ·have gc0:((K_ nodC l).length:Int)=0:=bet hc0
  exact (cR_ [r_,r_,b_,r_] (AV.tup [AV.lit (AK_ none 0 0),i64 (-1),i64 12]) Tryz.func127 (.d hc0)).weak (AQ_ _) (AA_ (.cons (.refl _) (.cons (N_ g0_) (.cons (N_ g0_) .nil))))
 ·have gc0:¬((K_ nodC l).length:Int)=0:=bef hc0
  rcases bft (decide (((K_ nodC l).length:Int)>8)) with hc1|hc1
  ·have gc1:=of_decide_eq_true hc1
   exact (cR_ [r_,r_,d_,r_,b_,r_] (AV.tup [AV.lit (AK_ none 0 0),i64 (-1),i64 4]) Tryz.func127 (.d2 hc0 hc1)).weak (AQ_ _) (AA_ (.cons (.refl _) (.cons (N_ g0_) (.cons (N_ g0_) .nil))))
  ·have gc1:=of_decide_eq_false hc1
   have oz2:=@upside_v (a.lo) (a.hi)
   exact (cR_ [r_,r_,d_,r_,d_,.r [] [cr oz2],b_,r_] (AV.tup [AV.lit (AK_ none 0 0),i64 (-1),i64 2]) Tryz.func127 (.d4 hc0 hc1 oz2 (a0_ (decide (a.lo>a.hi)=true)))).weak (AQ_ _) (AA_ (.cons (.refl _) (.cons (N_ g0_) (.cons (N_ g0_) .nil))))
theorem flowE_y {l:List Nod} {a:Rng} (h:FOK l a):flowE l a=((l.length:Int),0):=by
 obtain ⟨q2,q3,q1,q4⟩:=h
 unfold flowE
 rw[j_ a_,j_ a_,j_ a_,firstBad_all fun k hk=>by simpa [flowB] using q4 k hk,j_ a_]
theorem flowE_at {l:List Nod} {a:Rng} {m:Nat} (i:a.lo≤a.hi) (e:0<l.length) (f:l.length≤8) (hm:m<l.length) (hf:errL stepR l a m≠0) (h:∀ k,k<m→errL stepR l a k=0):flowE l a=((m:Int),errL stepR l a m):=by
 have:=firstBad_at (p:=flowB l a) (m:=m) (by simpa [flowB] using hf) (fun k hk=>by simpa [flowB] using h k hk) hm
 unfold flowE
 rw[j_ a_,j_ a_,j_ a_,this,i_ hm]
theorem FOK.cases (l:List Nod) (a:Rng):FOK l a∨(l.length=0∨8<l.length∨a.lo>a.hi)∨(a.lo≤a.hi∧0<l.length∧l.length≤8∧∃ m,m<l.length∧errL stepR l a m≠0∧∀ k,k<m→errL stepR l a k=0):=by
 by_cases c:l.length=0∨8<l.length∨a.lo>a.hi
 ·exact .inr (.inl c)
 ·rcases all_or (flowB l a) l.length with h|⟨m,h1,h2,h3⟩
  ·exact .inl ⟨by omega,by omega,by omega,fun k hk=>by simpa [flowB] using h k hk⟩
  ·exact .inr (.inr ⟨by omega,by omega,by omega,m,h1,by simpa [flowB] using h2,fun k hk=>by simpa [flowB] using h3 k hk⟩)
theorem flowE_n {l:List Nod} {a:Rng} (h:¬ FOK l a):(flowE l a).2≠0:=by
 rcases FOK.cases l a with q|q|⟨i,e,f,m,h1,h2,h3⟩
 ·exact absurd q h
 ·unfold flowE
  by_cases c1:l.length=0
  ·rw[i_ c1];dsimp only;decide
  ·rw[j_ c1]
   by_cases c2:8<l.length
   ·rw[i_ c2];dsimp only;decide
   ·rw[j_ c2,i_ a_];dsimp only;decide
 ·rw[flowE_at i e f h1 h2 h3];exact h2
theorem flow_n (l:List Nod) (a:Rng) (okl:∀ n∈l,n.Ok) (wl:∀ n∈l,n.w.length≤100000∧n.b.length≤100000) (ha:a.In8) (hl:l.length≤1000) (h:¬ FOK l a):VC M_ 127 [.sl 19 (l.map nodC),rch a] (.tup [nilv,i64 (flowE l a).1,i64 (flowE l a).2]):=by
 rcases FOK.cases l a with q|q|⟨i,e,f,m,h1,h2,h3⟩
 ·exact absurd q h
 ·exact flow_a l a hl q
 ·rw[flowE_at i e f h1 h2 h3];exact flow_m l a m okl wl ha i f h1 h2 h3
theorem rowsR_both (f:Nat→Rng) (n:Nat):∀ k,k<n→rowsR f (k+1)=bothR ((List.range n).map f) (k+1):=by
 have g:∀ k,k<n→((List.range n).map f).getD k default=f k:=fun k hk=>by
  rw[AU_,AX_,List.getElem?_range hk];rfl
 intro k
 induction k with
 | zero=>intro h;rw[rowsR,i_ rfl,bothR,bothR,g 0 h]
 | succ k ih=>intro h;rw[rowsR,j_ a_,ih a_,bothR.eq_2 _ (k+1),g _ h]
theorem rowsR_spans {n:Nod} {a:Rng} (b0:0<n.b.length) (h:sharedB n.w n.b=true):rowsR (spRow n.w n.b a.lo a.hi n.za (decide (n.np>0))) n.b.length=bothR (spansN n a) (spansN n a).length:=by
 have e:spansN n a=(List.range n.b.length).map (spRow n.w n.b a.lo a.hi n.za (decide (n.np>0))):=by unfold spansN allR;rw[i_ h]
 rw[e,V_,BX_]
 obtain ⟨m,hm⟩:∃ m,n.b.length=m+1:=⟨n.b.length-1,by omega⟩
 rw[hm];exact rowsR_both _ _ _ a_
theorem sumE_s {n:Nod} {a:Rng} (h:sharedB n.w n.b=true) (hh:((allR n.w n.b a.lo a.hi n.za (decide (n.np>0)) n.b.length).all holdB)=true):sumG n a=(afterE ⟨(rowsR (spRow n.w n.b a.lo a.hi n.za (decide (n.np>0))) n.b.length).lo,(rowsR (spRow n.w n.b a.lo a.hi n.za (decide (n.np>0))) n.b.length).hi⟩ n,0):=by
 rw[sumG_y (by rw[i_ h];exact hh),←rowsR_spans (hd_pos h) h]
theorem sumE_o {n:Nod} {a:Rng} (h:sharedB n.w n.b=true) (hh:((allR n.w n.b a.lo a.hi n.za (decide (n.np>0)) n.b.length).all holdB)=false):sumG n a=(⟨0,0⟩,10):=by
 unfold sumG spansN;rw[i_ h,j_ (by rw[hh];decide)]
theorem sumE_0 {n:Nod} {a:Rng} (h:sharedB n.w n.b=false):sumG n a=(afterE ⟨0,0⟩ n,0):=by
 unfold sumG spansN;rw[h];rfl
theorem nodeR_pad {n:Nod} {a b:Rng} (h1:¬ checkE n≠0) (h2:¬ (a.lo>a.hi∨(n.kd=6∧b.lo>b.hi))) (h3:n.kd=8∧n.np>0):nodeR n a b=(⟨min a.lo n.za,max a.hi n.za⟩,0):=by
 unfold nodeR
 rw[j_ h1,j_ h2,j_ a_,j_ a_,j_ a_,i_ h3]
theorem refGNode_v (n:Nod) (a b:Rng) (ok:n.Ok) (ha:a.In8) (hb:b.In8) (wl:n.w.length≤100000) (bl:n.b.length≤100000):VC M_ 107 ([nod n,rch a,rch b]) (.tup [rch (nodeR n a b).1,i64 (nodeR n a b).2]):=by
 have ok_kd:=ok.kd
 have ok_za:=ok.za
 have ok_w:=ok.w
 have ok_b:=ok.b
 obtain ⟨p1,p2⟩:=id ha
 obtain ⟨p3,p4⟩:=id hb
 have q1:=@hd_pos n.w n.b
 have q2:=@rows_all n.w n.b a.lo a.hi n.za (decide (n.np>0))
 have oz0:=@refCheck_v (n) wl bl ok_kd
 rcases bft (checkE n != 0) with hc0|hc0
 ·have gc0:¬checkE n=0:=bdt hc0
  exact (cR_ [r_,.r [] [cr oz0],r_,b_,r_] (AV.tup [AV.agg [i8 0,i8 0],i64 (checkE n)]) Tryz.func107 (.d2 oz0 hc0)).weak (AQ_ _) (AA_ (.cons (AZ_ (.cons (N_ u_) (.cons (N_ u_) .nil))) (.cons (N_ u_) .nil)))
 ·have gc0:checkE n=0:=bdf hc0
  rcases bft (decide (a.lo>a.hi) || n.kd==6&&decide (b.lo>b.hi)) with hc1|hc1
  ·have gc1:a.lo>a.hi∨n.kd=6∧b.lo>b.hi:=gc0_ hc1
   exact (cR_ [r_,.r [] [cr oz0],r_,d_,.r [] [o_,o_,o_,o_,o_,o_,o_,o_,o_,o_,.sel 2,.sel 1],b_,r_] (AV.tup [AV.agg [i8 0,i8 0],i64 2]) Tryz.func107 (.d3 oz0 hc0 hc1)).weak (AQ_ _) (AA_ (.cons (AZ_ (.cons (N_ u_) (.cons (N_ u_) .nil))) (.cons (N_ u_) .nil)))
  ·have gc1:¬a.lo>a.hi∧(¬n.kd=6∨¬b.lo>b.hi):=gc0_ hc1
   rcases bft (n.kd==1 || n.kd==2 || n.kd==3) with hc2|hc2
   ·have gc2:(n.kd=1∨n.kd=2)∨n.kd=3:=gc0_ hc2
    have oz4:=@shared_v (n.w) (n.b) wl bl
    rcases bft (sharedB n.w n.b) with hc3|hc3
    ·have gc3:sharedB n.w n.b=true:=f2_
     have oz6:=@rows_v (n.w) (n.b) (a.lo) (a.hi) (n.za) (decide (n.np>0)) ok_w ok_b wl bl (by (exact q1 b0_)) p1 p2 ok_za
     rcases bft (!(decide ((rowsR (spRow n.w n.b a.lo a.hi n.za (decide (n.np>0))) n.b.length).lo ≥ -2147483648)&&decide ((rowsR (spRow n.w n.b a.lo a.hi n.za (decide (n.np>0))) n.b.length).hi≤2147483647))) with hc4|hc4
     ·have gc4:¬(rowsR (spRow n.w n.b a.lo a.hi n.za (decide (n.np>0))) n.b.length).lo ≥ -2147483648∨¬(rowsR (spRow n.w n.b a.lo a.hi n.za (decide (n.np>0))) n.b.length).hi≤2147483647:=gc0_ hc4
      exact (cR_ [r_,.r [] [cr oz0],r_,d_,.r [] [o_,o_,o_,o_,o_,o_,o_,o_,o_,o_,.sel 2,.sel 1],d_,.r [] [o_,o_,o_,.sel 1,o_,o_,o_,.sel 1],b_,r_,.r [] [cr oz4],b_,.r [] [cr oz6],r_,b_,r_] (AV.tup [AV.agg [i8 0,i8 0],i64 10]) Tryz.func107 (.d8 oz0 hc0 hc1 hc2 oz4 hc3 oz6 hc4)).weak (AQ_ _) (AA_ (.cons (AZ_ (.cons (N_ l1_) (.cons (N_ l1_) .nil))) (.cons (N_ l1_) .nil)))
     ·have gc4:(rowsR (spRow n.w n.b a.lo a.hi n.za (decide (n.np>0))) n.b.length).lo ≥ -2147483648∧(rowsR (spRow n.w n.b a.lo a.hi n.za (decide (n.np>0))) n.b.length).hi≤2147483647:=gc0_ hc4
      have oz8:=@refAfter_v (rowsR (spRow n.w n.b a.lo a.hi n.za (decide (n.np>0))) n.b.length) (n) ok
      exact (cR_ [r_,.r [] [cr oz0],r_,d_,.r [] [o_,o_,o_,o_,o_,o_,o_,o_,o_,o_,.sel 2,.sel 1],d_,.r [] [o_,o_,o_,.sel 1,o_,o_,o_,.sel 1],b_,r_,.r [] [cr oz4],b_,.r [] [cr oz6],r_,d_,.r [] [cr oz8],r_] (AV.tup [AV.agg [i8 (afterE (rowsR (spRow n.w n.b a.lo a.hi n.za (decide (n.np>0))) n.b.length) n).lo,i8 (afterE (rowsR (spRow n.w n.b a.lo a.hi n.za (decide (n.np>0))) n.b.length) n).hi],i64 0]) Tryz.func107 (.c8 oz0 hc0 hc1 hc2 oz4 hc3 oz6 hc4<|.d oz8)).weak (AQ_ _) (AA_ (.cons (AZ_ (.cons (N_ k1_) (.cons (N_ k1_) .nil))) (.cons (N_ k1_) .nil)))
    ·have gc3:sharedB n.w n.b=false:=f2_
     have oz7:=@refAfter_v (Rng.mk 0 0) (n) ok
     exact (cR_ [r_,.r [] [cr oz0],r_,d_,.r [] [o_,o_,o_,o_,o_,o_,o_,o_,o_,o_,.sel 2,.sel 1],d_,.r [] [o_,o_,o_,.sel 1,o_,o_,o_,.sel 1],b_,r_,.r [] [cr oz4],d_,r_,d_,.r [] [cr oz7],r_] (AV.tup [AV.agg [i8 (afterE (Rng.mk 0 0) n).lo,i8 (afterE (Rng.mk 0 0) n).hi],i64 0]) Tryz.func107 (.d8 oz0 hc0 hc1 hc2 oz4 hc3 z1_ oz7)).weak (AQ_ _) (AA_ (.cons (AZ_ (.cons (N_ w1_) (.cons (N_ w1_) .nil))) (.cons (N_ w1_) .nil)))
   ·have gc2:(¬n.kd=1∧¬n.kd=2)∧¬n.kd=3:=gc0_ hc2
    rcases bft (n.kd==6) with hc3|hc3
    ·have gc3:n.kd=6:=bet hc3
     have oz5:=@refJoinOne_v (a.lo) (b.lo) (n) ok p1 p3
     have oz6:=@refJoinOne_v (a.hi) (b.hi) (n) ok p2 p4
     exact (cR_ [r_,.r [] [cr oz0],r_,d_,.r [] [o_,o_,o_,o_,o_,o_,o_,o_,o_,o_,.sel 2,.sel 1],d_,.r [] [o_,o_,o_,.sel 1,o_,o_,o_,.sel 1],d_,r_,b_,.r [] [cr oz5,cr oz6]] (AV.tup [AV.agg [i8 (joinE a.lo b.lo n),i8 (joinE a.hi b.hi n)],i64 0]) Tryz.func107 (.d7 oz0 hc0 hc1 hc2 hc3 oz5 oz6)).weak (AQ_ _) (AA_ (.cons (AZ_ (.cons (N_ u_) (.cons (N_ u_) .nil))) (.cons (N_ u_) .nil)))
    ·have gc3:¬n.kd=6:=bef hc3
     rcases bft (n.kd==7) with hc4|hc4
     ·have gc4:n.kd=7:=bet hc4
      have oz6:=@refActOne_v (a.lo) (n) ok p1
      have oz7:=@refActOne_v (a.hi) (n) ok p2
      exact (cR_ [r_,.r [] [cr oz0],r_,d_,.r [] [o_,o_,o_,o_,o_,o_,o_,o_,o_,o_,.sel 2,.sel 1],d_,.r [] [o_,o_,o_,.sel 1,o_,o_,o_,.sel 1],d_,r_,d_,r_,b_,.r [] [cr oz6,cr oz7]] (AV.tup [AV.agg [i8 (oneN a.lo n),i8 (oneN a.hi n)],i64 0]) Tryz.func107 (.d8 oz0 hc0 hc1 hc2 hc3 hc4 oz6 oz7)).weak (AQ_ _) (AA_ (.cons (AZ_ (.cons (N_ u_) (.cons (N_ u_) .nil))) (.cons (N_ u_) .nil)))
     ·have gc4:¬n.kd=7:=bef hc4
      rcases bft (n.kd==8&&decide (n.np>0)) with hc5|hc5
      ·have gc5:n.kd=8∧n.np>0:=gc0_ hc5
       exact (cR_ [r_,.r [] [cr oz0],r_,d_,.r [] [o_,o_,o_,o_,o_,o_,o_,o_,o_,o_,.sel 2,.sel 1],d_,.r [] [o_,o_,o_,.sel 1,o_,o_,o_,.sel 1],d_,r_,d_,r_,d_,.r [] [o_,o_,o_,.sel 2],b_,r_] (AV.tup [AV.agg [i8 (if n.za<a.lo then n.za else a.lo),i8 (if n.za>a.hi then n.za else a.hi)],i64 0]) Tryz.func107 (.d7 oz0 hc0 hc1 hc2 hc3 hc4 hc5)).weak (AQ_ _) (AA_ (.cons (AZ_ (.cons (N_ (by (rw[nodeR_pad a_ a_ a_];dsimp only;omega))) (.cons (N_ (by (rw[nodeR_pad a_ a_ a_];dsimp only;omega))) .nil))) (.cons (N_ u_) .nil)))
      ·have gc5:¬n.kd=8∨¬n.np>0:=gc0_ hc5
       exact (cR_ [r_,.r [] [cr oz0],r_,d_,.r [] [o_,o_,o_,o_,o_,o_,o_,o_,o_,o_,.sel 2,.sel 1],d_,.r [] [o_,o_,o_,.sel 1,o_,o_,o_,.sel 1],d_,r_,d_,r_,d_,.r [] [o_,o_,o_,.sel 2],d_,r_] (AV.tup [AV.agg [i8 a.lo,i8 a.hi],i64 0]) Tryz.func107 (.d7 oz0 hc0 hc1 hc2 hc3 hc4 hc5)).weak (AQ_ _) (AA_ (.cons (AZ_ (.cons (N_ u_) (.cons (N_ u_) .nil))) (.cons (N_ u_) .nil)))
theorem stepR_6 {n:Nod} {L:List Rng} (h:thereB n ((K_ rchC L).length:Int)=true) (h6:n.kd=6):stepR n L=nodeR n (L.getD n.na.toNat default) (L.getD n.nb.toNat default):=by
 rw[V_] at h
 unfold stepR;rw[i_ h];unfold secN;rw[i_ h6]
theorem stepR_1 {n:Nod} {L:List Rng} (h:thereB n ((K_ rchC L).length:Int)=true) (h6:¬ n.kd=6):stepR n L=nodeR n (L.getD n.na.toNat default) (L.getD n.na.toNat default):=by
 rw[V_] at h
 unfold stepR;rw[i_ h];unfold secN;rw[j_ h6]
theorem stepR_0 {n:Nod} {L:List Rng} (h:thereB n ((K_ rchC L).length:Int)=false):stepR n L=(⟨0,0⟩,8):=by
 rw[V_] at h
 unfold stepR;rw[h];rfl
theorem stepR_ok {n:Nod} {L:List Rng} (h:(stepR n L).2=0):thereB n ((K_ rchC L).length:Int)=true:=by
 cases e:thereB n ((K_ rchC L).length:Int) with
 | true=>rfl
 | false=>rw[stepR_0 e] at h;cases h
theorem stepR_at {n:Nod} {L:List Rng} (okL:∀ r∈L,r.In8) (h:thereB n ((K_ rchC L).length:Int)=true):(0≤n.na∧n.na<L.length∧n.na.toNat<L.length∧(n.kd=6→0≤n.nb∧n.nb<L.length∧n.nb.toNat<L.length))∧(L.getD n.na.toNat default).In8∧(n.kd=6→(L.getD n.nb.toNat default).In8):=by
 rw[V_] at h
 have h:=there_iff.1 h
 have h6:n.kd=6→secN n=n.nb:=fun h=>i_ h
 refine ⟨⟨by omega,by omega,by omega,fun e=>by have:=h6 e;omega⟩,getD_in okL a_,fun e=>getD_in okL (by have:=h6 e;omega)⟩
noncomputable def rflow_ly_I (l:List Nod) (a:Rng) (k:Nat):VS:=stt 77 [(0,.sl 19 (l.map nodC)),(7,.own 900),(8,i64 k)] [(900,.slc 153 2 ((growL stepR l a k).map rchC))]
noncomputable def rflow_ly_Z (l:List Nod) (a:Rng):VS:=rflow_ly_I l a (l.length)
theorem rflow_ly_s (l:List Nod) (a:Rng) (okl:∀ n∈l,n.Ok) (wl:∀ n∈l,n.w.length≤100000∧n.b.length≤100000) (ha:a.In8) (f8:l.length≤8) (h:∀ k,k<l.length→errL stepR l a k=0) (k:Nat) (hk:k<l.length):VT M_ (fnC Tryz.f74 [1,1,1,1,1,0,1,0,0]) (rflow_ly_I l a k) .normal (rflow_ly_I l a (k+1)):=by
 have q:=h k hk
 have q1:=growL_len stepR l a k
 have q2:=flow_in okl ha (Nat.le_of_lt hk)
 have q3:=getD_in okl hk
 have q4:=getD_in wl hk
 obtain ⟨q5,q6⟩:=q4
 have q8:(K_ rchC (growL stepR l a k)).length=(growL stepR l a k).length:=V_ _
 unfold errL at q
 have qt:=stepR_ok q
 obtain ⟨qa,qb,qc⟩:=stepR_at (n:=l.getD k default) q2 qt
 have s6:=stepR_6 qt
 have s1:=stepR_1 qt
 have oz0:=(h_ (decide ((↑k:Int)<((K_ nodC l).length:Int))=true))
 have oz1:=(s_ (0≤(↑k:Int)))
 have oz2:=(map_at (nodC) (default) (l:=l) (i:=k) hk)
 have oz3:=@refThere_v (l.getD k default) (((K_ rchC (growL stepR l a k)).length:Int))
 have oz4:=(show (!thereB (l.getD k default) ((K_ rchC (growL stepR l a k)).length:Int))=false by (rw[qt];rfl))
 have oz5:=(s_ (0≤(l.getD k default).na))
 have oz6:=(s_ ((l.getD k default).na<((K_ rchC (growL stepR l a k)).length:Int)))
 have oz7:=(map_at (rchC) (default) (l:=growL stepR l a k) (i:=(l.getD k default).na.toNat) a_)
 rcases bft ((l.getD k default).kd==6) with hc0|hc0
 ·have gc0:(l.getD k default).kd=6:=bet hc0
  have oz11:=(map_at (rchC) (default) (l:=growL stepR l a k) (i:=(l.getD k default).nb.toNat) a_)
  have oz15:=@refGNode_v (l.getD k default) ((growL stepR l a k).getD (l.getD k default).na.toNat default) ((growL stepR l a k).getD (l.getD k default).nb.toNat default) q3 qb (by (exact qc a_)) q5 q6
  exact tR_ [r_,b_,.r [] [.row (sO oz2)],.r [] [cr oz3],d_,.r [] [.row (sO oz7)],r_,b_,.r [] [.row (sO oz11)],.r [] [.row (sO oz7),cr oz15],r_,d_,r_,.r [] [.n ((↑k:Int)+1)]] [.any (rg [(9,4),(26,15),(42,26),(70,4)]),.drop [9,10,11,72],.ren 73 900,.weak 8 (i64 (↑(k+1):Int)),.blk 900 (Blk.slc 153 2 (K_ rchC (growL stepR l a (k+1)))),.sort] (.c8 oz0 oz1 oz2 oz3 oz4 oz5 oz6 oz7<|.c8 hc0 (s_ (0≤(l.getD k default).nb)) (s_ ((l.getD k default).nb<((K_ rchC (growL stepR l a k)).length:Int))) oz11 oz5 oz6 oz7 oz15<|.d6 (show ((nodeR (l.getD k default) ((growL stepR l a k).getD (l.getD k default).na.toNat default) ((growL stepR l a k).getD (l.getD k default).nb.toNat default)).snd != 0)=false by (rw[s6 a_] at q;rw[q];rfl)) (s_ (((K_ rchC (growL stepR l a k)).length+1)*2≤140737488355328)) (s_ ((K_ rchC (growL stepR l a k)).length+1≤9223372036854775807)) (i6n ((↑k:Int)+1) a_) (wS_ k) (show BlkW (Blk.slc 153 2 (K_ rchC (growL stepR l a k)++[[i8 (nodeR (l.getD k default) ((growL stepR l a k).getD (l.getD k default).na.toNat default) ((growL stepR l a k).getD (l.getD k default).nb.toNat default)).fst.lo,i8 (nodeR (l.getD k default) ((growL stepR l a k).getD (l.getD k default).na.toNat default) ((growL stepR l a k).getD (l.getD k default).nb.toNat default)).fst.hi]])) (Blk.slc 153 2 (K_ rchC (growL stepR l a (k+1)))) from (CW_ (e:=153) (z:=2) (rows_to (rchC) (r:=K_ rchC (growL stepR l a k)++[[i8 (nodeR (l.getD k default) ((growL stepR l a k).getD (l.getD k default).na.toNat default) ((growL stepR l a k).getD (l.getD k default).nb.toNat default)).fst.lo,i8 (nodeR (l.getD k default) ((growL stepR l a k).getD (l.getD k default).na.toNat default) ((growL stepR l a k).getD (l.getD k default).nb.toNat default)).fst.hi]]) (l:=growL stepR l a k++[Rng.mk (nodeR (l.getD k default) ((growL stepR l a k).getD (l.getD k default).na.toNat default) ((growL stepR l a k).getD (l.getD k default).nb.toNat default)).fst.lo (nodeR (l.getD k default) ((growL stepR l a k).getD (l.getD k default).na.toNat default) ((growL stepR l a k).getD (l.getD k default).nb.toNat default)).fst.hi]) (m:=growL stepR l a (k+1)) m0_ (show (growL stepR l a k++[Rng.mk (nodeR (l.getD k default) ((growL stepR l a k).getD (l.getD k default).na.toNat default) ((growL stepR l a k).getD (l.getD k default).nb.toNat default)).fst.lo (nodeR (l.getD k default) ((growL stepR l a k).getD (l.getD k default).na.toNat default) ((growL stepR l a k).getD (l.getD k default).nb.toNat default)).fst.hi])=(growL stepR l a (k+1)) from (by (rw[growL,s6 a_])))))))
 ·have gc0:¬(l.getD k default).kd=6:=bef hc0
  have oz12:=@refGNode_v (l.getD k default) ((growL stepR l a k).getD (l.getD k default).na.toNat default) ((growL stepR l a k).getD (l.getD k default).na.toNat default) q3 qb qb q5 q6
  exact tR_ [r_,b_,.r [] [.row (sO oz2)],.r [] [cr oz3],d_,.r [] [.row (sO oz7)],r_,d_,.r [] [.row (sO oz7),cr oz12],r_,d_,r_,.r [] [.n ((↑k:Int)+1)]] [.any (rg [(9,4),(26,15),(42,8),(55,13),(70,4)]),.drop [9,10,11,72],.ren 73 900,.weak 8 (i64 (↑(k+1):Int)),.blk 900 (Blk.slc 153 2 (K_ rchC (growL stepR l a (k+1)))),.sort] (.c8 oz0 oz1 oz2 oz3 oz4 oz5 oz6 oz7<|.c8 hc0 oz5 oz6 oz7 oz12 (show ((nodeR (l.getD k default) ((growL stepR l a k).getD (l.getD k default).na.toNat default) ((growL stepR l a k).getD (l.getD k default).na.toNat default)).snd != 0)=false by (rw[s1 a_] at q;rw[q];rfl)) (s_ (((K_ rchC (growL stepR l a k)).length+1)*2≤140737488355328)) (s_ ((K_ rchC (growL stepR l a k)).length+1≤9223372036854775807))<|.d3 (i6n ((↑k:Int)+1) a_) (wS_ k) (show BlkW (Blk.slc 153 2 (K_ rchC (growL stepR l a k)++[[i8 (nodeR (l.getD k default) ((growL stepR l a k).getD (l.getD k default).na.toNat default) ((growL stepR l a k).getD (l.getD k default).na.toNat default)).fst.lo,i8 (nodeR (l.getD k default) ((growL stepR l a k).getD (l.getD k default).na.toNat default) ((growL stepR l a k).getD (l.getD k default).na.toNat default)).fst.hi]])) (Blk.slc 153 2 (K_ rchC (growL stepR l a (k+1)))) from (CW_ (e:=153) (z:=2) (rows_to (rchC) (r:=K_ rchC (growL stepR l a k)++[[i8 (nodeR (l.getD k default) ((growL stepR l a k).getD (l.getD k default).na.toNat default) ((growL stepR l a k).getD (l.getD k default).na.toNat default)).fst.lo,i8 (nodeR (l.getD k default) ((growL stepR l a k).getD (l.getD k default).na.toNat default) ((growL stepR l a k).getD (l.getD k default).na.toNat default)).fst.hi]]) (l:=growL stepR l a k++[Rng.mk (nodeR (l.getD k default) ((growL stepR l a k).getD (l.getD k default).na.toNat default) ((growL stepR l a k).getD (l.getD k default).na.toNat default)).fst.lo (nodeR (l.getD k default) ((growL stepR l a k).getD (l.getD k default).na.toNat default) ((growL stepR l a k).getD (l.getD k default).na.toNat default)).fst.hi]) (m:=growL stepR l a (k+1)) m0_ (show (growL stepR l a k++[Rng.mk (nodeR (l.getD k default) ((growL stepR l a k).getD (l.getD k default).na.toNat default) ((growL stepR l a k).getD (l.getD k default).na.toNat default)).fst.lo (nodeR (l.getD k default) ((growL stepR l a k).getD (l.getD k default).na.toNat default) ((growL stepR l a k).getD (l.getD k default).na.toNat default)).fst.hi])=(growL stepR l a (k+1)) from (by (rw[growL,s1 a_])))))))
theorem rflow_ly_e (l:List Nod) (a:Rng) (okl:∀ n∈l,n.Ok) (wl:∀ n∈l,n.w.length≤100000∧n.b.length≤100000) (ha:a.In8) (f8:l.length≤8) (h:∀ k,k<l.length→errL stepR l a k=0):VT M_ (fnC Tryz.f74 [1,1,1,1,1,0,1,0,0]) (rflow_ly_I l a (l.length)) (.exit 0) (rflow_ly_Z l a):=by
 exact tR_ [r_,d_] [.any (rg [(26,4)]),.sort] (.d (s0_ (decide ((l.length:Int)<((K_ nodC l).length:Int))=false)))
theorem rflow_ly (l:List Nod) (a:Rng) (okl:∀ n∈l,n.Ok) (wl:∀ n∈l,n.w.length≤100000∧n.b.length≤100000) (ha:a.In8) (f8:l.length≤8) (h:∀ k,k<l.length→errL stepR l a k=0):VT M_ (fnC Tryz.f74 [1,1,1,1,1,0,1,0]) (rflow_ly_I l a 0) (.exit 0) (rflow_ly_Z l a) :=
 VT.loop (fun k=>rflow_ly_I l a k) (l.length) (fun k hk=>rflow_ly_s l a okl wl ha f8 h k hk) (rflow_ly_e l a okl wl ha f8 h) c0_
noncomputable def rflow_ln_I (l:List Nod) (a:Rng) (m:Nat) (k:Nat):VS:=stt 77 [(0,.sl 19 (l.map nodC)),(7,.own 900),(8,i64 k)] [(900,.slc 153 2 ((growL stepR l a k).map rchC))]
noncomputable def rflow_ln_Z (l:List Nod) (a:Rng) (m:Nat):VS:=stt 77 [(4,nilv),(5,i64 m),(6,i64 (errL stepR l a m))] []
theorem rflow_ln_s (l:List Nod) (a:Rng) (m:Nat) (okl:∀ n∈l,n.Ok) (wl:∀ n∈l,n.w.length≤100000∧n.b.length≤100000) (ha:a.In8) (f8:l.length≤8) (hm:m<l.length) (hf:errL stepR l a m≠0) (h:∀ k,k<m→errL stepR l a k=0) (k:Nat) (hk:k<m):VT M_ (fnC Tryz.f74 [1,1,1,1,1,0,1,0,0]) (rflow_ln_I l a m k) .normal (rflow_ln_I l a m (k+1)):=by
 have q:=h k hk
 have q1:=growL_len stepR l a k
 have q2:=flow_in okl ha (s_ (k≤l.length))
 have q3:=getD_in okl (s_ (k<l.length))
 have q4:=getD_in wl (s_ (k<l.length))
 obtain ⟨q5,q6⟩:=q4
 have q8:(K_ rchC (growL stepR l a k)).length=(growL stepR l a k).length:=V_ _
 unfold errL at q
 have qt:=stepR_ok q
 obtain ⟨qa,qb,qc⟩:=stepR_at (n:=l.getD k default) q2 qt
 have s6:=stepR_6 qt
 have s1:=stepR_1 qt
 have oz0:=(h_ (decide ((↑k:Int)<((K_ nodC l).length:Int))=true))
 have oz1:=(s_ (0≤(↑k:Int)))
 have oz2:=(map_at (nodC) (default) (l:=l) (i:=k) a_)
 have oz3:=@refThere_v (l.getD k default) (((K_ rchC (growL stepR l a k)).length:Int))
 have oz4:=(show (!thereB (l.getD k default) ((K_ rchC (growL stepR l a k)).length:Int))=false by (rw[qt];rfl))
 have oz5:=(s_ (0≤(l.getD k default).na))
 have oz6:=(s_ ((l.getD k default).na<((K_ rchC (growL stepR l a k)).length:Int)))
 have oz7:=(map_at (rchC) (default) (l:=growL stepR l a k) (i:=(l.getD k default).na.toNat) a_)
 rcases bft ((l.getD k default).kd==6) with hc0|hc0
 ·have gc0:(l.getD k default).kd=6:=bet hc0
  have oz11:=(map_at (rchC) (default) (l:=growL stepR l a k) (i:=(l.getD k default).nb.toNat) a_)
  have oz15:=@refGNode_v (l.getD k default) ((growL stepR l a k).getD (l.getD k default).na.toNat default) ((growL stepR l a k).getD (l.getD k default).nb.toNat default) q3 qb (by (exact qc a_)) q5 q6
  exact tR_ [r_,b_,.r [] [.row (sO oz2)],.r [] [cr oz3],d_,.r [] [.row (sO oz7)],r_,b_,.r [] [.row (sO oz11)],.r [] [.row (sO oz7),cr oz15],r_,d_,r_,.r [] [.n ((↑k:Int)+1)]] [.any (rg [(9,4),(26,15),(42,26),(70,4)]),.drop [9,10,11,72],.ren 73 900,.weak 8 (i64 (↑(k+1):Int)),.blk 900 (Blk.slc 153 2 (K_ rchC (growL stepR l a (k+1)))),.sort] (.c8 oz0 oz1 oz2 oz3 oz4 oz5 oz6 oz7<|.c8 hc0 (s_ (0≤(l.getD k default).nb)) (s_ ((l.getD k default).nb<((K_ rchC (growL stepR l a k)).length:Int))) oz11 oz5 oz6 oz7 oz15<|.d6 (show ((nodeR (l.getD k default) ((growL stepR l a k).getD (l.getD k default).na.toNat default) ((growL stepR l a k).getD (l.getD k default).nb.toNat default)).snd != 0)=false by (rw[s6 a_] at q;rw[q];rfl)) (s_ (((K_ rchC (growL stepR l a k)).length+1)*2≤140737488355328)) (s_ ((K_ rchC (growL stepR l a k)).length+1≤9223372036854775807)) (i6n ((↑k:Int)+1) a_) (wS_ k) (show BlkW (Blk.slc 153 2 (K_ rchC (growL stepR l a k)++[[i8 (nodeR (l.getD k default) ((growL stepR l a k).getD (l.getD k default).na.toNat default) ((growL stepR l a k).getD (l.getD k default).nb.toNat default)).fst.lo,i8 (nodeR (l.getD k default) ((growL stepR l a k).getD (l.getD k default).na.toNat default) ((growL stepR l a k).getD (l.getD k default).nb.toNat default)).fst.hi]])) (Blk.slc 153 2 (K_ rchC (growL stepR l a (k+1)))) from (CW_ (e:=153) (z:=2) (rows_to (rchC) (r:=K_ rchC (growL stepR l a k)++[[i8 (nodeR (l.getD k default) ((growL stepR l a k).getD (l.getD k default).na.toNat default) ((growL stepR l a k).getD (l.getD k default).nb.toNat default)).fst.lo,i8 (nodeR (l.getD k default) ((growL stepR l a k).getD (l.getD k default).na.toNat default) ((growL stepR l a k).getD (l.getD k default).nb.toNat default)).fst.hi]]) (l:=growL stepR l a k++[Rng.mk (nodeR (l.getD k default) ((growL stepR l a k).getD (l.getD k default).na.toNat default) ((growL stepR l a k).getD (l.getD k default).nb.toNat default)).fst.lo (nodeR (l.getD k default) ((growL stepR l a k).getD (l.getD k default).na.toNat default) ((growL stepR l a k).getD (l.getD k default).nb.toNat default)).fst.hi]) (m:=growL stepR l a (k+1)) m0_ (show (growL stepR l a k++[Rng.mk (nodeR (l.getD k default) ((growL stepR l a k).getD (l.getD k default).na.toNat default) ((growL stepR l a k).getD (l.getD k default).nb.toNat default)).fst.lo (nodeR (l.getD k default) ((growL stepR l a k).getD (l.getD k default).na.toNat default) ((growL stepR l a k).getD (l.getD k default).nb.toNat default)).fst.hi])=(growL stepR l a (k+1)) from (by (rw[growL,s6 a_])))))))
 ·have gc0:¬(l.getD k default).kd=6:=bef hc0
  have oz12:=@refGNode_v (l.getD k default) ((growL stepR l a k).getD (l.getD k default).na.toNat default) ((growL stepR l a k).getD (l.getD k default).na.toNat default) q3 qb qb q5 q6
  exact tR_ [r_,b_,.r [] [.row (sO oz2)],.r [] [cr oz3],d_,.r [] [.row (sO oz7)],r_,d_,.r [] [.row (sO oz7),cr oz12],r_,d_,r_,.r [] [.n ((↑k:Int)+1)]] [.any (rg [(9,4),(26,15),(42,8),(55,13),(70,4)]),.drop [9,10,11,72],.ren 73 900,.weak 8 (i64 (↑(k+1):Int)),.blk 900 (Blk.slc 153 2 (K_ rchC (growL stepR l a (k+1)))),.sort] (.c8 oz0 oz1 oz2 oz3 oz4 oz5 oz6 oz7<|.c8 hc0 oz5 oz6 oz7 oz12 (show ((nodeR (l.getD k default) ((growL stepR l a k).getD (l.getD k default).na.toNat default) ((growL stepR l a k).getD (l.getD k default).na.toNat default)).snd != 0)=false by (rw[s1 a_] at q;rw[q];rfl)) (s_ (((K_ rchC (growL stepR l a k)).length+1)*2≤140737488355328)) (s_ ((K_ rchC (growL stepR l a k)).length+1≤9223372036854775807))<|.d3 (i6n ((↑k:Int)+1) a_) (wS_ k) (show BlkW (Blk.slc 153 2 (K_ rchC (growL stepR l a k)++[[i8 (nodeR (l.getD k default) ((growL stepR l a k).getD (l.getD k default).na.toNat default) ((growL stepR l a k).getD (l.getD k default).na.toNat default)).fst.lo,i8 (nodeR (l.getD k default) ((growL stepR l a k).getD (l.getD k default).na.toNat default) ((growL stepR l a k).getD (l.getD k default).na.toNat default)).fst.hi]])) (Blk.slc 153 2 (K_ rchC (growL stepR l a (k+1)))) from (CW_ (e:=153) (z:=2) (rows_to (rchC) (r:=K_ rchC (growL stepR l a k)++[[i8 (nodeR (l.getD k default) ((growL stepR l a k).getD (l.getD k default).na.toNat default) ((growL stepR l a k).getD (l.getD k default).na.toNat default)).fst.lo,i8 (nodeR (l.getD k default) ((growL stepR l a k).getD (l.getD k default).na.toNat default) ((growL stepR l a k).getD (l.getD k default).na.toNat default)).fst.hi]]) (l:=growL stepR l a k++[Rng.mk (nodeR (l.getD k default) ((growL stepR l a k).getD (l.getD k default).na.toNat default) ((growL stepR l a k).getD (l.getD k default).na.toNat default)).fst.lo (nodeR (l.getD k default) ((growL stepR l a k).getD (l.getD k default).na.toNat default) ((growL stepR l a k).getD (l.getD k default).na.toNat default)).fst.hi]) (m:=growL stepR l a (k+1)) m0_ (show (growL stepR l a k++[Rng.mk (nodeR (l.getD k default) ((growL stepR l a k).getD (l.getD k default).na.toNat default) ((growL stepR l a k).getD (l.getD k default).na.toNat default)).fst.lo (nodeR (l.getD k default) ((growL stepR l a k).getD (l.getD k default).na.toNat default) ((growL stepR l a k).getD (l.getD k default).na.toNat default)).fst.hi])=(growL stepR l a (k+1)) from (by (rw[growL,s1 a_])))))))
theorem rflow_ln_e (l:List Nod) (a:Rng) (m:Nat) (okl:∀ n∈l,n.Ok) (wl:∀ n∈l,n.w.length≤100000∧n.b.length≤100000) (ha:a.In8) (f8:l.length≤8) (hm:m<l.length) (hf:errL stepR l a m≠0) (h:∀ k,k<m→errL stepR l a k=0):VT M_ (fnC Tryz.f74 [1,1,1,1,1,0,1,0,0]) (rflow_ln_I l a m (m)) (.ret) (rflow_ln_Z l a m):=by
 have q1:=growL_len stepR l a m
 have q2:=flow_in okl ha (Nat.le_of_lt hm)
 have q3:=getD_in okl hm
 have q4:=getD_in wl hm
 obtain ⟨q5,q6⟩:=q4
 have q8:(K_ rchC (growL stepR l a m)).length=(growL stepR l a m).length:=V_ _
 have qa:=fun h=>stepR_at (n:=l.getD m default) q2 h
 have s6:=@stepR_6 (l.getD m default) (growL stepR l a m)
 have s1:=@stepR_1 (l.getD m default) (growL stepR l a m)
 have s0:=@stepR_0 (l.getD m default) (growL stepR l a m)
 have q:errL stepR l a m=(stepR (l.getD m default) (growL stepR l a m)).2:=rfl
 unfold errL at hf
 have oz0:=(h_ (decide ((↑m:Int)<((K_ nodC l).length:Int))=true))
 have oz1:=(s_ (0≤(↑m:Int)))
 have oz2:=(map_at (nodC) (default) (l:=l) (i:=m) hm)
 have oz3:=@refThere_v (l.getD m default) (((K_ rchC (growL stepR l a m)).length:Int))
 rcases bft (!thereB (l.getD m default) ((K_ rchC (growL stepR l a m)).length:Int)) with hc0|hc0
 ·have gc0:thereB (l.getD m default) ((K_ rchC (growL stepR l a m)).length:Int)=false:=m_
  exact tR_ [r_,b_,.r [] [.row (sO oz2)],.r [] [cr oz3],b_,r_] [.any (rg [(0,1),(7,3),(26,4),(32,10)]),.drop [900,9],.weak 6 (i64 (errL stepR l a m)),.sort] (.d6 oz0 oz1 oz2 oz3 hc0 (N_ (k:=.i64) (show ((8):Int)=(errL stepR l a m) from (by (rw[q,s0 e1_])))))
 ·have gc0:thereB (l.getD m default) ((K_ rchC (growL stepR l a m)).length:Int)=true:=m_
  have oz5:=(n1_ (0≤(l.getD m default).na))
  have oz6:=(n1_ ((l.getD m default).na<((K_ rchC (growL stepR l a m)).length:Int)))
  have oz7:=(map_at (rchC) (default) (l:=growL stepR l a m) (i:=(l.getD m default).na.toNat) w2_)
  rcases bft ((l.getD m default).kd==6) with hc1|hc1
  ·have gc1:(l.getD m default).kd=6:=bet hc1
   have oz11:=(map_at (rchC) (default) (l:=growL stepR l a m) (i:=(l.getD m default).nb.toNat) w2_)
   have oz15:=@refGNode_v (l.getD m default) ((growL stepR l a m).getD (l.getD m default).na.toNat default) ((growL stepR l a m).getD (l.getD m default).nb.toNat default) q3 i2_ (by (have:=qa b0_;exact this.2.2 a_)) q5 q6
   have oz17:=(N_ (k:=.i64) (show (((nodeR (l.getD m default) ((growL stepR l a m).getD (l.getD m default).na.toNat default) ((growL stepR l a m).getD (l.getD m default).nb.toNat default)).snd):Int)=(errL stepR l a m) from (by (rw[q,s6 b0_ a_]))))
   exact tR_ [r_,b_,.r [] [.row (sO oz2)],.r [] [cr oz3],d_,.r [] [.row (sO oz7)],r_,b_,.r [] [.row (sO oz11)],.r [] [.row (sO oz7),cr oz15],r_,b_,r_] [.any (rg [(0,1),(7,6),(26,4),(32,9),(42,28)]),.drop [900,9,10,11],.weak 6 (wO oz17),.sort] (.c8 oz0 oz1 oz2 oz3 hc0 oz5 oz6 oz7<|.c8 hc1 (n1_ (0≤(l.getD m default).nb)) (n1_ ((l.getD m default).nb<((K_ rchC (growL stepR l a m)).length:Int))) oz11 oz5 oz6 oz7 oz15<|.d2 (show ((nodeR (l.getD m default) ((growL stepR l a m).getD (l.getD m default).na.toNat default) ((growL stepR l a m).getD (l.getD m default).nb.toNat default)).snd != 0)=true by (rw[s6 b0_ a_] at hf;rw[J_];exact hf)) oz17)
  ·have gc1:¬(l.getD m default).kd=6:=bef hc1
   have oz12:=@refGNode_v (l.getD m default) ((growL stepR l a m).getD (l.getD m default).na.toNat default) ((growL stepR l a m).getD (l.getD m default).na.toNat default) q3 i2_ i2_ q5 q6
   have oz14:=(N_ (k:=.i64) (show (((nodeR (l.getD m default) ((growL stepR l a m).getD (l.getD m default).na.toNat default) ((growL stepR l a m).getD (l.getD m default).na.toNat default)).snd):Int)=(errL stepR l a m) from (by (rw[q,s1 b0_ a_]))))
   exact tR_ [r_,b_,.r [] [.row (sO oz2)],.r [] [cr oz3],d_,.r [] [.row (sO oz7)],r_,d_,.r [] [.row (sO oz7),cr oz12],r_,b_,r_] [.any (rg [(0,1),(7,6),(26,4),(32,9),(42,8),(55,15)]),.drop [900,9,10,11],.weak 6 (wO oz14),.sort] (.c8 oz0 oz1 oz2 oz3 hc0 oz5 oz6 oz7<|.d7 hc1 oz5 oz6 oz7 oz12 (show ((nodeR (l.getD m default) ((growL stepR l a m).getD (l.getD m default).na.toNat default) ((growL stepR l a m).getD (l.getD m default).na.toNat default)).snd != 0)=true by (rw[s1 b0_ a_] at hf;rw[J_];exact hf)) oz14)
theorem rflow_ln (l:List Nod) (a:Rng) (m:Nat) (okl:∀ n∈l,n.Ok) (wl:∀ n∈l,n.w.length≤100000∧n.b.length≤100000) (ha:a.In8) (f8:l.length≤8) (hm:m<l.length) (hf:errL stepR l a m≠0) (h:∀ k,k<m→errL stepR l a k=0):VT M_ (fnC Tryz.f74 [1,1,1,1,1,0,1,0]) (rflow_ln_I l a m 0) (.ret) (rflow_ln_Z l a m) :=
 VT.loop (fun k=>rflow_ln_I l a m k) (m) (fun k hk=>rflow_ln_s l a m okl wl ha f8 hm hf h k hk) (rflow_ln_e l a m okl wl ha f8 hm hf h) c0_
theorem rflow_y (l:List Nod) (a:Rng) (okl:∀ n∈l,n.Ok) (wl:∀ n∈l,n.w.length≤100000∧n.b.length≤100000) (ha:a.In8) (h:FOK l a):VC M_ 74 ([.sl 19 (l.map nodC),rch a]) (.tup [.sl 2 ((growL stepR l a l.length).map rchC),i64 l.length,i64 0]):=by
 obtain ⟨q2,q3,q1,q4⟩:=id h
 have oz4:=@rflow_ly (l) (a) okl wl ha q3 q4
 exact (cR_ [r_,r_,d_,r_,d_,r_,d_,r_,r_,.code [.any (rg [(1,1),(3,4),(13,13)]),.drop [3],.ren 25 900,.weak 8 (i64 (↑0:Int)),.sort] (BS_ 0) (zO oz4),r_] (AV.tup [AV.sl 2 (K_ rchC (growL stepR l a l.length)),i64 ((K_ nodC l).length:Int),i64 0]) Tryz.func74 (.d5 (q_ ((((K_ nodC l).length:Int)==0)=false)) (h_ (decide (((K_ nodC l).length:Int)>8)=false)) (decide_eq_false (p:=(a.lo>a.hi)) a_) w0_ oz4)).weak (AQ_ _) (AA_ (.cons (.refl _) (.cons (N_ k0_) (.cons (.refl _) .nil))))
theorem rflow_m (l:List Nod) (a:Rng) (m:Nat) (okl:∀ n∈l,n.Ok) (wl:∀ n∈l,n.w.length≤100000∧n.b.length≤100000) (ha:a.In8) (i:a.lo≤a.hi) (f8:l.length≤8) (hm:m<l.length) (hf:errL stepR l a m≠0) (h:∀ k,k<m→errL stepR l a k=0):VC M_ 74 ([.sl 19 (l.map nodC),rch a]) (.tup [nilv,i64 m,i64 (errL stepR l a m)]):=by
 have oz4:=@rflow_ln (l) (a) (m) okl wl ha f8 hm hf h
 exact cR_ [r_,r_,d_,r_,d_,r_,d_,r_,r_,.code [.any (rg [(1,1),(3,4),(13,13)]),.drop [3],.ren 25 900,.weak 8 (i64 (↑0:Int)),.sort] (DT_) (zO oz4)] _ Tryz.func74 (.d5 (q_ ((((K_ nodC l).length:Int)==0)=false)) (h_ (decide (((K_ nodC l).length:Int)>8)=false)) (decide_eq_false (p:=(a.lo>a.hi)) a_) w0_ oz4)
theorem rflow_a (l:List Nod) (a:Rng) (hl:l.length≤1000) (h:l.length=0∨8<l.length∨a.lo>a.hi):VC M_ 74 ([.sl 19 (l.map nodC),rch a]) (.tup [nilv,i64 (flowE l a).1,i64 (flowE l a).2]):=by
 rcases bft (((K_ nodC l).length:Int)==0) with hc0|hc0
 ·have gc0:((K_ nodC l).length:Int)=0:=bet hc0
  exact (cR_ [r_,r_,b_,r_] (AV.tup [AV.lit (AK_ none 0 0),i64 (-1),i64 12]) Tryz.func74 (.d hc0)).weak (AQ_ _) (AA_ (.cons (.refl _) (.cons (N_ g0_) (.cons (N_ g0_) .nil))))
 ·have gc0:¬((K_ nodC l).length:Int)=0:=bef hc0
  rcases bft (decide (((K_ nodC l).length:Int)>8)) with hc1|hc1
  ·have gc1:=of_decide_eq_true hc1
   exact (cR_ [r_,r_,d_,r_,b_,r_] (AV.tup [AV.lit (AK_ none 0 0),i64 (-1),i64 4]) Tryz.func74 (.d2 hc0 hc1)).weak (AQ_ _) (AA_ (.cons (.refl _) (.cons (N_ g0_) (.cons (N_ g0_) .nil))))
  ·have gc1:=of_decide_eq_false hc1
   exact (cR_ [r_,r_,d_,r_,d_,r_,b_,r_] (AV.tup [AV.lit (AK_ none 0 0),i64 (-1),i64 2]) Tryz.func74 (.d3 hc0 hc1 (a0_ (decide (a.lo>a.hi)=true)))).weak (AQ_ _) (AA_ (.cons (.refl _) (.cons (N_ g0_) (.cons (N_ g0_) .nil))))
theorem rflow_n (l:List Nod) (a:Rng) (okl:∀ n∈l,n.Ok) (wl:∀ n∈l,n.w.length≤100000∧n.b.length≤100000) (ha:a.In8) (hl:l.length≤1000) (h:¬ FOK l a):VC M_ 74 [.sl 19 (l.map nodC),rch a] (.tup [nilv,i64 (flowE l a).1,i64 (flowE l a).2]):=by
 rcases FOK.cases l a with q|q|⟨i,e,f,m,h1,h2,h3⟩
 ·exact absurd q h
 ·exact rflow_a l a hl q
 ·rw[flowE_at i e f h1 h2 h3];exact rflow_m l a m okl wl ha i f h1 h2 h3
def Shp.Rt (s:Shp):Prop:=0<elems s.h s.x s.c
abbrev zsh:Shp:=⟨0,0,0⟩
theorem zsh_ok:zsh.Ok:=by constructor<;>exact ⟨by decide,by decide⟩
theorem Shp.Rt.ok {s:Shp} (h:s.Rt):s.Ok:=by
 have:=elems_ok h
 exact ⟨⟨by omega,by omega⟩,⟨by omega,by omega⟩,⟨by omega,by omega⟩⟩
def Told (r:Shp×Int):Prop:=(r.2=0∧r.1.Rt)∨(r.2≠0∧r.1=zsh)
theorem slideE_told (t:Shp) (k s p o:Int):Told (slideE t k s p o):=by
 unfold slideE
 split
 ·exact .inr ⟨by dsimp only;decide,rfl⟩
 ·split
  ·exact .inr ⟨by assumption,rfl⟩
  ·split
   ·exact .inr ⟨by assumption,rfl⟩
   ·split
    ·exact .inr ⟨by dsimp only;decide,rfl⟩
    ·rename_i h;exact .inl ⟨rfl,Classical.not_not.1 h⟩
theorem convE_told (t:Shp) (n:Nod):Told (convE t n):=by
 have q:=slideE_told t n.nk n.ns n.np n.no
 unfold convE
 split
 ·exact .inr ⟨by assumption,rfl⟩
 ·split
  ·exact .inr ⟨by dsimp only;decide,rfl⟩
  ·rcases q with q|q
   ·exact .inl ⟨rfl,q.2⟩
   ·exact absurd q.1 b0_
theorem depthE_told (t:Shp) (n:Nod):Told (depthE t n):=by
 have q:=slideE_told t n.nk n.ns n.np t.c
 unfold depthE
 split
 ·exact .inr ⟨by assumption,rfl⟩
 ·split
  ·exact .inr ⟨by dsimp only;decide,rfl⟩
  ·rcases q with q|q
   ·exact .inl ⟨rfl,q.2⟩
   ·exact absurd q.1 b0_
theorem denseE_told (t:Shp) (n:Nod):Told (denseE t n):=by
 unfold denseE
 split
 ·exact .inr ⟨by dsimp only;decide,rfl⟩
 ·split
  ·exact .inr ⟨by dsimp only;decide,rfl⟩
  ·rename_i h _
   have:=elems_in 1 1 n.no
   exact .inl ⟨rfl,by unfold Shp.Rt;dsimp only;omega⟩
theorem aroundE_told (a:Shp) (p:Int):Told (aroundE a p):=by
 unfold aroundE
 split
 ·exact .inr ⟨by dsimp only;decide,rfl⟩
 ·split
  ·exact .inr ⟨by dsimp only;decide,rfl⟩
  ·have:=elems_in (a.h+2*p) (a.x+2*p) a.c
   exact .inl ⟨rfl,by unfold Shp.Rt;dsimp only;omega⟩
theorem flat_rt {n:Int} (h0:0<n) (h:n≤1024):0<elems 1 1 n:=by
 unfold elems;rw[i_ a_];omega
theorem shapeE_told (n:Nod) (a b:Shp):Told (shapeE n a b):=by
 unfold shapeE
 split
 ·exact convE_told a n
 ·split
  ·exact depthE_told a n
  ·split
   ·exact denseE_told a n
   ·split
    ·exact slideE_told a n.nk n.ns n.np a.c
    ·split
     ·exact .inr ⟨by dsimp only;decide,rfl⟩
     ·split
      ·exact .inr ⟨by dsimp only;decide,rfl⟩
      ·rename_i h
       have q:=elems_in a.h a.x a.c
       split
       ·exact (.inl ⟨rfl,show 0<elems 1 1 (elems a.h a.x a.c) from flat_rt a_ q.2⟩)
       ·split
        ·exact aroundE_told a n.np
        ·exact .inl ⟨rfl,by unfold Shp.Rt;dsimp only;omega⟩
theorem nextE_told (n:Nod) (L:List Shp):Told (nextE n L):=by
 unfold nextE
 split
 ·exact .inr ⟨by assumption,rfl⟩
 ·split
  ·exact shapeE_told _ _ _
  ·exact .inr ⟨by dsimp only;decide,rfl⟩
theorem Told.ok {r:Shp×Int} (h:Told r):r.1.Ok:=by
 rcases h with h|h
 ·exact h.2.ok
 ·rw[h.2];exact zsh_ok
structure SOK (l:List Nod) (a:Shp):Prop where
 i:a.Rt
 e:0<l.length
 f:l.length≤8
 k:∀ k,k<l.length→errL nextE l a k=0
def shapesB (l:List Nod) (a:Shp):Nat→Bool:=fun k=>errL nextE l a k==0
def shapesE (l:List Nod) (a:Shp):Int×Int :=
 if ¬ 0<elems a.h a.x a.c then (-1,5) else if l.length=0 then (-1,12) else if 8<l.length then (-1,4)
 else if firstBad (shapesB l a) l.length<l.length then (firstBad (shapesB l a) l.length,errL nextE l a (firstBad (shapesB l a) l.length)) else (l.length,0)
theorem shapesE_y {l:List Nod} {a:Shp} (h:SOK l a):shapesE l a=((l.length:Int),0):=by
 have h0:=h.i
 unfold Shp.Rt at h0
 have h1:=h.e
 have h2:=h.f
 unfold shapesE
 rw[j_ a_,j_ a_,j_ a_,firstBad_all fun k hk=>by simpa [shapesB] using h.k k hk,j_ a_]
theorem shapesE_at {l:List Nod} {a:Shp} {m:Nat} (i:a.Rt) (e:0<l.length) (f:l.length≤8) (hm:m<l.length) (hf:errL nextE l a m≠0) (h:∀ k,k<m→errL nextE l a k=0):shapesE l a=((m:Int),errL nextE l a m):=by
 unfold Shp.Rt at i
 have:=firstBad_at (p:=shapesB l a) (m:=m) (by simpa [shapesB] using hf) (fun k hk=>by simpa [shapesB] using h k hk) hm
 unfold shapesE
 rw[j_ a_,j_ a_,j_ a_,this,i_ hm]
theorem SOK.cases (l:List Nod) (a:Shp):SOK l a∨¬ a.Rt∨l.length=0∨8<l.length∨(a.Rt∧0<l.length∧l.length≤8∧∃ m,m<l.length∧errL nextE l a m≠0∧∀ k,k<m→errL nextE l a k=0):=by
 by_cases i:a.Rt
 ·by_cases e:0<l.length
  ·by_cases f:l.length≤8
   ·rcases all_or (shapesB l a) l.length with h|⟨m,h1,h2,h3⟩
    ·exact .inl ⟨i,e,f,fun k hk=>by simpa [shapesB] using h k hk⟩
    ·exact .inr (.inr (.inr (.inr ⟨i,e,f,m,h1,by simpa [shapesB] using h2,fun k hk=>by simpa [shapesB] using h3 k hk⟩)))
   ·exact .inr (.inr (.inr (.inl a_)))
  ·exact .inr (.inr (.inl a_))
 ·exact .inr (.inl i)
theorem shapesE_n {l:List Nod} {a:Shp} (h:¬ SOK l a):(shapesE l a).2≠0:=by
 rcases SOK.cases l a with q|q|q|q|⟨i,e,f,m,h1,h2,h3⟩
 ·exact absurd q h
 ·have e:shapesE l a=(-1,5):=by unfold shapesE;exact i_ q
  rw[e];decide
 ·unfold shapesE
  by_cases c1:¬ 0<elems a.h a.x a.c
  ·rw[i_ c1];dsimp only;decide
  ·rw[j_ c1,i_ q];dsimp only;decide
 ·unfold shapesE
  by_cases c1:¬ 0<elems a.h a.x a.c
  ·rw[i_ c1];dsimp only;decide
  ·rw[j_ c1,j_ a_,i_ q];dsimp only;decide
 ·rw[shapesE_at i e f h1 h2 h3];exact h2
theorem grow_ok {l:List Nod} {a:Shp} (i:a.Ok) (k:Nat):∀ s∈growL nextE l a k,s.Ok :=
 growL_all (n:=k) i (fun j _ _=>(nextE_told _ _).ok) k (AE_ _)
noncomputable def shapes_ly_I (l:List Nod) (a:Shp) (k:Nat):VS:=stt 51 [(0,.sl 19 (l.map nodC)),(7,.own 900),(26,.sl 19 (l.map nodC)),(27,i64 l.length),(28,i64 k)] [(900,.slc 23 3 ((growL nextE l a k).map shpC))]
noncomputable def shapes_ly_Z (l:List Nod) (a:Shp):VS:=shapes_ly_I l a (l.length)
theorem shapes_ly_s (l:List Nod) (a:Shp) (okl:∀ n∈l,n.Ok) (wl:∀ n∈l,n.w.length≤100000∧n.b.length≤100000) (i:a.Ok) (f8:l.length≤8) (h:∀ k,k<l.length→errL nextE l a k=0) (k:Nat) (hk:k<l.length):VT M_ (fnC Tryz.f89 [1,1,1,0,1,0,0]) (shapes_ly_I l a k) .normal (shapes_ly_I l a (k+1)):=by
 have q:=h k hk
 have q1:=growL_len nextE l a k
 have q2:=grow_ok (l:=l) i k
 have q3:=getD_in okl hk
 have q4:=getD_in wl hk
 obtain ⟨q5,q6⟩:=q4
 unfold errL at q
 have oz2:=(map_at (nodC) (default) (l:=l) (i:=k) hk)
 have oz3:=@next_v (l.getD k default) (growL nextE l a k) q3 q2 a_ q5 q6
 exact tR_ [r_,b_,.r [] [.row (sO oz2)],.r [] [cr oz3],r_,d_,r_,.r [] [.n ((↑k:Int)+1)]] [.any (rg [(8,4),(29,12),(43,5)]),.drop [9,10,45],.ren 46 900,.weak 28 (i64 (↑(k+1):Int)),.blk 900 (Blk.slc 23 3 (K_ shpC (growL nextE l a (k+1)))),.sort] (.c8 (decide_eq_true (p:=((↑k:Int)<(l.length:Int))) a_) (s_ (0≤(↑k:Int))) oz2 oz3 (f0_ (((nextE (l.getD k default) (growL nextE l a k)).snd != 0)=false)) (h_ (((K_ shpC (growL nextE l a k)).length+1)*24≤140737488355328)) (h_ ((K_ shpC (growL nextE l a k)).length+1≤9223372036854775807)) (i6n ((↑k:Int)+1) a_)<|.d2 (wS_ k) (show BlkW (Blk.slc 23 3 (K_ shpC (growL nextE l a k)++[[i64 (nextE (l.getD k default) (growL nextE l a k)).fst.h,i64 (nextE (l.getD k default) (growL nextE l a k)).fst.x,i64 (nextE (l.getD k default) (growL nextE l a k)).fst.c]])) (Blk.slc 23 3 (K_ shpC (growL nextE l a (k+1)))) from (CW_ (e:=23) (z:=3) (rows_to (shpC) (r:=K_ shpC (growL nextE l a k)++[[i64 (nextE (l.getD k default) (growL nextE l a k)).fst.h,i64 (nextE (l.getD k default) (growL nextE l a k)).fst.x,i64 (nextE (l.getD k default) (growL nextE l a k)).fst.c]]) (l:=growL nextE l a k++[Shp.mk (nextE (l.getD k default) (growL nextE l a k)).fst.h (nextE (l.getD k default) (growL nextE l a k)).fst.x (nextE (l.getD k default) (growL nextE l a k)).fst.c]) (m:=growL nextE l a (k+1)) a1_ (show (growL nextE l a k++[Shp.mk (nextE (l.getD k default) (growL nextE l a k)).fst.h (nextE (l.getD k default) (growL nextE l a k)).fst.x (nextE (l.getD k default) (growL nextE l a k)).fst.c])=(growL nextE l a (k+1)) from t0_)))))
theorem shapes_ly_e (l:List Nod) (a:Shp) (okl:∀ n∈l,n.Ok) (wl:∀ n∈l,n.w.length≤100000∧n.b.length≤100000) (i:a.Ok) (f8:l.length≤8) (h:∀ k,k<l.length→errL nextE l a k=0):VT M_ (fnC Tryz.f89 [1,1,1,0,1,0,0]) (shapes_ly_I l a (l.length)) (.exit 1) (shapes_ly_Z l a):=by
 exact tR_ [r_,d_] [.any [29],.sort] (.d (decide_eq_false (p:=((l.length:Int)<(l.length:Int))) a_))
theorem shapes_ly (l:List Nod) (a:Shp) (okl:∀ n∈l,n.Ok) (wl:∀ n∈l,n.w.length≤100000∧n.b.length≤100000) (i:a.Ok) (f8:l.length≤8) (h:∀ k,k<l.length→errL nextE l a k=0):VT M_ (fnC Tryz.f89 [1,1,1,0,1,0]) (shapes_ly_I l a 0) (.exit 1) (shapes_ly_Z l a) :=
 VT.loop (fun k=>shapes_ly_I l a k) (l.length) (fun k hk=>shapes_ly_s l a okl wl i f8 h k hk) (shapes_ly_e l a okl wl i f8 h) c0_
noncomputable def shapes_ln_I (l:List Nod) (a:Shp) (m:Nat) (k:Nat):VS:=stt 51 [(0,.sl 19 (l.map nodC)),(7,.own 900),(26,.sl 19 (l.map nodC)),(27,i64 l.length),(28,i64 k)] [(900,.slc 23 3 ((growL nextE l a k).map shpC))]
noncomputable def shapes_ln_Z (l:List Nod) (a:Shp) (m:Nat):VS:=stt 51 [(4,nilv),(5,i64 m),(6,i64 (errL nextE l a m))] []
theorem shapes_ln_s (l:List Nod) (a:Shp) (m:Nat) (okl:∀ n∈l,n.Ok) (wl:∀ n∈l,n.w.length≤100000∧n.b.length≤100000) (i:a.Ok) (f8:l.length≤8) (hm:m<l.length) (hf:errL nextE l a m≠0) (h:∀ k,k<m→errL nextE l a k=0) (k:Nat) (hk:k<m):VT M_ (fnC Tryz.f89 [1,1,1,0,1,0,0]) (shapes_ln_I l a m k) .normal (shapes_ln_I l a m (k+1)):=by
 have q:=h k hk
 have q1:=growL_len nextE l a k
 have q2:=grow_ok (l:=l) i k
 have q3:=getD_in okl (s_ (k<l.length))
 have q4:=getD_in wl (s_ (k<l.length))
 obtain ⟨q5,q6⟩:=q4
 unfold errL at q
 have oz2:=(map_at (nodC) (default) (l:=l) (i:=k) a_)
 have oz3:=@next_v (l.getD k default) (growL nextE l a k) q3 q2 a_ q5 q6
 exact tR_ [r_,b_,.r [] [.row (sO oz2)],.r [] [cr oz3],r_,d_,r_,.r [] [.n ((↑k:Int)+1)]] [.any (rg [(8,4),(29,12),(43,5)]),.drop [9,10,45],.ren 46 900,.weak 28 (i64 (↑(k+1):Int)),.blk 900 (Blk.slc 23 3 (K_ shpC (growL nextE l a (k+1)))),.sort] (.c8 (decide_eq_true (p:=((↑k:Int)<(l.length:Int))) a_) (s_ (0≤(↑k:Int))) oz2 oz3 (f0_ (((nextE (l.getD k default) (growL nextE l a k)).snd != 0)=false)) (h_ (((K_ shpC (growL nextE l a k)).length+1)*24≤140737488355328)) (h_ ((K_ shpC (growL nextE l a k)).length+1≤9223372036854775807)) (i6n ((↑k:Int)+1) a_)<|.d2 (wS_ k) (show BlkW (Blk.slc 23 3 (K_ shpC (growL nextE l a k)++[[i64 (nextE (l.getD k default) (growL nextE l a k)).fst.h,i64 (nextE (l.getD k default) (growL nextE l a k)).fst.x,i64 (nextE (l.getD k default) (growL nextE l a k)).fst.c]])) (Blk.slc 23 3 (K_ shpC (growL nextE l a (k+1)))) from (CW_ (e:=23) (z:=3) (rows_to (shpC) (r:=K_ shpC (growL nextE l a k)++[[i64 (nextE (l.getD k default) (growL nextE l a k)).fst.h,i64 (nextE (l.getD k default) (growL nextE l a k)).fst.x,i64 (nextE (l.getD k default) (growL nextE l a k)).fst.c]]) (l:=growL nextE l a k++[Shp.mk (nextE (l.getD k default) (growL nextE l a k)).fst.h (nextE (l.getD k default) (growL nextE l a k)).fst.x (nextE (l.getD k default) (growL nextE l a k)).fst.c]) (m:=growL nextE l a (k+1)) a1_ (show (growL nextE l a k++[Shp.mk (nextE (l.getD k default) (growL nextE l a k)).fst.h (nextE (l.getD k default) (growL nextE l a k)).fst.x (nextE (l.getD k default) (growL nextE l a k)).fst.c])=(growL nextE l a (k+1)) from t0_)))))
theorem shapes_ln_e (l:List Nod) (a:Shp) (m:Nat) (okl:∀ n∈l,n.Ok) (wl:∀ n∈l,n.w.length≤100000∧n.b.length≤100000) (i:a.Ok) (f8:l.length≤8) (hm:m<l.length) (hf:errL nextE l a m≠0) (h:∀ k,k<m→errL nextE l a k=0):VT M_ (fnC Tryz.f89 [1,1,1,0,1,0,0]) (shapes_ln_I l a m (m)) (.ret) (shapes_ln_Z l a m):=by
 have q1:=growL_len nextE l a m
 have q2:=grow_ok (l:=l) i m
 have q3:=getD_in okl hm
 have q4:=getD_in wl hm
 obtain ⟨q5,q6⟩:=q4
 unfold errL at hf
 have oz2:=(map_at (nodC) (default) (l:=l) (i:=m) hm)
 have oz3:=@next_v (l.getD m default) (growL nextE l a m) q3 q2 a_ q5 q6
 have oz5:=(N_ (k:=.i64) (show (((nextE (l.getD m default) (growL nextE l a m)).snd):Int)=(errL nextE l a m) from t0_))
 exact tR_ [r_,b_,.r [] [.row (sO oz2)],.r [] [cr oz3],r_,b_,r_] [.any (rg [(0,1),(7,5),(26,17)]),.drop [900,9,10],.weak 6 (wO oz5),.sort] (.d6 (decide_eq_true (p:=((↑m:Int)<(l.length:Int))) a_) (s_ (0≤(↑m:Int))) oz2 oz3 (f0_ (((nextE (l.getD m default) (growL nextE l a m)).snd != 0)=true)) oz5)
theorem shapes_ln (l:List Nod) (a:Shp) (m:Nat) (okl:∀ n∈l,n.Ok) (wl:∀ n∈l,n.w.length≤100000∧n.b.length≤100000) (i:a.Ok) (f8:l.length≤8) (hm:m<l.length) (hf:errL nextE l a m≠0) (h:∀ k,k<m→errL nextE l a k=0):VT M_ (fnC Tryz.f89 [1,1,1,0,1,0]) (shapes_ln_I l a m 0) (.ret) (shapes_ln_Z l a m) :=
 VT.loop (fun k=>shapes_ln_I l a m k) (m) (fun k hk=>shapes_ln_s l a m okl wl i f8 hm hf h k hk) (shapes_ln_e l a m okl wl i f8 hm hf h) c0_
theorem shapes_y (l:List Nod) (a:Shp) (okl:∀ n∈l,n.Ok) (wl:∀ n∈l,n.w.length≤100000∧n.b.length≤100000) (h:SOK l a):VC M_ 89 ([.sl 19 (l.map nodC),shp a]) (.tup [.sl 3 ((growL nextE l a l.length).map shpC),i64 l.length,i64 0]):=by
 have q1:=h.i
 have q2:=h.e
 have q3:=h.f
 have q4:=h.k
 have q5:=q1.ok
 unfold Shp.Rt at q1
 have oz0:=@sRight_v (a) q5
 have oz6:=@shapes_ly (l) (a) okl wl q5 q3 q4
 exact (cR_ [r_,.r [] [cr oz0],d_,r_,d_,r_,d_,r_,r_,.code [.any (rg [(1,1),(3,4),(12,14)]),.drop [3],.ren 25 900,.weak 27 (i64 (l.length:Int)),.weak 28 (i64 (↑0:Int)),.sort] (BS_ 1) (zO oz6),r_] (AV.tup [AV.sl 3 (K_ shpC (growL nextE l a l.length)),i64 ((K_ nodC l).length:Int),i64 0]) Tryz.func89 (.d7 oz0 (h_ ((!decide (0<elems a.h a.x a.c))=false)) (q_ ((((K_ nodC l).length:Int)==0)=false)) (h_ (decide (((K_ nodC l).length:Int)>8)=false)) (N_ (k:=.i64) (show ((((K_ nodC l).length:Int)):Int)=((l.length:Int)) from k0_)) w0_ oz6)).weak (AQ_ _) (AA_ (.cons (.refl _) (.cons (N_ k0_) (.cons (.refl _) .nil))))
theorem shapes_a (l:List Nod) (a:Shp) (i:a.Ok) (hl:l.length≤1000) (h:¬ 0<elems a.h a.x a.c∨l.length=0∨8<l.length):VC M_ 89 ([.sl 19 (l.map nodC),shp a]) (.tup [nilv,i64 (shapesE l a).1,i64 (shapesE l a).2]):=by
 have q:=elems_in a.h a.x a.c
 have oz0:=@sRight_v (a) i
 rcases bft (!decide (0<elems a.h a.x a.c)) with hc0|hc0
 ·have gc0:=bnt hc0
  exact (cR_ [r_,.r [] [cr oz0],b_,r_] (AV.tup [AV.lit (AK_ none 0 0),i64 (-1),i64 5]) Tryz.func89 (.d2 oz0 hc0)).weak (AQ_ _) (AA_ (.cons (.refl _) (.cons (N_ e0_) (.cons (N_ e0_) .nil))))
 ·have gc0:=bnf hc0
  rcases bft (((K_ nodC l).length:Int)==0) with hc1|hc1
  ·have gc1:((K_ nodC l).length:Int)=0:=bet hc1
   exact (cR_ [r_,.r [] [cr oz0],d_,r_,b_,r_] (AV.tup [AV.lit (AK_ none 0 0),i64 (-1),i64 12]) Tryz.func89 (.d3 oz0 hc0 hc1)).weak (AQ_ _) (AA_ (.cons (.refl _) (.cons (N_ e0_) (.cons (N_ e0_) .nil))))
  ·have gc1:¬((K_ nodC l).length:Int)=0:=bef hc1
   exact (cR_ [r_,.r [] [cr oz0],d_,r_,d_,r_,b_,r_] (AV.tup [AV.lit (AK_ none 0 0),i64 (-1),i64 4]) Tryz.func89 (.d4 oz0 hc0 hc1 (a0_ (decide (((K_ nodC l).length:Int)>8)=true)))).weak (AQ_ _) (AA_ (.cons (.refl _) (.cons (N_ e0_) (.cons (N_ e0_) .nil))))
theorem shapes_m (l:List Nod) (a:Shp) (m:Nat) (okl:∀ n∈l,n.Ok) (wl:∀ n∈l,n.w.length≤100000∧n.b.length≤100000) (i:0<elems a.h a.x a.c) (f8:l.length≤8) (hm:m<l.length) (hf:errL nextE l a m≠0) (h:∀ k,k<m→errL nextE l a k=0):VC M_ 89 ([.sl 19 (l.map nodC),shp a]) (.tup [nilv,i64 m,i64 (errL nextE l a m)]):=by
 have q:=Shp.Rt.ok i
 have oz0:=@sRight_v (a) q
 have oz6:=@shapes_ln (l) (a) (m) okl wl q f8 hm hf h
 exact cR_ [r_,.r [] [cr oz0],d_,r_,d_,r_,d_,r_,r_,.code [.any (rg [(1,1),(3,4),(12,14)]),.drop [3],.ren 25 900,.weak 27 (i64 (l.length:Int)),.weak 28 (i64 (↑0:Int)),.sort] (DT_) (zO oz6)] _ Tryz.func89 (.d7 oz0 (h_ ((!decide (0<elems a.h a.x a.c))=false)) (q_ ((((K_ nodC l).length:Int)==0)=false)) (h_ (decide (((K_ nodC l).length:Int)>8)=false)) (N_ (k:=.i64) (show ((((K_ nodC l).length:Int)):Int)=((l.length:Int)) from k0_)) w0_ oz6)
theorem shapes_n (l:List Nod) (a:Shp) (okl:∀ n∈l,n.Ok) (wl:∀ n∈l,n.w.length≤100000∧n.b.length≤100000) (i:a.Ok) (hl:l.length≤1000) (h:¬ SOK l a):VC M_ 89 [.sl 19 (l.map nodC),shp a] (.tup [nilv,i64 (shapesE l a).1,i64 (shapesE l a).2]):=by
 rcases SOK.cases l a with q|q|q|q|⟨i',e,f,m,h1,h2,h3⟩
 ·exact absurd q h
 ·exact shapes_a l a i hl (.inl q)
 ·exact shapes_a l a i hl (.inr (.inl q))
 ·exact shapes_a l a i hl (.inr (.inr q))
 ·rw[shapesE_at i' e f h1 h2 h3];exact shapes_m l a m okl wl i' f h1 h2 h3
theorem nextE_c {n:Nod} {L:List Shp} (h:checkE n≠0):nextE n L=(⟨0,0,0⟩,checkE n):=i_ h
theorem nextE_0 {n:Nod} {L:List Shp} (h:checkE n=0) (g:thereB n ((K_ shpC L).length:Int)=false):nextE n L=(⟨0,0,0⟩,8):=by
 rw[V_] at g;unfold nextE;rw[j_ (by simp[h]),j_ (by simp[g])]
theorem nextE_6 {n:Nod} {L:List Shp} (h:checkE n=0) (g:thereB n ((K_ shpC L).length:Int)=true):nextE n L=shapeE n (L.getD n.na.toNat default) (L.getD (secN n).toNat default):=by
 rw[V_] at g;unfold nextE;rw[j_ (by simp[h]),i_ g]
theorem nextE_ok {n:Nod} {L:List Shp} (q:(nextE n L).2=0):checkE n=0∧thereB n ((K_ shpC L).length:Int)=true∧nextE n L=shapeE n (L.getD n.na.toNat default) (L.getD (secN n).toNat default):=by
 by_cases h:checkE n=0
 ·cases g:thereB n ((K_ shpC L).length:Int) with
  | false=>rw[nextE_0 h g] at q;cases q
  | true=>exact ⟨h,rfl,nextE_6 h g⟩
 ·rw[nextE_c h] at q;exact absurd q h
theorem there_at {n:Nod} {L:List Shp} (okL:∀ r∈L,r.Ok) (h:thereB n ((K_ shpC L).length:Int)=true):(0≤n.na∧n.na<L.length∧n.na.toNat<L.length∧0≤secN n∧secN n<L.length∧(secN n).toNat<L.length)∧(L.getD n.na.toNat default).Ok∧(L.getD (secN n).toNat default).Ok:=by
 rw[V_] at h
 have h:=there_iff.1 h
 exact ⟨⟨by omega,by omega,by omega,by omega,by omega,by omega⟩,getD_in okL a_,getD_in okL a_⟩
noncomputable def rshapes_ly_I (l:List Nod) (a:Shp) (k:Nat):VS:=stt 72 [(0,.sl 19 (l.map nodC)),(7,.own 900),(8,i64 k)] [(900,.slc 23 3 ((growL nextE l a k).map shpC))]
noncomputable def rshapes_ly_Z (l:List Nod) (a:Shp):VS:=rshapes_ly_I l a (l.length)
theorem rshapes_ly_s (l:List Nod) (a:Shp) (okl:∀ n∈l,n.Ok) (wl:∀ n∈l,n.w.length≤100000∧n.b.length≤100000) (i:a.Ok) (f8:l.length≤8) (h:∀ k,k<l.length→errL nextE l a k=0) (k:Nat) (hk:k<l.length):VT M_ (fnC Tryz.f46 [1,1,1,1,1,0,1,0,0]) (rshapes_ly_I l a k) .normal (rshapes_ly_I l a (k+1)):=by
 have q:=h k hk
 have q1:=growL_len nextE l a k
 have q2:=grow_ok (l:=l) i k
 have q3:=getD_in okl hk
 have qz:=q3.kd
 have q4:=getD_in wl hk
 obtain ⟨q5,q6⟩:=q4
 have q8:(K_ shpC (growL nextE l a k)).length=(growL nextE l a k).length:=V_ _
 unfold errL at q
 obtain ⟨c1,c2,c3⟩:=nextE_ok q
 obtain ⟨c4,c5,c6⟩:=there_at q2 c2
 rw[c3] at q
 have oz2:=(map_at (nodC) (default) (l:=l) (i:=k) hk)
 have oz3:=@refCheck_v (l.getD k default) q5 q6 qz
 have oz5:=@refThere_v (l.getD k default) (((K_ shpC (growL nextE l a k)).length:Int))
 have oz9:=(map_at (shpC) (default) (l:=growL nextE l a k) (i:=(l.getD k default).na.toNat) a_)
 have oz10:=@refSecond_v (l.getD k default)
 have oz13:=(map_at (shpC) (default) (l:=growL nextE l a k) (i:=(secN (l.getD k default)).toNat) a_)
 have oz14:=@refKshape_v (l.getD k default) ((growL nextE l a k).getD (l.getD k default).na.toNat default) ((growL nextE l a k).getD (secN (l.getD k default)).toNat default) c5 c6 q3
 exact tR_ [r_,b_,.r [] [.row (sO oz2)],.r [] [cr oz3],r_,d_,.r [] [cr oz5],d_,.r [] [.row (sO oz9),cr oz10,.row (sO oz13),cr oz14],r_,d_,r_,.r [] [.n ((↑k:Int)+1)]] [.any (rg [(9,4),(24,14),(40,5),(46,17),(65,4)]),.drop [9,11,67],.ren 68 900,.weak 8 (i64 (↑(k+1):Int)),.blk 900 (Blk.slc 23 3 (K_ shpC (growL nextE l a (k+1)))),.sort] (.c8 (h_ (decide ((↑k:Int)<((K_ nodC l).length:Int))=true)) (s_ (0≤(↑k:Int))) oz2 oz3 (show (checkE (l.getD k default) != 0)=false by (rw[c1];rfl)) oz5 (show (!thereB (l.getD k default) ((K_ shpC (growL nextE l a k)).length:Int))=false by (rw[c2];rfl)) (s_ (0≤(l.getD k default).na))<|.c8 (s_ ((l.getD k default).na<((K_ shpC (growL nextE l a k)).length:Int))) oz9 oz10 (s_ (0≤secN (l.getD k default))) (s_ (secN (l.getD k default)<((K_ shpC (growL nextE l a k)).length:Int))) oz13 oz14 (p2_ (((shapeE (l.getD k default) ((growL nextE l a k).getD (l.getD k default).na.toNat default) ((growL nextE l a k).getD (secN (l.getD k default)).toNat default)).snd != 0)=false))<|.d5 (s_ (((K_ shpC (growL nextE l a k)).length+1)*24≤140737488355328)) (s_ ((K_ shpC (growL nextE l a k)).length+1≤9223372036854775807)) (i6n ((↑k:Int)+1) a_) (wS_ k) (show BlkW (Blk.slc 23 3 (K_ shpC (growL nextE l a k)++[[i64 (shapeE (l.getD k default) ((growL nextE l a k).getD (l.getD k default).na.toNat default) ((growL nextE l a k).getD (secN (l.getD k default)).toNat default)).fst.h,i64 (shapeE (l.getD k default) ((growL nextE l a k).getD (l.getD k default).na.toNat default) ((growL nextE l a k).getD (secN (l.getD k default)).toNat default)).fst.x,i64 (shapeE (l.getD k default) ((growL nextE l a k).getD (l.getD k default).na.toNat default) ((growL nextE l a k).getD (secN (l.getD k default)).toNat default)).fst.c]])) (Blk.slc 23 3 (K_ shpC (growL nextE l a (k+1)))) from (CW_ (e:=23) (z:=3) (rows_to (shpC) (r:=K_ shpC (growL nextE l a k)++[[i64 (shapeE (l.getD k default) ((growL nextE l a k).getD (l.getD k default).na.toNat default) ((growL nextE l a k).getD (secN (l.getD k default)).toNat default)).fst.h,i64 (shapeE (l.getD k default) ((growL nextE l a k).getD (l.getD k default).na.toNat default) ((growL nextE l a k).getD (secN (l.getD k default)).toNat default)).fst.x,i64 (shapeE (l.getD k default) ((growL nextE l a k).getD (l.getD k default).na.toNat default) ((growL nextE l a k).getD (secN (l.getD k default)).toNat default)).fst.c]]) (l:=growL nextE l a k++[Shp.mk (shapeE (l.getD k default) ((growL nextE l a k).getD (l.getD k default).na.toNat default) ((growL nextE l a k).getD (secN (l.getD k default)).toNat default)).fst.h (shapeE (l.getD k default) ((growL nextE l a k).getD (l.getD k default).na.toNat default) ((growL nextE l a k).getD (secN (l.getD k default)).toNat default)).fst.x (shapeE (l.getD k default) ((growL nextE l a k).getD (l.getD k default).na.toNat default) ((growL nextE l a k).getD (secN (l.getD k default)).toNat default)).fst.c]) (m:=growL nextE l a (k+1)) a1_ (show (growL nextE l a k++[Shp.mk (shapeE (l.getD k default) ((growL nextE l a k).getD (l.getD k default).na.toNat default) ((growL nextE l a k).getD (secN (l.getD k default)).toNat default)).fst.h (shapeE (l.getD k default) ((growL nextE l a k).getD (l.getD k default).na.toNat default) ((growL nextE l a k).getD (secN (l.getD k default)).toNat default)).fst.x (shapeE (l.getD k default) ((growL nextE l a k).getD (l.getD k default).na.toNat default) ((growL nextE l a k).getD (secN (l.getD k default)).toNat default)).fst.c])=(growL nextE l a (k+1)) from (by (rw[growL,c3])))))))
theorem rshapes_ly_e (l:List Nod) (a:Shp) (okl:∀ n∈l,n.Ok) (wl:∀ n∈l,n.w.length≤100000∧n.b.length≤100000) (i:a.Ok) (f8:l.length≤8) (h:∀ k,k<l.length→errL nextE l a k=0):VT M_ (fnC Tryz.f46 [1,1,1,1,1,0,1,0,0]) (rshapes_ly_I l a (l.length)) (.exit 0) (rshapes_ly_Z l a):=by
 exact tR_ [r_,d_] [.any (rg [(24,4)]),.sort] (.d (s0_ (decide ((l.length:Int)<((K_ nodC l).length:Int))=false)))
theorem rshapes_ly (l:List Nod) (a:Shp) (okl:∀ n∈l,n.Ok) (wl:∀ n∈l,n.w.length≤100000∧n.b.length≤100000) (i:a.Ok) (f8:l.length≤8) (h:∀ k,k<l.length→errL nextE l a k=0):VT M_ (fnC Tryz.f46 [1,1,1,1,1,0,1,0]) (rshapes_ly_I l a 0) (.exit 0) (rshapes_ly_Z l a) :=
 VT.loop (fun k=>rshapes_ly_I l a k) (l.length) (fun k hk=>rshapes_ly_s l a okl wl i f8 h k hk) (rshapes_ly_e l a okl wl i f8 h) c0_
noncomputable def rshapes_ln_I (l:List Nod) (a:Shp) (m:Nat) (k:Nat):VS:=stt 72 [(0,.sl 19 (l.map nodC)),(7,.own 900),(8,i64 k)] [(900,.slc 23 3 ((growL nextE l a k).map shpC))]
noncomputable def rshapes_ln_Z (l:List Nod) (a:Shp) (m:Nat):VS:=stt 72 [(4,nilv),(5,i64 m),(6,i64 (errL nextE l a m))] []
theorem rshapes_ln_s (l:List Nod) (a:Shp) (m:Nat) (okl:∀ n∈l,n.Ok) (wl:∀ n∈l,n.w.length≤100000∧n.b.length≤100000) (i:a.Ok) (f8:l.length≤8) (hm:m<l.length) (hf:errL nextE l a m≠0) (h:∀ k,k<m→errL nextE l a k=0) (k:Nat) (hk:k<m):VT M_ (fnC Tryz.f46 [1,1,1,1,1,0,1,0,0]) (rshapes_ln_I l a m k) .normal (rshapes_ln_I l a m (k+1)):=by
 have q:=h k hk
 have q1:=growL_len nextE l a k
 have q2:=grow_ok (l:=l) i k
 have q3:=getD_in okl (s_ (k<l.length))
 have qz:=q3.kd
 have q4:=getD_in wl (s_ (k<l.length))
 obtain ⟨q5,q6⟩:=q4
 have q8:(K_ shpC (growL nextE l a k)).length=(growL nextE l a k).length:=V_ _
 unfold errL at q
 obtain ⟨c1,c2,c3⟩:=nextE_ok q
 obtain ⟨c4,c5,c6⟩:=there_at q2 c2
 rw[c3] at q
 have oz2:=(map_at (nodC) (default) (l:=l) (i:=k) a_)
 have oz3:=@refCheck_v (l.getD k default) q5 q6 qz
 have oz5:=@refThere_v (l.getD k default) (((K_ shpC (growL nextE l a k)).length:Int))
 have oz9:=(map_at (shpC) (default) (l:=growL nextE l a k) (i:=(l.getD k default).na.toNat) a_)
 have oz10:=@refSecond_v (l.getD k default)
 have oz13:=(map_at (shpC) (default) (l:=growL nextE l a k) (i:=(secN (l.getD k default)).toNat) a_)
 have oz14:=@refKshape_v (l.getD k default) ((growL nextE l a k).getD (l.getD k default).na.toNat default) ((growL nextE l a k).getD (secN (l.getD k default)).toNat default) c5 c6 q3
 exact tR_ [r_,b_,.r [] [.row (sO oz2)],.r [] [cr oz3],r_,d_,.r [] [cr oz5],d_,.r [] [.row (sO oz9),cr oz10,.row (sO oz13),cr oz14],r_,d_,r_,.r [] [.n ((↑k:Int)+1)]] [.any (rg [(9,4),(24,14),(40,5),(46,17),(65,4)]),.drop [9,11,67],.ren 68 900,.weak 8 (i64 (↑(k+1):Int)),.blk 900 (Blk.slc 23 3 (K_ shpC (growL nextE l a (k+1)))),.sort] (.c8 (h_ (decide ((↑k:Int)<((K_ nodC l).length:Int))=true)) (s_ (0≤(↑k:Int))) oz2 oz3 (show (checkE (l.getD k default) != 0)=false by (rw[c1];rfl)) oz5 (show (!thereB (l.getD k default) ((K_ shpC (growL nextE l a k)).length:Int))=false by (rw[c2];rfl)) (s_ (0≤(l.getD k default).na))<|.c8 (s_ ((l.getD k default).na<((K_ shpC (growL nextE l a k)).length:Int))) oz9 oz10 (s_ (0≤secN (l.getD k default))) (s_ (secN (l.getD k default)<((K_ shpC (growL nextE l a k)).length:Int))) oz13 oz14 (p2_ (((shapeE (l.getD k default) ((growL nextE l a k).getD (l.getD k default).na.toNat default) ((growL nextE l a k).getD (secN (l.getD k default)).toNat default)).snd != 0)=false))<|.d5 (s_ (((K_ shpC (growL nextE l a k)).length+1)*24≤140737488355328)) (s_ ((K_ shpC (growL nextE l a k)).length+1≤9223372036854775807)) (i6n ((↑k:Int)+1) a_) (wS_ k) (show BlkW (Blk.slc 23 3 (K_ shpC (growL nextE l a k)++[[i64 (shapeE (l.getD k default) ((growL nextE l a k).getD (l.getD k default).na.toNat default) ((growL nextE l a k).getD (secN (l.getD k default)).toNat default)).fst.h,i64 (shapeE (l.getD k default) ((growL nextE l a k).getD (l.getD k default).na.toNat default) ((growL nextE l a k).getD (secN (l.getD k default)).toNat default)).fst.x,i64 (shapeE (l.getD k default) ((growL nextE l a k).getD (l.getD k default).na.toNat default) ((growL nextE l a k).getD (secN (l.getD k default)).toNat default)).fst.c]])) (Blk.slc 23 3 (K_ shpC (growL nextE l a (k+1)))) from (CW_ (e:=23) (z:=3) (rows_to (shpC) (r:=K_ shpC (growL nextE l a k)++[[i64 (shapeE (l.getD k default) ((growL nextE l a k).getD (l.getD k default).na.toNat default) ((growL nextE l a k).getD (secN (l.getD k default)).toNat default)).fst.h,i64 (shapeE (l.getD k default) ((growL nextE l a k).getD (l.getD k default).na.toNat default) ((growL nextE l a k).getD (secN (l.getD k default)).toNat default)).fst.x,i64 (shapeE (l.getD k default) ((growL nextE l a k).getD (l.getD k default).na.toNat default) ((growL nextE l a k).getD (secN (l.getD k default)).toNat default)).fst.c]]) (l:=growL nextE l a k++[Shp.mk (shapeE (l.getD k default) ((growL nextE l a k).getD (l.getD k default).na.toNat default) ((growL nextE l a k).getD (secN (l.getD k default)).toNat default)).fst.h (shapeE (l.getD k default) ((growL nextE l a k).getD (l.getD k default).na.toNat default) ((growL nextE l a k).getD (secN (l.getD k default)).toNat default)).fst.x (shapeE (l.getD k default) ((growL nextE l a k).getD (l.getD k default).na.toNat default) ((growL nextE l a k).getD (secN (l.getD k default)).toNat default)).fst.c]) (m:=growL nextE l a (k+1)) a1_ (show (growL nextE l a k++[Shp.mk (shapeE (l.getD k default) ((growL nextE l a k).getD (l.getD k default).na.toNat default) ((growL nextE l a k).getD (secN (l.getD k default)).toNat default)).fst.h (shapeE (l.getD k default) ((growL nextE l a k).getD (l.getD k default).na.toNat default) ((growL nextE l a k).getD (secN (l.getD k default)).toNat default)).fst.x (shapeE (l.getD k default) ((growL nextE l a k).getD (l.getD k default).na.toNat default) ((growL nextE l a k).getD (secN (l.getD k default)).toNat default)).fst.c])=(growL nextE l a (k+1)) from (by (rw[growL,c3])))))))
theorem rshapes_ln_e (l:List Nod) (a:Shp) (m:Nat) (okl:∀ n∈l,n.Ok) (wl:∀ n∈l,n.w.length≤100000∧n.b.length≤100000) (i:a.Ok) (f8:l.length≤8) (hm:m<l.length) (hf:errL nextE l a m≠0) (h:∀ k,k<m→errL nextE l a k=0):VT M_ (fnC Tryz.f46 [1,1,1,1,1,0,1,0,0]) (rshapes_ln_I l a m (m)) (.ret) (rshapes_ln_Z l a m):=by
 have q1:=growL_len nextE l a m
 have q2:=grow_ok (l:=l) i m
 have q3:=getD_in okl hm
 have qz:=q3.kd
 have q4:=getD_in wl hm
 obtain ⟨q5,q6⟩:=q4
 have q8:(K_ shpC (growL nextE l a m)).length=(growL nextE l a m).length:=V_ _
 have qa:=fun h=>there_at (n:=l.getD m default) q2 h
 have e0:=@nextE_c (l.getD m default) (growL nextE l a m)
 have e1:=@nextE_0 (l.getD m default) (growL nextE l a m)
 have e2:=@nextE_6 (l.getD m default) (growL nextE l a m)
 have q:errL nextE l a m=(nextE (l.getD m default) (growL nextE l a m)).2:=rfl
 unfold errL at hf
 have oz0:=(h_ (decide ((↑m:Int)<((K_ nodC l).length:Int))=true))
 have oz1:=(s_ (0≤(↑m:Int)))
 have oz2:=(map_at (nodC) (default) (l:=l) (i:=m) hm)
 have oz3:=@refCheck_v (l.getD m default) q5 q6 qz
 rcases bft (checkE (l.getD m default) != 0) with hc0|hc0
 ·have gc0:¬checkE (l.getD m default)=0:=bdt hc0
  exact tR_ [r_,b_,.r [] [.row (sO oz2)],.r [] [cr oz3],r_,b_,r_] [.any (rg [(0,1),(7,4),(24,4),(30,10)]),.drop [900,9],.weak 6 (i64 (errL nextE l a m)),.sort] (.d6 oz0 oz1 oz2 oz3 hc0 (N_ (k:=.i64) (show ((checkE (l.getD m default)):Int)=(errL nextE l a m) from (by (rw[q,e0 a_])))))
 ·have gc0:checkE (l.getD m default)=0:=bdf hc0
  have oz5:=@refThere_v (l.getD m default) (((K_ shpC (growL nextE l a m)).length:Int))
  rcases bft (!thereB (l.getD m default) ((K_ shpC (growL nextE l a m)).length:Int)) with hc1|hc1
  ·have gc1:thereB (l.getD m default) ((K_ shpC (growL nextE l a m)).length:Int)=false:=d0_
   exact tR_ [r_,b_,.r [] [.row (sO oz2)],.r [] [cr oz3],r_,d_,.r [] [cr oz5],b_,r_] [.any (rg [(0,1),(7,4),(24,4),(30,8),(40,6)]),.drop [900,9],.weak 6 (i64 (errL nextE l a m)),.sort] (.d8 oz0 oz1 oz2 oz3 hc0 oz5 hc1 (N_ (k:=.i64) (show ((8):Int)=(errL nextE l a m) from (by (rw[q,e1 a_ e1_])))))
  ·have gc1:thereB (l.getD m default) ((K_ shpC (growL nextE l a m)).length:Int)=true:=d0_
   have oz9:=(map_at (shpC) (default) (l:=growL nextE l a m) (i:=(l.getD m default).na.toNat) w2_)
   have oz10:=@refSecond_v (l.getD m default)
   have oz13:=(map_at (shpC) (default) (l:=growL nextE l a m) (i:=(secN (l.getD m default)).toNat) w2_)
   have oz14:=@refKshape_v (l.getD m default) ((growL nextE l a m).getD (l.getD m default).na.toNat default) ((growL nextE l a m).getD (secN (l.getD m default)).toNat default) i2_ (by (have:=qa b0_;exact this.2.2)) q3
   have oz16:=(N_ (k:=.i64) (show (((shapeE (l.getD m default) ((growL nextE l a m).getD (l.getD m default).na.toNat default) ((growL nextE l a m).getD (secN (l.getD m default)).toNat default)).snd):Int)=(errL nextE l a m) from (by (rw[q,e2 a_ b0_]))))
   exact tR_ [r_,b_,.r [] [.row (sO oz2)],.r [] [cr oz3],r_,d_,.r [] [cr oz5],d_,.r [] [.row (sO oz9),cr oz10,.row (sO oz13),cr oz14],r_,b_,r_] [.any (rg [(0,1),(7,6),(24,4),(30,8),(40,5),(46,19)]),.drop [900,9,11],.weak 6 (wO oz16),.sort] (.c8 oz0 oz1 oz2 oz3 hc0 oz5 hc1 (n1_ (0≤(l.getD m default).na))<|.c8 (n1_ ((l.getD m default).na<((K_ shpC (growL nextE l a m)).length:Int))) oz9 oz10 (n1_ (0≤secN (l.getD m default))) (n1_ (secN (l.getD m default)<((K_ shpC (growL nextE l a m)).length:Int))) oz13 oz14 (show ((shapeE (l.getD m default) ((growL nextE l a m).getD (l.getD m default).na.toNat default) ((growL nextE l a m).getD (secN (l.getD m default)).toNat default)).snd != 0)=true by (rw[e2 a_ b0_] at hf;rw[J_];exact hf))<|.d oz16)
theorem rshapes_ln (l:List Nod) (a:Shp) (m:Nat) (okl:∀ n∈l,n.Ok) (wl:∀ n∈l,n.w.length≤100000∧n.b.length≤100000) (i:a.Ok) (f8:l.length≤8) (hm:m<l.length) (hf:errL nextE l a m≠0) (h:∀ k,k<m→errL nextE l a k=0):VT M_ (fnC Tryz.f46 [1,1,1,1,1,0,1,0]) (rshapes_ln_I l a m 0) (.ret) (rshapes_ln_Z l a m) :=
 VT.loop (fun k=>rshapes_ln_I l a m k) (m) (fun k hk=>rshapes_ln_s l a m okl wl i f8 hm hf h k hk) (rshapes_ln_e l a m okl wl i f8 hm hf h) c0_
theorem rshapes_y (l:List Nod) (a:Shp) (okl:∀ n∈l,n.Ok) (wl:∀ n∈l,n.w.length≤100000∧n.b.length≤100000) (h:SOK l a):VC M_ 46 ([.sl 19 (l.map nodC),shp a]) (.tup [.sl 3 ((growL nextE l a l.length).map shpC),i64 l.length,i64 0]):=by
 have q1:=h.i
 have q2:=h.e
 have q3:=h.f
 have q4:=h.k
 have q5:=q1.ok
 obtain ⟨p1,p2,p3⟩:=id q5
 unfold Shp.Rt at q1
 have oz0:=@refElems_v (a.h) (a.x) (a.c) p1 p2 p3
 have oz5:=@rshapes_ly (l) (a) okl wl q5 q3 q4
 exact (cR_ [r_,.r [] [cr oz0],d_,r_,d_,r_,d_,r_,r_,.code [.any (rg [(1,1),(3,4),(13,11)]),.drop [3],.ren 23 900,.weak 8 (i64 (↑0:Int)),.sort] (BS_ 0) (zO oz5),r_] (AV.tup [AV.sl 3 (K_ shpC (growL nextE l a l.length)),i64 ((K_ nodC l).length:Int),i64 0]) Tryz.func46 (.d6 oz0 (c_ ((elems a.h a.x a.c==0)=false)) (q_ ((((K_ nodC l).length:Int)==0)=false)) (h_ (decide (((K_ nodC l).length:Int)>8)=false)) w0_ oz5)).weak (AQ_ _) (AA_ (.cons (.refl _) (.cons (N_ k0_) (.cons (.refl _) .nil))))
theorem rshapes_a (l:List Nod) (a:Shp) (i:a.Ok) (hl:l.length≤1000) (h:¬ 0<elems a.h a.x a.c∨l.length=0∨8<l.length):VC M_ 46 ([.sl 19 (l.map nodC),shp a]) (.tup [nilv,i64 (shapesE l a).1,i64 (shapesE l a).2]):=by
 have q:=elems_in a.h a.x a.c
 obtain ⟨p1,p2,p3⟩:=id i
 have oz0:=@refElems_v (a.h) (a.x) (a.c) p1 p2 p3
 rcases bft (elems a.h a.x a.c==0) with hc0|hc0
 ·have gc0:elems a.h a.x a.c=0:=bet hc0
  exact (cR_ [r_,.r [] [cr oz0],b_,r_] (AV.tup [AV.lit (AK_ none 0 0),i64 (-1),i64 5]) Tryz.func46 (.d2 oz0 hc0)).weak (AQ_ _) (AA_ (.cons (.refl _) (.cons (N_ e0_) (.cons (N_ e0_) .nil))))
 ·have gc0:¬elems a.h a.x a.c=0:=bef hc0
  rcases bft (((K_ nodC l).length:Int)==0) with hc1|hc1
  ·have gc1:((K_ nodC l).length:Int)=0:=bet hc1
   exact (cR_ [r_,.r [] [cr oz0],d_,r_,b_,r_] (AV.tup [AV.lit (AK_ none 0 0),i64 (-1),i64 12]) Tryz.func46 (.d3 oz0 hc0 hc1)).weak (AQ_ _) (AA_ (.cons (.refl _) (.cons (N_ e0_) (.cons (N_ e0_) .nil))))
  ·have gc1:¬((K_ nodC l).length:Int)=0:=bef hc1
   exact (cR_ [r_,.r [] [cr oz0],d_,r_,d_,r_,b_,r_] (AV.tup [AV.lit (AK_ none 0 0),i64 (-1),i64 4]) Tryz.func46 (.d4 oz0 hc0 hc1 (a0_ (decide (((K_ nodC l).length:Int)>8)=true)))).weak (AQ_ _) (AA_ (.cons (.refl _) (.cons (N_ e0_) (.cons (N_ e0_) .nil))))
theorem rshapes_m (l:List Nod) (a:Shp) (m:Nat) (okl:∀ n∈l,n.Ok) (wl:∀ n∈l,n.w.length≤100000∧n.b.length≤100000) (i:0<elems a.h a.x a.c) (f8:l.length≤8) (hm:m<l.length) (hf:errL nextE l a m≠0) (h:∀ k,k<m→errL nextE l a k=0):VC M_ 46 ([.sl 19 (l.map nodC),shp a]) (.tup [nilv,i64 m,i64 (errL nextE l a m)]):=by
 have q:=Shp.Rt.ok i
 obtain ⟨p1,p2,p3⟩:=id q
 have oz0:=@refElems_v (a.h) (a.x) (a.c) p1 p2 p3
 have oz5:=@rshapes_ln (l) (a) (m) okl wl q f8 hm hf h
 exact cR_ [r_,.r [] [cr oz0],d_,r_,d_,r_,d_,r_,r_,.code [.any (rg [(1,1),(3,4),(13,11)]),.drop [3],.ren 23 900,.weak 8 (i64 (↑0:Int)),.sort] (DT_) (zO oz5)] _ Tryz.func46 (.d6 oz0 (c_ ((elems a.h a.x a.c==0)=false)) (q_ ((((K_ nodC l).length:Int)==0)=false)) (h_ (decide (((K_ nodC l).length:Int)>8)=false)) w0_ oz5)
theorem rshapes_n (l:List Nod) (a:Shp) (okl:∀ n∈l,n.Ok) (wl:∀ n∈l,n.w.length≤100000∧n.b.length≤100000) (i:a.Ok) (hl:l.length≤1000) (h:¬ SOK l a):VC M_ 46 [.sl 19 (l.map nodC),shp a] (.tup [nilv,i64 (shapesE l a).1,i64 (shapesE l a).2]):=by
 rcases SOK.cases l a with q|q|q|q|⟨i',e,f,m,h1,h2,h3⟩
 ·exact absurd q h
 ·exact rshapes_a l a i hl (.inl q)
 ·exact rshapes_a l a i hl (.inr (.inl q))
 ·exact rshapes_a l a i hl (.inr (.inr q))
 ·rw[shapesE_at i' e f h1 h2 h3];exact rshapes_m l a m okl wl i' f h1 h2 h3
abbrev shpsL (l:List Nod) (a:Shp):List Shp:=growL nextE l a l.length
def lastS (l:List Nod) (a:Shp):Shp:=(shpsL l a).getD l.length default
theorem shpsL_len (l:List Nod) (a:Shp):(shpsL l a).length=l.length+1:=growL_len nextE l a l.length
theorem lastS_ok {l:List Nod} {a:Shp} (h:a.Ok):(lastS l a).Ok:=getD_in (grow_ok (l:=l) h l.length) (show l.length<(shpsL l a).length by rw[shpsL_len];omega)
theorem lastS_i {l:List Nod} {a:Shp} {i:Nat} (hi:i=l.length):(growL nextE l a l.length).getD i default=lastS l a:=by subst hi;rfl
structure Blc where
 n:List Nod
 ex:Bool
 w:List Int
 b:List Int
 nd:Int
abbrev blcC (x:Blc):List AV:=[.sl 19 (x.n.map nodC),bv x.ex,ints .i8 x.w,ints .i32 x.b,i32 x.nd]
structure Blc.Ok (x:Blc):Prop where
 n:∀ d∈x.n,Nod.Ok d
 w:∀ v∈x.w,In8 v
 b:∀ v∈x.b,In32 v
 nd:In32 x.nd
instance:Inhabited Blc:=⟨⟨[],false,[],[],0⟩⟩
structure Mdl where
 l:List Blc
abbrev mdlC (m:Mdl):List AV:=[.sl 5 (m.l.map blcC)]
structure Mdl.Ok (m:Mdl):Prop where
 l:∀ d∈m.l,Blc.Ok d
instance:Inhabited Mdl:=⟨⟨[]⟩⟩
structure Bun where
 h:Int
 x:Int
 c:Int
 cl:Int
 m:List Mdl
abbrev bunC (u:Bun):List AV:=[i64 u.h,i64 u.x,i64 u.c,i64 u.cl,.sl 1 (u.m.map mdlC)]
structure Bun.Ok (u:Bun):Prop where
 h:In64 u.h
 x:In64 u.x
 c:In64 u.c
 cl:In64 u.cl
 m:∀ d∈u.m,Mdl.Ok d
abbrev Bun.inp (u:Bun):Shp:=⟨u.h,u.x,u.c⟩
abbrev blc (x:Blc):AV:=.agg (blcC x)
abbrev bun (u:Bun):AV:=.agg (bunC u)
abbrev fullR:Rng:=⟨-128,127⟩
theorem fullR_in:fullR.In8:=⟨⟨by decide,by decide⟩,⟨by decide,by decide⟩⟩
abbrev rchsL (l:List Nod):List Rng:=growL stepR l fullR l.length
def lastR (l:List Nod):Rng:=(rchsL l).getD l.length default
theorem rchsL_len (l:List Nod):(rchsL l).length=l.length+1:=growL_len stepR l fullR l.length
theorem lastR_in {l:List Nod} (okl:∀ n∈l,n.Ok):(lastR l).In8:=getD_in (flow_in okl fullR_in (AE_ _)) (show l.length<(rchsL l).length by rw[rchsL_len];omega)
theorem lastR_i {l:List Nod} {i:Nat} (hi:i=l.length):(growL stepR l fullR l.length).getD i default=lastR l:=by subst hi;rfl
def verdE (s:Shp) (w b:List Int) (nd cl:Int):Int :=
 if elems s.h s.x s.c=0 then 5 else if cl<2∨16<cl then 2
 else if (w.length:Int)≠cl*elems s.h s.x s.c∨16384<(w.length:Int)∨(b.length:Int)≠cl then 9 else if nd<0 then 11 else 0
theorem clel_bd {cl:Int} (s:Shp) (h:2≤cl∧cl≤16):0≤cl*elems s.h s.x s.c∧cl*elems s.h s.x s.c≤16384:=by
 have h1:=elems_in s.h s.x s.c
 have:=mul_bd (A:=16) (B:=1024) (a:=cl) a_ a_ h1.1 h1.2
 omega
theorem vcheck_v (s:Shp) (w b:List Int) (nd cl:Int) (ok:s.Ok) (wl:w.length≤100000) (bl:b.length≤100000):VC M_ 155 ([shp s,.agg (hedC w b nd),i64 cl]) (i64 (verdE s w b nd cl)):=by
 obtain ⟨p1,p2,p3⟩:=id ok
 have q1:=elems_in s.h s.x s.c
 have q2:=@clel_bd cl s
 have oz0:=@elems_v (s.h) (s.x) (s.c) p1 p2 p3
 rcases bft (elems s.h s.x s.c==0) with hc0|hc0
 ·have gc0:elems s.h s.x s.c=0:=bet hc0
  exact (cR_ [r_,.r [] [cr oz0],r_,b_,r_] (i64 5) Tryz.func155 (.d2 oz0 hc0)).weak (AQ_ _) (N_ j0_)
 ·have gc0:¬elems s.h s.x s.c=0:=bef hc0
  rcases bft (decide (cl<2) || decide (cl>16)) with hc1|hc1
  ·have gc1:cl<2∨cl>16:=gc0_ hc1
   exact (cR_ [r_,.r [] [cr oz0],r_,d_,.r [] [o_,o_,.sel 1],b_,r_] (i64 2) Tryz.func155 (.d3 oz0 hc0 hc1)).weak (AQ_ _) (N_ j0_)
  ·have gc1:¬cl<2∧¬cl>16:=gc0_ hc1
   have oz3:=(i6n (cl*elems s.h s.x s.c) a_)
   rcases bft (((K_ (row1 .i8) w).length:Int) != cl*elems s.h s.x s.c || decide (((K_ (row1 .i8) w).length:Int)>16384) || ((K_ (row1 .i32) b).length:Int) != cl) with hc2|hc2
   ·have gc2:(¬((K_ (row1 .i8) w).length:Int)=cl*elems s.h s.x s.c∨((K_ (row1 .i8) w).length:Int)>16384)∨¬((K_ (row1 .i32) b).length:Int)=cl:=gc0_ hc2
    exact (cR_ [r_,.r [] [cr oz0],r_,d_,.r [] [o_,o_,.sel 1],d_,.r [] [.n (nO oz3),o_,o_,o_,o_,.sel 1,o_,o_,o_,o_,o_,.sel 1],b_,r_] (i64 9) Tryz.func155 (.d5 oz0 hc0 hc1 oz3 hc2)).weak (AQ_ _) (N_ j0_)
   ·have gc2:(((K_ (row1 .i8) w).length:Int)=cl*elems s.h s.x s.c∧¬((K_ (row1 .i8) w).length:Int)>16384)∧((K_ (row1 .i32) b).length:Int)=cl:=gc0_ hc2
    rcases bft (decide (nd<0)) with hc3|hc3
    ·have gc3:=of_decide_eq_true hc3
     exact (cR_ [r_,.r [] [cr oz0],r_,d_,.r [] [o_,o_,.sel 1],d_,.r [] [.n (nO oz3),o_,o_,o_,o_,.sel 1,o_,o_,o_,o_,o_,.sel 1],d_,r_,b_,r_] (i64 11) Tryz.func155 (.d6 oz0 hc0 hc1 oz3 hc2 hc3)).weak (AQ_ _) (N_ j0_)
    ·have gc3:=of_decide_eq_false hc3
     exact (cR_ [r_,.r [] [cr oz0],r_,d_,.r [] [o_,o_,.sel 1],d_,.r [] [.n (nO oz3),o_,o_,o_,o_,.sel 1,o_,o_,o_,o_,o_,.sel 1],d_,r_,d_,r_] (i64 0) Tryz.func155 (.d6 oz0 hc0 hc1 oz3 hc2 hc3)).weak (AQ_ _) (N_ j0_)
theorem refVcheck_v (s:Shp) (w b:List Int) (nd cl:Int) (ok:s.Ok) (wl:w.length≤100000) (bl:b.length≤100000):VC M_ 75 ([shp s,.agg (hedC w b nd),i64 cl]) (i64 (verdE s w b nd cl)):=by
 obtain ⟨p1,p2,p3⟩:=id ok
 have q1:=elems_in s.h s.x s.c
 have q2:=@clel_bd cl s
 have oz0:=@refElems_v (s.h) (s.x) (s.c) p1 p2 p3
 rcases bft (elems s.h s.x s.c==0) with hc0|hc0
 ·have gc0:elems s.h s.x s.c=0:=bet hc0
  exact (cR_ [r_,.r [] [cr oz0],b_,r_] (i64 5) Tryz.func75 (.d2 oz0 hc0)).weak (AQ_ _) (N_ j0_)
 ·have gc0:¬elems s.h s.x s.c=0:=bef hc0
  rcases bft (decide (cl<2) || decide (cl>16)) with hc1|hc1
  ·have gc1:cl<2∨cl>16:=gc0_ hc1
   exact (cR_ [r_,.r [] [cr oz0],d_,.r [] [o_,o_,.sel 1],b_,r_] (i64 2) Tryz.func75 (.d3 oz0 hc0 hc1)).weak (AQ_ _) (N_ j0_)
  ·have gc1:¬cl<2∧¬cl>16:=gc0_ hc1
   have oz4:=(i6n (cl*elems s.h s.x s.c) a_)
   rcases bft (((K_ (row1 .i8) w).length:Int) != cl*elems s.h s.x s.c || decide (((K_ (row1 .i8) w).length:Int)>16384) || ((K_ (row1 .i32) b).length:Int) != cl) with hc2|hc2
   ·have gc2:(¬((K_ (row1 .i8) w).length:Int)=cl*elems s.h s.x s.c∨((K_ (row1 .i8) w).length:Int)>16384)∨¬((K_ (row1 .i32) b).length:Int)=cl:=gc0_ hc2
    exact (cR_ [r_,.r [] [cr oz0],d_,.r [] [o_,o_,.sel 1],d_,.r [] [cr oz0,.n (nO oz4),o_,o_,o_,o_,.sel 1,o_,o_,o_,o_,o_,.sel 1],b_,r_] (i64 9) Tryz.func75 (.d6 oz0 hc0 hc1 oz0 oz4 hc2)).weak (AQ_ _) (N_ j0_)
   ·have gc2:(((K_ (row1 .i8) w).length:Int)=cl*elems s.h s.x s.c∧¬((K_ (row1 .i8) w).length:Int)>16384)∧((K_ (row1 .i32) b).length:Int)=cl:=gc0_ hc2
    rcases bft (decide (nd<0)) with hc3|hc3
    ·have gc3:=of_decide_eq_true hc3
     exact (cR_ [r_,.r [] [cr oz0],d_,.r [] [o_,o_,.sel 1],d_,.r [] [cr oz0,.n (nO oz4),o_,o_,o_,o_,.sel 1,o_,o_,o_,o_,o_,.sel 1],d_,r_,b_,r_] (i64 11) Tryz.func75 (.d7 oz0 hc0 hc1 oz0 oz4 hc2 hc3)).weak (AQ_ _) (N_ j0_)
    ·have gc3:=of_decide_eq_false hc3
     exact (cR_ [r_,.r [] [cr oz0],d_,.r [] [o_,o_,.sel 1],d_,.r [] [cr oz0,.n (nO oz4),o_,o_,o_,o_,.sel 1,o_,o_,o_,o_,o_,.sel 1],d_,r_,d_,r_] (i64 0) Tryz.func75 (.d7 oz0 hc0 hc1 oz0 oz4 hc2 hc3)).weak (AQ_ _) (N_ j0_)
theorem bare_v (w b:List Int) (nd:Int) (wl:w.length≤100000) (bl:b.length≤100000):VC M_ 154 ([.agg (hedC w b nd)]) (bv (decide (w.length=0∧b.length=0∧nd=0))):=by
 exact (cR_ [r_,.r [] [o_,o_,o_,o_,.sel 2,o_,o_,o_,.sel 2]] (bv (((K_ (row1 .i8) w).length:Int)==0&&((K_ (row1 .i32) b).length:Int)==0&&nd==0)) Tryz.func154 (.n)).weak (AQ_ _) (AB_ (by (rw[Bool.eq_iff_iff];simp only[E_,F_,I_,J_,ne_eq,H_,G_,Y_,W_,BO_,BB_,BR_,Classical.not_not,CQ_,CI_,P_,R_,D_,T_,AO_,BU_,BW_,BQ_,BD_,BC_,eqNums,V_,AD_,AJ_,BE_,BF_,BN_,BL_,AS_,BX_,AF_,BT_,BV_,BA_,CH_,false_iff,true_iff,iff_false,iff_true] at *;first|done|omega)))
def exitE (x:Blc) (out:Shp) (r:Rng) (cl:Int) (last:Bool):Int :=
 if x.ex=false∧(last=true∨¬ (x.w.length=0∧x.b.length=0∧x.nd=0)) then 11 else if x.ex=false then 0
 else if verdE out x.w x.b x.nd cl≠0 then verdE out x.w x.b x.nd cl else headE x.w x.b r.lo r.hi
theorem vexit_v (x:Blc) (out:Shp) (r:Rng) (cl:Int) (last:Bool) (ok:x.Ok) (oks:out.Ok) (hr:r.In8) (wl:x.w.length≤100000) (bl:x.b.length≤100000):VC M_ 128 ([blc x,shp out,rch r,i64 cl,bv last]) (i64 (exitE x out r cl last)):=by
 have q1:=ok.w
 have q2:=ok.b
 obtain ⟨q3,q4⟩:=id hr
 rcases bft (last && !x.ex) with hc0|hc0
 ·have gc0:last=true∧x.ex=false:=gc0_ hc0
  exact (cR_ [r_,.r [] [o_,o_,o_,.sel 2],b_,b_,r_] (i64 11) Tryz.func128 (.d2 hc0 hc0)).weak (AQ_ _) (N_ k2_)
 ·have gc0:last=false∨x.ex=true:=gc0_ hc0
  have oz1:=@bare_v (x.w) (x.b) (x.nd) wl bl
  rcases bft (!x.ex && !decide (x.w.length=0∧x.b.length=0∧x.nd=0)) with hc1|hc1
  ·have gc1:x.ex=false∧¬(x.w.length=0∧x.b.length=0∧x.nd=0):=gc0_ hc1
   exact (cR_ [r_,.r [] [o_,o_,o_,.sel 2],d_,.r [] [o_,o_,o_,cr oz1,o_,.sel 2],b_,r_] (i64 11) Tryz.func128 (.d3 hc0 oz1 hc1)).weak (AQ_ _) (N_ k2_)
  ·have gc1:x.ex=true∨x.w.length=0∧x.b.length=0∧x.nd=0:=gc0_ hc1
   rcases bft (!x.ex) with hc2|hc2
   ·have gc2:x.ex=false:=g2_
    exact (cR_ [r_,.r [] [o_,o_,o_,.sel 2],d_,.r [] [o_,o_,o_,cr oz1,o_,.sel 2],d_,r_,b_,r_] (i64 0) Tryz.func128 (.d4 hc0 oz1 hc1 hc2)).weak (AQ_ _) (N_ k2_)
   ·have gc2:x.ex=true:=g2_
    have oz4:=@vcheck_v (out) (x.w) (x.b) (x.nd) (cl) oks wl bl
    rcases bft (verdE out x.w x.b x.nd cl != 0) with hc3|hc3
    ·have gc3:¬verdE out x.w x.b x.nd cl=0:=bdt hc3
     exact (cR_ [r_,.r [] [o_,o_,o_,.sel 2],d_,.r [] [o_,o_,o_,cr oz1,o_,.sel 2],d_,r_,d_,.r [] [cr oz4],r_,b_,r_] (i64 (verdE out x.w x.b x.nd cl)) Tryz.func128 (.d6 hc0 oz1 hc1 hc2 oz4 hc3)).weak (AQ_ _) (N_ k2_)
    ·have gc3:verdE out x.w x.b x.nd cl=0:=bdf hc3
     have oz6:=@ghead_v (x.w) (x.b) (x.nd) (r.lo) (r.hi) q1 q2 wl bl q3 q4
     exact (cR_ [r_,.r [] [o_,o_,o_,.sel 2],d_,.r [] [o_,o_,o_,cr oz1,o_,.sel 2],d_,r_,d_,.r [] [cr oz4],r_,d_,.r [] [cr oz6]] (i64 (headE x.w x.b r.lo r.hi)) Tryz.func128 (.d7 hc0 oz1 hc1 hc2 oz4 hc3 oz6)).weak (AQ_ _) (N_ k2_)
def validE (x:Blc) (a:Shp) (cl:Int) (last:Bool):Int×Int :=
 if (shapesE x.n a).2≠0 then shapesE x.n a else if (flowE x.n fullR).2≠0 then flowE x.n fullR
 else if exitE x (lastS x.n a) (lastR x.n) cl last≠0 then (-1,exitE x (lastS x.n a) (lastR x.n) cl last) else ((x.n.length:Int),0)
theorem validE_s {x:Blc} {a:Shp} {cl:Int} {last:Bool} (h:¬ SOK x.n a):validE x a cl last=shapesE x.n a:=i_ (shapesE_n h)
theorem validE_f {x:Blc} {a:Shp} {cl:Int} {last:Bool} (h:SOK x.n a) (g:¬ FOK x.n fullR):validE x a cl last=flowE x.n fullR:=by
 unfold validE;rw[j_ (by rw[shapesE_y h];simp),i_ (flowE_n g)]
theorem validE_y {x:Blc} {a:Shp} {cl:Int} {last:Bool} (h:SOK x.n a) (g:FOK x.n fullR):validE x a cl last=if exitE x (lastS x.n a) (lastR x.n) cl last≠0 then (-1,exitE x (lastS x.n a) (lastR x.n) cl last) else ((x.n.length:Int),0):=by
 unfold validE;rw[j_ (by rw[shapesE_y h];simp),j_ (by rw[flowE_y g];simp)]
structure Blc.Sm (x:Blc):Prop where
 l:x.n.length≤12
 s:∀ n∈x.n,n.w.length≤100000∧n.b.length≤100000
 w:x.w.length≤100000
 b:x.b.length≤100000
theorem vblock_s (x:Blc) (a:Shp) (cl:Int) (last:Bool) (ok:x.Ok) (oka:a.Ok) (sm:x.Sm) (h:¬ SOK x.n a):VC M_ 88 ([blc x,shp a,i64 cl,bv last]) (.tup [i64 (validE x a cl last).1,i64 (validE x a cl last).2]):=by
 have q1:=ok.n
 obtain ⟨q2,q3,q4,q5⟩:=id sm
 have q6:=shapesE_n h
 have q7:=@validE_s x a cl last h
 have oz0:=@shapes_n (x.n) (a) q1 q3 oka a_ h
 exact (cR_ [r_,.r [] [cr oz0],r_,b_,r_] (AV.tup [i64 (shapesE x.n a).fst,i64 (shapesE x.n a).snd]) Tryz.func88 (.d2 oz0 (h_ (((shapesE x.n a).snd != 0)=true)))).weak (AQ_ _) (AA_ (.cons (N_ (by (rw[q7]))) (.cons (N_ (by (rw[q7]))) .nil)))
theorem vblock_f (x:Blc) (a:Shp) (cl:Int) (last:Bool) (ok:x.Ok) (oka:a.Ok) (sm:x.Sm) (h:SOK x.n a) (g:¬ FOK x.n fullR):VC M_ 88 ([blc x,shp a,i64 cl,bv last]) (.tup [i64 (validE x a cl last).1,i64 (validE x a cl last).2]):=by
 have q1:=ok.n
 obtain ⟨q2,q3,q4,q5⟩:=id sm
 have q6:=flowE_n g
 have q7:=@validE_f x a cl last h g
 have q8:=fullR_in
 have oz0:=@shapes_y (x.n) (a) q1 q3 h
 have oz2:=@flow_n (x.n) (Rng.mk (-128) 127) q1 q3 q8 a_ g
 exact (cR_ [r_,.r [] [cr oz0],r_,d_,.r [] [cr oz2],r_,b_,r_] (AV.tup [i64 (flowE x.n (Rng.mk (-128) 127)).fst,i64 (flowE x.n (Rng.mk (-128) 127)).snd]) Tryz.func88 (.d4 oz0 z1_ oz2 (h_ (((flowE x.n (Rng.mk (-128) 127)).snd != 0)=true)))).weak (AQ_ _) (AA_ (.cons (N_ (by (rw[q7]))) (.cons (N_ (by (rw[q7]))) .nil)))
theorem vblock_y (x:Blc) (a:Shp) (cl:Int) (last:Bool) (ok:x.Ok) (oka:a.Ok) (sm:x.Sm) (h:SOK x.n a) (g:FOK x.n fullR):VC M_ 88 ([blc x,shp a,i64 cl,bv last]) (.tup [i64 (validE x a cl last).1,i64 (validE x a cl last).2]):=by
 have q1:=ok.n
 obtain ⟨q2,q3,q4,q5⟩:=id sm
 have q7:=@validE_y x a cl last h g
 have q8:=fullR_in
 have l1:=shpsL_len x.n a
 have l2:=rchsL_len x.n
 have l3:(K_ shpC (shpsL x.n a)).length=(shpsL x.n a).length:=V_ _
 have l4:(K_ rchC (rchsL x.n)).length=(rchsL x.n).length:=V_ _
 have l5:(K_ nodC x.n).length=x.n.length:=V_ _
 have s1:=@lastS_i x.n a
 have s2:=@lastR_i x.n
 have s3:=lastS_ok (l:=x.n) oka
 have s4:=lastR_in q1
 have oz0:=@shapes_y (x.n) (a) q1 q3 h
 have oz2:=@flow_y (x.n) (Rng.mk (-128) 127) q1 q3 q8 g
 have oz4:=(s_ (0≤((K_ nodC x.n).length:Int)))
 have oz5:=(map_at (shpC) (default) (l:=growL nextE x.n a x.n.length) (i:=(K_ nodC x.n).length) o1_)
 have oz7:=(map_at (rchC) (default) (l:=growL stepR x.n (Rng.mk (-128) 127) x.n.length) (i:=(K_ nodC x.n).length) o1_)
 have oz8:=@vexit_v (x) ((growL nextE x.n a x.n.length).getD (K_ nodC x.n).length default) ((growL stepR x.n (Rng.mk (-128) 127) x.n.length).getD (K_ nodC x.n).length default) (cl) (last) ok (by (rw[s1 a_];exact s3)) (by (rw[s2 a_];exact s4)) q4 q5
 rcases bft (exitE x ((growL nextE x.n a x.n.length).getD (K_ nodC x.n).length default) ((growL stepR x.n (Rng.mk (-128) 127) x.n.length).getD (K_ nodC x.n).length default) cl last != 0) with hc0|hc0
 ·have gc0:¬exitE x ((growL nextE x.n a x.n.length).getD (K_ nodC x.n).length default) ((growL stepR x.n (Rng.mk (-128) 127) x.n.length).getD (K_ nodC x.n).length default) cl last=0:=bdt hc0
  exact (cR_ [r_,.r [] [cr oz0],r_,d_,.r [] [cr oz2],r_,d_,.r [] [.row (sO oz5),.row (sO oz7),cr oz8],r_,b_,r_] (AV.tup [i64 (-1),i64 (exitE x ((growL nextE x.n a x.n.length).getD (K_ nodC x.n).length default) ((growL stepR x.n (Rng.mk (-128) 127) x.n.length).getD (K_ nodC x.n).length default) cl last)]) Tryz.func88 (.c8 oz0 z1_ oz2 z1_ oz4 oz5 oz4 oz7<|.d2 oz8 hc0)).weak (AQ_ _) (AA_ (.cons (N_ (by (rw[q7,i_ e1_]))) (.cons (N_ o1_) .nil)))
 ·have gc0:exitE x ((growL nextE x.n a x.n.length).getD (K_ nodC x.n).length default) ((growL stepR x.n (Rng.mk (-128) 127) x.n.length).getD (K_ nodC x.n).length default) cl last=0:=bdf hc0
  exact (cR_ [r_,.r [] [cr oz0],r_,d_,.r [] [cr oz2],r_,d_,.r [] [.row (sO oz5),.row (sO oz7),cr oz8],r_,d_,r_] (AV.tup [i64 ((K_ nodC x.n).length:Int),i64 0]) Tryz.func88 (.c8 oz0 z1_ oz2 z1_ oz4 oz5 oz4 oz7<|.d2 oz8 hc0)).weak (AQ_ _) (AA_ (.cons (N_ o1_) (.cons (N_ (by (rw[q7,j_ e1_]))) .nil)))
theorem exitE_a {x:Blc} {out:Shp} {r:Rng} {cl:Int} {last:Bool} (h:(!x.ex&&(last || (decide (((K_ (row1 .i8) x.w).length:Int)>0) || decide (((K_ (row1 .i32) x.b).length:Int)>0) || x.nd != 0)))=true):exitE x out r cl last=11:=by
 simp only[V_,P_,D_,E_,J_,Y_] at h
 unfold exitE
 rw[i_ ⟨h.1,by rcases h.2 with h|h;exact .inl h;right;omega⟩]
theorem exitE_b {x:Blc} {out:Shp} {r:Rng} {cl:Int} {last:Bool} (h:(!x.ex&&(last || (decide (((K_ (row1 .i8) x.w).length:Int)>0) || decide (((K_ (row1 .i32) x.b).length:Int)>0) || x.nd != 0)))=false) (hx:x.ex=false):exitE x out r cl last=0:=by
 rw[hx] at h
 simp only[V_,BR_,BU_,T_,F_,G_] at h
 unfold exitE
 rw[j_ (by rintro ⟨_,g|g⟩;(rw[h.1] at g;cases g);omega),i_ hx]
theorem exitE_c {x:Blc} {out:Shp} {r:Rng} {cl:Int} {last:Bool} (hx:x.ex=true):exitE x out r cl last=if verdE out x.w x.b x.nd cl≠0 then verdE out x.w x.b x.nd cl else headE x.w x.b r.lo r.hi:=by
 unfold exitE
 rw[j_ (by rw[hx];simp),j_ (by rw[hx];simp)]
theorem rvblock_s (x:Blc) (a:Shp) (cl:Int) (last:Bool) (ok:x.Ok) (oka:a.Ok) (sm:x.Sm) (h:¬ SOK x.n a):VC M_ 45 ([blc x,shp a,i64 cl,bv last]) (.tup [i64 (validE x a cl last).1,i64 (validE x a cl last).2]):=by
 have q1:=ok.n
 obtain ⟨q2,q3,q4,q5⟩:=id sm
 have q6:=shapesE_n h
 have q7:=@validE_s x a cl last h
 have oz0:=@rshapes_n (x.n) (a) q1 q3 oka a_ h
 exact (cR_ [r_,.r [] [cr oz0],r_,b_,r_] (AV.tup [i64 (shapesE x.n a).fst,i64 (shapesE x.n a).snd]) Tryz.func45 (.d2 oz0 (h_ (((shapesE x.n a).snd != 0)=true)))).weak (AQ_ _) (AA_ (.cons (N_ (by (rw[q7]))) (.cons (N_ (by (rw[q7]))) .nil)))
theorem rvblock_f (x:Blc) (a:Shp) (cl:Int) (last:Bool) (ok:x.Ok) (oka:a.Ok) (sm:x.Sm) (h:SOK x.n a) (g:¬ FOK x.n fullR):VC M_ 45 ([blc x,shp a,i64 cl,bv last]) (.tup [i64 (validE x a cl last).1,i64 (validE x a cl last).2]):=by
 have q1:=ok.n
 obtain ⟨q2,q3,q4,q5⟩:=id sm
 have q6:=flowE_n g
 have q7:=@validE_f x a cl last h g
 have q8:=fullR_in
 have oz0:=@rshapes_y (x.n) (a) q1 q3 h
 have oz2:=@rflow_n (x.n) (Rng.mk (-128) 127) q1 q3 q8 a_ g
 exact (cR_ [r_,.r [] [cr oz0],r_,d_,.r [] [cr oz2],r_,b_,r_] (AV.tup [i64 (flowE x.n (Rng.mk (-128) 127)).fst,i64 (flowE x.n (Rng.mk (-128) 127)).snd]) Tryz.func45 (.d4 oz0 z1_ oz2 (h_ (((flowE x.n (Rng.mk (-128) 127)).snd != 0)=true)))).weak (AQ_ _) (AA_ (.cons (N_ (by (rw[q7]))) (.cons (N_ (by (rw[q7]))) .nil)))
theorem rvblock_y (x:Blc) (a:Shp) (cl:Int) (last:Bool) (ok:x.Ok) (oka:a.Ok) (sm:x.Sm) (h:SOK x.n a) (g:FOK x.n fullR):VC M_ 45 ([blc x,shp a,i64 cl,bv last]) (.tup [i64 (validE x a cl last).1,i64 (validE x a cl last).2]):=by
 have q1:=ok.n
 have qw:=ok.w
 have qb:=ok.b
 obtain ⟨q2,q3,q4,q5⟩:=id sm
 have q7:=@validE_y x a cl last h g
 have q8:=fullR_in
 have l1:=growL_len nextE x.n a x.n.length
 have l2:=growL_len stepR x.n (Rng.mk (-128) 127) x.n.length
 have l3:(K_ shpC (growL nextE x.n a x.n.length)).length=(growL nextE x.n a x.n.length).length:=V_ _
 have l4:(K_ rchC (growL stepR x.n (Rng.mk (-128) 127) x.n.length)).length=(growL stepR x.n (Rng.mk (-128) 127) x.n.length).length:=V_ _
 have l5:(K_ nodC x.n).length=x.n.length:=V_ _
 have i1:(((K_ shpC (growL nextE x.n a x.n.length)).length:Int)-1).toNat=x.n.length:=a_
 have i2:((↑(K_ rchC (growL stepR x.n (Rng.mk (-128) 127) x.n.length)).length:Int)-1).toNat=x.n.length:=a_
 have s3:=lastS_ok (l:=x.n) oka
 have vq:(growL nextE x.n a x.n.length).getD (((K_ shpC (growL nextE x.n a x.n.length)).length:Int)-1).toNat default=lastS x.n a:=by rw[i1];rfl
 have vr:(growL stepR x.n (Rng.mk (-128) 127) x.n.length).getD ((↑(K_ rchC (growL stepR x.n (Rng.mk (-128) 127) x.n.length)).length:Int)-1).toNat default=lastR x.n:=by rw[i2];rfl
 obtain ⟨s4,s5⟩:=lastR_in q1
 have oz0:=@rshapes_y (x.n) (a) q1 q3 h
 have oz2:=@rflow_y (x.n) (Rng.mk (-128) 127) q1 q3 q8 g
 rcases bft (!x.ex&&(last || (decide (((K_ (row1 .i8) x.w).length:Int)>0) || decide (((K_ (row1 .i32) x.b).length:Int)>0) || x.nd != 0))) with hc0|hc0
 ·have gc0:x.ex=false∧(last=true∨(((K_ (row1 .i8) x.w).length:Int)>0∨((K_ (row1 .i32) x.b).length:Int)>0)∨¬x.nd=0):=gc0_ hc0
  exact (cR_ [r_,.r [] [cr oz0],r_,d_,.r [] [cr oz2],r_,d_,.r [] [o_,o_,o_,o_,o_,.sel 1,o_,o_,o_,o_,.sel 1],.r [] [o_,o_,o_,o_,.sel 1,.sel 2],b_,r_] (AV.tup [i64 (-1),i64 11]) Tryz.func45 (.d5 oz0 z1_ oz2 z1_ hc0)).weak (AQ_ _) (AA_ (.cons (N_ (by (rw[q7,exitE_a b0_,i_ x_]))) (.cons (N_ (by (rw[q7,exitE_a b0_,i_ x_]))) .nil)))
 ·have gc0:x.ex=true∨last=false∧(¬((K_ (row1 .i8) x.w).length:Int)>0∧¬((K_ (row1 .i32) x.b).length:Int)>0)∧x.nd=0:=gc0_ hc0
  rcases bft (x.ex) with hc1|hc1
  ·have gc1:x.ex=true:=d0_
   have oz6:=(i6n (((K_ shpC (growL nextE x.n a x.n.length)).length:Int)-1) a_)
   have oz7:=(s_ (0≤((K_ shpC (growL nextE x.n a x.n.length)).length:Int)-1))
   have oz8:=(map_at (shpC) (default) (l:=growL nextE x.n a x.n.length) (i:=(((K_ shpC (growL nextE x.n a x.n.length)).length:Int)-1).toNat) a_)
   have oz9:=@refVcheck_v ((growL nextE x.n a x.n.length).getD (((K_ shpC (growL nextE x.n a x.n.length)).length:Int)-1).toNat default) (x.w) (x.b) (x.nd) (cl) (by (rw[i1];exact s3)) q4 q5
   rcases bft (verdE ((growL nextE x.n a x.n.length).getD (((K_ shpC (growL nextE x.n a x.n.length)).length:Int)-1).toNat default) x.w x.b x.nd cl != 0) with hc2|hc2
   ·have gc2:¬verdE ((growL nextE x.n a x.n.length).getD (((K_ shpC (growL nextE x.n a x.n.length)).length:Int)-1).toNat default) x.w x.b x.nd cl=0:=bdt hc2
    exact (cR_ [r_,.r [] [cr oz0],r_,d_,.r [] [cr oz2],r_,d_,.r [] [o_,o_,o_,o_,o_,.sel 1,o_,o_,o_,o_,.sel 1],.r [] [o_,o_,o_,o_,.sel 1,.sel 2],d_,r_,b_,.r [] [.n (nO oz6),.row (sO oz8),cr oz9],r_,b_,r_] (AV.tup [i64 (-1),i64 (verdE ((growL nextE x.n a x.n.length).getD (((K_ shpC (growL nextE x.n a x.n.length)).length:Int)-1).toNat default) x.w x.b x.nd cl)]) Tryz.func45 (.c8 oz0 z1_ oz2 z1_ hc0 hc1 oz6 oz7<|.d3 oz8 oz9 hc2)).to h2_
   ·have gc2:verdE ((growL nextE x.n a x.n.length).getD (((K_ shpC (growL nextE x.n a x.n.length)).length:Int)-1).toNat default) x.w x.b x.nd cl=0:=bdf hc2
    have oz11:=(i6n ((↑(K_ rchC (growL stepR x.n (Rng.mk (-128) 127) x.n.length)).length:Int)-1) a_)
    have oz12:=(s_ (0≤(↑(K_ rchC (growL stepR x.n (Rng.mk (-128) 127) x.n.length)).length:Int)-1))
    have oz13:=(map_at (rchC) (default) (l:=growL stepR x.n (Rng.mk (-128) 127) x.n.length) (i:=((↑(K_ rchC (growL stepR x.n (Rng.mk (-128) 127) x.n.length)).length:Int)-1).toNat) a_)
    have oz14:=@refHead_v (x.w) (x.b) (x.nd) (((growL stepR x.n (Rng.mk (-128) 127) x.n.length).getD ((↑(K_ rchC (growL stepR x.n (Rng.mk (-128) 127) x.n.length)).length:Int)-1).toNat default).lo) (((growL stepR x.n (Rng.mk (-128) 127) x.n.length).getD ((↑(K_ rchC (growL stepR x.n (Rng.mk (-128) 127) x.n.length)).length:Int)-1).toNat default).hi) qw qb q4 q5 (by (rw[i2];exact s4)) (by (rw[i2];exact s5))
    rcases bft (headE x.w x.b ((growL stepR x.n (Rng.mk (-128) 127) x.n.length).getD ((↑(K_ rchC (growL stepR x.n (Rng.mk (-128) 127) x.n.length)).length:Int)-1).toNat default).lo ((growL stepR x.n (Rng.mk (-128) 127) x.n.length).getD ((↑(K_ rchC (growL stepR x.n (Rng.mk (-128) 127) x.n.length)).length:Int)-1).toNat default).hi != 0) with hc3|hc3
    ·have gc3:¬headE x.w x.b ((growL stepR x.n (Rng.mk (-128) 127) x.n.length).getD ((↑(K_ rchC (growL stepR x.n (Rng.mk (-128) 127) x.n.length)).length:Int)-1).toNat default).lo ((growL stepR x.n (Rng.mk (-128) 127) x.n.length).getD ((↑(K_ rchC (growL stepR x.n (Rng.mk (-128) 127) x.n.length)).length:Int)-1).toNat default).hi=0:=bdt hc3
     exact (cR_ [r_,.r [] [cr oz0],r_,d_,.r [] [cr oz2],r_,d_,.r [] [o_,o_,o_,o_,o_,.sel 1,o_,o_,o_,o_,.sel 1],.r [] [o_,o_,o_,o_,.sel 1,.sel 2],d_,r_,b_,.r [] [.n (nO oz6),.row (sO oz8),cr oz9],r_,d_,.r [] [.n (nO oz11),.row (sO oz13),cr oz14],r_,b_,r_] (AV.tup [i64 (-1),i64 (headE x.w x.b ((growL stepR x.n (Rng.mk (-128) 127) x.n.length).getD ((↑(K_ rchC (growL stepR x.n (Rng.mk (-128) 127) x.n.length)).length:Int)-1).toNat default).lo ((growL stepR x.n (Rng.mk (-128) 127) x.n.length).getD ((↑(K_ rchC (growL stepR x.n (Rng.mk (-128) 127) x.n.length)).length:Int)-1).toNat default).hi)]) Tryz.func45 (.c8 oz0 z1_ oz2 z1_ hc0 hc1 oz6 oz7<|.d8 oz8 oz9 hc2 oz11 oz12 oz13 oz14 hc3)).to h2_
    ·have gc3:headE x.w x.b ((growL stepR x.n (Rng.mk (-128) 127) x.n.length).getD ((↑(K_ rchC (growL stepR x.n (Rng.mk (-128) 127) x.n.length)).length:Int)-1).toNat default).lo ((growL stepR x.n (Rng.mk (-128) 127) x.n.length).getD ((↑(K_ rchC (growL stepR x.n (Rng.mk (-128) 127) x.n.length)).length:Int)-1).toNat default).hi=0:=bdf hc3
     exact (cR_ [r_,.r [] [cr oz0],r_,d_,.r [] [cr oz2],r_,d_,.r [] [o_,o_,o_,o_,o_,.sel 1,o_,o_,o_,o_,.sel 1],.r [] [o_,o_,o_,o_,.sel 1,.sel 2],d_,r_,b_,.r [] [.n (nO oz6),.row (sO oz8),cr oz9],r_,d_,.r [] [.n (nO oz11),.row (sO oz13),cr oz14],r_,d_,r_] (AV.tup [i64 ((K_ nodC x.n).length:Int),i64 0]) Tryz.func45 (.c8 oz0 z1_ oz2 z1_ hc0 hc1 oz6 oz7<|.d8 oz8 oz9 hc2 oz11 oz12 oz13 oz14 hc3)).to h2_
  ·have gc1:x.ex=false:=d0_
   exact (cR_ [r_,.r [] [cr oz0],r_,d_,.r [] [cr oz2],r_,d_,.r [] [o_,o_,o_,o_,o_,.sel 1,o_,o_,o_,o_,.sel 1],.r [] [o_,o_,o_,o_,.sel 1,.sel 2],d_,r_,d_,r_] (AV.tup [i64 ((K_ nodC x.n).length:Int),i64 0]) Tryz.func45 (.d6 oz0 z1_ oz2 z1_ hc0 hc1)).weak (AQ_ _) (AA_ (.cons (N_ (by (rw[q7,exitE_b b0_ b0_,j_ v0_,V_]))) (.cons (N_ (by (rw[q7,exitE_b b0_ b0_,j_ v0_]))) .nil)))
theorem vblock_v (x:Blc) (a:Shp) (cl:Int) (last:Bool) (ok:x.Ok) (oka:a.Ok) (sm:x.Sm):VC M_ 88 [blc x,shp a,i64 cl,bv last] (.tup [i64 (validE x a cl last).1,i64 (validE x a cl last).2]):=by
 by_cases h:SOK x.n a
 ·by_cases g:FOK x.n fullR
  ·exact vblock_y x a cl last ok oka sm h g
  ·exact vblock_f x a cl last ok oka sm h g
 ·exact vblock_s x a cl last ok oka sm h
theorem rvblock_v (x:Blc) (a:Shp) (cl:Int) (last:Bool) (ok:x.Ok) (oka:a.Ok) (sm:x.Sm):VC M_ 45 [blc x,shp a,i64 cl,bv last] (.tup [i64 (validE x a cl last).1,i64 (validE x a cl last).2]):=by
 by_cases h:SOK x.n a
 ·by_cases g:FOK x.n fullR
  ·exact rvblock_y x a cl last ok oka sm h g
  ·exact rvblock_f x a cl last ok oka sm h g
 ·exact rvblock_s x a cl last ok oka sm h
structure Flt where
 w:Int
 m:Int
 b:Int
 n:Int
abbrev fltC (f:Flt):List AV:=[i64 f.w,i64 f.m,i64 f.b,i64 f.n]
abbrev flt (f:Flt):AV:=.agg (fltC f)
def wholeE (u:Bun):Int:=if ¬ 0<elems u.h u.x u.c then 5 else if u.cl<2∨u.cl>16 then 2 else if u.m.length=0 then 12 else if 3<u.m.length then 4 else 0
theorem vwhole_v (u:Bun) (ok:u.Ok) (hl:u.m.length≤1000):VC M_ 53 ([bun u]) (i64 (wholeE u)):=by
 have q1:=elems_in u.h u.x u.c
 have q2:u.inp.Ok:=⟨ok.h,ok.x,ok.c⟩
 have oz0:=@sRight_v (Shp.mk u.h u.x u.c) q2
 rcases bft (!decide (0<elems u.h u.x u.c)) with hc0|hc0
 ·have gc0:=bnt hc0
  exact (cR_ [r_,.r [] [cr oz0],b_,r_] (i64 5) Tryz.func53 (.d2 oz0 hc0)).weak (AQ_ _) (N_ h1_)
 ·have gc0:=bnf hc0
  rcases bft (decide (u.cl<2) || decide (u.cl>16)) with hc1|hc1
  ·have gc1:u.cl<2∨u.cl>16:=gc0_ hc1
   exact (cR_ [r_,.r [] [cr oz0],d_,.r [] [o_,o_,o_,.sel 1],b_,r_] (i64 2) Tryz.func53 (.d3 oz0 hc0 hc1)).weak (AQ_ _) (N_ h1_)
  ·have gc1:¬u.cl<2∧¬u.cl>16:=gc0_ hc1
   rcases bft (((K_ mdlC u.m).length:Int)==0) with hc2|hc2
   ·have gc2:((K_ mdlC u.m).length:Int)=0:=bet hc2
    exact (cR_ [r_,.r [] [cr oz0],d_,.r [] [o_,o_,o_,.sel 1],d_,r_,b_,r_] (i64 12) Tryz.func53 (.d4 oz0 hc0 hc1 hc2)).weak (AQ_ _) (N_ h1_)
   ·have gc2:¬((K_ mdlC u.m).length:Int)=0:=bef hc2
    rcases bft (decide (((K_ mdlC u.m).length:Int)>3)) with hc3|hc3
    ·have gc3:=of_decide_eq_true hc3
     exact (cR_ [r_,.r [] [cr oz0],d_,.r [] [o_,o_,o_,.sel 1],d_,r_,d_,r_,b_,r_] (i64 4) Tryz.func53 (.d5 oz0 hc0 hc1 hc2 hc3)).weak (AQ_ _) (N_ h1_)
    ·have gc3:=of_decide_eq_false hc3
     exact (cR_ [r_,.r [] [cr oz0],d_,.r [] [o_,o_,o_,.sel 1],d_,r_,d_,r_,d_,r_] (i64 0) Tryz.func53 (.d5 oz0 hc0 hc1 hc2 hc3)).weak (AQ_ _) (N_ h1_)
def inS (l:List Blc) (a:Shp):Nat→Shp
 | 0=>a
 | k+1=>lastS (l.getD k default).n (inS l a k)
theorem inS_ok {l:List Blc} {a:Shp} (h:a.Ok):∀ k,(inS l a k).Ok
 | 0=>h
 | k+1=>lastS_ok (inS_ok h k)
abbrev vB (l:List Blc) (a:Shp) (cl:Int) (k:Nat):Int×Int:=validE (l.getD k default) (inS l a k) cl ((k:Int)==((K_ blcC l).length:Int)-1)
theorem validE_ok {x:Blc} {a:Shp} {cl:Int} {last:Bool} (h:(validE x a cl last).2=0):SOK x.n a:=by
 by_cases g:SOK x.n a
 ·exact g
 ·rw[validE_s g] at h;exact absurd h (shapesE_n g)
noncomputable def vmodel_ly_I (u:Bun) (l:List Blc) (a:Shp) (j:Int) (k:Nat):VS:=stt 77 [(1,i64 j),(2,.ptr 2 0 0),(4,.ptr 4 0 0),(5,.sl 5 (l.map blcC)),(6,.ptr 6 0 0),(34,.sl 5 (l.map blcC)),(35,i64 l.length),(36,i64 k)] [(2,.var (bunC u)),(4,.var [i64 0,i64 0,i64 0,i64 0]),(6,.var (shpC (inS l a k)))]
noncomputable def vmodel_ly_Z (u:Bun) (l:List Blc) (a:Shp) (j:Int):VS:=vmodel_ly_I u l a j (l.length)
theorem vmodel_ly_s (u:Bun) (l:List Blc) (a:Shp) (j:Int) (ok:∀ d∈l,d.Ok) (sm:∀ d∈l,d.Sm) (oka:a.Ok) (hl:l.length≤6) (h:∀ k,k<l.length→(vB l a u.cl k).2=0) (k:Nat) (hk:k<l.length):VT M_ (fnC Tryz.f54 [1,1,1,1,0,1,0,0]) (vmodel_ly_I u l a j k) .normal (vmodel_ly_I u l a j (k+1)):=by
 have q:=h k hk
 have q1:=validE_ok q
 have q2:=getD_in ok hk
 have q3:=getD_in sm hk
 have q4:=inS_ok (l:=l) oka k
 have lb:(K_ blcC l).length=l.length:=V_ _
 have q5:=q2.n
 have q6:=q3.s
 have q7:=q3.l
 have l1:=growL_len nextE (l.getD k default).n (inS l a k) (l.getD k default).n.length
 have l3:(K_ shpC (growL nextE (l.getD k default).n (inS l a k) (l.getD k default).n.length)).length=(growL nextE (l.getD k default).n (inS l a k) (l.getD k default).n.length).length:=V_ _
 have i1:(((K_ shpC (growL nextE (l.getD k default).n (inS l a k) (l.getD k default).n.length)).length:Int)-1).toNat=(l.getD k default).n.length:=a_
 have oz2:=(map_at (blcC) (default) (l:=l) (i:=k) hk)
 have oz3:=(i6n (((K_ blcC l).length:Int)-1) a_)
 have oz4:=@vblock_v (l.getD k default) (inS l a k) (u.cl) ((↑k:Int)==((K_ blcC l).length:Int)-1) q2 q4 q3
 have oz6:=@shapes_y ((l.getD k default).n) (inS l a k) q5 q6 q1
 have oz7:=(i6n (((K_ shpC (growL nextE (l.getD k default).n (inS l a k) (l.getD k default).n.length)).length:Int)-1) a_)
 have oz9:=(map_at (shpC) (default) (l:=growL nextE (l.getD k default).n (inS l a k) (l.getD k default).n.length) (i:=(((K_ shpC (growL nextE (l.getD k default).n (inS l a k) (l.getD k default).n.length)).length:Int)-1).toNat) a_)
 exact tR_ [r_,b_,.r [] [.row (sO oz2)],.r [] [.n (nO oz3),cr oz4],r_,d_,.r [] [cr oz6],.r [] [.n (nO oz7),.row (sO oz9)],.r [] [.n ((↑k:Int)+1)]] [.any (rg [(7,7),(37,19),(61,15)]),.drop [8],.weak 36 (i64 (↑(k+1):Int)),.blk 6 (Blk.var [i64 (inS l a (k+1)).h,i64 (inS l a (k+1)).x,i64 (inS l a (k+1)).c]),.sort] (.c8 (decide_eq_true (p:=((↑k:Int)<(l.length:Int))) a_) (s_ (0≤(↑k:Int))) oz2 oz3 oz4 (p2_ (((validE (l.getD k default) (inS l a k) u.cl ((↑k:Int)==((K_ blcC l).length:Int)-1)).snd != 0)=false)) oz6 oz7<|.d5 (s_ (0≤((K_ shpC (growL nextE (l.getD k default).n (inS l a k) (l.getD k default).n.length)).length:Int)-1)) oz9 (i6n ((↑k:Int)+1) a_) (wS_ k) (show BlkW (Blk.var [i64 ((growL nextE (l.getD k default).n (inS l a k) (l.getD k default).n.length).getD (((K_ shpC (growL nextE (l.getD k default).n (inS l a k) (l.getD k default).n.length)).length:Int)-1).toNat default).h,i64 ((growL nextE (l.getD k default).n (inS l a k) (l.getD k default).n.length).getD (((K_ shpC (growL nextE (l.getD k default).n (inS l a k) (l.getD k default).n.length)).length:Int)-1).toNat default).x,i64 ((growL nextE (l.getD k default).n (inS l a k) (l.getD k default).n.length).getD (((K_ shpC (growL nextE (l.getD k default).n (inS l a k) (l.getD k default).n.length)).length:Int)-1).toNat default).c]) (Blk.var [i64 (inS l a (k+1)).h,i64 (inS l a (k+1)).x,i64 (inS l a (k+1)).c]) from (BlkW.var (m:=[i64 (inS l a (k+1)).h,i64 (inS l a (k+1)).x,i64 (inS l a (k+1)).c]) (.cons (N_ x1_) (.cons (N_ x1_) (.cons (N_ x1_) .nil))))))
theorem vmodel_ly_e (u:Bun) (l:List Blc) (a:Shp) (j:Int) (ok:∀ d∈l,d.Ok) (sm:∀ d∈l,d.Sm) (oka:a.Ok) (hl:l.length≤6) (h:∀ k,k<l.length→(vB l a u.cl k).2=0):VT M_ (fnC Tryz.f54 [1,1,1,1,0,1,0,0]) (vmodel_ly_I u l a j (l.length)) (.exit 1) (vmodel_ly_Z u l a j):=by
 exact tR_ [r_,d_] [.any [37],.sort] (.d (decide_eq_false (p:=((l.length:Int)<(l.length:Int))) a_))
theorem vmodel_ly (u:Bun) (l:List Blc) (a:Shp) (j:Int) (ok:∀ d∈l,d.Ok) (sm:∀ d∈l,d.Sm) (oka:a.Ok) (hl:l.length≤6) (h:∀ k,k<l.length→(vB l a u.cl k).2=0):VT M_ (fnC Tryz.f54 [1,1,1,1,0,1,0]) (vmodel_ly_I u l a j 0) (.exit 1) (vmodel_ly_Z u l a j) :=
 VT.loop (fun k=>vmodel_ly_I u l a j k) (l.length) (fun k hk=>vmodel_ly_s u l a j ok sm oka hl h k hk) (vmodel_ly_e u l a j ok sm oka hl h) c0_
noncomputable def vmodel_ln_I (u:Bun) (l:List Blc) (a:Shp) (j:Int) (m:Nat) (k:Nat):VS:=stt 77 [(1,i64 j),(2,.ptr 2 0 0),(4,.ptr 4 0 0),(5,.sl 5 (l.map blcC)),(6,.ptr 6 0 0),(34,.sl 5 (l.map blcC)),(35,i64 l.length),(36,i64 k)] [(2,.var (bunC u)),(4,.var [i64 0,i64 0,i64 0,i64 0]),(6,.var (shpC (inS l a k)))]
noncomputable def vmodel_ln_Z (u:Bun) (l:List Blc) (a:Shp) (j:Int) (m:Nat):VS:=stt 77 [(4,.ptr 4 0 0)] [(4,.var [i64 (vB l a u.cl m).2,i64 j,i64 m,i64 (vB l a u.cl m).1])]
theorem vmodel_ln_s (u:Bun) (l:List Blc) (a:Shp) (j:Int) (m:Nat) (ok:∀ d∈l,d.Ok) (sm:∀ d∈l,d.Sm) (oka:a.Ok) (hl:l.length≤6) (hm:m<l.length) (hf:(vB l a u.cl m).2≠0) (h:∀ k,k<m→(vB l a u.cl k).2=0) (k:Nat) (hk:k<m):VT M_ (fnC Tryz.f54 [1,1,1,1,0,1,0,0]) (vmodel_ln_I u l a j m k) .normal (vmodel_ln_I u l a j m (k+1)):=by
 have q:=h k hk
 have q1:=validE_ok q
 have q2:=getD_in ok (s_ (k<l.length))
 have q3:=getD_in sm (s_ (k<l.length))
 have q4:=inS_ok (l:=l) oka k
 have lb:(K_ blcC l).length=l.length:=V_ _
 have q5:=q2.n
 have q6:=q3.s
 have q7:=q3.l
 have l1:=growL_len nextE (l.getD k default).n (inS l a k) (l.getD k default).n.length
 have l3:(K_ shpC (growL nextE (l.getD k default).n (inS l a k) (l.getD k default).n.length)).length=(growL nextE (l.getD k default).n (inS l a k) (l.getD k default).n.length).length:=V_ _
 have i1:(((K_ shpC (growL nextE (l.getD k default).n (inS l a k) (l.getD k default).n.length)).length:Int)-1).toNat=(l.getD k default).n.length:=a_
 have oz2:=(map_at (blcC) (default) (l:=l) (i:=k) a_)
 have oz3:=(i6n (((K_ blcC l).length:Int)-1) a_)
 have oz4:=@vblock_v (l.getD k default) (inS l a k) (u.cl) ((↑k:Int)==((K_ blcC l).length:Int)-1) q2 q4 q3
 have oz6:=@shapes_y ((l.getD k default).n) (inS l a k) q5 q6 q1
 have oz7:=(i6n (((K_ shpC (growL nextE (l.getD k default).n (inS l a k) (l.getD k default).n.length)).length:Int)-1) a_)
 have oz9:=(map_at (shpC) (default) (l:=growL nextE (l.getD k default).n (inS l a k) (l.getD k default).n.length) (i:=(((K_ shpC (growL nextE (l.getD k default).n (inS l a k) (l.getD k default).n.length)).length:Int)-1).toNat) a_)
 exact tR_ [r_,b_,.r [] [.row (sO oz2)],.r [] [.n (nO oz3),cr oz4],r_,d_,.r [] [cr oz6],.r [] [.n (nO oz7),.row (sO oz9)],.r [] [.n ((↑k:Int)+1)]] [.any (rg [(7,7),(37,19),(61,15)]),.drop [8],.weak 36 (i64 (↑(k+1):Int)),.blk 6 (Blk.var [i64 (inS l a (k+1)).h,i64 (inS l a (k+1)).x,i64 (inS l a (k+1)).c]),.sort] (.c8 (decide_eq_true (p:=((↑k:Int)<(l.length:Int))) a_) (s_ (0≤(↑k:Int))) oz2 oz3 oz4 (p2_ (((validE (l.getD k default) (inS l a k) u.cl ((↑k:Int)==((K_ blcC l).length:Int)-1)).snd != 0)=false)) oz6 oz7<|.d5 (s_ (0≤((K_ shpC (growL nextE (l.getD k default).n (inS l a k) (l.getD k default).n.length)).length:Int)-1)) oz9 (i6n ((↑k:Int)+1) a_) (wS_ k) (show BlkW (Blk.var [i64 ((growL nextE (l.getD k default).n (inS l a k) (l.getD k default).n.length).getD (((K_ shpC (growL nextE (l.getD k default).n (inS l a k) (l.getD k default).n.length)).length:Int)-1).toNat default).h,i64 ((growL nextE (l.getD k default).n (inS l a k) (l.getD k default).n.length).getD (((K_ shpC (growL nextE (l.getD k default).n (inS l a k) (l.getD k default).n.length)).length:Int)-1).toNat default).x,i64 ((growL nextE (l.getD k default).n (inS l a k) (l.getD k default).n.length).getD (((K_ shpC (growL nextE (l.getD k default).n (inS l a k) (l.getD k default).n.length)).length:Int)-1).toNat default).c]) (Blk.var [i64 (inS l a (k+1)).h,i64 (inS l a (k+1)).x,i64 (inS l a (k+1)).c]) from (BlkW.var (m:=[i64 (inS l a (k+1)).h,i64 (inS l a (k+1)).x,i64 (inS l a (k+1)).c]) (.cons (N_ x1_) (.cons (N_ x1_) (.cons (N_ x1_) .nil))))))
theorem vmodel_ln_e (u:Bun) (l:List Blc) (a:Shp) (j:Int) (m:Nat) (ok:∀ d∈l,d.Ok) (sm:∀ d∈l,d.Sm) (oka:a.Ok) (hl:l.length≤6) (hm:m<l.length) (hf:(vB l a u.cl m).2≠0) (h:∀ k,k<m→(vB l a u.cl k).2=0):VT M_ (fnC Tryz.f54 [1,1,1,1,0,1,0,0]) (vmodel_ln_I u l a j m (m)) (.ret) (vmodel_ln_Z u l a j m):=by
 have q2:=getD_in ok hm
 have q3:=getD_in sm hm
 have q4:=inS_ok (l:=l) oka m
 have lb:(K_ blcC l).length=l.length:=V_ _
 have oz2:=(map_at (blcC) (default) (l:=l) (i:=m) hm)
 have oz3:=(i6n (((K_ blcC l).length:Int)-1) a_)
 have oz4:=@vblock_v (l.getD m default) (inS l a m) (u.cl) ((↑m:Int)==((K_ blcC l).length:Int)-1) q2 q4 q3
 exact tR_ [r_,b_,.r [] [.row (sO oz2)],.r [] [.n (nO oz3),cr oz4],r_,b_,r_] [.any (rg [(1,2),(5,6),(34,27)]),.drop [2,6,8],.sort] (.d6 (decide_eq_true (p:=((↑m:Int)<(l.length:Int))) a_) (s_ (0≤(↑m:Int))) oz2 oz3 oz4 (show ((validE (l.getD m default) (inS l a m) u.cl ((↑m:Int)==((K_ blcC l).length:Int)-1)).snd != 0)=true by (rw[J_];exact hf)))
theorem vmodel_ln (u:Bun) (l:List Blc) (a:Shp) (j:Int) (m:Nat) (ok:∀ d∈l,d.Ok) (sm:∀ d∈l,d.Sm) (oka:a.Ok) (hl:l.length≤6) (hm:m<l.length) (hf:(vB l a u.cl m).2≠0) (h:∀ k,k<m→(vB l a u.cl k).2=0):VT M_ (fnC Tryz.f54 [1,1,1,1,0,1,0]) (vmodel_ln_I u l a j m 0) (.ret) (vmodel_ln_Z u l a j m) :=
 VT.loop (fun k=>vmodel_ln_I u l a j m k) (m) (fun k hk=>vmodel_ln_s u l a j m ok sm oka hl hm hf h k hk) (vmodel_ln_e u l a j m ok sm oka hl hm hf h) c0_
def modelE (l:List Blc) (a:Shp) (cl j:Int):Flt :=
 if l.length=0 then ⟨12,j,-1,-1⟩ else if 6<l.length then ⟨4,j,-1,-1⟩
 else if firstBad (fun k=>(vB l a cl k).2==0) l.length<l.length then ⟨(vB l a cl (firstBad (fun k=>(vB l a cl k).2==0) l.length)).2,j,firstBad (fun k=>(vB l a cl k).2==0) l.length,(vB l a cl (firstBad (fun k=>(vB l a cl k).2==0) l.length)).1⟩
 else ⟨0,0,0,0⟩
theorem modelE_y {l:List Blc} {a:Shp} {cl j:Int} (h0:¬ l.length=0) (h6:l.length≤6) (h:∀ k,k<l.length→(vB l a cl k).2=0):modelE l a cl j=⟨0,0,0,0⟩:=by
 unfold modelE
 rw[j_ h0,j_ a_,firstBad_all fun k hk=>by simpa using h k hk,j_ a_]
theorem modelE_m {l:List Blc} {a:Shp} {cl j:Int} {m:Nat} (h6:l.length≤6) (hm:m<l.length) (hf:(vB l a cl m).2≠0) (h:∀ k,k<m→(vB l a cl k).2=0):modelE l a cl j=⟨(vB l a cl m).2,j,m,(vB l a cl m).1⟩:=by
 have e:=firstBad_at (p:=fun k=>(vB l a cl k).2==0) (m:=m) (by simpa using hf) (fun k hk=>by simpa using h k hk) hm
 unfold modelE
 rw[j_ a_,j_ a_,e,i_ hm]
theorem modelE_cases (l:List Blc) (a:Shp) (cl:Int):(¬ l.length=0∧l.length≤6∧∀ k,k<l.length→(vB l a cl k).2=0)∨(l.length=0∨6<l.length)∨(l.length≤6∧∃ m,m<l.length∧(vB l a cl m).2≠0∧∀ k,k<m→(vB l a cl k).2=0):=by
 by_cases c:l.length=0∨6<l.length
 ·exact .inr (.inl c)
 ·rcases all_or (fun k=>(vB l a cl k).2==0) l.length with h|⟨m,h1,h2,h3⟩
  ·exact .inl ⟨by omega,by omega,fun k hk=>by simpa using h k hk⟩
  ·exact .inr (.inr ⟨by omega,m,h1,by simpa using h2,fun k hk=>by simpa using h3 k hk⟩)
structure Bun.Sm (u:Bun):Prop where
 l:u.m.length≤4
 m:∀ d∈u.m,d.l.length≤8∧∀ x∈d.l,x.Sm
theorem vmodel_y (u:Bun) (j:Nat) (ok:u.Ok) (sm:u.Sm) (hj:j<u.m.length) (h0:¬ (u.m.getD j default).l.length=0) (h6:(u.m.getD j default).l.length≤6) (h:∀ k,k<(u.m.getD j default).l.length→(vB (u.m.getD j default).l u.inp u.cl k).2=0):VC M_ 54 ([bun u,i64 j]) (flt ⟨0,0,0,0⟩):=by
 have q2:u.inp.Ok:=⟨ok.h,ok.x,ok.c⟩
 have q3:=(getD_in ok.m hj).l
 have q4:=(getD_in sm.m hj).2
 have q5:=sm.l
 have oz1:=(map_at (mdlC) (default) (l:=u.m) (i:=j) hj)
 have oz4:=(N_ (k:=.i64) (show ((((K_ blcC (u.m.getD j default).l).length:Int)):Int)=((↑(u.m.getD j default).l.length:Int)) from k0_))
 have oz6:=@vmodel_ly (u) ((u.m.getD j default).l) (Shp.mk u.1 u.2 u.3) ((↑j:Int)) q3 q4 q2 h6 h
 exact cR_ [r_,.r [] [.row (sO oz1)],r_,d_,r_,d_,r_,r_,.code [.any (rg [(0,1),(14,10),(26,4),(32,2)]),.weak 35 (wO oz4),.weak 36 (i64 (↑0:Int)),.sort] (BS_ 1) (zO oz6),r_] _ Tryz.func54 (.d7 (s_ (0≤(↑j:Int))) oz1 (f0_ ((((K_ blcC (u.m.getD j default).l).length:Int)==0)=false)) (f0_ (decide (((K_ blcC (u.m.getD j default).l).length:Int)>6)=false)) oz4 w0_ oz6)
theorem vmodel_m (u:Bun) (j m:Nat) (ok:u.Ok) (sm:u.Sm) (hj:j<u.m.length) (h6:(u.m.getD j default).l.length≤6) (hm:m<(u.m.getD j default).l.length) (hf:(vB (u.m.getD j default).l u.inp u.cl m).2≠0) (h:∀ k,k<m→(vB (u.m.getD j default).l u.inp u.cl k).2=0):VC M_ 54 ([bun u,i64 j]) (flt ⟨(vB (u.m.getD j default).l u.inp u.cl m).2,j,m,(vB (u.m.getD j default).l u.inp u.cl m).1⟩):=by
 have q2:u.inp.Ok:=⟨ok.h,ok.x,ok.c⟩
 have q3:=(getD_in ok.m hj).l
 have q4:=(getD_in sm.m hj).2
 have q5:=sm.l
 have oz1:=(map_at (mdlC) (default) (l:=u.m) (i:=j) hj)
 have oz4:=(N_ (k:=.i64) (show ((((K_ blcC (u.m.getD j default).l).length:Int)):Int)=((↑(u.m.getD j default).l.length:Int)) from k0_))
 have oz6:=@vmodel_ln (u) ((u.m.getD j default).l) (Shp.mk u.1 u.2 u.3) ((↑j:Int)) (m) q3 q4 q2 h6 hm hf h
 exact cR_ [r_,.r [] [.row (sO oz1)],r_,d_,r_,d_,r_,r_,.code [.any (rg [(0,1),(14,10),(26,4),(32,2)]),.weak 35 (wO oz4),.weak 36 (i64 (↑0:Int)),.sort] (DT_) (zO oz6)] _ Tryz.func54 (.d7 (s_ (0≤(↑j:Int))) oz1 (q_ ((((K_ blcC (u.m.getD j default).l).length:Int)==0)=false)) (f0_ (decide (((K_ blcC (u.m.getD j default).l).length:Int)>6)=false)) oz4 w0_ oz6)
theorem vmodel_a (u:Bun) (j:Nat) (sm:u.Sm) (hj:j<u.m.length) (h:(u.m.getD j default).l.length=0∨6<(u.m.getD j default).l.length):VC M_ 54 ([bun u,i64 j]) (flt (modelE (u.m.getD j default).l u.inp u.cl j)):=by
 have q5:=sm.l
 have oz0:=(s_ (0≤(↑j:Int)))
 have oz1:=(map_at (mdlC) (default) (l:=u.m) (i:=j) hj)
 rcases bft (((K_ blcC (u.m.getD j default).l).length:Int)==0) with hc0|hc0
 ·have gc0:((K_ blcC (u.m.getD j default).l).length:Int)=0:=bet hc0
  exact (cR_ [r_,.r [] [.row (sO oz1)],r_,b_,r_] (AV.agg [i64 12,i64 (↑j:Int),i64 (-1),i64 (-1)]) Tryz.func54 (.d3 oz0 oz1 hc0)).weak (AQ_ _) (AZ_ (.cons (N_ q0_) (.cons (N_ q0_) (.cons (N_ q0_) (.cons (N_ q0_) .nil)))))
 ·have gc0:¬((K_ blcC (u.m.getD j default).l).length:Int)=0:=bef hc0
  exact (cR_ [r_,.r [] [.row (sO oz1)],r_,d_,r_,b_,r_] (AV.agg [i64 4,i64 (↑j:Int),i64 (-1),i64 (-1)]) Tryz.func54 (.d4 oz0 oz1 hc0 (a0_ (decide (((K_ blcC (u.m.getD j default).l).length:Int)>6)=true)))).weak (AQ_ _) (AZ_ (.cons (N_ q0_) (.cons (N_ q0_) (.cons (N_ q0_) (.cons (N_ q0_) .nil)))))
theorem vmodel_v (u:Bun) (j:Nat) (ok:u.Ok) (sm:u.Sm) (hj:j<u.m.length):VC M_ 54 [bun u,i64 j] (flt (modelE (u.m.getD j default).l u.inp u.cl j)):=by
 rcases modelE_cases (u.m.getD j default).l u.inp u.cl with ⟨h0,h6,h⟩|h|⟨h6,m,h1,h2,h3⟩
 ·rw[modelE_y h0 h6 h];exact vmodel_y u j ok sm hj h0 h6 h
 ·exact vmodel_a u j sm hj h
 ·rw[modelE_m h6 h1 h2 h3];exact vmodel_m u j m ok sm hj h6 h1 h2 h3
theorem modelE_z {l:List Blc} {a:Shp} {cl j:Int} (h:(modelE l a cl j).w=0):modelE l a cl j=⟨0,0,0,0⟩:=by
 rcases modelE_cases l a cl with ⟨h0,h6,g⟩|g|⟨h6,m,h1,h2,h3⟩
 ·exact modelE_y h0 h6 g
 ·exfalso
  revert h
  unfold modelE
  by_cases c:l.length=0
  ·rw[i_ c];dsimp only;decide
  ·rw[j_ c,i_ a_];dsimp only;decide
 ·rw[modelE_m h6 h1 h2 h3] at h;exact absurd h h2
abbrev mE (u:Bun) (j:Nat):Flt:=modelE (u.m.getD j default).l u.inp u.cl j
noncomputable def vbundle_ly_I (u:Bun) (k:Nat):VS:=stt 27 [(1,.ptr 1 0 0),(2,.ptr 2 0 0),(14,i64 u.m.length),(15,i64 k)] [(1,.var (bunC u)),(2,.var [i64 0,i64 0,i64 0,i64 0])]
noncomputable def vbundle_ly_Z (u:Bun):VS:=vbundle_ly_I u (u.m.length)
theorem vbundle_ly_s (u:Bun) (ok:u.Ok) (sm:u.Sm) (h:∀ j,j<u.m.length→mE u j=⟨0,0,0,0⟩) (k:Nat) (hk:k<u.m.length):VT M_ (fnC Tryz.f23 [1,1,0,1,0,0]) (vbundle_ly_I u k) .normal (vbundle_ly_I u (k+1)):=by
 have q:modelE (u.m.getD k default).l u.inp u.cl k=⟨0,0,0,0⟩:=h k hk
 have q5:=sm.l
 have oz1:=@vmodel_v (u) (k) ok sm hk
 exact tR_ [r_,b_,r_,.r [] [cr oz1],.r [] [.v (BI_ !eqNums [(U_,(modelE (u.m.getD k default).l u.inp u.cl (↑k:Int)).w,0),(U_,(modelE (u.m.getD k default).l u.inp u.cl (↑k:Int)).m,0),(U_,(modelE (u.m.getD k default).l u.inp u.cl (↑k:Int)).b,0),(U_,(modelE (u.m.getD k default).l u.inp u.cl (↑k:Int)).n,0)])],d_,.r [] [.n ((↑k:Int)+1)]] [.any (rg [(4,2),(16,8),(25,1)]),.drop [5],.weak 15 (i64 (↑(k+1):Int)),.sort] (.d6 (decide_eq_true (p:=((↑k:Int)<(u.m.length:Int))) a_) oz1 (show BinTo M_ BinOp.neq 77 (Operand.tmp 21) (Operand.tmp 22) (CX_ #[AW_ U_ (modelE (u.m.getD k default).l u.inp u.cl (↑k:Int)).w,AW_ U_ (modelE (u.m.getD k default).l u.inp u.cl (↑k:Int)).m,AW_ U_ (modelE (u.m.getD k default).l u.inp u.cl (↑k:Int)).b,AW_ U_ (modelE (u.m.getD k default).l u.inp u.cl (↑k:Int)).n]) (CX_ #[AW_ U_ 0,AW_ U_ 0,AW_ U_ 0,AW_ U_ 0]) (BI_ !eqNums [(U_,(modelE (u.m.getD k default).l u.inp u.cl (↑k:Int)).w,0),(U_,(modelE (u.m.getD k default).l u.inp u.cl (↑k:Int)).m,0),(U_,(modelE (u.m.getD k default).l u.inp u.cl (↑k:Int)).b,0),(U_,(modelE (u.m.getD k default).l u.inp u.cl (↑k:Int)).n,0)]) from ((bin_nums (l:=[(U_,(modelE (u.m.getD k default).l u.inp u.cl (↑k:Int)).w,0),(U_,(modelE (u.m.getD k default).l u.inp u.cl (↑k:Int)).m,0),(U_,(modelE (u.m.getD k default).l u.inp u.cl (↑k:Int)).b,0),(U_,(modelE (u.m.getD k default).l u.inp u.cl (↑k:Int)).n,0)]) w_ w_ w_ w_ _ _).2)) (p2_ ((!eqNums [(U_,(modelE (u.m.getD k default).l u.inp u.cl (↑k:Int)).w,0),(U_,(modelE (u.m.getD k default).l u.inp u.cl (↑k:Int)).m,0),(U_,(modelE (u.m.getD k default).l u.inp u.cl (↑k:Int)).b,0),(U_,(modelE (u.m.getD k default).l u.inp u.cl (↑k:Int)).n,0)])=false)) (i6n ((↑k:Int)+1) a_) (wS_ k))
theorem vbundle_ly_e (u:Bun) (ok:u.Ok) (sm:u.Sm) (h:∀ j,j<u.m.length→mE u j=⟨0,0,0,0⟩):VT M_ (fnC Tryz.f23 [1,1,0,1,0,0]) (vbundle_ly_I u (u.m.length)) (.exit 0) (vbundle_ly_Z u):=by
 exact tR_ [r_,d_] [.any [16],.sort] (.d (decide_eq_false (p:=((u.m.length:Int)<(u.m.length:Int))) a_))
theorem vbundle_ly (u:Bun) (ok:u.Ok) (sm:u.Sm) (h:∀ j,j<u.m.length→mE u j=⟨0,0,0,0⟩):VT M_ (fnC Tryz.f23 [1,1,0,1,0]) (vbundle_ly_I u 0) (.exit 0) (vbundle_ly_Z u) :=
 VT.loop (fun k=>vbundle_ly_I u k) (u.m.length) (fun k hk=>vbundle_ly_s u ok sm h k hk) (vbundle_ly_e u ok sm h) c0_
noncomputable def vbundle_ln_I (u:Bun) (m:Nat) (k:Nat):VS:=stt 27 [(1,.ptr 1 0 0),(2,.ptr 2 0 0),(14,i64 u.m.length),(15,i64 k)] [(1,.var (bunC u)),(2,.var [i64 0,i64 0,i64 0,i64 0])]
noncomputable def vbundle_ln_Z (u:Bun) (m:Nat):VS:=stt 27 [(2,.ptr 2 0 0)] [(2,.var (fltC (mE u m)))]
theorem vbundle_ln_s (u:Bun) (m:Nat) (ok:u.Ok) (sm:u.Sm) (hm:m<u.m.length) (hf:(mE u m).w≠0) (h:∀ j,j<m→mE u j=⟨0,0,0,0⟩) (k:Nat) (hk:k<m):VT M_ (fnC Tryz.f23 [1,1,0,1,0,0]) (vbundle_ln_I u m k) .normal (vbundle_ln_I u m (k+1)):=by
 have q:modelE (u.m.getD k default).l u.inp u.cl k=⟨0,0,0,0⟩:=h k hk
 have q5:=sm.l
 have oz1:=@vmodel_v (u) (k) ok sm a_
 exact tR_ [r_,b_,r_,.r [] [cr oz1],.r [] [.v (BI_ !eqNums [(U_,(modelE (u.m.getD k default).l u.inp u.cl (↑k:Int)).w,0),(U_,(modelE (u.m.getD k default).l u.inp u.cl (↑k:Int)).m,0),(U_,(modelE (u.m.getD k default).l u.inp u.cl (↑k:Int)).b,0),(U_,(modelE (u.m.getD k default).l u.inp u.cl (↑k:Int)).n,0)])],d_,.r [] [.n ((↑k:Int)+1)]] [.any (rg [(4,2),(16,8),(25,1)]),.drop [5],.weak 15 (i64 (↑(k+1):Int)),.sort] (.d6 (decide_eq_true (p:=((↑k:Int)<(u.m.length:Int))) a_) oz1 (show BinTo M_ BinOp.neq 77 (Operand.tmp 21) (Operand.tmp 22) (CX_ #[AW_ U_ (modelE (u.m.getD k default).l u.inp u.cl (↑k:Int)).w,AW_ U_ (modelE (u.m.getD k default).l u.inp u.cl (↑k:Int)).m,AW_ U_ (modelE (u.m.getD k default).l u.inp u.cl (↑k:Int)).b,AW_ U_ (modelE (u.m.getD k default).l u.inp u.cl (↑k:Int)).n]) (CX_ #[AW_ U_ 0,AW_ U_ 0,AW_ U_ 0,AW_ U_ 0]) (BI_ !eqNums [(U_,(modelE (u.m.getD k default).l u.inp u.cl (↑k:Int)).w,0),(U_,(modelE (u.m.getD k default).l u.inp u.cl (↑k:Int)).m,0),(U_,(modelE (u.m.getD k default).l u.inp u.cl (↑k:Int)).b,0),(U_,(modelE (u.m.getD k default).l u.inp u.cl (↑k:Int)).n,0)]) from ((bin_nums (l:=[(U_,(modelE (u.m.getD k default).l u.inp u.cl (↑k:Int)).w,0),(U_,(modelE (u.m.getD k default).l u.inp u.cl (↑k:Int)).m,0),(U_,(modelE (u.m.getD k default).l u.inp u.cl (↑k:Int)).b,0),(U_,(modelE (u.m.getD k default).l u.inp u.cl (↑k:Int)).n,0)]) w_ w_ w_ w_ _ _).2)) (p2_ ((!eqNums [(U_,(modelE (u.m.getD k default).l u.inp u.cl (↑k:Int)).w,0),(U_,(modelE (u.m.getD k default).l u.inp u.cl (↑k:Int)).m,0),(U_,(modelE (u.m.getD k default).l u.inp u.cl (↑k:Int)).b,0),(U_,(modelE (u.m.getD k default).l u.inp u.cl (↑k:Int)).n,0)])=false)) (i6n ((↑k:Int)+1) a_) (wS_ k))
theorem vbundle_ln_e (u:Bun) (m:Nat) (ok:u.Ok) (sm:u.Sm) (hm:m<u.m.length) (hf:(mE u m).w≠0) (h:∀ j,j<m→mE u j=⟨0,0,0,0⟩):VT M_ (fnC Tryz.f23 [1,1,0,1,0,0]) (vbundle_ln_I u m (m)) (.ret) (vbundle_ln_Z u m):=by
 have q5:=sm.l
 have hg:¬ (modelE (u.m.getD m default).l u.inp u.cl m).w=0:=hf
 have oz1:=@vmodel_v (u) (m) ok sm hm
 exact tR_ [r_,b_,r_,.r [] [cr oz1],.r [] [.v (BI_ !eqNums [(U_,(modelE (u.m.getD m default).l u.inp u.cl (↑m:Int)).w,0),(U_,(modelE (u.m.getD m default).l u.inp u.cl (↑m:Int)).m,0),(U_,(modelE (u.m.getD m default).l u.inp u.cl (↑m:Int)).b,0),(U_,(modelE (u.m.getD m default).l u.inp u.cl (↑m:Int)).n,0)])],b_,r_] [.any (rg [(1,1),(4,2),(14,11)]),.drop [1,5],.sort] (.d4 (decide_eq_true (p:=((↑m:Int)<(u.m.length:Int))) a_) oz1 (show BinTo M_ BinOp.neq 77 (Operand.tmp 21) (Operand.tmp 22) (CX_ #[AW_ U_ (modelE (u.m.getD m default).l u.inp u.cl (↑m:Int)).w,AW_ U_ (modelE (u.m.getD m default).l u.inp u.cl (↑m:Int)).m,AW_ U_ (modelE (u.m.getD m default).l u.inp u.cl (↑m:Int)).b,AW_ U_ (modelE (u.m.getD m default).l u.inp u.cl (↑m:Int)).n]) (CX_ #[AW_ U_ 0,AW_ U_ 0,AW_ U_ 0,AW_ U_ 0]) (BI_ !eqNums [(U_,(modelE (u.m.getD m default).l u.inp u.cl (↑m:Int)).w,0),(U_,(modelE (u.m.getD m default).l u.inp u.cl (↑m:Int)).m,0),(U_,(modelE (u.m.getD m default).l u.inp u.cl (↑m:Int)).b,0),(U_,(modelE (u.m.getD m default).l u.inp u.cl (↑m:Int)).n,0)]) from ((bin_nums (l:=[(U_,(modelE (u.m.getD m default).l u.inp u.cl (↑m:Int)).w,0),(U_,(modelE (u.m.getD m default).l u.inp u.cl (↑m:Int)).m,0),(U_,(modelE (u.m.getD m default).l u.inp u.cl (↑m:Int)).b,0),(U_,(modelE (u.m.getD m default).l u.inp u.cl (↑m:Int)).n,0)]) w_ w_ w_ w_ _ _).2)) (show (!eqNums [(U_,(modelE (u.m.getD m default).l u.inp u.cl (↑m:Int)).w,0),(U_,(modelE (u.m.getD m default).l u.inp u.cl (↑m:Int)).m,0),(U_,(modelE (u.m.getD m default).l u.inp u.cl (↑m:Int)).b,0),(U_,(modelE (u.m.getD m default).l u.inp u.cl (↑m:Int)).n,0)])=true by (simp only[eqNums];rw[beq_eq_false_iff_ne.2 hg];rfl)))
theorem vbundle_ln (u:Bun) (m:Nat) (ok:u.Ok) (sm:u.Sm) (hm:m<u.m.length) (hf:(mE u m).w≠0) (h:∀ j,j<m→mE u j=⟨0,0,0,0⟩):VT M_ (fnC Tryz.f23 [1,1,0,1,0]) (vbundle_ln_I u m 0) (.ret) (vbundle_ln_Z u m) :=
 VT.loop (fun k=>vbundle_ln_I u m k) (m) (fun k hk=>vbundle_ln_s u m ok sm hm hf h k hk) (vbundle_ln_e u m ok sm hm hf h) c0_
def bunE (u:Bun):Flt:=if wholeE u≠0 then ⟨wholeE u,-1,-1,-1⟩ else if firstBad (fun j=>(mE u j).w==0) u.m.length<u.m.length then mE u (firstBad (fun j=>(mE u j).w==0) u.m.length) else ⟨0,0,0,0⟩
theorem bunE_y {u:Bun} (w:wholeE u=0) (h:∀ j,j<u.m.length→mE u j=⟨0,0,0,0⟩):bunE u=⟨0,0,0,0⟩:=by
 unfold bunE
 rw[j_ (by simp[w]),firstBad_all fun j hj=>by rw[h j hj];rfl,j_ a_]
theorem bunE_m {u:Bun} {m:Nat} (w:wholeE u=0) (hm:m<u.m.length) (hf:(mE u m).w≠0) (h:∀ j,j<m→mE u j=⟨0,0,0,0⟩):bunE u=mE u m:=by
 have e:=firstBad_at (p:=fun j=>(mE u j).w==0) (m:=m) (by simpa using hf) (fun j hj=>by rw[h j hj];rfl) hm
 unfold bunE
 rw[j_ (by simp[w]),e,i_ hm]
theorem bunE_cases (u:Bun):wholeE u≠0∨(wholeE u=0∧∀ j,j<u.m.length→mE u j=⟨0,0,0,0⟩)∨(wholeE u=0∧∃ m,m<u.m.length∧(mE u m).w≠0∧∀ j,j<m→mE u j=⟨0,0,0,0⟩):=by
 by_cases w:wholeE u=0
 ·rcases all_or (fun j=>(mE u j).w==0) u.m.length with h|⟨m,h1,h2,h3⟩
  ·exact .inr (.inl ⟨w,fun j hj=>modelE_z (beq_iff_eq.1 (h j hj))⟩)
  ·exact .inr (.inr ⟨w,m,h1,by simpa using h2,fun j hj=>modelE_z (beq_iff_eq.1 (h3 j hj))⟩)
 ·exact .inl w
theorem vbundle_a (u:Bun) (ok:u.Ok) (sm:u.Sm) (h:wholeE u≠0):VC M_ 23 ([bun u]) (flt (bunE u)):=by
 have q5:=sm.l
 have oz0:=@vwhole_v (u) ok a_
 exact (cR_ [r_,.r [] [cr oz0],r_,b_,r_] (AV.agg [i64 (wholeE u),i64 (-1),i64 (-1),i64 (-1)]) Tryz.func23 (.d2 oz0 (h_ ((wholeE u != 0)=true)))).weak (AQ_ _) (AZ_ (.cons (N_ (by (unfold bunE;rw[i_ h]))) (.cons (N_ (by (unfold bunE;rw[i_ h]))) (.cons (N_ (by (unfold bunE;rw[i_ h]))) (.cons (N_ (by (unfold bunE;rw[i_ h]))) .nil)))))
theorem vbundle_y (u:Bun) (ok:u.Ok) (sm:u.Sm) (w:wholeE u=0) (h:∀ j,j<u.m.length→mE u j=⟨0,0,0,0⟩):VC M_ 23 ([bun u]) (flt ⟨0,0,0,0⟩):=by
 have q5:=sm.l
 have oz0:=@vwhole_v (u) ok a_
 have oz4:=@vbundle_ly (u) ok sm h
 exact cR_ [r_,.r [] [cr oz0],r_,d_,r_,.code [.any [0,3,6,7,8,9,12,13],.weak 14 (i64 (u.m.length:Int)),.weak 15 (i64 (↑0:Int)),.sort] (BS_ 0) (zO oz4),r_] _ Tryz.func23 (.d5 oz0 (show (wholeE u != 0)=false by (rw[w];rfl)) (N_ (k:=.i64) (show ((((K_ mdlC u.m).length:Int)):Int)=((u.m.length:Int)) from k0_)) w0_ oz4)
theorem vbundle_m (u:Bun) (m:Nat) (ok:u.Ok) (sm:u.Sm) (w:wholeE u=0) (hm:m<u.m.length) (hf:(mE u m).w≠0) (h:∀ j,j<m→mE u j=⟨0,0,0,0⟩):VC M_ 23 ([bun u]) (flt (mE u m)):=by
 have q5:=sm.l
 have oz0:=@vwhole_v (u) ok a_
 have oz4:=@vbundle_ln (u) (m) ok sm hm hf h
 exact cR_ [r_,.r [] [cr oz0],r_,d_,r_,.code [.any [0,3,6,7,8,9,12,13],.weak 14 (i64 (u.m.length:Int)),.weak 15 (i64 (↑0:Int)),.sort] (DT_) (zO oz4)] _ Tryz.func23 (.d5 oz0 (show (wholeE u != 0)=false by (rw[w];rfl)) (N_ (k:=.i64) (show ((((K_ mdlC u.m).length:Int)):Int)=((u.m.length:Int)) from k0_)) w0_ oz4)
theorem vbundle_v (u:Bun) (ok:u.Ok) (sm:u.Sm):VC M_ 23 [bun u] (flt (bunE u)):=by
 rcases bunE_cases u with h|⟨w,h⟩|⟨w,m,h1,h2,h3⟩
 ·exact vbundle_a u ok sm h
 ·rw[bunE_y w h];exact vbundle_y u ok sm w h
 ·rw[bunE_m w h1 h2 h3];exact vbundle_m u m ok sm w h1 h2 h3
noncomputable def rvm_iy_I (u:Bun) (l:List Blc) (a:Shp) (j:Int) (k:Nat):VS:=stt 108 [(1,.ptr 1 0 0),(2,.ptr 2 0 0),(3,i64 j),(4,.sl 5 (l.map blcC)),(5,.ptr 5 0 0),(6,i64 k)] [(1,.var (bunC u)),(2,.var [i64 0,i64 0,i64 0,i64 0]),(5,.var (shpC (inS l a k)))]
noncomputable def rvm_iy_Z (u:Bun) (l:List Blc) (a:Shp) (j:Int):VS:=rvm_iy_I u l a j (l.length)
theorem rvm_iy_s (u:Bun) (l:List Blc) (a:Shp) (j:Int) (ok:∀ d∈l,d.Ok) (sm:∀ d∈l,d.Sm) (oka:a.Ok) (hl:l.length≤6) (h:∀ k,k<l.length→(vB l a u.cl k).2=0) (k:Nat) (hk:k<l.length):VT M_ (fnC Tryz.f17 [1,1,1,1,1,0,1,0,0,1,0,0,1,1,1,1,1,0,0]) (rvm_iy_I u l a j k) .normal (rvm_iy_I u l a j (k+1)):=by
 have q:=h k hk
 have q1:=validE_ok q
 have q2:=getD_in ok hk
 have q3:=getD_in sm hk
 have q4:=inS_ok (l:=l) oka k
 have lb:(K_ blcC l).length=l.length:=V_ _
 have q5:=q2.n
 have q6:=q3.s
 have q7:=q3.l
 have l1:=growL_len nextE (l.getD k default).n (inS l a k) (l.getD k default).n.length
 have l3:(K_ shpC (growL nextE (l.getD k default).n (inS l a k) (l.getD k default).n.length)).length=(growL nextE (l.getD k default).n (inS l a k) (l.getD k default).n.length).length:=V_ _
 have i1:(((K_ shpC (growL nextE (l.getD k default).n (inS l a k) (l.getD k default).n.length)).length:Int)-1).toNat=(l.getD k default).n.length:=a_
 have oz1:=(s_ (0≤(↑k:Int)))
 have oz2:=(map_at (blcC) (default) (l:=l) (i:=k) hk)
 have oz3:=(i6n (((K_ blcC l).length:Int)-1) a_)
 have oz4:=@rvblock_v (l.getD k default) (inS l a k) (u.cl) ((↑k:Int)==((K_ blcC l).length:Int)-1) q2 q4 q3
 have oz8:=@rshapes_y ((l.getD k default).n) (inS l a k) q5 q6 q1
 have oz9:=(i6n (((K_ shpC (growL nextE (l.getD k default).n (inS l a k) (l.getD k default).n.length)).length:Int)-1) a_)
 have oz11:=(map_at (shpC) (default) (l:=growL nextE (l.getD k default).n (inS l a k) (l.getD k default).n.length) (i:=(((K_ shpC (growL nextE (l.getD k default).n (inS l a k) (l.getD k default).n.length)).length:Int)-1).toNat) a_)
 exact tR_ [r_,b_,.r [] [.row (sO oz2),.n (nO oz3),cr oz4],r_,d_,.r [] [.row (sO oz2),cr oz8],.r [] [.n (nO oz9),.row (sO oz11)],.r [] [.n ((↑k:Int)+1)]] [.any (rg [(7,5),(61,24),(90,17)]),.weak 6 (i64 (↑(k+1):Int)),.blk 5 (Blk.var [i64 (inS l a (k+1)).h,i64 (inS l a (k+1)).x,i64 (inS l a (k+1)).c]),.sort] (.c8 (decide_eq_true (p:=((↑k:Int)<((K_ blcC l).length:Int))) a_) oz1 oz2 oz3 oz4 (p2_ (((validE (l.getD k default) (inS l a k) u.cl ((↑k:Int)==((K_ blcC l).length:Int)-1)).snd != 0)=false)) oz1 oz2<|.d7 oz8 oz9 (s_ (0≤((K_ shpC (growL nextE (l.getD k default).n (inS l a k) (l.getD k default).n.length)).length:Int)-1)) oz11 (i6n ((↑k:Int)+1) a_) (wS_ k) (show BlkW (Blk.var [i64 ((growL nextE (l.getD k default).n (inS l a k) (l.getD k default).n.length).getD (((K_ shpC (growL nextE (l.getD k default).n (inS l a k) (l.getD k default).n.length)).length:Int)-1).toNat default).h,i64 ((growL nextE (l.getD k default).n (inS l a k) (l.getD k default).n.length).getD (((K_ shpC (growL nextE (l.getD k default).n (inS l a k) (l.getD k default).n.length)).length:Int)-1).toNat default).x,i64 ((growL nextE (l.getD k default).n (inS l a k) (l.getD k default).n.length).getD (((K_ shpC (growL nextE (l.getD k default).n (inS l a k) (l.getD k default).n.length)).length:Int)-1).toNat default).c]) (Blk.var [i64 (inS l a (k+1)).h,i64 (inS l a (k+1)).x,i64 (inS l a (k+1)).c]) from (BlkW.var (m:=[i64 (inS l a (k+1)).h,i64 (inS l a (k+1)).x,i64 (inS l a (k+1)).c]) (.cons (N_ x1_) (.cons (N_ x1_) (.cons (N_ x1_) .nil))))))
theorem rvm_iy_e (u:Bun) (l:List Blc) (a:Shp) (j:Int) (ok:∀ d∈l,d.Ok) (sm:∀ d∈l,d.Sm) (oka:a.Ok) (hl:l.length≤6) (h:∀ k,k<l.length→(vB l a u.cl k).2=0):VT M_ (fnC Tryz.f17 [1,1,1,1,1,0,1,0,0,1,0,0,1,1,1,1,1,0,0]) (rvm_iy_I u l a j (l.length)) (.exit 2) (rvm_iy_Z u l a j):=by
 exact tR_ [r_,d_] [.any (rg [(61,4)]),.sort] (.d (s0_ (decide ((l.length:Int)<((K_ blcC l).length:Int))=false)))
theorem rvm_iy (u:Bun) (l:List Blc) (a:Shp) (j:Int) (ok:∀ d∈l,d.Ok) (sm:∀ d∈l,d.Sm) (oka:a.Ok) (hl:l.length≤6) (h:∀ k,k<l.length→(vB l a u.cl k).2=0):VT M_ (fnC Tryz.f17 [1,1,1,1,1,0,1,0,0,1,0,0,1,1,1,1,1,0]) (rvm_iy_I u l a j 0) (.exit 2) (rvm_iy_Z u l a j) :=
 VT.loop (fun k=>rvm_iy_I u l a j k) (l.length) (fun k hk=>rvm_iy_s u l a j ok sm oka hl h k hk) (rvm_iy_e u l a j ok sm oka hl h) c0_
noncomputable def rvm_in_I (u:Bun) (l:List Blc) (a:Shp) (j:Int) (m:Nat) (k:Nat):VS:=stt 108 [(1,.ptr 1 0 0),(2,.ptr 2 0 0),(3,i64 j),(4,.sl 5 (l.map blcC)),(5,.ptr 5 0 0),(6,i64 k)] [(1,.var (bunC u)),(2,.var [i64 0,i64 0,i64 0,i64 0]),(5,.var (shpC (inS l a k)))]
noncomputable def rvm_in_Z (u:Bun) (l:List Blc) (a:Shp) (j:Int) (m:Nat):VS:=stt 108 [(2,.ptr 2 0 0)] [(2,.var [i64 (vB l a u.cl m).2,i64 j,i64 m,i64 (vB l a u.cl m).1])]
theorem rvm_in_s (u:Bun) (l:List Blc) (a:Shp) (j:Int) (m:Nat) (ok:∀ d∈l,d.Ok) (sm:∀ d∈l,d.Sm) (oka:a.Ok) (hl:l.length≤6) (hm:m<l.length) (hf:(vB l a u.cl m).2≠0) (h:∀ k,k<m→(vB l a u.cl k).2=0) (k:Nat) (hk:k<m):VT M_ (fnC Tryz.f17 [1,1,1,1,1,0,1,0,0,1,0,0,1,1,1,1,1,0,0]) (rvm_in_I u l a j m k) .normal (rvm_in_I u l a j m (k+1)):=by
 have q:=h k hk
 have q1:=validE_ok q
 have q2:=getD_in ok (s_ (k<l.length))
 have q3:=getD_in sm (s_ (k<l.length))
 have q4:=inS_ok (l:=l) oka k
 have lb:(K_ blcC l).length=l.length:=V_ _
 have q5:=q2.n
 have q6:=q3.s
 have q7:=q3.l
 have l1:=growL_len nextE (l.getD k default).n (inS l a k) (l.getD k default).n.length
 have l3:(K_ shpC (growL nextE (l.getD k default).n (inS l a k) (l.getD k default).n.length)).length=(growL nextE (l.getD k default).n (inS l a k) (l.getD k default).n.length).length:=V_ _
 have i1:(((K_ shpC (growL nextE (l.getD k default).n (inS l a k) (l.getD k default).n.length)).length:Int)-1).toNat=(l.getD k default).n.length:=a_
 have oz1:=(s_ (0≤(↑k:Int)))
 have oz2:=(map_at (blcC) (default) (l:=l) (i:=k) a_)
 have oz3:=(i6n (((K_ blcC l).length:Int)-1) a_)
 have oz4:=@rvblock_v (l.getD k default) (inS l a k) (u.cl) ((↑k:Int)==((K_ blcC l).length:Int)-1) q2 q4 q3
 have oz8:=@rshapes_y ((l.getD k default).n) (inS l a k) q5 q6 q1
 have oz9:=(i6n (((K_ shpC (growL nextE (l.getD k default).n (inS l a k) (l.getD k default).n.length)).length:Int)-1) a_)
 have oz11:=(map_at (shpC) (default) (l:=growL nextE (l.getD k default).n (inS l a k) (l.getD k default).n.length) (i:=(((K_ shpC (growL nextE (l.getD k default).n (inS l a k) (l.getD k default).n.length)).length:Int)-1).toNat) a_)
 exact tR_ [r_,b_,.r [] [.row (sO oz2),.n (nO oz3),cr oz4],r_,d_,.r [] [.row (sO oz2),cr oz8],.r [] [.n (nO oz9),.row (sO oz11)],.r [] [.n ((↑k:Int)+1)]] [.any (rg [(7,5),(61,24),(90,17)]),.weak 6 (i64 (↑(k+1):Int)),.blk 5 (Blk.var [i64 (inS l a (k+1)).h,i64 (inS l a (k+1)).x,i64 (inS l a (k+1)).c]),.sort] (.c8 (decide_eq_true (p:=((↑k:Int)<((K_ blcC l).length:Int))) a_) oz1 oz2 oz3 oz4 (p2_ (((validE (l.getD k default) (inS l a k) u.cl ((↑k:Int)==((K_ blcC l).length:Int)-1)).snd != 0)=false)) oz1 oz2<|.d7 oz8 oz9 (s_ (0≤((K_ shpC (growL nextE (l.getD k default).n (inS l a k) (l.getD k default).n.length)).length:Int)-1)) oz11 (i6n ((↑k:Int)+1) a_) (wS_ k) (show BlkW (Blk.var [i64 ((growL nextE (l.getD k default).n (inS l a k) (l.getD k default).n.length).getD (((K_ shpC (growL nextE (l.getD k default).n (inS l a k) (l.getD k default).n.length)).length:Int)-1).toNat default).h,i64 ((growL nextE (l.getD k default).n (inS l a k) (l.getD k default).n.length).getD (((K_ shpC (growL nextE (l.getD k default).n (inS l a k) (l.getD k default).n.length)).length:Int)-1).toNat default).x,i64 ((growL nextE (l.getD k default).n (inS l a k) (l.getD k default).n.length).getD (((K_ shpC (growL nextE (l.getD k default).n (inS l a k) (l.getD k default).n.length)).length:Int)-1).toNat default).c]) (Blk.var [i64 (inS l a (k+1)).h,i64 (inS l a (k+1)).x,i64 (inS l a (k+1)).c]) from (BlkW.var (m:=[i64 (inS l a (k+1)).h,i64 (inS l a (k+1)).x,i64 (inS l a (k+1)).c]) (.cons (N_ x1_) (.cons (N_ x1_) (.cons (N_ x1_) .nil))))))
theorem rvm_in_e (u:Bun) (l:List Blc) (a:Shp) (j:Int) (m:Nat) (ok:∀ d∈l,d.Ok) (sm:∀ d∈l,d.Sm) (oka:a.Ok) (hl:l.length≤6) (hm:m<l.length) (hf:(vB l a u.cl m).2≠0) (h:∀ k,k<m→(vB l a u.cl k).2=0):VT M_ (fnC Tryz.f17 [1,1,1,1,1,0,1,0,0,1,0,0,1,1,1,1,1,0,0]) (rvm_in_I u l a j m (m)) (.ret) (rvm_in_Z u l a j m):=by
 have q2:=getD_in ok hm
 have q3:=getD_in sm hm
 have q4:=inS_ok (l:=l) oka m
 have lb:(K_ blcC l).length=l.length:=V_ _
 have oz2:=(map_at (blcC) (default) (l:=l) (i:=m) hm)
 have oz3:=(i6n (((K_ blcC l).length:Int)-1) a_)
 have oz4:=@rvblock_v (l.getD m default) (inS l a m) (u.cl) ((↑m:Int)==((K_ blcC l).length:Int)-1) q2 q4 q3
 exact tR_ [r_,b_,.r [] [.row (sO oz2),.n (nO oz3),cr oz4],r_,b_,r_] [.any (rg [(1,1),(3,6),(61,4),(67,23)]),.drop [1,5],.sort] (.d6 (decide_eq_true (p:=((↑m:Int)<((K_ blcC l).length:Int))) a_) (s_ (0≤(↑m:Int))) oz2 oz3 oz4 (show ((validE (l.getD m default) (inS l a m) u.cl ((↑m:Int)==((K_ blcC l).length:Int)-1)).snd != 0)=true by (rw[J_];exact hf)))
theorem rvm_in (u:Bun) (l:List Blc) (a:Shp) (j:Int) (m:Nat) (ok:∀ d∈l,d.Ok) (sm:∀ d∈l,d.Sm) (oka:a.Ok) (hl:l.length≤6) (hm:m<l.length) (hf:(vB l a u.cl m).2≠0) (h:∀ k,k<m→(vB l a u.cl k).2=0):VT M_ (fnC Tryz.f17 [1,1,1,1,1,0,1,0,0,1,0,0,1,1,1,1,1,0]) (rvm_in_I u l a j m 0) (.ret) (rvm_in_Z u l a j m) :=
 VT.loop (fun k=>rvm_in_I u l a j m k) (m) (fun k hk=>rvm_in_s u l a j m ok sm oka hl hm hf h k hk) (rvm_in_e u l a j m ok sm oka hl hm hf h) c0_
theorem modelE_ok {l:List Blc} {a:Shp} {cl j:Int} (h:modelE l a cl j=⟨0,0,0,0⟩):¬ l.length=0∧l.length≤6∧∀ k,k<l.length→(vB l a cl k).2=0:=by
 rcases modelE_cases l a cl with g|g|⟨h6,m,h1,h2,h3⟩
 ·exact g
 ·exfalso
  revert h
  unfold modelE
  by_cases c:l.length=0
  ·rw[i_ c];intro h;injection h with h;revert h;decide
  ·rw[j_ c,i_ a_];intro h;injection h with h;revert h;decide
 ·rw[modelE_m h6 h1 h2 h3] at h;injection h with h;exact absurd h h2
noncomputable def rvb_oy_I (u:Bun) (k:Nat):VS:=stt 108 [(1,.ptr 1 0 0),(2,.ptr 2 0 0),(3,i64 k)] [(1,.var (bunC u)),(2,.var [i64 0,i64 0,i64 0,i64 0])]
noncomputable def rvb_oy_Z (u:Bun):VS:=rvb_oy_I u (u.m.length)
theorem rvb_oy_s (u:Bun) (ok:u.Ok) (sm:u.Sm) (h:∀ j,j<u.m.length→mE u j=⟨0,0,0,0⟩) (k:Nat) (hk:k<u.m.length):VT M_ (fnC Tryz.f17 [1,1,1,1,1,0,1,0,0]) (rvb_oy_I u k) .normal (rvb_oy_I u (k+1)):=by
 obtain ⟨q1,q2,q3⟩:=modelE_ok (h k hk)
 have q4:=sm.l
 have q5:u.inp.Ok:=⟨ok.h,ok.x,ok.c⟩
 have q6:=(getD_in ok.m hk).l
 have q7:=(getD_in sm.m hk).2
 have oz2:=(map_at (mdlC) (default) (l:=u.m) (i:=k) hk)
 have oz6:=@rvm_iy (u) ((u.m.getD k default).l) (Shp.mk u.1 u.2 u.3) ((↑k:Int)) q6 q7 q5 q2 q3
 exact tR_ [r_,b_,.r [] [.row (sO oz2)],r_,d_,r_,d_,r_,r_,.code [.any (rg [(36,5),(43,9),(54,3),(59,2)]),.weak 6 (i64 (↑0:Int)),.sort] (BS_ 2) (zO oz6),.r [] [.n ((↑k:Int)+1)]] [.any [4,5,6,41,42],.drop [5],.weak 3 (i64 (↑(k+1):Int)),.sort] (.c8 (h_ (decide ((↑k:Int)<((K_ mdlC u.m).length:Int))=true)) (s_ (0≤(↑k:Int))) oz2 (f0_ ((((K_ blcC (u.m.getD k default).l).length:Int)==0)=false)) (f0_ (decide (((K_ blcC (u.m.getD k default).l).length:Int)>6)=false)) w0_ oz6 (i6n ((↑k:Int)+1) a_)<|.d (wS_ k))
theorem rvb_oy_e (u:Bun) (ok:u.Ok) (sm:u.Sm) (h:∀ j,j<u.m.length→mE u j=⟨0,0,0,0⟩):VT M_ (fnC Tryz.f17 [1,1,1,1,1,0,1,0,0]) (rvb_oy_I u (u.m.length)) (.exit 0) (rvb_oy_Z u):=by
 exact tR_ [r_,d_] [.any (rg [(36,5)]),.sort] (.d (s0_ (decide ((u.m.length:Int)<((K_ mdlC u.m).length:Int))=false)))
theorem rvb_oy (u:Bun) (ok:u.Ok) (sm:u.Sm) (h:∀ j,j<u.m.length→mE u j=⟨0,0,0,0⟩):VT M_ (fnC Tryz.f17 [1,1,1,1,1,0,1,0]) (rvb_oy_I u 0) (.exit 0) (rvb_oy_Z u) :=
 VT.loop (fun k=>rvb_oy_I u k) (u.m.length) (fun k hk=>rvb_oy_s u ok sm h k hk) (rvb_oy_e u ok sm h) c0_
noncomputable def rvb_oa_I (u:Bun) (m:Nat) (k:Nat):VS:=stt 108 [(1,.ptr 1 0 0),(2,.ptr 2 0 0),(3,i64 k)] [(1,.var (bunC u)),(2,.var [i64 0,i64 0,i64 0,i64 0])]
noncomputable def rvb_oa_Z (u:Bun) (m:Nat):VS:=stt 108 [(2,.ptr 2 0 0)] [(2,.var (fltC (mE u m)))]
theorem rvb_oa_s (u:Bun) (m:Nat) (ok:u.Ok) (sm:u.Sm) (hm:m<u.m.length) (hf:(u.m.getD m default).l.length=0∨6<(u.m.getD m default).l.length) (h:∀ j,j<m→mE u j=⟨0,0,0,0⟩) (k:Nat) (hk:k<m):VT M_ (fnC Tryz.f17 [1,1,1,1,1,0,1,0,0]) (rvb_oa_I u m k) .normal (rvb_oa_I u m (k+1)):=by
 obtain ⟨q1,q2,q3⟩:=modelE_ok (h k hk)
 have q4:=sm.l
 have q5:u.inp.Ok:=⟨ok.h,ok.x,ok.c⟩
 have q6:=(getD_in ok.m (s_ (k<u.m.length))).l
 have q7:=(getD_in sm.m (s_ (k<u.m.length))).2
 have oz2:=(map_at (mdlC) (default) (l:=u.m) (i:=k) a_)
 have oz6:=@rvm_iy (u) ((u.m.getD k default).l) (Shp.mk u.1 u.2 u.3) ((↑k:Int)) q6 q7 q5 q2 q3
 exact tR_ [r_,b_,.r [] [.row (sO oz2)],r_,d_,r_,d_,r_,r_,.code [.any (rg [(36,5),(43,9),(54,3),(59,2)]),.weak 6 (i64 (↑0:Int)),.sort] (BS_ 2) (zO oz6),.r [] [.n ((↑k:Int)+1)]] [.any [4,5,6,41,42],.drop [5],.weak 3 (i64 (↑(k+1):Int)),.sort] (.c8 (h_ (decide ((↑k:Int)<((K_ mdlC u.m).length:Int))=true)) (s_ (0≤(↑k:Int))) oz2 (f0_ ((((K_ blcC (u.m.getD k default).l).length:Int)==0)=false)) (f0_ (decide (((K_ blcC (u.m.getD k default).l).length:Int)>6)=false)) w0_ oz6 (i6n ((↑k:Int)+1) a_)<|.d (wS_ k))
theorem rvb_oa_e (u:Bun) (m:Nat) (ok:u.Ok) (sm:u.Sm) (hm:m<u.m.length) (hf:(u.m.getD m default).l.length=0∨6<(u.m.getD m default).l.length) (h:∀ j,j<m→mE u j=⟨0,0,0,0⟩):VT M_ (fnC Tryz.f17 [1,1,1,1,1,0,1,0,0]) (rvb_oa_I u m (m)) (.ret) (rvb_oa_Z u m):=by
 have q4:=sm.l
 have oz0:=(h_ (decide ((↑m:Int)<((K_ mdlC u.m).length:Int))=true))
 have oz1:=(s_ (0≤(↑m:Int)))
 have oz2:=(map_at (mdlC) (default) (l:=u.m) (i:=m) hm)
 rcases bft (((K_ blcC (u.m.getD m default).l).length:Int)==0) with hc0|hc0
 ·have gc0:((K_ blcC (u.m.getD m default).l).length:Int)=0:=bet hc0
  exact tR_ [r_,b_,.r [] [.row (sO oz2)],r_,b_,r_] [.any (rg [(1,1),(3,2),(36,5),(43,11)]),.drop [1],.blk 2 (Blk.var [i64 (mE u m).w,i64 (mE u m).m,i64 (mE u m).b,i64 (mE u m).n]),.sort] (.d5 oz0 oz1 oz2 hc0 (show BlkW (Blk.var [i64 12,i64 (↑m:Int),i64 (-1),i64 (-1)]) (Blk.var [i64 (mE u m).w,i64 (mE u m).m,i64 (mE u m).b,i64 (mE u m).n]) from (BlkW.var (m:=[i64 (mE u m).w,i64 (mE u m).m,i64 (mE u m).b,i64 (mE u m).n]) (.cons (N_ o0_) (.cons (N_ o0_) (.cons (N_ o0_) (.cons (N_ o0_) .nil)))))))
 ·have gc0:¬((K_ blcC (u.m.getD m default).l).length:Int)=0:=bef hc0
  exact tR_ [r_,b_,.r [] [.row (sO oz2)],r_,d_,r_,b_,r_] [.any (rg [(1,1),(3,2),(36,5),(43,9),(54,5)]),.drop [1],.blk 2 (Blk.var [i64 (mE u m).w,i64 (mE u m).m,i64 (mE u m).b,i64 (mE u m).n]),.sort] (.d6 oz0 oz1 oz2 hc0 (a0_ (decide (((K_ blcC (u.m.getD m default).l).length:Int)>6)=true)) (show BlkW (Blk.var [i64 4,i64 (↑m:Int),i64 (-1),i64 (-1)]) (Blk.var [i64 (mE u m).w,i64 (mE u m).m,i64 (mE u m).b,i64 (mE u m).n]) from (BlkW.var (m:=[i64 (mE u m).w,i64 (mE u m).m,i64 (mE u m).b,i64 (mE u m).n]) (.cons (N_ o0_) (.cons (N_ o0_) (.cons (N_ o0_) (.cons (N_ o0_) .nil)))))))
theorem rvb_oa (u:Bun) (m:Nat) (ok:u.Ok) (sm:u.Sm) (hm:m<u.m.length) (hf:(u.m.getD m default).l.length=0∨6<(u.m.getD m default).l.length) (h:∀ j,j<m→mE u j=⟨0,0,0,0⟩):VT M_ (fnC Tryz.f17 [1,1,1,1,1,0,1,0]) (rvb_oa_I u m 0) (.ret) (rvb_oa_Z u m) :=
 VT.loop (fun k=>rvb_oa_I u m k) (m) (fun k hk=>rvb_oa_s u m ok sm hm hf h k hk) (rvb_oa_e u m ok sm hm hf h) c0_
noncomputable def rvb_ob_I (u:Bun) (m i:Nat) (k:Nat):VS:=stt 108 [(1,.ptr 1 0 0),(2,.ptr 2 0 0),(3,i64 k)] [(1,.var (bunC u)),(2,.var [i64 0,i64 0,i64 0,i64 0])]
noncomputable def rvb_ob_Z (u:Bun) (m i:Nat):VS:=stt 108 [(2,.ptr 2 0 0)] [(2,.var [i64 (vB (u.m.getD m default).l u.inp u.cl i).2,i64 m,i64 i,i64 (vB (u.m.getD m default).l u.inp u.cl i).1])]
theorem rvb_ob_s (u:Bun) (m i:Nat) (ok:u.Ok) (sm:u.Sm) (hm:m<u.m.length) (h6:(u.m.getD m default).l.length≤6) (hi:i<(u.m.getD m default).l.length) (hf:(vB (u.m.getD m default).l u.inp u.cl i).2≠0) (hb:∀ k,k<i→(vB (u.m.getD m default).l u.inp u.cl k).2=0) (h:∀ j,j<m→mE u j=⟨0,0,0,0⟩) (k:Nat) (hk:k<m):VT M_ (fnC Tryz.f17 [1,1,1,1,1,0,1,0,0]) (rvb_ob_I u m i k) .normal (rvb_ob_I u m i (k+1)):=by
 obtain ⟨q1,q2,q3⟩:=modelE_ok (h k hk)
 have q4:=sm.l
 have q5:u.inp.Ok:=⟨ok.h,ok.x,ok.c⟩
 have q6:=(getD_in ok.m (s_ (k<u.m.length))).l
 have q7:=(getD_in sm.m (s_ (k<u.m.length))).2
 have oz2:=(map_at (mdlC) (default) (l:=u.m) (i:=k) a_)
 have oz6:=@rvm_iy (u) ((u.m.getD k default).l) (Shp.mk u.1 u.2 u.3) ((↑k:Int)) q6 q7 q5 q2 q3
 exact tR_ [r_,b_,.r [] [.row (sO oz2)],r_,d_,r_,d_,r_,r_,.code [.any (rg [(36,5),(43,9),(54,3),(59,2)]),.weak 6 (i64 (↑0:Int)),.sort] (BS_ 2) (zO oz6),.r [] [.n ((↑k:Int)+1)]] [.any [4,5,6,41,42],.drop [5],.weak 3 (i64 (↑(k+1):Int)),.sort] (.c8 (h_ (decide ((↑k:Int)<((K_ mdlC u.m).length:Int))=true)) (s_ (0≤(↑k:Int))) oz2 (f0_ ((((K_ blcC (u.m.getD k default).l).length:Int)==0)=false)) (f0_ (decide (((K_ blcC (u.m.getD k default).l).length:Int)>6)=false)) w0_ oz6 (i6n ((↑k:Int)+1) a_)<|.d (wS_ k))
theorem rvb_ob_e (u:Bun) (m i:Nat) (ok:u.Ok) (sm:u.Sm) (hm:m<u.m.length) (h6:(u.m.getD m default).l.length≤6) (hi:i<(u.m.getD m default).l.length) (hf:(vB (u.m.getD m default).l u.inp u.cl i).2≠0) (hb:∀ k,k<i→(vB (u.m.getD m default).l u.inp u.cl k).2=0) (h:∀ j,j<m→mE u j=⟨0,0,0,0⟩):VT M_ (fnC Tryz.f17 [1,1,1,1,1,0,1,0,0]) (rvb_ob_I u m i (m)) (.ret) (rvb_ob_Z u m i):=by
 have q4:=sm.l
 have q5:u.inp.Ok:=⟨ok.h,ok.x,ok.c⟩
 have q6:=(getD_in ok.m hm).l
 have q7:=(getD_in sm.m hm).2
 have oz2:=(map_at (mdlC) (default) (l:=u.m) (i:=m) hm)
 have oz6:=@rvm_in (u) ((u.m.getD m default).l) (Shp.mk u.1 u.2 u.3) ((↑m:Int)) (i) q6 q7 q5 h6 hi hf hb
 exact tR_ [r_,b_,.r [] [.row (sO oz2)],r_,d_,r_,d_,r_,r_,.code [.any (rg [(36,5),(43,9),(54,3),(59,2)]),.weak 6 (i64 (↑0:Int)),.sort] (DT_) (zO oz6)] [.sort] (.d7 (h_ (decide ((↑m:Int)<((K_ mdlC u.m).length:Int))=true)) (s_ (0≤(↑m:Int))) oz2 (q_ ((((K_ blcC (u.m.getD m default).l).length:Int)==0)=false)) (f0_ (decide (((K_ blcC (u.m.getD m default).l).length:Int)>6)=false)) w0_ oz6)
theorem rvb_ob (u:Bun) (m i:Nat) (ok:u.Ok) (sm:u.Sm) (hm:m<u.m.length) (h6:(u.m.getD m default).l.length≤6) (hi:i<(u.m.getD m default).l.length) (hf:(vB (u.m.getD m default).l u.inp u.cl i).2≠0) (hb:∀ k,k<i→(vB (u.m.getD m default).l u.inp u.cl k).2=0) (h:∀ j,j<m→mE u j=⟨0,0,0,0⟩):VT M_ (fnC Tryz.f17 [1,1,1,1,1,0,1,0]) (rvb_ob_I u m i 0) (.ret) (rvb_ob_Z u m i) :=
 VT.loop (fun k=>rvb_ob_I u m i k) (m) (fun k hk=>rvb_ob_s u m i ok sm hm h6 hi hf hb h k hk) (rvb_ob_e u m i ok sm hm h6 hi hf hb h) c0_
theorem wholeE_0 {u:Bun} (h:wholeE u=0):0<elems u.h u.x u.c∧2≤u.cl∧u.cl≤16∧0<u.m.length∧u.m.length≤3:=by
 unfold wholeE at h
 by_cases c1:¬ 0<elems u.h u.x u.c
 ·rw[i_ c1] at h;cases h
 ·rw[j_ c1] at h
  by_cases c2:u.cl<2∨u.cl>16
  ·rw[i_ c2] at h;cases h
  ·rw[j_ c2] at h
   by_cases c3:u.m.length=0
   ·rw[i_ c3] at h;cases h
   ·rw[j_ c3] at h
    by_cases c4:3<u.m.length
    ·rw[i_ c4] at h;cases h
    ·exact ⟨by omega,by omega,by omega,by omega,by omega⟩
theorem wholeE_n {u:Bun} (h:wholeE u≠0):¬ 0<elems u.h u.x u.c∨u.cl<2∨u.cl>16∨u.m.length=0∨3<u.m.length:=by
 apply cbc
 intro c
 apply h
 unfold wholeE
 rw[j_ a_,j_ a_,j_ a_,j_ a_]
theorem rvbundle_a (u:Bun) (ok:u.Ok) (sm:u.Sm) (h:wholeE u≠0):VC M_ 17 ([bun u]) (flt (bunE u)):=by
 have q5:=sm.l
 have q1:=elems_in u.h u.x u.c
 obtain ⟨q2,q3,q4⟩:In64 u.h∧In64 u.x∧In64 u.c:=⟨ok.h,ok.x,ok.c⟩
 have e:bunE u=⟨wholeE u,-1,-1,-1⟩:=i_ h
 have w:=wholeE_n h
 have lm:(K_ mdlC u.m).length=u.m.length:=V_ _
 have oz0:=@refElems_v (u.h) (u.x) (u.c) q2 q3 q4
 rcases bft (elems u.h u.x u.c==0) with hc0|hc0
 ·have gc0:elems u.h u.x u.c=0:=bet hc0
  exact (cR_ [r_,.r [] [cr oz0],b_,r_] (AV.agg [i64 5,i64 (-1),i64 (-1),i64 (-1)]) Tryz.func17 (.d2 oz0 hc0)).weak (AQ_ _) (AZ_ (.cons (N_ j1_) (.cons (N_ o1_) (.cons (N_ o1_) (.cons (N_ o1_) .nil)))))
 ·have gc0:¬elems u.h u.x u.c=0:=bef hc0
  rcases bft (decide (u.cl<2) || decide (u.cl>16)) with hc1|hc1
  ·have gc1:u.cl<2∨u.cl>16:=gc0_ hc1
   exact (cR_ [r_,.r [] [cr oz0],d_,.r [] [o_,o_,o_,.sel 1],b_,r_] (AV.agg [i64 2,i64 (-1),i64 (-1),i64 (-1)]) Tryz.func17 (.d3 oz0 hc0 hc1)).weak (AQ_ _) (AZ_ (.cons (N_ j1_) (.cons (N_ o1_) (.cons (N_ o1_) (.cons (N_ o1_) .nil)))))
  ·have gc1:¬u.cl<2∧¬u.cl>16:=gc0_ hc1
   rcases bft (((K_ mdlC u.m).length:Int)==0) with hc2|hc2
   ·have gc2:((K_ mdlC u.m).length:Int)=0:=bet hc2
    exact (cR_ [r_,.r [] [cr oz0],d_,.r [] [o_,o_,o_,.sel 1],d_,r_,b_,r_] (AV.agg [i64 12,i64 (-1),i64 (-1),i64 (-1)]) Tryz.func17 (.d4 oz0 hc0 hc1 hc2)).weak (AQ_ _) (AZ_ (.cons (N_ j1_) (.cons (N_ o1_) (.cons (N_ o1_) (.cons (N_ o1_) .nil)))))
   ·have gc2:¬((K_ mdlC u.m).length:Int)=0:=bef hc2
    exact (cR_ [r_,.r [] [cr oz0],d_,.r [] [o_,o_,o_,.sel 1],d_,r_,d_,r_,b_,r_] (AV.agg [i64 4,i64 (-1),i64 (-1),i64 (-1)]) Tryz.func17 (.d5 oz0 hc0 hc1 hc2 (decide_eq_true (p:=(((K_ mdlC u.m).length:Int)>3)) a_))).weak (AQ_ _) (AZ_ (.cons (N_ j1_) (.cons (N_ o1_) (.cons (N_ o1_) (.cons (N_ o1_) .nil)))))
theorem rvbundle_y (u:Bun) (ok:u.Ok) (sm:u.Sm) (w:wholeE u=0) (h:∀ j,j<u.m.length→mE u j=⟨0,0,0,0⟩):VC M_ 17 ([bun u]) (flt ⟨0,0,0,0⟩):=by
 have q5:=sm.l
 obtain ⟨w1,w2,w3,w4,w5⟩:=wholeE_0 w
 obtain ⟨w6,w7,w8⟩:In64 u.h∧In64 u.x∧In64 u.c:=⟨ok.h,ok.x,ok.c⟩
 have oz0:=@refElems_v (u.h) (u.x) (u.c) w6 w7 w8
 have oz2:=(decide_eq_false (p:=(u.cl<2)) a_)
 have oz10:=@rvb_oy (u) ok sm h
 exact cR_ [r_,.r [] [cr oz0],d_,.r [] [e_,e_,e_,f_],d_,r_,d_,r_,d_,r_,.code [.any (rg [(0,1),(12,4),(17,8),(26,4),(31,4)]),.weak 3 (i64 (↑0:Int)),.sort] (BS_ 0) (zO oz10),r_] _ Tryz.func17 (.c8 oz0 (c_ ((elems u.h u.x u.c==0)=false)) oz2 oz2 oz2 oz2 (decide_eq_false (p:=(u.cl>16)) a_) (q_ ((((K_ mdlC u.m).length:Int)==0)=false))<|.d3 (h_ (decide (((K_ mdlC u.m).length:Int)>3)=false)) w0_ oz10)
theorem rvbundle_na (u:Bun) (m:Nat) (ok:u.Ok) (sm:u.Sm) (w:wholeE u=0) (hm:m<u.m.length) (hf:(u.m.getD m default).l.length=0∨6<(u.m.getD m default).l.length) (h:∀ j,j<m→mE u j=⟨0,0,0,0⟩):VC M_ 17 ([bun u]) (flt (mE u m)):=by
 have q5:=sm.l
 obtain ⟨w1,w2,w3,w4,w5⟩:=wholeE_0 w
 obtain ⟨w6,w7,w8⟩:In64 u.h∧In64 u.x∧In64 u.c:=⟨ok.h,ok.x,ok.c⟩
 have oz0:=@refElems_v (u.h) (u.x) (u.c) w6 w7 w8
 have oz2:=(decide_eq_false (p:=(u.cl<2)) a_)
 have oz10:=@rvb_oa (u) (m) ok sm hm hf h
 exact cR_ [r_,.r [] [cr oz0],d_,.r [] [e_,e_,e_,f_],d_,r_,d_,r_,d_,r_,.code [.any (rg [(0,1),(12,4),(17,8),(26,4),(31,4)]),.weak 3 (i64 (↑0:Int)),.sort] (DT_) (zO oz10)] _ Tryz.func17 (.c8 oz0 (c_ ((elems u.h u.x u.c==0)=false)) oz2 oz2 oz2 oz2 (decide_eq_false (p:=(u.cl>16)) a_) (q_ ((((K_ mdlC u.m).length:Int)==0)=false))<|.d3 (h_ (decide (((K_ mdlC u.m).length:Int)>3)=false)) w0_ oz10)
theorem rvbundle_nb (u:Bun) (m i:Nat) (ok:u.Ok) (sm:u.Sm) (w:wholeE u=0) (hm:m<u.m.length) (h6:(u.m.getD m default).l.length≤6) (hi:i<(u.m.getD m default).l.length) (hf:(vB (u.m.getD m default).l u.inp u.cl i).2≠0) (hb:∀ k,k<i→(vB (u.m.getD m default).l u.inp u.cl k).2=0) (h:∀ j,j<m→mE u j=⟨0,0,0,0⟩):VC M_ 17 ([bun u]) (flt ⟨(vB (u.m.getD m default).l u.inp u.cl i).2,m,i,(vB (u.m.getD m default).l u.inp u.cl i).1⟩):=by
 have q5:=sm.l
 obtain ⟨w1,w2,w3,w4,w5⟩:=wholeE_0 w
 obtain ⟨w6,w7,w8⟩:In64 u.h∧In64 u.x∧In64 u.c:=⟨ok.h,ok.x,ok.c⟩
 have oz0:=@refElems_v (u.h) (u.x) (u.c) w6 w7 w8
 have oz2:=(decide_eq_false (p:=(u.cl<2)) a_)
 have oz10:=@rvb_ob (u) (m) (i) ok sm hm h6 hi hf hb h
 exact cR_ [r_,.r [] [cr oz0],d_,.r [] [e_,e_,e_,f_],d_,r_,d_,r_,d_,r_,.code [.any (rg [(0,1),(12,4),(17,8),(26,4),(31,4)]),.weak 3 (i64 (↑0:Int)),.sort] (DT_) (zO oz10)] _ Tryz.func17 (.c8 oz0 (c_ ((elems u.h u.x u.c==0)=false)) oz2 oz2 oz2 oz2 (decide_eq_false (p:=(u.cl>16)) a_) (q_ ((((K_ mdlC u.m).length:Int)==0)=false))<|.d3 (h_ (decide (((K_ mdlC u.m).length:Int)>3)=false)) w0_ oz10)
theorem rvbundle_v (u:Bun) (ok:u.Ok) (sm:u.Sm):VC M_ 17 [bun u] (flt (bunE u)):=by
 rcases bunE_cases u with h|⟨w,h⟩|⟨w,m,h1,h2,h3⟩
 ·exact rvbundle_a u ok sm h
 ·rw[bunE_y w h];exact rvbundle_y u ok sm w h
 ·rw[bunE_m w h1 h2 h3]
  rcases modelE_cases (u.m.getD m default).l u.inp u.cl with ⟨g0,g6,g⟩|g|⟨g6,i,g1,g2,g3⟩
  ·exact absurd (by rw[show mE u m=⟨0,0,0,0⟩ from modelE_y g0 g6 g]) h2
  ·exact rvbundle_na u m ok sm w h1 g h3
  ·rw[show mE u m=_ from modelE_m g6 g1 g2 g3];exact rvbundle_nb u m i ok sm w h1 g6 g1 g2 g3 h3
theorem open_s (l:List Int) (h:l.length<8):VC M_ 27 ([ints .u8 l]) (.tup [.sl 1 (([]:List Int).map (row1 .u8)),i64 20]):=by
 exact (cR_ [r_,r_,d_,r_,b_,r_] (AV.tup [AV.lit (AK_ none 0 0),i64 20]) Tryz.func27 (.d2 (h_ (decide (((K_ (row1 .u8) l).length:Int)>1048576)=false)) (h_ (decide (((K_ (row1 .u8) l).length:Int)<8)=true)))).weak (AQ_ _) (AA_ (.cons (AV_ _) (.cons (.refl _) .nil)))
theorem dec_o (l:List Int) (e:Int) (he:e≠0) (h:VC M_ 27 [ints .u8 l] (.tup [.sl 1 (([]:List Int).map (row1 .u8)),i64 e])):VC M_ 10 ([ints .u8 l]) (.tup [.agg [i64 0,i64 0,i64 0,i64 0,nilv],i64 e]):=by
 have oz0:=@h
 exact cR_ [r_,.r [] [cr oz0],r_,b_,r_] _ Tryz.func10 (.d2 oz0 (h_ ((e != 0)=true)))
theorem known35_v (S:List Int) (hS:S.length=5) (h2:VC M_ 22 [ints .u8 [1]] (ints .u8 S)) (h:VC M_ 10 [ints .u8 []] (.tup [.agg [i64 0,i64 0,i64 0,i64 0,nilv],i64 20])):VC M_ 8 ([]) (bv true):=by
 have q:(((S.map (row1 .u8)).length:Int)==5)=true:=by rw[V_,hS];rfl
 have oz1:=@h
 exact (cR_ [r_,.r [] [ca oz1],.r [] [e_,e_,.frz 0,e_,cr h2,e_,e_,e_]] (bv (((K_ (row1 .u8) S).length:Int)==5)) Tryz.func8 (.c8 (show WeakL [AV.lit (AK_ none 0 0)] [AV.sl 1 []] from (.cons (AV_ _) .nil)) oz1 z0_ z0_ z0_ h2 z0_ z0_<|.d z0_)).weak (AQ_ _) (AB_ (q))
theorem end_eq {l:List Int} (h:4≤l.length) (hb:l.length≤20000000):(((l.map (row1 .u8)).length:Int)-4).toNat=l.length-4:=by
 rw[V_];omega
theorem str_eq (l:List Int):((strOfNums l).toList==(ByteArray.mk #[83,84,87,49]).toList)=(l.map (fun n=>UInt8.ofNat n.toNat)==[83,84,87,49]):=by
 rw[ByteArray.toList_eq,ByteArray.toList_eq,strOfNums_data]
theorem str_y {l:List Int} (h:l.take 4=[83,84,87,49]):((strOfNums (Q_ (4-0) (O_ 0 l))).toList==(ByteArray.mk #[83,84,87,49]).toList)=true:=by
 rw[List.drop_zero,Nat.sub_zero,h,str_eq];decide
theorem u8_nat {n:Int} {k:Nat} (h:0≤n∧n≤255) (hk:k<256) (e:UInt8.ofNat n.toNat=UInt8.ofNat k):n=k:=by
 have:=congrArg UInt8.toNat e
 simp only[UInt8.toNat_ofNat'] at this
 omega
theorem str_n {l:List Int} (hx:∀ x∈l,0≤x∧x≤255) (h:l.take 4≠[83,84,87,49]):((strOfNums (Q_ (4-0) (O_ 0 l))).toList==(ByteArray.mk #[83,84,87,49]).toList)=false:=by
 rw[List.drop_zero,Nat.sub_zero,str_eq]
 have hy:∀ x∈l.take 4,0≤x∧x≤255:=fun x q=>hx x (List.mem_of_mem_take q)
 revert h hy
 generalize l.take 4=m
 intro h hy
 refine beq_eq_false_iff_ne.2 fun e=>h ?_
 have e:m.map (fun n=>UInt8.ofNat n.toNat)=[83,84,87,49]:=e
 obtain ⟨a,m,rfl,e1,e⟩:=List.map_eq_cons_iff.1 e
 obtain ⟨b,m,rfl,e2,e⟩:=List.map_eq_cons_iff.1 e
 obtain ⟨c,m,rfl,e3,e⟩:=List.map_eq_cons_iff.1 e
 obtain ⟨d,m,rfl,e4,e⟩:=List.map_eq_cons_iff.1 e
 have e:=List.map_eq_nil_iff.1 e
 subst e
 rw[u8_nat (k:=83) (hy a v0_) x_ e1,u8_nat (k:=84) (hy b v0_) x_ e2,u8_nat (k:=87) (hy c v0_) x_ e3,u8_nat (k:=49) (hy d v0_) x_ e4];rfl
theorem z4_:(0:Nat)=(0:Nat):=rfl
theorem z5_:(0:Nat)≤(4:Nat):=by omega
theorem open_m (l:List Int) (hx:∀ x∈l,0≤x∧x≤255) (h8:8≤l.length) (hb:l.length≤1048576) (hm:l.take 4≠[83,84,87,49]):VC M_ 27 ([ints .u8 l]) (.tup [.sl 1 (([]:List Int).map (row1 .u8)),i64 22]):=by
 have z1:=str_n hx hm
 exact (cR_ [r_,r_,d_,r_,d_,.r [] [.nats 0 4,.il (Q_ (4-0) (O_ 0 l))],b_,r_] (AV.tup [AV.lit (AK_ none 0 0),i64 22]) Tryz.func27 (.d8 (h_ (decide (((K_ (row1 .u8) l).length:Int)>1048576)=false)) (h_ (decide (((K_ (row1 .u8) l).length:Int)<8)=false)) z4_ z2_ z5_ (h_ (4≤(K_ (row1 .u8) l).length)) (s0_ (Q_ (4-0) (O_ 0 (K_ (row1 .u8) l))=K_ (fun (n:Int)=>[u8 n]) (Q_ (4-0) (O_ 0 l)))) (f0_ ((!(strOfNums (Q_ (4-0) (O_ 0 l))).toList==(ByteArray.mk #[83,84,87,49]).toList)=true)))).weak (AQ_ _) (AA_ (.cons (AV_ _) (.cons (.refl _) .nil)))
theorem open_u (G:List Int→List Int) (l:List Int) (hG:Seals G) (hx:∀ x∈l,0≤x∧x≤255) (h8:8≤l.length) (hb:l.length≤1048576) (hm:l.take 4=[83,84,87,49]) (hs:G (l.take (l.length-4))≠l):VC M_ 27 ([ints .u8 l]) (.tup [.sl 1 (([]:List Int).map (row1 .u8)),i64 23]):=by
 have z1:=str_y hm
 have qe:=end_eq (l:=l) a_ a_
 have q0:Q_ ((((l.map (row1 .u8)).length:Int)-4).toNat-0) (O_ 0 l)=l.take (l.length-4):=by rw[qe,List.drop_zero,Nat.sub_zero]
 have q1:∀ x∈Q_ ((((l.map (row1 .u8)).length:Int)-4).toNat-0) (O_ 0 l),0≤x∧x≤255:=by rw[q0];exact fun x h=>hx x (List.mem_of_mem_take h)
 have q2:(Q_ ((((l.map (row1 .u8)).length:Int)-4).toNat-0) (O_ 0 l)).length=l.length-4:=by rw[q0,BL_];omega
 have q3:=hG.l (Q_ ((((l.map (row1 .u8)).length:Int)-4).toNat-0) (O_ 0 l))
 have z2:decide (G (Q_ ((((l.map (row1 .u8)).length:Int)-4).toNat-0) (O_ 0 l))=l)=false:=by rw[q0];exact decide_eq_false hs
 have oz8:=(i6n (((K_ (row1 .u8) l).length:Int)-4) a_)
 have oz14:=@seal_v (G) hG (Q_ ((((K_ (row1 .u8) l).length:Int)-4).toNat-0) (O_ 0 l)) q1 a_
 have oz15:=@eqb_v (G (Q_ ((((K_ (row1 .u8) l).length:Int)-4).toNat-0) (O_ 0 l))) (l) a_
 exact (cR_ [r_,r_,d_,r_,d_,.r [] [.nats 0 4,.il (Q_ (4-0) (O_ 0 l))],d_,.r [] [.n (nO oz8)],.r [] [.nats 0 (((K_ (row1 .u8) l).length:Int)-4).toNat,ca oz14,cr oz15],b_,r_] (AV.tup [AV.lit (AK_ none 0 0),i64 23]) Tryz.func27 (.c8 (decide_eq_false (p:=(((K_ (row1 .u8) l).length:Int)>1048576)) a_) (decide_eq_false (p:=(((K_ (row1 .u8) l).length:Int)<8)) a_) z4_ z2_ z5_ (s_ (4≤(K_ (row1 .u8) l).length)) (s0_ (Q_ (4-0) (O_ 0 (K_ (row1 .u8) l))=K_ (fun (n:Int)=>[u8 n]) (Q_ (4-0) (O_ 0 l)))) (f0_ ((!(strOfNums (Q_ (4-0) (O_ 0 l))).toList==(ByteArray.mk #[83,84,87,49]).toList)=false))<|.c8 oz8 z4_ (s_ (((K_ (row1 .u8) l).length:Int)-4=(↑(((K_ (row1 .u8) l).length:Int)-4).toNat:Int))) (s_ (0≤(((K_ (row1 .u8) l).length:Int)-4).toNat)) (s_ ((((K_ (row1 .u8) l).length:Int)-4).toNat≤(K_ (row1 .u8) l).length)) (show WeakL [AV.sl 1 (Q_ ((((K_ (row1 .u8) l).length:Int)-4).toNat-0) (O_ 0 (K_ (row1 .u8) l)))] [AV.sl 1 (K_ (row1 .u8) (Q_ ((((K_ (row1 .u8) l).length:Int)-4).toNat-0) (O_ 0 l)))] from (.cons (AH_ (rows_to (row1 .u8) (r:=Q_ ((((K_ (row1 .u8) l).length:Int)-4).toNat-0) (O_ 0 (K_ (row1 .u8) l))) (l:=Q_ ((((K_ (row1 .u8) l).length:Int)-4).toNat-0) (O_ 0 l)) (m:=Q_ ((((K_ (row1 .u8) l).length:Int)-4).toNat-0) (O_ 0 l)) g_ rfl)) .nil)) oz14 oz15<|.d (f0_ ((!decide (G (Q_ ((((K_ (row1 .u8) l).length:Int)-4).toNat-0) (O_ 0 l))=l))=true)))).weak (AQ_ _) (AA_ (.cons (AV_ _) (.cons (.refl _) .nil)))
theorem open_y (G:List Int→List Int) (l:List Int) (hG:Seals G) (hx:∀ x∈l,0≤x∧x≤255) (h8:8≤l.length) (hb:l.length≤1048576) (hm:l.take 4=[83,84,87,49]) (hs:G (l.take (l.length-4))=l):VC M_ 27 ([ints .u8 l]) (.tup [ints .u8 ((l.drop 4).take (l.length-8)),i64 0]):=by
 have z1:=str_y hm
 have qe:=end_eq (l:=l) a_ a_
 have q0:Q_ ((((l.map (row1 .u8)).length:Int)-4).toNat-0) (O_ 0 l)=l.take (l.length-4):=by rw[qe,List.drop_zero,Nat.sub_zero]
 have q1:∀ x∈Q_ ((((l.map (row1 .u8)).length:Int)-4).toNat-0) (O_ 0 l),0≤x∧x≤255:=by rw[q0];exact fun x h=>hx x (List.mem_of_mem_take h)
 have q2:(Q_ ((((l.map (row1 .u8)).length:Int)-4).toNat-0) (O_ 0 l)).length=l.length-4:=by rw[q0,BL_];omega
 have q3:=hG.l (Q_ ((((l.map (row1 .u8)).length:Int)-4).toNat-0) (O_ 0 l))
 have z2:decide (G (Q_ ((((l.map (row1 .u8)).length:Int)-4).toNat-0) (O_ 0 l))=l)=true:=by rw[q0];exact decide_eq_true hs
 have oz8:=(i6n (((K_ (row1 .u8) l).length:Int)-4) a_)
 have oz10:=(s_ (((K_ (row1 .u8) l).length:Int)-4=(↑(((K_ (row1 .u8) l).length:Int)-4).toNat:Int)))
 have oz12:=(s_ ((((K_ (row1 .u8) l).length:Int)-4).toNat≤(K_ (row1 .u8) l).length))
 have oz14:=@seal_v (G) hG (Q_ ((((K_ (row1 .u8) l).length:Int)-4).toNat-0) (O_ 0 l)) q1 a_
 have oz15:=@eqb_v (G (Q_ ((((K_ (row1 .u8) l).length:Int)-4).toNat-0) (O_ 0 l))) (l) a_
 exact (cR_ [r_,r_,d_,r_,d_,.r [] [.nats 0 4,.il (Q_ (4-0) (O_ 0 l))],d_,.r [] [.n (nO oz8)],.r [] [.nats 0 (((K_ (row1 .u8) l).length:Int)-4).toNat,ca oz14,cr oz15],d_,.r [] [.nats 4 (((K_ (row1 .u8) l).length:Int)-4).toNat]] (AV.tup [AV.sl 1 (Q_ ((((K_ (row1 .u8) l).length:Int)-4).toNat-4) (O_ 4 (K_ (row1 .u8) l))),i64 0]) Tryz.func27 (.c8 (decide_eq_false (p:=(((K_ (row1 .u8) l).length:Int)>1048576)) a_) (decide_eq_false (p:=(((K_ (row1 .u8) l).length:Int)<8)) a_) z4_ z2_ z5_ (s_ (4≤(K_ (row1 .u8) l).length)) (s0_ (Q_ (4-0) (O_ 0 (K_ (row1 .u8) l))=K_ (fun (n:Int)=>[u8 n]) (Q_ (4-0) (O_ 0 l)))) (f0_ ((!(strOfNums (Q_ (4-0) (O_ 0 l))).toList==(ByteArray.mk #[83,84,87,49]).toList)=false))<|.c8 oz8 z4_ oz10 (s_ (0≤(((K_ (row1 .u8) l).length:Int)-4).toNat)) oz12 (show WeakL [AV.sl 1 (Q_ ((((K_ (row1 .u8) l).length:Int)-4).toNat-0) (O_ 0 (K_ (row1 .u8) l)))] [AV.sl 1 (K_ (row1 .u8) (Q_ ((((K_ (row1 .u8) l).length:Int)-4).toNat-0) (O_ 0 l)))] from (.cons (AH_ (rows_to (row1 .u8) (r:=Q_ ((((K_ (row1 .u8) l).length:Int)-4).toNat-0) (O_ 0 (K_ (row1 .u8) l))) (l:=Q_ ((((K_ (row1 .u8) l).length:Int)-4).toNat-0) (O_ 0 l)) (m:=Q_ ((((K_ (row1 .u8) l).length:Int)-4).toNat-0) (O_ 0 l)) g_ rfl)) .nil)) oz14 oz15<|.d5 (f0_ ((!decide (G (Q_ ((((K_ (row1 .u8) l).length:Int)-4).toNat-0) (O_ 0 l))=l))=false)) z2_ oz10 (s_ (4≤(((K_ (row1 .u8) l).length:Int)-4).toNat)) oz12)).weak (AQ_ _) (AA_ (.cons (AH_ (rows_to (row1 .u8) (r:=Q_ ((((K_ (row1 .u8) l).length:Int)-4).toNat-4) (O_ 4 (K_ (row1 .u8) l))) (l:=Q_ ((((K_ (row1 .u8) l).length:Int)-4).toNat-4) (O_ 4 l)) (m:=Q_ (l.length-8) (O_ 4 l)) g_ (show (Q_ ((((K_ (row1 .u8) l).length:Int)-4).toNat-4) (O_ 4 l))=(Q_ (l.length-8) (O_ 4 l)) from (by (simp;omega))))) (.cons (.refl _) .nil)))
abbrev Rst:=List Int×Int
abbrev rdC (s:Rst):List AV:=[.sl 1 (s.1.map (row1 .u8)),i64 s.2]
theorem get_rng {l:List Int} (hb:∀ x∈l,0≤x∧x≤255):0≤getV l∧getV l≤18446744073709551615∧(getE l=0→0<getN l∧getN l≤l.length):=by
 obtain ⟨a,b,c⟩:=getAt_range l hb
 refine ⟨a,b,fun h=>?_⟩
 have:=get_back l hb (getAt l 0 0).1 (getAt l 0 0).2.1 (Prod.ext rfl (Prod.ext rfl h))
 exact ⟨this.1,this.2.1⟩
def cntS (s:Rst) (most:Int):Rst :=
 if s.2≠0 then s else if getE s.1≠0 then ([],getE s.1) else if max most 0<getV s.1 then ([],3) else (s.1.drop (getN s.1).toNat,0)
def cntV (s:Rst) (most:Int):Int :=
 if s.2≠0 then 0 else if getE s.1≠0 then 0 else if max most 0<getV s.1 then 0 else getV s.1
theorem rfail_v (l:List Int) (f:Int)  : VM M_ 96 ([.ptr 100000 0 0,i64 f]) ([(100000,.var (rdC (l,0)))]) (.tup []) ([(100000,.var (rdC ([],f)))]):=by
 exact mR_ [r_,b_,r_] [.blk 100000 (Blk.var [AV.sl 1 [],i64 f]),.sort] _ Tryz.func96 (.d2 (y_ (((l,0).snd==0)=true)) (show BlkW (Blk.var [AV.lit (AK_ none 0 0),i64 f]) (Blk.var [AV.sl 1 [],i64 f]) from (BlkW.var (m:=[AV.sl 1 [],i64 f]) (.cons (AV_ _) (.cons (.refl _) .nil)))))
theorem next_e (s:Rst) (h:s.2≠0):VM M_ 94 ([.ptr 100000 0 0,.clo 95 []]) ([(100000,.var (rdC s))]) (.tup [.lit (.int .u64 0),bv false]) ([(100000,.var (rdC s))]):=by
 exact mR_ [r_,.r [] [e_,e_,e_,e_,e_,f_],b_,r_] [.sort] _ Tryz.func94 (.d7 z1_ z1_ z1_ z1_ z1_ z1_ (h_ ((s.snd != 0)=true)))
theorem next_g (l:List Int) (hb:∀ x∈l,0≤x∧x≤255) (hl:l.length≤1000000) (h:getE l≠0):VM M_ 94 ([.ptr 100000 0 0,.clo 95 []]) ([(100000,.var (rdC (l,0)))]) (.tup [.lit (.int .u64 0),bv false]) ([(100000,.var (rdC ([],getE l)))]):=by
 have oz7:=@get_v (l) hb hl
 have oz9:=@rfail_v (l) (getE l)
 exact mR_ [r_,.r [] [e_,e_,e_,e_,e_,f_],d_,.r [] [cr oz7],r_,b_,.r [] [cm oz9],r_] [.sort] _ Tryz.func94 (.c8 z1_ z1_ z1_ z1_ z1_ z1_ (s0_ (((l,0).snd != 0)=false)) oz7<|.d2 (h_ ((getE l != 0)=true)) oz9)
theorem next_y (l:List Int) (hb:∀ x∈l,0≤x∧x≤255) (hl:l.length≤1000000) (h:getE l=0):VM M_ 94 ([.ptr 100000 0 0,.clo 95 []]) ([(100000,.var (rdC (l,0)))]) (.tup [.lit (.int .u64 (getV l)),bv true]) ([(100000,.var (rdC (l.drop (getN l).toNat,0)))]):=by
 obtain ⟨q1,q2,q3⟩:=get_rng hb
 have q4:=q3 h
 have oz7:=@get_v (l) hb hl
 exact mR_ [r_,.r [] [e_,e_,e_,e_,e_,f_],d_,.r [] [cr oz7],r_,d_,.r [] [.nats (getN l).toNat (K_ (row1 .u8) (l,0).fst).length],r_] [.blk 100000 (Blk.var [AV.sl 1 (K_ (row1 .u8) (O_ (getN l).toNat l)),i64 0]),.sort] _ Tryz.func94 (.c8 z1_ z1_ z1_ z1_ z1_ z1_ (s0_ (((l,0).snd != 0)=false)) oz7<|.d6 (h_ ((getE l != 0)=false)) (s_ (getN l=(↑(getN l).toNat:Int))) (h0_ ((K_ (row1 .u8) (l,0).fst).length=(K_ (row1 .u8) (l,0).fst).length)) (h_ ((getN l).toNat≤(K_ (row1 .u8) (l,0).fst).length)) (s_ ((K_ (row1 .u8) (l,0).fst).length≤(K_ (row1 .u8) (l,0).fst).length)) (show BlkW (Blk.var [AV.sl 1 (Q_ ((K_ (row1 .u8) (l,0).fst).length-(getN l).toNat) (O_ (getN l).toNat (K_ (row1 .u8) (l,0).fst))),i64 (l,0).snd]) (Blk.var [AV.sl 1 (K_ (row1 .u8) (O_ (getN l).toNat l)),i64 0]) from (BlkW.var (m:=[AV.sl 1 (K_ (row1 .u8) (O_ (getN l).toNat l)),i64 0]) (.cons (AH_ (rows_to (row1 .u8) (r:=Q_ ((K_ (row1 .u8) (l,0).fst).length-(getN l).toNat) (O_ (getN l).toNat (K_ (row1 .u8) (l,0).fst))) (l:=Q_ ((K_ (row1 .u8) (l,0).fst).length-(getN l).toNat) (O_ (getN l).toNat (l,0).fst)) (m:=O_ (getN l).toNat l) g_ (show (Q_ ((K_ (row1 .u8) (l,0).fst).length-(getN l).toNat) (O_ (getN l).toNat (l,0).fst))=(O_ (getN l).toNat l) from (by (rw[BJ_ (by simp[AS_])]))))) (.cons (.refl _) .nil)))))
theorem nexti_e (s:Rst) (h:s.2≠0):VM M_ 252 ([.ptr 100000 0 0,.clo 253 []]) ([(100000,.var (rdC s))]) (.tup [.lit (.int .i64 0),bv false]) ([(100000,.var (rdC s))]):=by
 exact mR_ [r_,.r [] [e_,e_,e_,e_,e_,f_],b_,r_] [.sort] _ Tryz.func252 (.d7 z1_ z1_ z1_ z1_ z1_ z1_ (h_ ((s.snd != 0)=true)))
theorem nexti_g (l:List Int) (hb:∀ x∈l,0≤x∧x≤255) (hl:l.length≤1000000) (h:getE l≠0):VM M_ 252 ([.ptr 100000 0 0,.clo 253 []]) ([(100000,.var (rdC (l,0)))]) (.tup [.lit (.int .i64 0),bv false]) ([(100000,.var (rdC ([],getE l)))]):=by
 have oz7:=@getInt_v (l) hb hl
 have oz9:=@rfail_v (l) (getE l)
 exact mR_ [r_,.r [] [e_,e_,e_,e_,e_,f_],d_,.r [] [cr oz7],r_,b_,.r [] [cm oz9],r_] [.sort] _ Tryz.func252 (.c8 z1_ z1_ z1_ z1_ z1_ z1_ (s0_ (((l,0).snd != 0)=false)) oz7<|.d2 (h_ ((getE l != 0)=true)) oz9)
theorem nexti_y (l:List Int) (hb:∀ x∈l,0≤x∧x≤255) (hl:l.length≤1000000) (h:getE l=0):VM M_ 252 ([.ptr 100000 0 0,.clo 253 []]) ([(100000,.var (rdC (l,0)))]) (.tup [.lit (.int .i64 (unfoldN (getV l))),bv true]) ([(100000,.var (rdC (l.drop (getN l).toNat,0)))]):=by
 obtain ⟨q1,q2,q3⟩:=get_rng hb
 have q4:=q3 h
 have oz7:=@getInt_v (l) hb hl
 exact mR_ [r_,.r [] [e_,e_,e_,e_,e_,f_],d_,.r [] [cr oz7],r_,d_,.r [] [.nats (getN l).toNat (K_ (row1 .u8) (l,0).fst).length],r_] [.blk 100000 (Blk.var [AV.sl 1 (K_ (row1 .u8) (O_ (getN l).toNat l)),i64 0]),.sort] _ Tryz.func252 (.c8 z1_ z1_ z1_ z1_ z1_ z1_ (s0_ (((l,0).snd != 0)=false)) oz7<|.d6 (h_ ((getE l != 0)=false)) (s_ (getN l=(↑(getN l).toNat:Int))) (h0_ ((K_ (row1 .u8) (l,0).fst).length=(K_ (row1 .u8) (l,0).fst).length)) (h_ ((getN l).toNat≤(K_ (row1 .u8) (l,0).fst).length)) (s_ ((K_ (row1 .u8) (l,0).fst).length≤(K_ (row1 .u8) (l,0).fst).length)) (show BlkW (Blk.var [AV.sl 1 (Q_ ((K_ (row1 .u8) (l,0).fst).length-(getN l).toNat) (O_ (getN l).toNat (K_ (row1 .u8) (l,0).fst))),i64 (l,0).snd]) (Blk.var [AV.sl 1 (K_ (row1 .u8) (O_ (getN l).toNat l)),i64 0]) from (BlkW.var (m:=[AV.sl 1 (K_ (row1 .u8) (O_ (getN l).toNat l)),i64 0]) (.cons (AH_ (rows_to (row1 .u8) (r:=Q_ ((K_ (row1 .u8) (l,0).fst).length-(getN l).toNat) (O_ (getN l).toNat (K_ (row1 .u8) (l,0).fst))) (l:=Q_ ((K_ (row1 .u8) (l,0).fst).length-(getN l).toNat) (O_ (getN l).toNat (l,0).fst)) (m:=O_ (getN l).toNat l) g_ (show (Q_ ((K_ (row1 .u8) (l,0).fst).length-(getN l).toNat) (O_ (getN l).toNat (l,0).fst))=(O_ (getN l).toNat l) from (by (rw[BJ_ (by simp[AS_])]))))) (.cons (.refl _) .nil)))))
abbrev hDm_ (f:Nat) (r:Rst) (m:Int) (v:Int) (q:Rst):Prop:=VM M_ f [.ptr 100000 0 0,i64 m] [(100000,.var (rdC r))] (i64 v) [(100000,.var (rdC q))]
abbrev hDo8_ (f:Nat) (r:Rst) (v:Int) (q:Rst):Prop:=VM M_ f [.ptr 100000 0 0] [(100000,.var (rdC r))] (i8 v) [(100000,.var (rdC q))]
abbrev hDo_ (f:Nat) (r:Rst) (v:Int) (q:Rst):Prop:=VM M_ f [.ptr 100000 0 0] [(100000,.var (rdC r))] (i64 v) [(100000,.var (rdC q))]
theorem count_e (s:Rst) (m:Int) (h:s.2≠0) (h0:0≤m) (h1:m≤2147483647):hDm_ 59 s m 0 s:=by
 have oz0:=@next_e (s) h
 exact mR_ [r_,.r [] [cm oz0],r_,b_,r_] [.sort] _ Tryz.func59 (.d2 oz0 z0_)
theorem count_g (l:List Int) (m:Int) (hb:∀ x∈l,0≤x∧x≤255) (hl:l.length≤1000000) (h:getE l≠0) (h0:0≤m) (h1:m≤2147483647):hDm_ 59 (l,0) m 0 ([],getE l):=by
 have oz0:=@next_g (l) hb hl h
 exact mR_ [r_,.r [] [cm oz0],r_,b_,r_] [.sort] _ Tryz.func59 (.d2 oz0 z0_)
theorem count_m (l:List Int) (m:Int) (hb:∀ x∈l,0≤x∧x≤255) (hl:l.length≤1000000) (h:getE l=0) (h0:0≤m) (h1:m≤2147483647) (h2:m<getV l):hDm_ 59 (l,0) m 0 ([],3):=by
 obtain ⟨q1,q2,q3⟩:=get_rng hb
 have oz0:=@next_y (l) hb hl h
 have oz4:=@rfail_v (O_ (getN l).toNat l) (3)
 exact mR_ [r_,.r [] [cm oz0],r_,d_,.r [] [.n (if 0>m then 0 else m)],b_,.r [] [cm oz4],r_] [.sort] _ Tryz.func59 (.d5 oz0 z1_ (DQ_ (if 0>m then 0 else m) a_) (decide_eq_true (p:=(getV l>if 0>m then 0 else m)) a_) oz4)
theorem count_y (l:List Int) (m:Int) (hb:∀ x∈l,0≤x∧x≤255) (hl:l.length≤1000000) (h:getE l=0) (h0:0≤m) (h1:m≤2147483647) (h2:getV l≤m):hDm_ 59 (l,0) m (getV l) (l.drop (getN l).toNat,0):=by
 obtain ⟨q1,q2,q3⟩:=get_rng hb
 have oz0:=@next_y (l) hb hl h
 exact mR_ [r_,.r [] [cm oz0],r_,d_,.r [] [.n (if 0>m then 0 else m)],d_,.r [] [.n (getV l)]] [.sort] _ Tryz.func59 (.d5 oz0 z1_ (DQ_ (if 0>m then 0 else m) a_) (decide_eq_false (p:=(getV l>if 0>m then 0 else m)) a_) (i6n (getV l) a_))
structure Rst.In (s:Rst):Prop where
 b:∀ x∈s.1,0≤x∧x≤255
 l:s.1.length≤1000000
theorem mem_drop' {l:List Int} {n:Nat} {p:Int→Prop} (h:∀ x∈l,p x):∀ x∈l.drop n,p x:=fun x hx=>h x (List.mem_of_mem_drop hx)
theorem cnt_in {s:Rst} (h:s.In) (m:Int):(cntS s m).In:=by
 unfold cntS
 split
 ·exact h
 ·split
  ·exact ⟨by simp,by simp⟩
  ·split
   ·exact ⟨by simp,by simp⟩
   ·exact ⟨mem_drop' h.b,by have:=h.l;simp only[AS_];omega⟩
theorem cnt_v (s:Rst) (m:Int) (h:s.In) (h0:0≤m) (h1:m≤2147483647):hDm_ 59 s m (cntV s m) (cntS s m):=by
 obtain ⟨l,e⟩:=s
 by_cases he:e=0
 ·subst he
  by_cases hg:getE l=0
  ·by_cases hm:m<getV l
   ·rw[show cntS (l,0) m=([],3) from by simp[cntS,hg,show max m 0<getV l by omega],show cntV (l,0) m=0 from by simp[cntV,hg,show max m 0<getV l by omega]]
    exact count_m l m h.b h.l hg h0 h1 hm
   ·rw[show cntS (l,0) m=(l.drop (getN l).toNat,0) from by simp[cntS,hg,show ¬ max m 0<getV l by omega],show cntV (l,0) m=getV l from by simp[cntV,hg,show ¬ max m 0<getV l by omega]]
    exact count_y l m h.b h.l hg h0 h1 a_
  ·rw[show cntS (l,0) m=([],getE l) from by simp[cntS,hg],show cntV (l,0) m=0 from by simp[cntV,hg]]
   exact count_g l m h.b h.l hg h0 h1
 ·rw[show cntS (l,e) m=(l,e) from by simp[cntS,he],show cntV (l,e) m=0 from by simp[cntV,he]]
  exact count_e (l,e) m he h0 h1
theorem cntV_rng {s:Rst} {m:Int} (h:s.In) (h0:0≤m):0≤cntV s m∧cntV s m≤m:=by
 have:=(get_rng h.b).1
 unfold cntV
 split
 ·omega
 ·split
  ·omega
  ·split
   ·omega
   ·omega
def intS (s:Rst) (lo hi:Int):Rst :=
 if s.2≠0 then s else if getE s.1≠0 then ([],getE s.1) else if unfoldN (getV s.1)<lo∨hi<unfoldN (getV s.1) then ([],3) else (s.1.drop (getN s.1).toNat,0)
def intV (s:Rst) (lo hi:Int):Int :=
 if s.2≠0 then 0 else if getE s.1≠0 then 0 else if unfoldN (getV s.1)<lo∨hi<unfoldN (getV s.1) then 0 else unfoldN (getV s.1)
theorem int_in {s:Rst} (h:s.In) (lo hi:Int):(intS s lo hi).In:=by
 unfold intS
 split
 ·exact h
 ·split
  ·exact ⟨by simp,by simp⟩
  ·split
   ·exact ⟨by simp,by simp⟩
   ·exact ⟨mem_drop' h.b,by have:=h.l;simp only[AS_];omega⟩
theorem int_e (s:Rst) (lo hi:Int) (h:s.2≠0):VM M_ 251 ([.ptr 100000 0 0,i64 lo,i64 hi]) ([(100000,.var (rdC s))]) (i64 0) ([(100000,.var (rdC s))]):=by
 have oz0:=@nexti_e (s) h
 exact mR_ [r_,.r [] [cm oz0],r_,b_,r_] [.sort] _ Tryz.func251 (.d2 oz0 z0_)
theorem int_g (l:List Int) (lo hi:Int) (hb:∀ x∈l,0≤x∧x≤255) (hl:l.length≤1000000) (h:getE l≠0):VM M_ 251 ([.ptr 100000 0 0,i64 lo,i64 hi]) ([(100000,.var (rdC (l,0)))]) (i64 0) ([(100000,.var (rdC ([],getE l)))]):=by
 have oz0:=@nexti_g (l) hb hl h
 exact mR_ [r_,.r [] [cm oz0],r_,b_,r_] [.sort] _ Tryz.func251 (.d2 oz0 z0_)
end Go.Proofs.YtdfihaminnmgpaaGreat
