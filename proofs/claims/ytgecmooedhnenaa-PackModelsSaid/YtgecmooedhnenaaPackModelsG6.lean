/- A part of this claim. No condition. -/
import Derived.Test.YtgecmooedhnenaaPackModelsG5
set_option maxRecDepth 100000
set_option maxHeartbeats 2000000
set_option linter.unusedVariables false
set_option linter.unusedSimpArgs false
set_option linter.unnecessarySimpa false
namespace Go.Proofs.Ytgecmooedhnenaa
open Go.RowKit
def lstW (s:Rst):List Int:=smlV (cntS s 16384) (cntV s 16384)
def lst1 (s:Rst):Rst:=smlS (cntS s 16384) (cntV s 16384)
def lstB (s:Rst):List Int:=widV (cntS (lst1 s) 16384) (cntV (lst1 s) 16384)
def lstS (s:Rst):Rst:=widS (cntS (lst1 s) 16384) (cntV (lst1 s) 16384)
def sclS (s:Rst):Rst:=cntS (cntS s 2147483647) 62
def sclM (s:Rst):Int:=cntV s 2147483647
def sclH (s:Rst):Int:=cntV (cntS s 2147483647) 62
theorem lst_in {s:Rst} (h:s.In):(lstS s).In:=wid_in (cnt_in (sml_in (cnt_in h _) _) _) _
theorem scl_in {s:Rst} (h:s.In):(sclS s).In:=cnt_in (cnt_in h _) _
theorem tlists_v (s:Rst) (n:Nod) (h:s.In):VM Try.prog 168 [.ifc 169 (.agg [.ptr 100000 0 0]),.ptr 100001 0 9,.ptr 100001 0 10] [(100000,.var (rdC s)),(100001,.var (nodC n))] (.tup []) [(100000,.var (rdC (lstS s))),(100001,.var (nodC { n with w:=lstW s,b:=lstB s }))]:=tlists_0 s n h
theorem tscale_qv (s:Rst) (n:Nod) (h:s.In):VM Try.prog 169 [.ifc 169 (.agg [.ptr 100000 0 0]),.ptr 100001 0 11] [(100000,.var (rdC s)),(100001,.var (nodC n))] (.tup []) [(100000,.var (rdC (sclS s))),(100001,.var (nodC { n with qm:=sclM s,qs:=sclH s }))]:=tscale_q s n h
theorem tscale_rv (s:Rst) (n:Nod) (h:s.In):VM Try.prog 169 [.ifc 169 (.agg [.ptr 100000 0 0]),.ptr 100001 0 14] [(100000,.var (rdC s)),(100001,.var (nodC n))] (.tup []) [(100000,.var (rdC (sclS s))),(100001,.var (nodC { n with rm:=sclM s,rs:=sclH s }))]:=tscale_r s n h
def ts_1 (s:Rst):Rst:=(smlS (smlS (smlS (sclS (lstS (smlS (cntS (cntS (cntS (cntS (cntS (cntS s 9) 1024) 1024) 1024) 1024) 1024) 1))) 1) 1) 1)
def tn_1 (s:Rst) (n:Nod):Nod:={ n with kd:=cntV s 9,na:=cntV (cntS s 9) 1024,nk:=cntV (cntS (cntS s 9) 1024) 1024,ns:=cntV (cntS (cntS (cntS s 9) 1024) 1024) 1024,np:=cntV (cntS (cntS (cntS (cntS s 9) 1024) 1024) 1024) 1024,no:=cntV (cntS (cntS (cntS (cntS (cntS s 9) 1024) 1024) 1024) 1024) 1024,za:=oneV (cntS (cntS (cntS (cntS (cntS (cntS s 9) 1024) 1024) 1024) 1024) 1024),w:=lstW (smlS (cntS (cntS (cntS (cntS (cntS (cntS s 9) 1024) 1024) 1024) 1024) 1024) 1),b:=lstB (smlS (cntS (cntS (cntS (cntS (cntS (cntS s 9) 1024) 1024) 1024) 1024) 1024) 1),qm:=sclM (lstS (smlS (cntS (cntS (cntS (cntS (cntS (cntS s 9) 1024) 1024) 1024) 1024) 1024) 1)),qs:=sclH (lstS (smlS (cntS (cntS (cntS (cntS (cntS (cntS s 9) 1024) 1024) 1024) 1024) 1024) 1)),qz:=oneV (sclS (lstS (smlS (cntS (cntS (cntS (cntS (cntS (cntS s 9) 1024) 1024) 1024) 1024) 1024) 1))),lo:=oneV (smlS (sclS (lstS (smlS (cntS (cntS (cntS (cntS (cntS (cntS s 9) 1024) 1024) 1024) 1024) 1024) 1))) 1),hi:=oneV (smlS (smlS (sclS (lstS (smlS (cntS (cntS (cntS (cntS (cntS (cntS s 9) 1024) 1024) 1024) 1024) 1024) 1))) 1) 1) }
theorem twalk_1 (s:Rst) (n:Nod) (h:s.In) (hk:cntV s 9=1) (z1:n.za=0) (z2:n.zb=0) (z3:n.qz=0) (z4:n.lo=0) (z5:n.hi=0):VM Try.prog 105 ([.ifc 169 (.agg [.ptr 100000 0 0]),.ptr 100001 0 0]) ([(100000,.var (rdC s)),(100001,.var (nodC n))]) (.tup []) ([(100000,.var (rdC (smlS (smlS (smlS (sclS (lstS (smlS (cntS (cntS (cntS (cntS (cntS (cntS s 9) 1024) 1024) 1024) 1024) 1024) 1))) 1) 1) 1))),(100001,.var (nodC { n with kd:=cntV s 9,na:=cntV (cntS s 9) 1024,nk:=cntV (cntS (cntS s 9) 1024) 1024,ns:=cntV (cntS (cntS (cntS s 9) 1024) 1024) 1024,np:=cntV (cntS (cntS (cntS (cntS s 9) 1024) 1024) 1024) 1024,no:=cntV (cntS (cntS (cntS (cntS (cntS s 9) 1024) 1024) 1024) 1024) 1024,za:=oneV (cntS (cntS (cntS (cntS (cntS (cntS s 9) 1024) 1024) 1024) 1024) 1024),w:=lstW (smlS (cntS (cntS (cntS (cntS (cntS (cntS s 9) 1024) 1024) 1024) 1024) 1024) 1),b:=lstB (smlS (cntS (cntS (cntS (cntS (cntS (cntS s 9) 1024) 1024) 1024) 1024) 1024) 1),qm:=sclM (lstS (smlS (cntS (cntS (cntS (cntS (cntS (cntS s 9) 1024) 1024) 1024) 1024) 1024) 1)),qs:=sclH (lstS (smlS (cntS (cntS (cntS (cntS (cntS (cntS s 9) 1024) 1024) 1024) 1024) 1024) 1)),qz:=oneV (sclS (lstS (smlS (cntS (cntS (cntS (cntS (cntS (cntS s 9) 1024) 1024) 1024) 1024) 1024) 1))),lo:=oneV (smlS (sclS (lstS (smlS (cntS (cntS (cntS (cntS (cntS (cntS s 9) 1024) 1024) 1024) 1024) 1024) 1))) 1),hi:=oneV (smlS (smlS (sclS (lstS (smlS (cntS (cntS (cntS (cntS (cntS (cntS s 9) 1024) 1024) 1024) 1024) 1024) 1))) 1) 1) }))]):=by
 have oz0:=(show NilNo Try.prog (169:Nat) "stepwell/pack.number" from (nilNo (f:=119) (by kernel_rfl)))
 have oz1 := @tnum_kd (s) (n) (9) h (by omega) (by omega)
 have oz2:=(show MethodIs Try.prog (169:Nat) "stepwell/pack.number" (methF Try.prog (169:Nat) "stepwell/pack.number") from (methodIs (by kernel_rfl)))
 have oz4 := @tnum_na (cntS s 9) (Nod.mk (cntV s 9) n.na n.nb n.nk n.ns n.np n.no n.za n.zb n.w n.b n.qm n.qs n.qz n.rm n.rs n.rz n.lo n.hi) (1024) (by (repeat first | exact h | apply cnt_in | apply sml_in | apply lst_in | apply scl_in)) (by omega) (by omega)
 have oz6 := @of_1 (cntV s 9) hk
 have oz7 := @tsides_1 (cntS (cntS s 9) 1024) (Nod.mk (cntV s 9) (cntV (cntS s 9) 1024) n.nb n.nk n.ns n.np n.no n.za n.zb n.w n.b n.qm n.qs n.qz n.rm n.rs n.rz n.lo n.hi) (by (repeat first | exact h | apply cnt_in | apply sml_in | apply lst_in | apply scl_in)) hk
 have oz8:=z1_
 have oz9 := @tone_za (cntS (cntS (cntS (cntS (cntS (cntS s 9) 1024) 1024) 1024) 1024) 1024) (Nod.mk (cntV s 9) (cntV (cntS s 9) 1024) n.nb (cntV (cntS (cntS s 9) 1024) 1024) (cntV (cntS (cntS (cntS s 9) 1024) 1024) 1024) (cntV (cntS (cntS (cntS (cntS s 9) 1024) 1024) 1024) 1024) (cntV (cntS (cntS (cntS (cntS (cntS s 9) 1024) 1024) 1024) 1024) 1024) n.za n.zb n.w n.b n.qm n.qs n.qz n.rm n.rs n.rz n.lo n.hi) (by (repeat first | exact h | apply cnt_in | apply sml_in | apply lst_in | apply scl_in)) z1
 have oz10:=z0_
 have oz12 := @tlists_v (smlS (cntS (cntS (cntS (cntS (cntS (cntS s 9) 1024) 1024) 1024) 1024) 1024) 1) (Nod.mk (cntV s 9) (cntV (cntS s 9) 1024) n.nb (cntV (cntS (cntS s 9) 1024) 1024) (cntV (cntS (cntS (cntS s 9) 1024) 1024) 1024) (cntV (cntS (cntS (cntS (cntS s 9) 1024) 1024) 1024) 1024) (cntV (cntS (cntS (cntS (cntS (cntS s 9) 1024) 1024) 1024) 1024) 1024) (oneV (cntS (cntS (cntS (cntS (cntS (cntS s 9) 1024) 1024) 1024) 1024) 1024)) n.zb n.w n.b n.qm n.qs n.qz n.rm n.rs n.rz n.lo n.hi) (by (repeat first | exact h | apply cnt_in | apply sml_in | apply lst_in | apply scl_in))
 have oz14 := @tscale_qv (lstS (smlS (cntS (cntS (cntS (cntS (cntS (cntS s 9) 1024) 1024) 1024) 1024) 1024) 1)) (Nod.mk (cntV s 9) (cntV (cntS s 9) 1024) n.nb (cntV (cntS (cntS s 9) 1024) 1024) (cntV (cntS (cntS (cntS s 9) 1024) 1024) 1024) (cntV (cntS (cntS (cntS (cntS s 9) 1024) 1024) 1024) 1024) (cntV (cntS (cntS (cntS (cntS (cntS s 9) 1024) 1024) 1024) 1024) 1024) (oneV (cntS (cntS (cntS (cntS (cntS (cntS s 9) 1024) 1024) 1024) 1024) 1024)) n.zb (lstW (smlS (cntS (cntS (cntS (cntS (cntS (cntS s 9) 1024) 1024) 1024) 1024) 1024) 1)) (lstB (smlS (cntS (cntS (cntS (cntS (cntS (cntS s 9) 1024) 1024) 1024) 1024) 1024) 1)) n.qm n.qs n.qz n.rm n.rs n.rz n.lo n.hi) (by (repeat first | exact h | apply cnt_in | apply sml_in | apply lst_in | apply scl_in))
 have oz15 := @tone_qz (sclS (lstS (smlS (cntS (cntS (cntS (cntS (cntS (cntS s 9) 1024) 1024) 1024) 1024) 1024) 1))) (Nod.mk (cntV s 9) (cntV (cntS s 9) 1024) n.nb (cntV (cntS (cntS s 9) 1024) 1024) (cntV (cntS (cntS (cntS s 9) 1024) 1024) 1024) (cntV (cntS (cntS (cntS (cntS s 9) 1024) 1024) 1024) 1024) (cntV (cntS (cntS (cntS (cntS (cntS s 9) 1024) 1024) 1024) 1024) 1024) (oneV (cntS (cntS (cntS (cntS (cntS (cntS s 9) 1024) 1024) 1024) 1024) 1024)) n.zb (lstW (smlS (cntS (cntS (cntS (cntS (cntS (cntS s 9) 1024) 1024) 1024) 1024) 1024) 1)) (lstB (smlS (cntS (cntS (cntS (cntS (cntS (cntS s 9) 1024) 1024) 1024) 1024) 1024) 1)) (sclM (lstS (smlS (cntS (cntS (cntS (cntS (cntS (cntS s 9) 1024) 1024) 1024) 1024) 1024) 1))) (sclH (lstS (smlS (cntS (cntS (cntS (cntS (cntS (cntS s 9) 1024) 1024) 1024) 1024) 1024) 1))) n.qz n.rm n.rs n.rz n.lo n.hi) (by (repeat first | exact h | apply cnt_in | apply sml_in | apply lst_in | apply scl_in)) z3
 have oz17 := @tone_lo (smlS (sclS (lstS (smlS (cntS (cntS (cntS (cntS (cntS (cntS s 9) 1024) 1024) 1024) 1024) 1024) 1))) 1) (Nod.mk (cntV s 9) (cntV (cntS s 9) 1024) n.nb (cntV (cntS (cntS s 9) 1024) 1024) (cntV (cntS (cntS (cntS s 9) 1024) 1024) 1024) (cntV (cntS (cntS (cntS (cntS s 9) 1024) 1024) 1024) 1024) (cntV (cntS (cntS (cntS (cntS (cntS s 9) 1024) 1024) 1024) 1024) 1024) (oneV (cntS (cntS (cntS (cntS (cntS (cntS s 9) 1024) 1024) 1024) 1024) 1024)) n.zb (lstW (smlS (cntS (cntS (cntS (cntS (cntS (cntS s 9) 1024) 1024) 1024) 1024) 1024) 1)) (lstB (smlS (cntS (cntS (cntS (cntS (cntS (cntS s 9) 1024) 1024) 1024) 1024) 1024) 1)) (sclM (lstS (smlS (cntS (cntS (cntS (cntS (cntS (cntS s 9) 1024) 1024) 1024) 1024) 1024) 1))) (sclH (lstS (smlS (cntS (cntS (cntS (cntS (cntS (cntS s 9) 1024) 1024) 1024) 1024) 1024) 1))) (oneV (sclS (lstS (smlS (cntS (cntS (cntS (cntS (cntS (cntS s 9) 1024) 1024) 1024) 1024) 1024) 1)))) n.rm n.rs n.rz n.lo n.hi) (by (repeat first | exact h | apply cnt_in | apply sml_in | apply lst_in | apply scl_in)) z4
 have oz18 := @tone_hi (smlS (smlS (sclS (lstS (smlS (cntS (cntS (cntS (cntS (cntS (cntS s 9) 1024) 1024) 1024) 1024) 1024) 1))) 1) 1) (Nod.mk (cntV s 9) (cntV (cntS s 9) 1024) n.nb (cntV (cntS (cntS s 9) 1024) 1024) (cntV (cntS (cntS (cntS s 9) 1024) 1024) 1024) (cntV (cntS (cntS (cntS (cntS s 9) 1024) 1024) 1024) 1024) (cntV (cntS (cntS (cntS (cntS (cntS s 9) 1024) 1024) 1024) 1024) 1024) (oneV (cntS (cntS (cntS (cntS (cntS (cntS s 9) 1024) 1024) 1024) 1024) 1024)) n.zb (lstW (smlS (cntS (cntS (cntS (cntS (cntS (cntS s 9) 1024) 1024) 1024) 1024) 1024) 1)) (lstB (smlS (cntS (cntS (cntS (cntS (cntS (cntS s 9) 1024) 1024) 1024) 1024) 1024) 1)) (sclM (lstS (smlS (cntS (cntS (cntS (cntS (cntS (cntS s 9) 1024) 1024) 1024) 1024) 1024) 1))) (sclH (lstS (smlS (cntS (cntS (cntS (cntS (cntS (cntS s 9) 1024) 1024) 1024) 1024) 1024) 1))) (oneV (sclS (lstS (smlS (cntS (cntS (cntS (cntS (cntS (cntS s 9) 1024) 1024) 1024) 1024) 1024) 1)))) n.rm n.rs n.rz (oneV (smlS (sclS (lstS (smlS (cntS (cntS (cntS (cntS (cntS (cntS s 9) 1024) 1024) 1024) 1024) 1024) 1))) 1)) n.hi) (by (repeat first | exact h | apply cnt_in | apply sml_in | apply lst_in | apply scl_in)) z5
 exact VM.run (fn:=Try.f105) (W:=[.r [] [cn oz1],.r [] [cn oz4],.r [] [.callr (rO oz6)],.r [] [cn oz7],.r [] [],.br true,.r [] [cn oz9],.r [] [],.br false,.r [] [],.br true,.r [] [cn oz12],.r [] [],.br false,.r [] [cn oz14],.r [] [cn oz15],.r [] [],.br false,.r [] [cn oz17],.r [] [cn oz18]]) (G:=[.drop [4],.sort]) Try.func105 (by kernel_rfl) (.c oz0<|.c oz1<|.c oz2<|.c oz0<|.c oz4<|.c oz2<|.c oz6<|.c oz7<|.c oz8<|.c oz9<|.c oz10<|.c oz8<|.c oz12<|.c oz10<|.c oz14<|.c oz15<|.c oz10<|.c oz17<|.c oz18<|.n)
theorem twalk_1v (s:Rst) (n:Nod) (h:s.In) (hk:cntV s 9=1) (z1:n.za=0) (z2:n.zb=0) (z3:n.qz=0) (z4:n.lo=0) (z5:n.hi=0):VM Try.prog 105 [.ifc 169 (.agg [.ptr 100000 0 0]),.ptr 100001 0 0] [(100000,.var (rdC s)),(100001,.var (nodC n))] (.tup []) [(100000,.var (rdC (ts_1 s))),(100001,.var (nodC (tn_1 s n)))]:=twalk_1 s n h hk z1 z2 z3 z4 z5
def ts_2 (s:Rst):Rst:=(smlS (smlS (smlS (sclS (lstS (smlS (cntS (cntS (cntS (cntS (cntS s 9) 1024) 1024) 1024) 1024) 1))) 1) 1) 1)
def tn_2 (s:Rst) (n:Nod):Nod:={ n with kd:=cntV s 9,na:=cntV (cntS s 9) 1024,nk:=cntV (cntS (cntS s 9) 1024) 1024,ns:=cntV (cntS (cntS (cntS s 9) 1024) 1024) 1024,np:=cntV (cntS (cntS (cntS (cntS s 9) 1024) 1024) 1024) 1024,za:=oneV (cntS (cntS (cntS (cntS (cntS s 9) 1024) 1024) 1024) 1024),w:=lstW (smlS (cntS (cntS (cntS (cntS (cntS s 9) 1024) 1024) 1024) 1024) 1),b:=lstB (smlS (cntS (cntS (cntS (cntS (cntS s 9) 1024) 1024) 1024) 1024) 1),qm:=sclM (lstS (smlS (cntS (cntS (cntS (cntS (cntS s 9) 1024) 1024) 1024) 1024) 1)),qs:=sclH (lstS (smlS (cntS (cntS (cntS (cntS (cntS s 9) 1024) 1024) 1024) 1024) 1)),qz:=oneV (sclS (lstS (smlS (cntS (cntS (cntS (cntS (cntS s 9) 1024) 1024) 1024) 1024) 1))),lo:=oneV (smlS (sclS (lstS (smlS (cntS (cntS (cntS (cntS (cntS s 9) 1024) 1024) 1024) 1024) 1))) 1),hi:=oneV (smlS (smlS (sclS (lstS (smlS (cntS (cntS (cntS (cntS (cntS s 9) 1024) 1024) 1024) 1024) 1))) 1) 1) }
theorem twalk_2 (s:Rst) (n:Nod) (h:s.In) (hk:cntV s 9=2) (z1:n.za=0) (z2:n.zb=0) (z3:n.qz=0) (z4:n.lo=0) (z5:n.hi=0):VM Try.prog 105 ([.ifc 169 (.agg [.ptr 100000 0 0]),.ptr 100001 0 0]) ([(100000,.var (rdC s)),(100001,.var (nodC n))]) (.tup []) ([(100000,.var (rdC (smlS (smlS (smlS (sclS (lstS (smlS (cntS (cntS (cntS (cntS (cntS s 9) 1024) 1024) 1024) 1024) 1))) 1) 1) 1))),(100001,.var (nodC { n with kd:=cntV s 9,na:=cntV (cntS s 9) 1024,nk:=cntV (cntS (cntS s 9) 1024) 1024,ns:=cntV (cntS (cntS (cntS s 9) 1024) 1024) 1024,np:=cntV (cntS (cntS (cntS (cntS s 9) 1024) 1024) 1024) 1024,za:=oneV (cntS (cntS (cntS (cntS (cntS s 9) 1024) 1024) 1024) 1024),w:=lstW (smlS (cntS (cntS (cntS (cntS (cntS s 9) 1024) 1024) 1024) 1024) 1),b:=lstB (smlS (cntS (cntS (cntS (cntS (cntS s 9) 1024) 1024) 1024) 1024) 1),qm:=sclM (lstS (smlS (cntS (cntS (cntS (cntS (cntS s 9) 1024) 1024) 1024) 1024) 1)),qs:=sclH (lstS (smlS (cntS (cntS (cntS (cntS (cntS s 9) 1024) 1024) 1024) 1024) 1)),qz:=oneV (sclS (lstS (smlS (cntS (cntS (cntS (cntS (cntS s 9) 1024) 1024) 1024) 1024) 1))),lo:=oneV (smlS (sclS (lstS (smlS (cntS (cntS (cntS (cntS (cntS s 9) 1024) 1024) 1024) 1024) 1))) 1),hi:=oneV (smlS (smlS (sclS (lstS (smlS (cntS (cntS (cntS (cntS (cntS s 9) 1024) 1024) 1024) 1024) 1))) 1) 1) }))]):=by
 have oz0:=(show NilNo Try.prog (169:Nat) "stepwell/pack.number" from (nilNo (f:=119) (by kernel_rfl)))
 have oz1 := @tnum_kd (s) (n) (9) h (by omega) (by omega)
 have oz2:=(show MethodIs Try.prog (169:Nat) "stepwell/pack.number" (methF Try.prog (169:Nat) "stepwell/pack.number") from (methodIs (by kernel_rfl)))
 have oz4 := @tnum_na (cntS s 9) (Nod.mk (cntV s 9) n.na n.nb n.nk n.ns n.np n.no n.za n.zb n.w n.b n.qm n.qs n.qz n.rm n.rs n.rz n.lo n.hi) (1024) (by (repeat first | exact h | apply cnt_in | apply sml_in | apply lst_in | apply scl_in)) (by omega) (by omega)
 have oz6 := @of_2 (cntV s 9) hk
 have oz7 := @tsides_2 (cntS (cntS s 9) 1024) (Nod.mk (cntV s 9) (cntV (cntS s 9) 1024) n.nb n.nk n.ns n.np n.no n.za n.zb n.w n.b n.qm n.qs n.qz n.rm n.rs n.rz n.lo n.hi) (by (repeat first | exact h | apply cnt_in | apply sml_in | apply lst_in | apply scl_in)) hk
 have oz8:=z1_
 have oz9 := @tone_za (cntS (cntS (cntS (cntS (cntS s 9) 1024) 1024) 1024) 1024) (Nod.mk (cntV s 9) (cntV (cntS s 9) 1024) n.nb (cntV (cntS (cntS s 9) 1024) 1024) (cntV (cntS (cntS (cntS s 9) 1024) 1024) 1024) (cntV (cntS (cntS (cntS (cntS s 9) 1024) 1024) 1024) 1024) n.no n.za n.zb n.w n.b n.qm n.qs n.qz n.rm n.rs n.rz n.lo n.hi) (by (repeat first | exact h | apply cnt_in | apply sml_in | apply lst_in | apply scl_in)) z1
 have oz10:=z0_
 have oz12 := @tlists_v (smlS (cntS (cntS (cntS (cntS (cntS s 9) 1024) 1024) 1024) 1024) 1) (Nod.mk (cntV s 9) (cntV (cntS s 9) 1024) n.nb (cntV (cntS (cntS s 9) 1024) 1024) (cntV (cntS (cntS (cntS s 9) 1024) 1024) 1024) (cntV (cntS (cntS (cntS (cntS s 9) 1024) 1024) 1024) 1024) n.no (oneV (cntS (cntS (cntS (cntS (cntS s 9) 1024) 1024) 1024) 1024)) n.zb n.w n.b n.qm n.qs n.qz n.rm n.rs n.rz n.lo n.hi) (by (repeat first | exact h | apply cnt_in | apply sml_in | apply lst_in | apply scl_in))
 have oz14 := @tscale_qv (lstS (smlS (cntS (cntS (cntS (cntS (cntS s 9) 1024) 1024) 1024) 1024) 1)) (Nod.mk (cntV s 9) (cntV (cntS s 9) 1024) n.nb (cntV (cntS (cntS s 9) 1024) 1024) (cntV (cntS (cntS (cntS s 9) 1024) 1024) 1024) (cntV (cntS (cntS (cntS (cntS s 9) 1024) 1024) 1024) 1024) n.no (oneV (cntS (cntS (cntS (cntS (cntS s 9) 1024) 1024) 1024) 1024)) n.zb (lstW (smlS (cntS (cntS (cntS (cntS (cntS s 9) 1024) 1024) 1024) 1024) 1)) (lstB (smlS (cntS (cntS (cntS (cntS (cntS s 9) 1024) 1024) 1024) 1024) 1)) n.qm n.qs n.qz n.rm n.rs n.rz n.lo n.hi) (by (repeat first | exact h | apply cnt_in | apply sml_in | apply lst_in | apply scl_in))
 have oz15 := @tone_qz (sclS (lstS (smlS (cntS (cntS (cntS (cntS (cntS s 9) 1024) 1024) 1024) 1024) 1))) (Nod.mk (cntV s 9) (cntV (cntS s 9) 1024) n.nb (cntV (cntS (cntS s 9) 1024) 1024) (cntV (cntS (cntS (cntS s 9) 1024) 1024) 1024) (cntV (cntS (cntS (cntS (cntS s 9) 1024) 1024) 1024) 1024) n.no (oneV (cntS (cntS (cntS (cntS (cntS s 9) 1024) 1024) 1024) 1024)) n.zb (lstW (smlS (cntS (cntS (cntS (cntS (cntS s 9) 1024) 1024) 1024) 1024) 1)) (lstB (smlS (cntS (cntS (cntS (cntS (cntS s 9) 1024) 1024) 1024) 1024) 1)) (sclM (lstS (smlS (cntS (cntS (cntS (cntS (cntS s 9) 1024) 1024) 1024) 1024) 1))) (sclH (lstS (smlS (cntS (cntS (cntS (cntS (cntS s 9) 1024) 1024) 1024) 1024) 1))) n.qz n.rm n.rs n.rz n.lo n.hi) (by (repeat first | exact h | apply cnt_in | apply sml_in | apply lst_in | apply scl_in)) z3
 have oz17 := @tone_lo (smlS (sclS (lstS (smlS (cntS (cntS (cntS (cntS (cntS s 9) 1024) 1024) 1024) 1024) 1))) 1) (Nod.mk (cntV s 9) (cntV (cntS s 9) 1024) n.nb (cntV (cntS (cntS s 9) 1024) 1024) (cntV (cntS (cntS (cntS s 9) 1024) 1024) 1024) (cntV (cntS (cntS (cntS (cntS s 9) 1024) 1024) 1024) 1024) n.no (oneV (cntS (cntS (cntS (cntS (cntS s 9) 1024) 1024) 1024) 1024)) n.zb (lstW (smlS (cntS (cntS (cntS (cntS (cntS s 9) 1024) 1024) 1024) 1024) 1)) (lstB (smlS (cntS (cntS (cntS (cntS (cntS s 9) 1024) 1024) 1024) 1024) 1)) (sclM (lstS (smlS (cntS (cntS (cntS (cntS (cntS s 9) 1024) 1024) 1024) 1024) 1))) (sclH (lstS (smlS (cntS (cntS (cntS (cntS (cntS s 9) 1024) 1024) 1024) 1024) 1))) (oneV (sclS (lstS (smlS (cntS (cntS (cntS (cntS (cntS s 9) 1024) 1024) 1024) 1024) 1)))) n.rm n.rs n.rz n.lo n.hi) (by (repeat first | exact h | apply cnt_in | apply sml_in | apply lst_in | apply scl_in)) z4
 have oz18 := @tone_hi (smlS (smlS (sclS (lstS (smlS (cntS (cntS (cntS (cntS (cntS s 9) 1024) 1024) 1024) 1024) 1))) 1) 1) (Nod.mk (cntV s 9) (cntV (cntS s 9) 1024) n.nb (cntV (cntS (cntS s 9) 1024) 1024) (cntV (cntS (cntS (cntS s 9) 1024) 1024) 1024) (cntV (cntS (cntS (cntS (cntS s 9) 1024) 1024) 1024) 1024) n.no (oneV (cntS (cntS (cntS (cntS (cntS s 9) 1024) 1024) 1024) 1024)) n.zb (lstW (smlS (cntS (cntS (cntS (cntS (cntS s 9) 1024) 1024) 1024) 1024) 1)) (lstB (smlS (cntS (cntS (cntS (cntS (cntS s 9) 1024) 1024) 1024) 1024) 1)) (sclM (lstS (smlS (cntS (cntS (cntS (cntS (cntS s 9) 1024) 1024) 1024) 1024) 1))) (sclH (lstS (smlS (cntS (cntS (cntS (cntS (cntS s 9) 1024) 1024) 1024) 1024) 1))) (oneV (sclS (lstS (smlS (cntS (cntS (cntS (cntS (cntS s 9) 1024) 1024) 1024) 1024) 1)))) n.rm n.rs n.rz (oneV (smlS (sclS (lstS (smlS (cntS (cntS (cntS (cntS (cntS s 9) 1024) 1024) 1024) 1024) 1))) 1)) n.hi) (by (repeat first | exact h | apply cnt_in | apply sml_in | apply lst_in | apply scl_in)) z5
 exact VM.run (fn:=Try.f105) (W:=[.r [] [cn oz1],.r [] [cn oz4],.r [] [.callr (rO oz6)],.r [] [cn oz7],.r [] [],.br true,.r [] [cn oz9],.r [] [],.br false,.r [] [],.br true,.r [] [cn oz12],.r [] [],.br false,.r [] [cn oz14],.r [] [cn oz15],.r [] [],.br false,.r [] [cn oz17],.r [] [cn oz18]]) (G:=[.drop [4],.sort]) Try.func105 (by kernel_rfl) (.c oz0<|.c oz1<|.c oz2<|.c oz0<|.c oz4<|.c oz2<|.c oz6<|.c oz7<|.c oz8<|.c oz9<|.c oz10<|.c oz8<|.c oz12<|.c oz10<|.c oz14<|.c oz15<|.c oz10<|.c oz17<|.c oz18<|.n)
theorem twalk_2v (s:Rst) (n:Nod) (h:s.In) (hk:cntV s 9=2) (z1:n.za=0) (z2:n.zb=0) (z3:n.qz=0) (z4:n.lo=0) (z5:n.hi=0):VM Try.prog 105 [.ifc 169 (.agg [.ptr 100000 0 0]),.ptr 100001 0 0] [(100000,.var (rdC s)),(100001,.var (nodC n))] (.tup []) [(100000,.var (rdC (ts_2 s))),(100001,.var (nodC (tn_2 s n)))]:=twalk_2 s n h hk z1 z2 z3 z4 z5
def ts_3 (s:Rst):Rst:=(smlS (smlS (smlS (sclS (lstS (smlS (cntS (cntS (cntS s 9) 1024) 1024) 1))) 1) 1) 1)
def tn_3 (s:Rst) (n:Nod):Nod:={ n with kd:=cntV s 9,na:=cntV (cntS s 9) 1024,no:=cntV (cntS (cntS s 9) 1024) 1024,za:=oneV (cntS (cntS (cntS s 9) 1024) 1024),w:=lstW (smlS (cntS (cntS (cntS s 9) 1024) 1024) 1),b:=lstB (smlS (cntS (cntS (cntS s 9) 1024) 1024) 1),qm:=sclM (lstS (smlS (cntS (cntS (cntS s 9) 1024) 1024) 1)),qs:=sclH (lstS (smlS (cntS (cntS (cntS s 9) 1024) 1024) 1)),qz:=oneV (sclS (lstS (smlS (cntS (cntS (cntS s 9) 1024) 1024) 1))),lo:=oneV (smlS (sclS (lstS (smlS (cntS (cntS (cntS s 9) 1024) 1024) 1))) 1),hi:=oneV (smlS (smlS (sclS (lstS (smlS (cntS (cntS (cntS s 9) 1024) 1024) 1))) 1) 1) }
theorem twalk_3 (s:Rst) (n:Nod) (h:s.In) (hk:cntV s 9=3) (z1:n.za=0) (z2:n.zb=0) (z3:n.qz=0) (z4:n.lo=0) (z5:n.hi=0):VM Try.prog 105 ([.ifc 169 (.agg [.ptr 100000 0 0]),.ptr 100001 0 0]) ([(100000,.var (rdC s)),(100001,.var (nodC n))]) (.tup []) ([(100000,.var (rdC (smlS (smlS (smlS (sclS (lstS (smlS (cntS (cntS (cntS s 9) 1024) 1024) 1))) 1) 1) 1))),(100001,.var (nodC { n with kd:=cntV s 9,na:=cntV (cntS s 9) 1024,no:=cntV (cntS (cntS s 9) 1024) 1024,za:=oneV (cntS (cntS (cntS s 9) 1024) 1024),w:=lstW (smlS (cntS (cntS (cntS s 9) 1024) 1024) 1),b:=lstB (smlS (cntS (cntS (cntS s 9) 1024) 1024) 1),qm:=sclM (lstS (smlS (cntS (cntS (cntS s 9) 1024) 1024) 1)),qs:=sclH (lstS (smlS (cntS (cntS (cntS s 9) 1024) 1024) 1)),qz:=oneV (sclS (lstS (smlS (cntS (cntS (cntS s 9) 1024) 1024) 1))),lo:=oneV (smlS (sclS (lstS (smlS (cntS (cntS (cntS s 9) 1024) 1024) 1))) 1),hi:=oneV (smlS (smlS (sclS (lstS (smlS (cntS (cntS (cntS s 9) 1024) 1024) 1))) 1) 1) }))]):=by
 have oz0:=(show NilNo Try.prog (169:Nat) "stepwell/pack.number" from (nilNo (f:=119) (by kernel_rfl)))
 have oz1 := @tnum_kd (s) (n) (9) h (by omega) (by omega)
 have oz2:=(show MethodIs Try.prog (169:Nat) "stepwell/pack.number" (methF Try.prog (169:Nat) "stepwell/pack.number") from (methodIs (by kernel_rfl)))
 have oz4 := @tnum_na (cntS s 9) (Nod.mk (cntV s 9) n.na n.nb n.nk n.ns n.np n.no n.za n.zb n.w n.b n.qm n.qs n.qz n.rm n.rs n.rz n.lo n.hi) (1024) (by (repeat first | exact h | apply cnt_in | apply sml_in | apply lst_in | apply scl_in)) (by omega) (by omega)
 have oz6 := @of_3 (cntV s 9) hk
 have oz7 := @tsides_3 (cntS (cntS s 9) 1024) (Nod.mk (cntV s 9) (cntV (cntS s 9) 1024) n.nb n.nk n.ns n.np n.no n.za n.zb n.w n.b n.qm n.qs n.qz n.rm n.rs n.rz n.lo n.hi) (by (repeat first | exact h | apply cnt_in | apply sml_in | apply lst_in | apply scl_in)) hk
 have oz8:=z1_
 have oz9 := @tone_za (cntS (cntS (cntS s 9) 1024) 1024) (Nod.mk (cntV s 9) (cntV (cntS s 9) 1024) n.nb n.nk n.ns n.np (cntV (cntS (cntS s 9) 1024) 1024) n.za n.zb n.w n.b n.qm n.qs n.qz n.rm n.rs n.rz n.lo n.hi) (by (repeat first | exact h | apply cnt_in | apply sml_in | apply lst_in | apply scl_in)) z1
 have oz10:=z0_
 have oz12 := @tlists_v (smlS (cntS (cntS (cntS s 9) 1024) 1024) 1) (Nod.mk (cntV s 9) (cntV (cntS s 9) 1024) n.nb n.nk n.ns n.np (cntV (cntS (cntS s 9) 1024) 1024) (oneV (cntS (cntS (cntS s 9) 1024) 1024)) n.zb n.w n.b n.qm n.qs n.qz n.rm n.rs n.rz n.lo n.hi) (by (repeat first | exact h | apply cnt_in | apply sml_in | apply lst_in | apply scl_in))
 have oz14 := @tscale_qv (lstS (smlS (cntS (cntS (cntS s 9) 1024) 1024) 1)) (Nod.mk (cntV s 9) (cntV (cntS s 9) 1024) n.nb n.nk n.ns n.np (cntV (cntS (cntS s 9) 1024) 1024) (oneV (cntS (cntS (cntS s 9) 1024) 1024)) n.zb (lstW (smlS (cntS (cntS (cntS s 9) 1024) 1024) 1)) (lstB (smlS (cntS (cntS (cntS s 9) 1024) 1024) 1)) n.qm n.qs n.qz n.rm n.rs n.rz n.lo n.hi) (by (repeat first | exact h | apply cnt_in | apply sml_in | apply lst_in | apply scl_in))
 have oz15 := @tone_qz (sclS (lstS (smlS (cntS (cntS (cntS s 9) 1024) 1024) 1))) (Nod.mk (cntV s 9) (cntV (cntS s 9) 1024) n.nb n.nk n.ns n.np (cntV (cntS (cntS s 9) 1024) 1024) (oneV (cntS (cntS (cntS s 9) 1024) 1024)) n.zb (lstW (smlS (cntS (cntS (cntS s 9) 1024) 1024) 1)) (lstB (smlS (cntS (cntS (cntS s 9) 1024) 1024) 1)) (sclM (lstS (smlS (cntS (cntS (cntS s 9) 1024) 1024) 1))) (sclH (lstS (smlS (cntS (cntS (cntS s 9) 1024) 1024) 1))) n.qz n.rm n.rs n.rz n.lo n.hi) (by (repeat first | exact h | apply cnt_in | apply sml_in | apply lst_in | apply scl_in)) z3
 have oz17 := @tone_lo (smlS (sclS (lstS (smlS (cntS (cntS (cntS s 9) 1024) 1024) 1))) 1) (Nod.mk (cntV s 9) (cntV (cntS s 9) 1024) n.nb n.nk n.ns n.np (cntV (cntS (cntS s 9) 1024) 1024) (oneV (cntS (cntS (cntS s 9) 1024) 1024)) n.zb (lstW (smlS (cntS (cntS (cntS s 9) 1024) 1024) 1)) (lstB (smlS (cntS (cntS (cntS s 9) 1024) 1024) 1)) (sclM (lstS (smlS (cntS (cntS (cntS s 9) 1024) 1024) 1))) (sclH (lstS (smlS (cntS (cntS (cntS s 9) 1024) 1024) 1))) (oneV (sclS (lstS (smlS (cntS (cntS (cntS s 9) 1024) 1024) 1)))) n.rm n.rs n.rz n.lo n.hi) (by (repeat first | exact h | apply cnt_in | apply sml_in | apply lst_in | apply scl_in)) z4
 have oz18 := @tone_hi (smlS (smlS (sclS (lstS (smlS (cntS (cntS (cntS s 9) 1024) 1024) 1))) 1) 1) (Nod.mk (cntV s 9) (cntV (cntS s 9) 1024) n.nb n.nk n.ns n.np (cntV (cntS (cntS s 9) 1024) 1024) (oneV (cntS (cntS (cntS s 9) 1024) 1024)) n.zb (lstW (smlS (cntS (cntS (cntS s 9) 1024) 1024) 1)) (lstB (smlS (cntS (cntS (cntS s 9) 1024) 1024) 1)) (sclM (lstS (smlS (cntS (cntS (cntS s 9) 1024) 1024) 1))) (sclH (lstS (smlS (cntS (cntS (cntS s 9) 1024) 1024) 1))) (oneV (sclS (lstS (smlS (cntS (cntS (cntS s 9) 1024) 1024) 1)))) n.rm n.rs n.rz (oneV (smlS (sclS (lstS (smlS (cntS (cntS (cntS s 9) 1024) 1024) 1))) 1)) n.hi) (by (repeat first | exact h | apply cnt_in | apply sml_in | apply lst_in | apply scl_in)) z5
 exact VM.run (fn:=Try.f105) (W:=[.r [] [cn oz1],.r [] [cn oz4],.r [] [.callr (rO oz6)],.r [] [cn oz7],.r [] [],.br true,.r [] [cn oz9],.r [] [],.br false,.r [] [],.br true,.r [] [cn oz12],.r [] [],.br false,.r [] [cn oz14],.r [] [cn oz15],.r [] [],.br false,.r [] [cn oz17],.r [] [cn oz18]]) (G:=[.drop [4],.sort]) Try.func105 (by kernel_rfl) (.c oz0<|.c oz1<|.c oz2<|.c oz0<|.c oz4<|.c oz2<|.c oz6<|.c oz7<|.c oz8<|.c oz9<|.c oz10<|.c oz8<|.c oz12<|.c oz10<|.c oz14<|.c oz15<|.c oz10<|.c oz17<|.c oz18<|.n)
theorem twalk_3v (s:Rst) (n:Nod) (h:s.In) (hk:cntV s 9=3) (z1:n.za=0) (z2:n.zb=0) (z3:n.qz=0) (z4:n.lo=0) (z5:n.hi=0):VM Try.prog 105 [.ifc 169 (.agg [.ptr 100000 0 0]),.ptr 100001 0 0] [(100000,.var (rdC s)),(100001,.var (nodC n))] (.tup []) [(100000,.var (rdC (ts_3 s))),(100001,.var (nodC (tn_3 s n)))]:=twalk_3 s n h hk z1 z2 z3 z4 z5
def ts_4 (s:Rst):Rst:=(cntS (cntS (cntS (cntS (cntS s 9) 1024) 1024) 1024) 1024)
def tn_4 (s:Rst) (n:Nod):Nod:={ n with kd:=cntV s 9,na:=cntV (cntS s 9) 1024,nk:=cntV (cntS (cntS s 9) 1024) 1024,ns:=cntV (cntS (cntS (cntS s 9) 1024) 1024) 1024,np:=cntV (cntS (cntS (cntS (cntS s 9) 1024) 1024) 1024) 1024 }
theorem twalk_4 (s:Rst) (n:Nod) (h:s.In) (hk:cntV s 9=4∨cntV s 9=5) (z1:n.za=0) (z2:n.zb=0) (z3:n.qz=0) (z4:n.lo=0) (z5:n.hi=0):VM Try.prog 105 ([.ifc 169 (.agg [.ptr 100000 0 0]),.ptr 100001 0 0]) ([(100000,.var (rdC s)),(100001,.var (nodC n))]) (.tup []) ([(100000,.var (rdC (cntS (cntS (cntS (cntS (cntS s 9) 1024) 1024) 1024) 1024))),(100001,.var (nodC { n with kd:=cntV s 9,na:=cntV (cntS s 9) 1024,nk:=cntV (cntS (cntS s 9) 1024) 1024,ns:=cntV (cntS (cntS (cntS s 9) 1024) 1024) 1024,np:=cntV (cntS (cntS (cntS (cntS s 9) 1024) 1024) 1024) 1024 }))]):=by
 have oz0:=(show NilNo Try.prog (169:Nat) "stepwell/pack.number" from (nilNo (f:=119) (by kernel_rfl)))
 have oz1 := @tnum_kd (s) (n) (9) h (by omega) (by omega)
 have oz2:=(show MethodIs Try.prog (169:Nat) "stepwell/pack.number" (methF Try.prog (169:Nat) "stepwell/pack.number") from (methodIs (by kernel_rfl)))
 have oz4 := @tnum_na (cntS s 9) (Nod.mk (cntV s 9) n.na n.nb n.nk n.ns n.np n.no n.za n.zb n.w n.b n.qm n.qs n.qz n.rm n.rs n.rz n.lo n.hi) (1024) (by (repeat first | exact h | apply cnt_in | apply sml_in | apply lst_in | apply scl_in)) (by omega) (by omega)
 have oz6 := @of_4 (cntV s 9) hk
 have oz7 := @tsides_4 (cntS (cntS s 9) 1024) (Nod.mk (cntV s 9) (cntV (cntS s 9) 1024) n.nb n.nk n.ns n.np n.no n.za n.zb n.w n.b n.qm n.qs n.qz n.rm n.rs n.rz n.lo n.hi) (by (repeat first | exact h | apply cnt_in | apply sml_in | apply lst_in | apply scl_in)) hk
 have oz8:=z0_
 exact VM.run (fn:=Try.f105) (W:=[.r [] [cn oz1],.r [] [cn oz4],.r [] [.callr (rO oz6)],.r [] [cn oz7],.r [] [],.br false,.r [] [],.br false,.r [] [],.br false,.r [] [],.br true]) (G:=[.drop [4],.sort]) Try.func105 (by kernel_rfl) (.c oz0<|.c oz1<|.c oz2<|.c oz0<|.c oz4<|.c oz2<|.c oz6<|.c oz7<|.c oz8<|.c oz8<|.c oz8<|.c z1_<|.n)
theorem twalk_4v (s:Rst) (n:Nod) (h:s.In) (hk:cntV s 9=4∨cntV s 9=5) (z1:n.za=0) (z2:n.zb=0) (z3:n.qz=0) (z4:n.lo=0) (z5:n.hi=0):VM Try.prog 105 [.ifc 169 (.agg [.ptr 100000 0 0]),.ptr 100001 0 0] [(100000,.var (rdC s)),(100001,.var (nodC n))] (.tup []) [(100000,.var (rdC (ts_4 s))),(100001,.var (nodC (tn_4 s n)))]:=twalk_4 s n h hk z1 z2 z3 z4 z5
def ts_6 (s:Rst):Rst:=(smlS (smlS (sclS (smlS (sclS (smlS (smlS (cntS (cntS (cntS s 9) 1024) 1024) 1) 1)) 1)) 1) 1)
def tn_6 (s:Rst) (n:Nod):Nod:={ n with kd:=cntV s 9,na:=cntV (cntS s 9) 1024,nb:=cntV (cntS (cntS s 9) 1024) 1024,za:=oneV (cntS (cntS (cntS s 9) 1024) 1024),zb:=oneV (smlS (cntS (cntS (cntS s 9) 1024) 1024) 1),qm:=sclM (smlS (smlS (cntS (cntS (cntS s 9) 1024) 1024) 1) 1),qs:=sclH (smlS (smlS (cntS (cntS (cntS s 9) 1024) 1024) 1) 1),qz:=oneV (sclS (smlS (smlS (cntS (cntS (cntS s 9) 1024) 1024) 1) 1)),rm:=sclM (smlS (sclS (smlS (smlS (cntS (cntS (cntS s 9) 1024) 1024) 1) 1)) 1),rs:=sclH (smlS (sclS (smlS (smlS (cntS (cntS (cntS s 9) 1024) 1024) 1) 1)) 1),lo:=oneV (sclS (smlS (sclS (smlS (smlS (cntS (cntS (cntS s 9) 1024) 1024) 1) 1)) 1)),hi:=oneV (smlS (sclS (smlS (sclS (smlS (smlS (cntS (cntS (cntS s 9) 1024) 1024) 1) 1)) 1)) 1) }
theorem twalk_6 (s:Rst) (n:Nod) (h:s.In) (hk:cntV s 9=6) (z1:n.za=0) (z2:n.zb=0) (z3:n.qz=0) (z4:n.lo=0) (z5:n.hi=0):VM Try.prog 105 ([.ifc 169 (.agg [.ptr 100000 0 0]),.ptr 100001 0 0]) ([(100000,.var (rdC s)),(100001,.var (nodC n))]) (.tup []) ([(100000,.var (rdC (smlS (smlS (sclS (smlS (sclS (smlS (smlS (cntS (cntS (cntS s 9) 1024) 1024) 1) 1)) 1)) 1) 1))),(100001,.var (nodC { n with kd:=cntV s 9,na:=cntV (cntS s 9) 1024,nb:=cntV (cntS (cntS s 9) 1024) 1024,za:=oneV (cntS (cntS (cntS s 9) 1024) 1024),zb:=oneV (smlS (cntS (cntS (cntS s 9) 1024) 1024) 1),qm:=sclM (smlS (smlS (cntS (cntS (cntS s 9) 1024) 1024) 1) 1),qs:=sclH (smlS (smlS (cntS (cntS (cntS s 9) 1024) 1024) 1) 1),qz:=oneV (sclS (smlS (smlS (cntS (cntS (cntS s 9) 1024) 1024) 1) 1)),rm:=sclM (smlS (sclS (smlS (smlS (cntS (cntS (cntS s 9) 1024) 1024) 1) 1)) 1),rs:=sclH (smlS (sclS (smlS (smlS (cntS (cntS (cntS s 9) 1024) 1024) 1) 1)) 1),lo:=oneV (sclS (smlS (sclS (smlS (smlS (cntS (cntS (cntS s 9) 1024) 1024) 1) 1)) 1)),hi:=oneV (smlS (sclS (smlS (sclS (smlS (smlS (cntS (cntS (cntS s 9) 1024) 1024) 1) 1)) 1)) 1) }))]):=by
 have oz0:=(show NilNo Try.prog (169:Nat) "stepwell/pack.number" from (nilNo (f:=119) (by kernel_rfl)))
 have oz1 := @tnum_kd (s) (n) (9) h (by omega) (by omega)
 have oz2:=(show MethodIs Try.prog (169:Nat) "stepwell/pack.number" (methF Try.prog (169:Nat) "stepwell/pack.number") from (methodIs (by kernel_rfl)))
 have oz4 := @tnum_na (cntS s 9) (Nod.mk (cntV s 9) n.na n.nb n.nk n.ns n.np n.no n.za n.zb n.w n.b n.qm n.qs n.qz n.rm n.rs n.rz n.lo n.hi) (1024) (by (repeat first | exact h | apply cnt_in | apply sml_in | apply lst_in | apply scl_in)) (by omega) (by omega)
 have oz6 := @of_6 (cntV s 9) hk
 have oz7 := @tsides_6 (cntS (cntS s 9) 1024) (Nod.mk (cntV s 9) (cntV (cntS s 9) 1024) n.nb n.nk n.ns n.np n.no n.za n.zb n.w n.b n.qm n.qs n.qz n.rm n.rs n.rz n.lo n.hi) (by (repeat first | exact h | apply cnt_in | apply sml_in | apply lst_in | apply scl_in)) hk
 have oz8:=z1_
 have oz9 := @tone_za (cntS (cntS (cntS s 9) 1024) 1024) (Nod.mk (cntV s 9) (cntV (cntS s 9) 1024) (cntV (cntS (cntS s 9) 1024) 1024) n.nk n.ns n.np n.no n.za n.zb n.w n.b n.qm n.qs n.qz n.rm n.rs n.rz n.lo n.hi) (by (repeat first | exact h | apply cnt_in | apply sml_in | apply lst_in | apply scl_in)) z1
 have oz11 := @tone_zb (smlS (cntS (cntS (cntS s 9) 1024) 1024) 1) (Nod.mk (cntV s 9) (cntV (cntS s 9) 1024) (cntV (cntS (cntS s 9) 1024) 1024) n.nk n.ns n.np n.no (oneV (cntS (cntS (cntS s 9) 1024) 1024)) n.zb n.w n.b n.qm n.qs n.qz n.rm n.rs n.rz n.lo n.hi) (by (repeat first | exact h | apply cnt_in | apply sml_in | apply lst_in | apply scl_in)) z2
 have oz12:=z0_
 have oz14 := @tscale_qv (smlS (smlS (cntS (cntS (cntS s 9) 1024) 1024) 1) 1) (Nod.mk (cntV s 9) (cntV (cntS s 9) 1024) (cntV (cntS (cntS s 9) 1024) 1024) n.nk n.ns n.np n.no (oneV (cntS (cntS (cntS s 9) 1024) 1024)) (oneV (smlS (cntS (cntS (cntS s 9) 1024) 1024) 1)) n.w n.b n.qm n.qs n.qz n.rm n.rs n.rz n.lo n.hi) (by (repeat first | exact h | apply cnt_in | apply sml_in | apply lst_in | apply scl_in))
 have oz15 := @tone_qz (sclS (smlS (smlS (cntS (cntS (cntS s 9) 1024) 1024) 1) 1)) (Nod.mk (cntV s 9) (cntV (cntS s 9) 1024) (cntV (cntS (cntS s 9) 1024) 1024) n.nk n.ns n.np n.no (oneV (cntS (cntS (cntS s 9) 1024) 1024)) (oneV (smlS (cntS (cntS (cntS s 9) 1024) 1024) 1)) n.w n.b (sclM (smlS (smlS (cntS (cntS (cntS s 9) 1024) 1024) 1) 1)) (sclH (smlS (smlS (cntS (cntS (cntS s 9) 1024) 1024) 1) 1)) n.qz n.rm n.rs n.rz n.lo n.hi) (by (repeat first | exact h | apply cnt_in | apply sml_in | apply lst_in | apply scl_in)) z3
 have oz17 := @tscale_rv (smlS (sclS (smlS (smlS (cntS (cntS (cntS s 9) 1024) 1024) 1) 1)) 1) (Nod.mk (cntV s 9) (cntV (cntS s 9) 1024) (cntV (cntS (cntS s 9) 1024) 1024) n.nk n.ns n.np n.no (oneV (cntS (cntS (cntS s 9) 1024) 1024)) (oneV (smlS (cntS (cntS (cntS s 9) 1024) 1024) 1)) n.w n.b (sclM (smlS (smlS (cntS (cntS (cntS s 9) 1024) 1024) 1) 1)) (sclH (smlS (smlS (cntS (cntS (cntS s 9) 1024) 1024) 1) 1)) (oneV (sclS (smlS (smlS (cntS (cntS (cntS s 9) 1024) 1024) 1) 1))) n.rm n.rs n.rz n.lo n.hi) (by (repeat first | exact h | apply cnt_in | apply sml_in | apply lst_in | apply scl_in))
 have oz18 := @tone_lo (sclS (smlS (sclS (smlS (smlS (cntS (cntS (cntS s 9) 1024) 1024) 1) 1)) 1)) (Nod.mk (cntV s 9) (cntV (cntS s 9) 1024) (cntV (cntS (cntS s 9) 1024) 1024) n.nk n.ns n.np n.no (oneV (cntS (cntS (cntS s 9) 1024) 1024)) (oneV (smlS (cntS (cntS (cntS s 9) 1024) 1024) 1)) n.w n.b (sclM (smlS (smlS (cntS (cntS (cntS s 9) 1024) 1024) 1) 1)) (sclH (smlS (smlS (cntS (cntS (cntS s 9) 1024) 1024) 1) 1)) (oneV (sclS (smlS (smlS (cntS (cntS (cntS s 9) 1024) 1024) 1) 1))) (sclM (smlS (sclS (smlS (smlS (cntS (cntS (cntS s 9) 1024) 1024) 1) 1)) 1)) (sclH (smlS (sclS (smlS (smlS (cntS (cntS (cntS s 9) 1024) 1024) 1) 1)) 1)) n.rz n.lo n.hi) (by (repeat first | exact h | apply cnt_in | apply sml_in | apply lst_in | apply scl_in)) z4
 have oz19 := @tone_hi (smlS (sclS (smlS (sclS (smlS (smlS (cntS (cntS (cntS s 9) 1024) 1024) 1) 1)) 1)) 1) (Nod.mk (cntV s 9) (cntV (cntS s 9) 1024) (cntV (cntS (cntS s 9) 1024) 1024) n.nk n.ns n.np n.no (oneV (cntS (cntS (cntS s 9) 1024) 1024)) (oneV (smlS (cntS (cntS (cntS s 9) 1024) 1024) 1)) n.w n.b (sclM (smlS (smlS (cntS (cntS (cntS s 9) 1024) 1024) 1) 1)) (sclH (smlS (smlS (cntS (cntS (cntS s 9) 1024) 1024) 1) 1)) (oneV (sclS (smlS (smlS (cntS (cntS (cntS s 9) 1024) 1024) 1) 1))) (sclM (smlS (sclS (smlS (smlS (cntS (cntS (cntS s 9) 1024) 1024) 1) 1)) 1)) (sclH (smlS (sclS (smlS (smlS (cntS (cntS (cntS s 9) 1024) 1024) 1) 1)) 1)) n.rz (oneV (sclS (smlS (sclS (smlS (smlS (cntS (cntS (cntS s 9) 1024) 1024) 1) 1)) 1))) n.hi) (by (repeat first | exact h | apply cnt_in | apply sml_in | apply lst_in | apply scl_in)) z5
 exact VM.run (fn:=Try.f105) (W:=[.r [] [cn oz1],.r [] [cn oz4],.r [] [.callr (rO oz6)],.r [] [cn oz7],.r [] [],.br true,.r [] [cn oz9],.r [] [],.br true,.r [] [cn oz11],.r [] [],.br false,.r [] [],.br false,.r [] [cn oz14],.r [] [cn oz15],.r [] [],.br true,.r [] [cn oz17],.r [] [cn oz18],.r [] [cn oz19]]) (G:=[.drop [4],.sort]) Try.func105 (by kernel_rfl) (.c oz0<|.c oz1<|.c oz2<|.c oz0<|.c oz4<|.c oz2<|.c oz6<|.c oz7<|.c oz8<|.c oz9<|.c oz8<|.c oz11<|.c oz12<|.c oz12<|.c oz14<|.c oz15<|.c oz8<|.c oz17<|.c oz18<|.c oz19<|.n)
theorem twalk_6v (s:Rst) (n:Nod) (h:s.In) (hk:cntV s 9=6) (z1:n.za=0) (z2:n.zb=0) (z3:n.qz=0) (z4:n.lo=0) (z5:n.hi=0):VM Try.prog 105 [.ifc 169 (.agg [.ptr 100000 0 0]),.ptr 100001 0 0] [(100000,.var (rdC s)),(100001,.var (nodC n))] (.tup []) [(100000,.var (rdC (ts_6 s))),(100001,.var (nodC (tn_6 s n)))]:=twalk_6 s n h hk z1 z2 z3 z4 z5
def ts_7 (s:Rst):Rst:=(smlS (smlS (smlS (sclS (smlS (cntS (cntS s 9) 1024) 1)) 1) 1) 1)
def tn_7 (s:Rst) (n:Nod):Nod:={ n with kd:=cntV s 9,na:=cntV (cntS s 9) 1024,za:=oneV (cntS (cntS s 9) 1024),qm:=sclM (smlS (cntS (cntS s 9) 1024) 1),qs:=sclH (smlS (cntS (cntS s 9) 1024) 1),qz:=oneV (sclS (smlS (cntS (cntS s 9) 1024) 1)),lo:=oneV (smlS (sclS (smlS (cntS (cntS s 9) 1024) 1)) 1),hi:=oneV (smlS (smlS (sclS (smlS (cntS (cntS s 9) 1024) 1)) 1) 1) }
theorem twalk_7 (s:Rst) (n:Nod) (h:s.In) (hk:cntV s 9=7) (z1:n.za=0) (z2:n.zb=0) (z3:n.qz=0) (z4:n.lo=0) (z5:n.hi=0):VM Try.prog 105 ([.ifc 169 (.agg [.ptr 100000 0 0]),.ptr 100001 0 0]) ([(100000,.var (rdC s)),(100001,.var (nodC n))]) (.tup []) ([(100000,.var (rdC (smlS (smlS (smlS (sclS (smlS (cntS (cntS s 9) 1024) 1)) 1) 1) 1))),(100001,.var (nodC { n with kd:=cntV s 9,na:=cntV (cntS s 9) 1024,za:=oneV (cntS (cntS s 9) 1024),qm:=sclM (smlS (cntS (cntS s 9) 1024) 1),qs:=sclH (smlS (cntS (cntS s 9) 1024) 1),qz:=oneV (sclS (smlS (cntS (cntS s 9) 1024) 1)),lo:=oneV (smlS (sclS (smlS (cntS (cntS s 9) 1024) 1)) 1),hi:=oneV (smlS (smlS (sclS (smlS (cntS (cntS s 9) 1024) 1)) 1) 1) }))]):=by
 have oz0:=(show NilNo Try.prog (169:Nat) "stepwell/pack.number" from (nilNo (f:=119) (by kernel_rfl)))
 have oz1 := @tnum_kd (s) (n) (9) h (by omega) (by omega)
 have oz2:=(show MethodIs Try.prog (169:Nat) "stepwell/pack.number" (methF Try.prog (169:Nat) "stepwell/pack.number") from (methodIs (by kernel_rfl)))
 have oz4 := @tnum_na (cntS s 9) (Nod.mk (cntV s 9) n.na n.nb n.nk n.ns n.np n.no n.za n.zb n.w n.b n.qm n.qs n.qz n.rm n.rs n.rz n.lo n.hi) (1024) (by (repeat first | exact h | apply cnt_in | apply sml_in | apply lst_in | apply scl_in)) (by omega) (by omega)
 have oz6 := @of_7 (cntV s 9) hk
 have oz7 := @tsides_7 (cntS (cntS s 9) 1024) (Nod.mk (cntV s 9) (cntV (cntS s 9) 1024) n.nb n.nk n.ns n.np n.no n.za n.zb n.w n.b n.qm n.qs n.qz n.rm n.rs n.rz n.lo n.hi) (by (repeat first | exact h | apply cnt_in | apply sml_in | apply lst_in | apply scl_in)) hk
 have oz9 := @tone_za (cntS (cntS s 9) 1024) (Nod.mk (cntV s 9) (cntV (cntS s 9) 1024) n.nb n.nk n.ns n.np n.no n.za n.zb n.w n.b n.qm n.qs n.qz n.rm n.rs n.rz n.lo n.hi) (by (repeat first | exact h | apply cnt_in | apply sml_in | apply lst_in | apply scl_in)) z1
 have oz10:=z0_
 have oz13 := @tscale_qv (smlS (cntS (cntS s 9) 1024) 1) (Nod.mk (cntV s 9) (cntV (cntS s 9) 1024) n.nb n.nk n.ns n.np n.no (oneV (cntS (cntS s 9) 1024)) n.zb n.w n.b n.qm n.qs n.qz n.rm n.rs n.rz n.lo n.hi) (by (repeat first | exact h | apply cnt_in | apply sml_in | apply lst_in | apply scl_in))
 have oz14 := @tone_qz (sclS (smlS (cntS (cntS s 9) 1024) 1)) (Nod.mk (cntV s 9) (cntV (cntS s 9) 1024) n.nb n.nk n.ns n.np n.no (oneV (cntS (cntS s 9) 1024)) n.zb n.w n.b (sclM (smlS (cntS (cntS s 9) 1024) 1)) (sclH (smlS (cntS (cntS s 9) 1024) 1)) n.qz n.rm n.rs n.rz n.lo n.hi) (by (repeat first | exact h | apply cnt_in | apply sml_in | apply lst_in | apply scl_in)) z3
 have oz16 := @tone_lo (smlS (sclS (smlS (cntS (cntS s 9) 1024) 1)) 1) (Nod.mk (cntV s 9) (cntV (cntS s 9) 1024) n.nb n.nk n.ns n.np n.no (oneV (cntS (cntS s 9) 1024)) n.zb n.w n.b (sclM (smlS (cntS (cntS s 9) 1024) 1)) (sclH (smlS (cntS (cntS s 9) 1024) 1)) (oneV (sclS (smlS (cntS (cntS s 9) 1024) 1))) n.rm n.rs n.rz n.lo n.hi) (by (repeat first | exact h | apply cnt_in | apply sml_in | apply lst_in | apply scl_in)) z4
 have oz17 := @tone_hi (smlS (smlS (sclS (smlS (cntS (cntS s 9) 1024) 1)) 1) 1) (Nod.mk (cntV s 9) (cntV (cntS s 9) 1024) n.nb n.nk n.ns n.np n.no (oneV (cntS (cntS s 9) 1024)) n.zb n.w n.b (sclM (smlS (cntS (cntS s 9) 1024) 1)) (sclH (smlS (cntS (cntS s 9) 1024) 1)) (oneV (sclS (smlS (cntS (cntS s 9) 1024) 1))) n.rm n.rs n.rz (oneV (smlS (sclS (smlS (cntS (cntS s 9) 1024) 1)) 1)) n.hi) (by (repeat first | exact h | apply cnt_in | apply sml_in | apply lst_in | apply scl_in)) z5
 exact VM.run (fn:=Try.f105) (W:=[.r [] [cn oz1],.r [] [cn oz4],.r [] [.callr (rO oz6)],.r [] [cn oz7],.r [] [],.br true,.r [] [cn oz9],.r [] [],.br false,.r [] [],.br false,.r [] [],.br false,.r [] [cn oz13],.r [] [cn oz14],.r [] [],.br false,.r [] [cn oz16],.r [] [cn oz17]]) (G:=[.drop [4],.sort]) Try.func105 (by kernel_rfl) (.c oz0<|.c oz1<|.c oz2<|.c oz0<|.c oz4<|.c oz2<|.c oz6<|.c oz7<|.c z1_<|.c oz9<|.c oz10<|.c oz10<|.c oz10<|.c oz13<|.c oz14<|.c oz10<|.c oz16<|.c oz17<|.n)
theorem twalk_7v (s:Rst) (n:Nod) (h:s.In) (hk:cntV s 9=7) (z1:n.za=0) (z2:n.zb=0) (z3:n.qz=0) (z4:n.lo=0) (z5:n.hi=0):VM Try.prog 105 [.ifc 169 (.agg [.ptr 100000 0 0]),.ptr 100001 0 0] [(100000,.var (rdC s)),(100001,.var (nodC n))] (.tup []) [(100000,.var (rdC (ts_7 s))),(100001,.var (nodC (tn_7 s n)))]:=twalk_7 s n h hk z1 z2 z3 z4 z5
def ts_8 (s:Rst):Rst:=(smlS (cntS (cntS (cntS s 9) 1024) 1024) 1)
def tn_8 (s:Rst) (n:Nod):Nod:={ n with kd:=cntV s 9,na:=cntV (cntS s 9) 1024,np:=cntV (cntS (cntS s 9) 1024) 1024,za:=oneV (cntS (cntS (cntS s 9) 1024) 1024) }
theorem twalk_8 (s:Rst) (n:Nod) (h:s.In) (hk:cntV s 9=8) (z1:n.za=0) (z2:n.zb=0) (z3:n.qz=0) (z4:n.lo=0) (z5:n.hi=0):VM Try.prog 105 ([.ifc 169 (.agg [.ptr 100000 0 0]),.ptr 100001 0 0]) ([(100000,.var (rdC s)),(100001,.var (nodC n))]) (.tup []) ([(100000,.var (rdC (smlS (cntS (cntS (cntS s 9) 1024) 1024) 1))),(100001,.var (nodC { n with kd:=cntV s 9,na:=cntV (cntS s 9) 1024,np:=cntV (cntS (cntS s 9) 1024) 1024,za:=oneV (cntS (cntS (cntS s 9) 1024) 1024) }))]):=by
 have oz0:=(show NilNo Try.prog (169:Nat) "stepwell/pack.number" from (nilNo (f:=119) (by kernel_rfl)))
 have oz1 := @tnum_kd (s) (n) (9) h (by omega) (by omega)
 have oz2:=(show MethodIs Try.prog (169:Nat) "stepwell/pack.number" (methF Try.prog (169:Nat) "stepwell/pack.number") from (methodIs (by kernel_rfl)))
 have oz4 := @tnum_na (cntS s 9) (Nod.mk (cntV s 9) n.na n.nb n.nk n.ns n.np n.no n.za n.zb n.w n.b n.qm n.qs n.qz n.rm n.rs n.rz n.lo n.hi) (1024) (by (repeat first | exact h | apply cnt_in | apply sml_in | apply lst_in | apply scl_in)) (by omega) (by omega)
 have oz6 := @of_8 (cntV s 9) hk
 have oz7 := @tsides_8 (cntS (cntS s 9) 1024) (Nod.mk (cntV s 9) (cntV (cntS s 9) 1024) n.nb n.nk n.ns n.np n.no n.za n.zb n.w n.b n.qm n.qs n.qz n.rm n.rs n.rz n.lo n.hi) (by (repeat first | exact h | apply cnt_in | apply sml_in | apply lst_in | apply scl_in)) hk
 have oz8:=z1_
 have oz9 := @tone_za (cntS (cntS (cntS s 9) 1024) 1024) (Nod.mk (cntV s 9) (cntV (cntS s 9) 1024) n.nb n.nk n.ns (cntV (cntS (cntS s 9) 1024) 1024) n.no n.za n.zb n.w n.b n.qm n.qs n.qz n.rm n.rs n.rz n.lo n.hi) (by (repeat first | exact h | apply cnt_in | apply sml_in | apply lst_in | apply scl_in)) z1
 have oz10:=z0_
 exact VM.run (fn:=Try.f105) (W:=[.r [] [cn oz1],.r [] [cn oz4],.r [] [.callr (rO oz6)],.r [] [cn oz7],.r [] [],.br true,.r [] [cn oz9],.r [] [],.br false,.r [] [],.br false,.r [] [],.br true]) (G:=[.drop [4],.sort]) Try.func105 (by kernel_rfl) (.c oz0<|.c oz1<|.c oz2<|.c oz0<|.c oz4<|.c oz2<|.c oz6<|.c oz7<|.c oz8<|.c oz9<|.c oz10<|.c oz10<|.c oz8<|.n)
theorem twalk_8v (s:Rst) (n:Nod) (h:s.In) (hk:cntV s 9=8) (z1:n.za=0) (z2:n.zb=0) (z3:n.qz=0) (z4:n.lo=0) (z5:n.hi=0):VM Try.prog 105 [.ifc 169 (.agg [.ptr 100000 0 0]),.ptr 100001 0 0] [(100000,.var (rdC s)),(100001,.var (nodC n))] (.tup []) [(100000,.var (rdC (ts_8 s))),(100001,.var (nodC (tn_8 s n)))]:=twalk_8 s n h hk z1 z2 z3 z4 z5
def ts_9 (s:Rst):Rst:=(cntS (cntS s 9) 1024)
def tn_9 (s:Rst) (n:Nod):Nod:={ n with kd:=cntV s 9,na:=cntV (cntS s 9) 1024 }
theorem twalk_9 (s:Rst) (n:Nod) (h:s.In) (hk:cntV s 9<1∨8<cntV s 9) (z1:n.za=0) (z2:n.zb=0) (z3:n.qz=0) (z4:n.lo=0) (z5:n.hi=0):VM Try.prog 105 ([.ifc 169 (.agg [.ptr 100000 0 0]),.ptr 100001 0 0]) ([(100000,.var (rdC s)),(100001,.var (nodC n))]) (.tup []) ([(100000,.var (rdC (cntS (cntS s 9) 1024))),(100001,.var (nodC { n with kd:=cntV s 9,na:=cntV (cntS s 9) 1024 }))]):=by
 have oz0:=(show NilNo Try.prog (169:Nat) "stepwell/pack.number" from (nilNo (f:=119) (by kernel_rfl)))
 have oz1 := @tnum_kd (s) (n) (9) h (by omega) (by omega)
 have oz2:=(show MethodIs Try.prog (169:Nat) "stepwell/pack.number" (methF Try.prog (169:Nat) "stepwell/pack.number") from (methodIs (by kernel_rfl)))
 have oz4 := @tnum_na (cntS s 9) (Nod.mk (cntV s 9) n.na n.nb n.nk n.ns n.np n.no n.za n.zb n.w n.b n.qm n.qs n.qz n.rm n.rs n.rz n.lo n.hi) (1024) (by (repeat first | exact h | apply cnt_in | apply sml_in | apply lst_in | apply scl_in)) (by omega) (by omega)
 have oz6 := @of_9 (cntV s 9) hk
 have oz7 := @tsides_9 (cntS (cntS s 9) 1024) (Nod.mk (cntV s 9) (cntV (cntS s 9) 1024) n.nb n.nk n.ns n.np n.no n.za n.zb n.w n.b n.qm n.qs n.qz n.rm n.rs n.rz n.lo n.hi) (by (repeat first | exact h | apply cnt_in | apply sml_in | apply lst_in | apply scl_in)) hk
 have oz8:=z0_
 exact VM.run (fn:=Try.f105) (W:=[.r [] [cn oz1],.r [] [cn oz4],.r [] [.callr (rO oz6)],.r [] [cn oz7],.r [] [],.br false,.r [] [],.br false,.r [] [],.br false,.r [] [],.br true]) (G:=[.drop [4],.sort]) Try.func105 (by kernel_rfl) (.c oz0<|.c oz1<|.c oz2<|.c oz0<|.c oz4<|.c oz2<|.c oz6<|.c oz7<|.c oz8<|.c oz8<|.c oz8<|.c z1_<|.n)
theorem twalk_9v (s:Rst) (n:Nod) (h:s.In) (hk:cntV s 9<1∨8<cntV s 9) (z1:n.za=0) (z2:n.zb=0) (z3:n.qz=0) (z4:n.lo=0) (z5:n.hi=0):VM Try.prog 105 [.ifc 169 (.agg [.ptr 100000 0 0]),.ptr 100001 0 0] [(100000,.var (rdC s)),(100001,.var (nodC n))] (.tup []) [(100000,.var (rdC (ts_9 s))),(100001,.var (nodC (tn_9 s n)))]:=twalk_9 s n h hk z1 z2 z3 z4 z5
theorem putN_eq {v:Int} (h0:0≤v) (h1:v≤2147483647):putN v=putL v.toNat:=by
 unfold putN;rw [IntKind.wrap_u64,show v % 18446744073709551616=v from by omega]
theorem nodEq_false {a b:Nod} (h:(a.kd != b.kd || a.na != b.na || a.nb != b.nb || a.nk != b.nk || a.ns != b.ns || a.np != b.np || a.no != b.no)=true):false=nodEq a b:=by
 symm
 rw [Bool.eq_false_iff]
 intro h'
 have h':=(nodEq_iff _ _).1 h'
 subst h'
 simp at h
theorem nodEq_rest {a b:Nod} (h:(a.kd != b.kd || a.na != b.na || a.nb != b.nb || a.nk != b.nk || a.ns != b.ns || a.np != b.np || a.no != b.no)=false) :
  (a.za==b.za&&a.zb==b.zb&&a.lo==b.lo&&a.hi==b.hi&&eqNums [(IntKind.i32,a.qm,b.qm),(IntKind.i64,a.qs,b.qs),(IntKind.i8,a.qz,b.qz)]&&eqNums [(IntKind.i32,a.rm,b.rm),(IntKind.i64,a.rs,b.rs),(IntKind.i8,a.rz,b.rz)]&&decide (a.w=b.w)&&decide (a.b=b.b))=nodEq a b:=by
 simp only [Bool.or_eq_false_iff,bne_eq_false_iff_eq] at h
 obtain ⟨⟨⟨⟨⟨⟨h1,h2⟩,h3⟩,h4⟩,h5⟩,h6⟩,h7⟩:=h
 rw [Bool.eq_iff_iff]
 simp only [nodEq,eqNums,h1,h2,h3,h4,h5,h6,h7,Bool.and_eq_true,decide_eq_true_eq,beq_iff_eq,true_and,and_true]
 constructor
 ·rintro ⟨⟨⟨⟨⟨⟨⟨q1,q2⟩,q3⟩,q4⟩,q5⟩,q6⟩,q7⟩,q8⟩;exact ⟨⟨⟨⟨q7,q8⟩,q1,q2,q3,q4⟩,q5⟩,q6⟩
 ·rintro ⟨⟨⟨⟨q7,q8⟩,q1,q2,q3,q4⟩,q5⟩,q6⟩;exact ⟨⟨⟨⟨⟨⟨⟨q1,q2⟩,q3⟩,q4⟩,q5⟩,q6⟩,q7⟩,q8⟩
theorem refSame_v (a b:Nod) (hw:a.w.length≤100000) (hb:a.b.length≤100000):VC Try.prog 25 ([nod a,nod b]) (bv (nodEq a b)):=by
 rcases bft (a.kd != b.kd || a.na != b.na || a.nb != b.nb || a.nk != b.nk || a.ns != b.ns || a.np != b.np || a.no != b.no) with hc0 | hc0
 ·have gc0:(((((¬a.kd=b.kd∨¬a.na=b.na)∨¬a.nb=b.nb)∨¬a.nk=b.nk)∨¬a.ns=b.ns)∨¬a.np=b.np)∨¬a.no=b.no:=by first | (simp only [Bool.or_eq_true,Bool.or_eq_false_iff,Bool.and_eq_true,Bool.and_eq_false_iff,Bool.not_eq_true',Bool.not_eq_false',decide_eq_true_eq,decide_eq_false_iff_not,beq_iff_eq,bne_iff_ne,ne_eq,beq_eq_false_iff_ne,bne_eq_false_iff_eq,eqNums,Bool.and_true] at hc0;first | exact hc0 | omega) | simpa using hc0 | (simp at hc0 ⊢;omega) | (apply cbc;intro hn;simp_all [eqNums];done) | (apply cbc;intro hn;simp [eqNums] at hc0 hn;omega)
  exact (VC.run (fn:=Try.f25) (W:=[.r [] [],.r [] [.op false,.op false,.op false,.op false,.op false,.sel 1,.op false,.op false,.op false,.op false,.op false,.sel 1,.op false,.op false,.op false,.op false,.op false,.sel 1,.op false,.op false,.op false,.op false,.op false,.sel 1,.op false,.op false,.op false,.op false,.op false,.sel 1,.op false,.op false,.op false,.op false,.op false,.sel 1],.br true,.r [] []]) (r:=bv false) Try.func25 (by kernel_rfl) (.c hc0<|.n)).weak (WeakL.refl _) (Weak.bool (show ((false):Bool)=(nodEq a b) from (by (exact nodEq_false (by assumption)))))
 ·have gc0:(((((a.kd=b.kd∧a.na=b.na)∧a.nb=b.nb)∧a.nk=b.nk)∧a.ns=b.ns)∧a.np=b.np)∧a.no=b.no:=by first | (simp only [Bool.or_eq_true,Bool.or_eq_false_iff,Bool.and_eq_true,Bool.and_eq_false_iff,Bool.not_eq_true',Bool.not_eq_false',decide_eq_true_eq,decide_eq_false_iff_not,beq_iff_eq,bne_iff_ne,ne_eq,beq_eq_false_iff_ne,bne_eq_false_iff_eq,eqNums,Bool.and_true] at hc0;first | exact hc0 | omega) | simpa using hc0 | (simp at hc0 ⊢;omega) | (apply cbc;intro hn;simp_all [eqNums];done) | (apply cbc;intro hn;simp [eqNums] at hc0 hn;omega)
  have oz3 := @rsame8_v (a.w) (b.w) (by omega)
  have oz4 := @rsame32_v (a.b) (b.b) (by omega)
  exact (VC.run (fn:=Try.f25) (W:=[.r [] [],.r [] [.op false,.op false,.op false,.op false,.op false,.sel 1,.op false,.op false,.op false,.op false,.op false,.sel 1,.op false,.op false,.op false,.op false,.op false,.sel 1,.op false,.op false,.op false,.op false,.op false,.sel 1,.op false,.op false,.op false,.op false,.op false,.sel 1,.op false,.op false,.op false,.op false,.op false,.sel 1],.br false,.r [] [.op false,.op false,.op false,.op false,.op false,.sel 2,.op false,.op false,.op false,.op false,.op false,.sel 2,.op false,.op false,.op false,.op false,.op false,.sel 2,.op false,.op false,.op false,.op false,.op false,.v (Value.bool (eqNums [(IntKind.i32,a.qm,b.qm),(IntKind.i64,a.qs,b.qs),(IntKind.i8,a.qz,b.qz)])),.sel 2,.op false,.op false,.op false,.op false,.op false,.v (Value.bool (eqNums [(IntKind.i32,a.rm,b.rm),(IntKind.i64,a.rs,b.rs),(IntKind.i8,a.rz,b.rz)])),.sel 2,.op false,.op false,.op false,.op false,.op false,.callr (rO oz3),.sel 2,.op false,.op false,.op false,.op false,.op false,.callr (rO oz4),.sel 2]]) (r:=bv (a.za==b.za&&a.zb==b.zb&&a.lo==b.lo&&a.hi==b.hi&&eqNums [(IntKind.i32,a.qm,b.qm),(IntKind.i64,a.qs,b.qs),(IntKind.i8,a.qz,b.qz)]&&eqNums [(IntKind.i32,a.rm,b.rm),(IntKind.i64,a.rs,b.rs),(IntKind.i8,a.rz,b.rz)]&&decide (a.w=b.w)&&decide (a.b=b.b))) Try.func25 (by kernel_rfl) (.c hc0<|.c (show BinTo Try.prog BinOp.eql 45 (Operand.tmp 80) (Operand.tmp 82) (Value.agg #[Value.int IntKind.i32 a.qm,Value.int IntKind.i64 a.qs,Value.int IntKind.i8 a.qz]) (Value.agg #[Value.int IntKind.i32 b.qm,Value.int IntKind.i64 b.qs,Value.int IntKind.i8 b.qz]) (Value.bool (eqNums [(IntKind.i32,a.qm,b.qm),(IntKind.i64,a.qs,b.qs),(IntKind.i8,a.qz,b.qz)])) from ((bin_nums (l:=[(IntKind.i32,a.qm,b.qm),(IntKind.i64,a.qs,b.qs),(IntKind.i8,a.qz,b.qz)]) (by kernel_rfl) (by kernel_rfl) (by kernel_rfl) (by kernel_rfl) _ _).1))<|.c (show BinTo Try.prog BinOp.eql 45 (Operand.tmp 87) (Operand.tmp 89) (Value.agg #[Value.int IntKind.i32 a.rm,Value.int IntKind.i64 a.rs,Value.int IntKind.i8 a.rz]) (Value.agg #[Value.int IntKind.i32 b.rm,Value.int IntKind.i64 b.rs,Value.int IntKind.i8 b.rz]) (Value.bool (eqNums [(IntKind.i32,a.rm,b.rm),(IntKind.i64,a.rs,b.rs),(IntKind.i8,a.rz,b.rz)])) from ((bin_nums (l:=[(IntKind.i32,a.rm,b.rm),(IntKind.i64,a.rs,b.rs),(IntKind.i8,a.rz,b.rz)]) (by kernel_rfl) (by kernel_rfl) (by kernel_rfl) (by kernel_rfl) _ _).1))<|.c oz3<|.c oz4<|.n)).weak (WeakL.refl _) (Weak.bool (show ((a.za==b.za&&a.zb==b.zb&&a.lo==b.lo&&a.hi==b.hi&&eqNums [(IntKind.i32,a.qm,b.qm),(IntKind.i64,a.qs,b.qs),(IntKind.i8,a.qz,b.qz)]&&eqNums [(IntKind.i32,a.rm,b.rm),(IntKind.i64,a.rs,b.rs),(IntKind.i8,a.rz,b.rz)]&&decide (a.w=b.w)&&decide (a.b=b.b)):Bool)=(nodEq a b) from (by (exact nodEq_rest (by assumption)))))
def nod0:Nod:=⟨0,0,0,0,0,0,0,0,0,[],[],0,0,0,0,0,0,0,0⟩
def takeS (s:Rst):Rst:=if cntV s 9=1 then ts_1 s else if cntV s 9=2 then ts_2 s else if cntV s 9=3 then ts_3 s else if cntV s 9=4∨cntV s 9=5 then ts_4 s else if cntV s 9=6 then ts_6 s else if cntV s 9=7 then ts_7 s else if cntV s 9=8 then ts_8 s else ts_9 s
def takeN (s:Rst):Nod:=if cntV s 9=1 then tn_1 s nod0 else if cntV s 9=2 then tn_2 s nod0 else if cntV s 9=3 then tn_3 s nod0 else if cntV s 9=4∨cntV s 9=5 then tn_4 s nod0 else if cntV s 9=6 then tn_6 s nod0 else if cntV s 9=7 then tn_7 s nod0 else if cntV s 9=8 then tn_8 s nod0 else tn_9 s nod0
theorem twalk_v (s:Rst) (h:s.In):VM Try.prog 105 [.ifc 169 (.agg [.ptr 100000 0 0]),.ptr 100001 0 0] [(100000,.var (rdC s)),(100001,.var [i64 0,i64 0,i64 0,i64 0,i64 0,i64 0,i64 0,i8 0,i8 0,.sl 1 [],.sl 1 [],i32 0,i64 0,i8 0,i32 0,i64 0,i8 0,i8 0,i8 0])] (.tup []) [(100000,.var (rdC (takeS s))),(100001,.var (nodC (takeN s)))]:=by
 by_cases k1:cntV s 9=1
 ·rw [show takeS s=ts_1 s from by unfold takeS;rw [if_pos k1],show takeN s=tn_1 s nod0 from by unfold takeN;rw [if_pos k1]]
  exact twalk_1v s nod0 h k1 rfl rfl rfl rfl rfl
 by_cases k2:cntV s 9=2
 ·rw [show takeS s=ts_2 s from by unfold takeS;rw [if_neg k1,if_pos k2],show takeN s=tn_2 s nod0 from by unfold takeN;rw [if_neg k1,if_pos k2]]
  exact twalk_2v s nod0 h k2 rfl rfl rfl rfl rfl
 by_cases k3:cntV s 9=3
 ·rw [show takeS s=ts_3 s from by unfold takeS;rw [if_neg k1,if_neg k2,if_pos k3],show takeN s=tn_3 s nod0 from by unfold takeN;rw [if_neg k1,if_neg k2,if_pos k3]]
  exact twalk_3v s nod0 h k3 rfl rfl rfl rfl rfl
 by_cases k4:cntV s 9=4∨cntV s 9=5
 ·rw [show takeS s=ts_4 s from by unfold takeS;rw [if_neg k1,if_neg k2,if_neg k3,if_pos k4],show takeN s=tn_4 s nod0 from by unfold takeN;rw [if_neg k1,if_neg k2,if_neg k3,if_pos k4]]
  exact twalk_4v s nod0 h k4 rfl rfl rfl rfl rfl
 by_cases k6:cntV s 9=6
 ·rw [show takeS s=ts_6 s from by unfold takeS;rw [if_neg k1,if_neg k2,if_neg k3,if_neg k4,if_pos k6],show takeN s=tn_6 s nod0 from by unfold takeN;rw [if_neg k1,if_neg k2,if_neg k3,if_neg k4,if_pos k6]]
  exact twalk_6v s nod0 h k6 rfl rfl rfl rfl rfl
 by_cases k7:cntV s 9=7
 ·rw [show takeS s=ts_7 s from by unfold takeS;rw [if_neg k1,if_neg k2,if_neg k3,if_neg k4,if_neg k6,if_pos k7],show takeN s=tn_7 s nod0 from by unfold takeN;rw [if_neg k1,if_neg k2,if_neg k3,if_neg k4,if_neg k6,if_pos k7]]
  exact twalk_7v s nod0 h k7 rfl rfl rfl rfl rfl
 by_cases k8:cntV s 9=8
 ·rw [show takeS s=ts_8 s from by unfold takeS;rw [if_neg k1,if_neg k2,if_neg k3,if_neg k4,if_neg k6,if_neg k7,if_pos k8],show takeN s=tn_8 s nod0 from by unfold takeN;rw [if_neg k1,if_neg k2,if_neg k3,if_neg k4,if_neg k6,if_neg k7,if_pos k8]]
  exact twalk_8v s nod0 h k8 rfl rfl rfl rfl rfl
 rw [show takeS s=ts_9 s from by unfold takeS;rw [if_neg k1,if_neg k2,if_neg k3,if_neg k4,if_neg k6,if_neg k7,if_neg k8],show takeN s=tn_9 s nod0 from by unfold takeN;rw [if_neg k1,if_neg k2,if_neg k3,if_neg k4,if_neg k6,if_neg k7,if_neg k8]]
 exact twalk_9v s nod0 h (by omega) rfl rfl rfl rfl rfl
theorem bad_e (s:Rst) (h:s.2≠0) (h2:s.2≠24):VM Try.prog 108 ([.agg [.ptr 100000 0 0]]) ([(100000,.var (rdC s))]) (i64 s.2) ([(100000,.var (rdC s))]):=by
 have oz0 := @end_e (s) h
 exact VM.run (fn:=Try.f108) (W:=[.r [] [],.r [] [cm oz0],.r [] [],.br true,.r [] []]) (G:=[.drop [1],.sort]) Try.func108 (by kernel_rfl) (.c oz0<|.c (show (s.snd != 24)=true by (simp;omega))<|.n)
theorem bad_m (l:List Int) (h:0<l.length):VM Try.prog 108 ([.agg [.ptr 100000 0 0]]) ([(100000,.var (rdC (l,0)))]) (i64 0) ([(100000,.var (rdC (l,0)))]):=by
 have oz0 := @end_m (l) h
 exact VM.run (fn:=Try.f108) (W:=[.r [] [],.r [] [cm oz0],.r [] [],.br false,.r [] []]) (G:=[.drop [1],.sort]) Try.func108 (by kernel_rfl) (.c oz0<|.c z0_<|.n)
theorem bad_z   : VM Try.prog 108 ([.agg [.ptr 100000 0 0]]) ([(100000,.var (rdC ([],0)))]) (i64 0) ([(100000,.var (rdC ([],0)))]):=by
 have oz0 := @end_z
 exact VM.run (fn:=Try.f108) (W:=[.r [] [],.r [] [cm oz0],.r [] [],.br true,.r [] []]) (G:=[.drop [1],.sort]) Try.func108 (by kernel_rfl) (.c oz0<|.c z1_<|.n)
theorem bad_v (s:Rst) (h2:s.2≠24):VM Try.prog 108 [.agg [.ptr 100000 0 0]] [(100000,.var (rdC s))] (i64 s.2) [(100000,.var (rdC s))]:=by
 obtain ⟨l,e⟩:=s
 by_cases he:e=0
 ·subst he
  cases l with
  | nil=>exact bad_z
  | cons x l=>exact bad_m (x::l) (by simp)
 ·exact bad_e (l,e) he h2
theorem getE_24 {l:List Int} (hb:∀ x∈l,0≤x∧x≤255):getE l≠24:=by
 have:=getAt_range l hb;unfold getE;omega
theorem cnt_24 {s:Rst} (h:s.In) (h2:s.2≠24) (m:Int):(cntS s m).2≠24:=by
 unfold cntS
 split
 ·exact h2
 ·split
  ·exact getE_24 h.b
  ·split
   ·simp
   ·simp
theorem int_24 {s:Rst} (h:s.In) (h2:s.2≠24) (lo hi:Int):(intS s lo hi).2≠24:=by
 unfold intS
 split
 ·exact h2
 ·split
  ·exact getE_24 h.b
  ·split
   ·simp
   ·simp
theorem sml_24 {s:Rst} (h2:s.2≠24) (n:Int):(smlS s n).2≠24:=by
 unfold smlS
 split
 ·exact h2
 ·split
  ·exact h2
  ·split
   ·simp
   ·simp
theorem it_24 {s:Rst} (h:s.In) (h2:s.2≠24) (k:Nat):(itS s k).2≠24:=by
 induction k with
 | zero=>exact h2
 | succ k ih=>exact int_24 (itS_in h k) ih _ _
theorem wid_24 {s:Rst} (h:s.In) (h2:s.2≠24) (n:Int):(widS s n).2≠24:=by
 unfold widS
 split
 ·exact h2
 ·split
  ·exact h2
  ·split
   ·simp
   ·exact it_24 h h2 _
theorem cnt_le {s:Rst} {k:Nat} (h:s.1.length≤k) (m:Int):(cntS s m).1.length≤k:=by
 unfold cntS
 split
 ·exact h
 ·split
  ·simp
  ·split
   ·simp
   ·simp only [List.length_drop];omega
theorem int_le {s:Rst} {k:Nat} (h:s.1.length≤k) (lo hi:Int):(intS s lo hi).1.length≤k:=by
 unfold intS
 split
 ·exact h
 ·split
  ·simp
  ·split
   ·simp
   ·simp only [List.length_drop];omega
theorem sml_le {s:Rst} {k:Nat} (h:s.1.length≤k) (n:Int):(smlS s n).1.length≤k:=by
 unfold smlS
 split
 ·exact h
 ·split
  ·exact h
  ·split
   ·simp
   ·dsimp only;rw [dpW_eq,List.length_drop];omega
theorem it_le {s:Rst} {k:Nat} (h:s.1.length≤k) (n:Nat):(itS s n).1.length≤k:=by
 induction n with
 | zero=>exact h
 | succ n ih=>exact int_le ih _ _
theorem wid_le {s:Rst} {k:Nat} (h:s.1.length≤k) (n:Int):(widS s n).1.length≤k:=by
 unfold widS
 split
 ·exact h
 ·split
  ·exact h
  ·split
   ·simp
   ·exact it_le h _
structure Rst.Fit (s:Rst):Prop where
 b:∀ x∈s.1,0≤x∧x≤255
 l:s.1.length≤100000
 e:s.2≠24
theorem Rst.Fit.i {s:Rst} (h:s.Fit):s.In:=⟨h.b,by have:=h.l;omega⟩
theorem cnt_fit {s:Rst} (h:s.Fit) (m:Int):(cntS s m).Fit:=⟨(cnt_in h.i m).b,cnt_le h.l m,cnt_24 h.i h.e m⟩
theorem sml_fit {s:Rst} (h:s.Fit) (n:Int):(smlS s n).Fit:=⟨(sml_in h.i n).b,sml_le h.l n,sml_24 h.e n⟩
theorem wid_fit {s:Rst} (h:s.Fit) (n:Int):(widS s n).Fit:=⟨(wid_in h.i n).b,wid_le h.l n,wid_24 h.i h.e n⟩
theorem lst_fit {s:Rst} (h:s.Fit):(lstS s).Fit:=wid_fit (cnt_fit (sml_fit (cnt_fit h _) _) _) _
theorem scl_fit {s:Rst} (h:s.Fit):(sclS s).Fit:=cnt_fit (cnt_fit h _) _
theorem lstW_le {s:Rst} (h:s.Fit):(lstW s).length≤100000:=Nat.le_trans (smlV_len _ _) (cnt_fit h _).l
theorem lstB_le {s:Rst} (h:s.Fit):(lstB s).length≤100000:=Nat.le_trans (widV_len _ _) (cnt_fit (sml_fit (cnt_fit h _) _) _).l
theorem takeS_fit {s:Rst} (h:s.Fit):(takeS s).Fit:=by
 unfold takeS
 repeat' split
 all_goals (first | unfold ts_1 | unfold ts_2 | unfold ts_3 | unfold ts_4 | unfold ts_6 | unfold ts_7 | unfold ts_8 | unfold ts_9)
 all_goals (repeat first | exact h | apply cnt_fit | apply sml_fit | apply lst_fit | apply scl_fit)
theorem takeN_le {s:Rst} (h:s.Fit):(takeN s).w.length≤100000∧(takeN s).b.length≤100000:=by
 unfold takeN
 repeat' split
 all_goals (first | unfold tn_1 | unfold tn_2 | unfold tn_3 | unfold tn_4 | unfold tn_6 | unfold tn_7 | unfold tn_8 | unfold tn_9)
 all_goals (constructor<;>first | exact Nat.zero_le _ | (apply lstW_le;repeat first | exact h | apply cnt_fit | apply sml_fit | apply lst_fit | apply scl_fit) | (apply lstB_le;repeat first | exact h | apply cnt_fit | apply sml_fit | apply lst_fit | apply scl_fit))
theorem takeN_kd {s:Rst} (h:s.In):In64 (takeN s).kd:=by
 have q:=cntV_rng (m:=9) h (by decide)
 have e:(takeN s).kd=cntV s 9:=by
  unfold takeN
  repeat' split
  all_goals rfl
 rw [e];exact ⟨by omega,by omega⟩
theorem take_b (s:Rst) (h:s.Fit) (hb:(takeS s).2≠0):VM Try.prog 40 ([.ptr 100000 0 0]) ([(100000,.var (rdC s))]) (.tup [.agg [i64 0,i64 0,i64 0,i64 0,i64 0,i64 0,i64 0,i8 0,i8 0,.sl 1 [],.sl 1 [],i32 0,i64 0,i8 0,i32 0,i64 0,i8 0,i8 0,i8 0],i64 (takeS s).2]) ([(100000,.var (rdC (takeS s)))]):=by
 have hi:=h.i
 have q:=takeS_fit h
 have oz1 := @VM.pre _ _ ([AV.ifc 169 (AV.agg [AV.ptr 100000 0 0]),AV.ptr 100001 0 0]) _ ([(100000,Blk.var [AV.sl 1 (List.map (row1 IntKind.u8) s.fst),i64 s.snd]),(100001,Blk.var [i64 0,i64 0,i64 0,i64 0,i64 0,i64 0,i64 0,i8 0,i8 0,nilv,nilv,i32 0,i64 0,i8 0,i32 0,i64 0,i8 0,i8 0,i8 0])]) _ _ _ ([GI.blk 100001 (Blk.var [i64 0,i64 0,i64 0,i64 0,i64 0,i64 0,i64 0,i8 0,i8 0,AV.sl 1 [],AV.sl 1 [],i32 0,i64 0,i8 0,i32 0,i64 0,i8 0,i8 0,i8 0]),GI.sort]) _ (@twalk_v (s) hi) (by kernel_rfl) (.c (BlkW.var (m:=[i64 0,i64 0,i64 0,i64 0,i64 0,i64 0,i64 0,i8 0,i8 0,AV.sl 1 [],AV.sl 1 [],i32 0,i64 0,i8 0,i32 0,i64 0,i8 0,i8 0,i8 0]) (.cons (.refl _) (.cons (.refl _) (.cons (.refl _) (.cons (.refl _) (.cons (.refl _) (.cons (.refl _) (.cons (.refl _) (.cons (.refl _) (.cons (.refl _) (.cons (Weak.nil _) (.cons (Weak.nil _) (.cons (.refl _) (.cons (.refl _) (.cons (.refl _) (.cons (.refl _) (.cons (.refl _) (.cons (.refl _) (.cons (.refl _) (.cons (.refl _) .nil))))))))))))))))))))<|.n)
 have oz2 := @bad_v (takeS s) (by (exact q.e))
 exact VM.run (fn:=Try.f40) (W:=[.r [] [],.r [] [],.br false,.r [] [],.r [] [.callm [(100000,100000),(5,100001)] [] (rM oz1) (oM oz1)],.r [] [cm oz2],.r [] [],.br true,.r [] []]) (G:=[.drop [2,4,5],.weak 0 (AV.tup [AV.agg [i64 0,i64 0,i64 0,i64 0,i64 0,i64 0,i64 0,i8 0,i8 0,AV.sl 1 [],AV.sl 1 [],i32 0,i64 0,i8 0,i32 0,i64 0,i8 0,i8 0,i8 0],i64 (takeS s).snd]),.sort]) Try.func40 (by kernel_rfl) (.c z0_<|.c oz1<|.c oz2<|.c (show ((takeS s).snd != 0)=true by (simp;omega))<|.c (show Weak (AV.tup [AV.agg [i64 0,i64 0,i64 0,i64 0,i64 0,i64 0,i64 0,i8 0,i8 0,nilv,nilv,i32 0,i64 0,i8 0,i32 0,i64 0,i8 0,i8 0,i8 0],i64 (takeS s).snd]) (AV.tup [AV.agg [i64 0,i64 0,i64 0,i64 0,i64 0,i64 0,i64 0,i8 0,i8 0,AV.sl 1 [],AV.sl 1 [],i32 0,i64 0,i8 0,i32 0,i64 0,i8 0,i8 0,i8 0],i64 (takeS s).snd]) from (Weak.tup (.cons (Weak.agg (.cons (.refl _) (.cons (.refl _) (.cons (.refl _) (.cons (.refl _) (.cons (.refl _) (.cons (.refl _) (.cons (.refl _) (.cons (.refl _) (.cons (.refl _) (.cons (Weak.nil _) (.cons (Weak.nil _) (.cons (.refl _) (.cons (.refl _) (.cons (.refl _) (.cons (.refl _) (.cons (.refl _) (.cons (.refl _) (.cons (.refl _) (.cons (.refl _) .nil)))))))))))))))))))) (.cons (.refl _) .nil))))<|.n)
theorem take_c (s:Rst) (h:s.Fit) (hb:(takeS s).2=0) (hc:checkE (takeN s)≠0):VM Try.prog 40 ([.ptr 100000 0 0]) ([(100000,.var (rdC s))]) (.tup [.agg [i64 0,i64 0,i64 0,i64 0,i64 0,i64 0,i64 0,i8 0,i8 0,.sl 1 [],.sl 1 [],i32 0,i64 0,i8 0,i32 0,i64 0,i8 0,i8 0,i8 0],i64 (checkE (takeN s))]) ([(100000,.var (rdC (takeS s)))]):=by
 have hi:=h.i
 have q:=takeS_fit h
 obtain ⟨q1,q2⟩:=takeN_le h
 have q3:=takeN_kd hi
 have oz1 := @VM.pre _ _ ([AV.ifc 169 (AV.agg [AV.ptr 100000 0 0]),AV.ptr 100001 0 0]) _ ([(100000,Blk.var [AV.sl 1 (List.map (row1 IntKind.u8) s.fst),i64 s.snd]),(100001,Blk.var [i64 0,i64 0,i64 0,i64 0,i64 0,i64 0,i64 0,i8 0,i8 0,nilv,nilv,i32 0,i64 0,i8 0,i32 0,i64 0,i8 0,i8 0,i8 0])]) _ _ _ ([GI.blk 100001 (Blk.var [i64 0,i64 0,i64 0,i64 0,i64 0,i64 0,i64 0,i8 0,i8 0,AV.sl 1 [],AV.sl 1 [],i32 0,i64 0,i8 0,i32 0,i64 0,i8 0,i8 0,i8 0]),GI.sort]) _ (@twalk_v (s) hi) (by kernel_rfl) (.c (BlkW.var (m:=[i64 0,i64 0,i64 0,i64 0,i64 0,i64 0,i64 0,i8 0,i8 0,AV.sl 1 [],AV.sl 1 [],i32 0,i64 0,i8 0,i32 0,i64 0,i8 0,i8 0,i8 0]) (.cons (.refl _) (.cons (.refl _) (.cons (.refl _) (.cons (.refl _) (.cons (.refl _) (.cons (.refl _) (.cons (.refl _) (.cons (.refl _) (.cons (.refl _) (.cons (Weak.nil _) (.cons (Weak.nil _) (.cons (.refl _) (.cons (.refl _) (.cons (.refl _) (.cons (.refl _) (.cons (.refl _) (.cons (.refl _) (.cons (.refl _) (.cons (.refl _) .nil))))))))))))))))))))<|.n)
 have oz2 := @bad_v (takeS s) (by omega)
 have oz4 := @check_v (takeN s) q1 q2 q3
 exact VM.run (fn:=Try.f40) (W:=[.r [] [],.r [] [],.br false,.r [] [],.r [] [.callm [(100000,100000),(5,100001)] [] (rM oz1) (oM oz1)],.r [] [cm oz2],.r [] [],.br false,.r [] [.callr (rO oz4)],.r [] [],.br true,.r [] []]) (G:=[.drop [2,4,5],.weak 0 (AV.tup [AV.agg [i64 0,i64 0,i64 0,i64 0,i64 0,i64 0,i64 0,i8 0,i8 0,AV.sl 1 [],AV.sl 1 [],i32 0,i64 0,i8 0,i32 0,i64 0,i8 0,i8 0,i8 0],i64 (checkE (takeN s))]),.sort]) Try.func40 (by kernel_rfl) (.c z0_<|.c oz1<|.c oz2<|.c (show ((takeS s).snd != 0)=false by (simp;omega))<|.c oz4<|.c (show (checkE (takeN s) != 0)=true by (simp;omega))<|.c (show Weak (AV.tup [AV.agg [i64 0,i64 0,i64 0,i64 0,i64 0,i64 0,i64 0,i8 0,i8 0,nilv,nilv,i32 0,i64 0,i8 0,i32 0,i64 0,i8 0,i8 0,i8 0],i64 (checkE (takeN s))]) (AV.tup [AV.agg [i64 0,i64 0,i64 0,i64 0,i64 0,i64 0,i64 0,i8 0,i8 0,AV.sl 1 [],AV.sl 1 [],i32 0,i64 0,i8 0,i32 0,i64 0,i8 0,i8 0,i8 0],i64 (checkE (takeN s))]) from (Weak.tup (.cons (Weak.agg (.cons (.refl _) (.cons (.refl _) (.cons (.refl _) (.cons (.refl _) (.cons (.refl _) (.cons (.refl _) (.cons (.refl _) (.cons (.refl _) (.cons (.refl _) (.cons (Weak.nil _) (.cons (Weak.nil _) (.cons (.refl _) (.cons (.refl _) (.cons (.refl _) (.cons (.refl _) (.cons (.refl _) (.cons (.refl _) (.cons (.refl _) (.cons (.refl _) .nil)))))))))))))))))))) (.cons (.refl _) .nil))))<|.n)
theorem take_y (s:Rst) (h:s.Fit) (hb:(takeS s).2=0) (hc:checkE (takeN s)=0):VM Try.prog 40 ([.ptr 100000 0 0]) ([(100000,.var (rdC s))]) (.tup [nod (takeN s),i64 0]) ([(100000,.var (rdC (takeS s)))]):=by
 have hi:=h.i
 have q:=takeS_fit h
 obtain ⟨q1,q2⟩:=takeN_le h
 have q3:=takeN_kd hi
 have oz1 := @VM.pre _ _ ([AV.ifc 169 (AV.agg [AV.ptr 100000 0 0]),AV.ptr 100001 0 0]) _ ([(100000,Blk.var [AV.sl 1 (List.map (row1 IntKind.u8) s.fst),i64 s.snd]),(100001,Blk.var [i64 0,i64 0,i64 0,i64 0,i64 0,i64 0,i64 0,i8 0,i8 0,nilv,nilv,i32 0,i64 0,i8 0,i32 0,i64 0,i8 0,i8 0,i8 0])]) _ _ _ ([GI.blk 100001 (Blk.var [i64 0,i64 0,i64 0,i64 0,i64 0,i64 0,i64 0,i8 0,i8 0,AV.sl 1 [],AV.sl 1 [],i32 0,i64 0,i8 0,i32 0,i64 0,i8 0,i8 0,i8 0]),GI.sort]) _ (@twalk_v (s) hi) (by kernel_rfl) (.c (BlkW.var (m:=[i64 0,i64 0,i64 0,i64 0,i64 0,i64 0,i64 0,i8 0,i8 0,AV.sl 1 [],AV.sl 1 [],i32 0,i64 0,i8 0,i32 0,i64 0,i8 0,i8 0,i8 0]) (.cons (.refl _) (.cons (.refl _) (.cons (.refl _) (.cons (.refl _) (.cons (.refl _) (.cons (.refl _) (.cons (.refl _) (.cons (.refl _) (.cons (.refl _) (.cons (Weak.nil _) (.cons (Weak.nil _) (.cons (.refl _) (.cons (.refl _) (.cons (.refl _) (.cons (.refl _) (.cons (.refl _) (.cons (.refl _) (.cons (.refl _) (.cons (.refl _) .nil))))))))))))))))))))<|.n)
 have oz2 := @bad_v (takeS s) (by omega)
 have oz4 := @check_v (takeN s) q1 q2 q3
 exact VM.run (fn:=Try.f40) (W:=[.r [] [],.r [] [],.br false,.r [] [],.r [] [.callm [(100000,100000),(5,100001)] [] (rM oz1) (oM oz1)],.r [] [cm oz2],.r [] [],.br false,.r [] [.callr (rO oz4)],.r [] [],.br false,.r [] []]) (G:=[.drop [2,4,5],.sort]) Try.func40 (by kernel_rfl) (.c z0_<|.c oz1<|.c oz2<|.c (show ((takeS s).snd != 0)=false by (simp;omega))<|.c oz4<|.c (show (checkE (takeN s) != 0)=false by (simp;omega))<|.n)
def takeR (s:Rst):Nod×Int:=if (takeS s).2≠0 then (nod0,(takeS s).2) else if checkE (takeN s)≠0 then (nod0,checkE (takeN s)) else (takeN s,0)
theorem take_v (s:Rst) (h:s.Fit):VM Try.prog 40 [.ptr 100000 0 0] [(100000,.var (rdC s))] (.tup [nod (takeR s).1,i64 (takeR s).2]) [(100000,.var (rdC (takeS s)))]:=by
 by_cases hb:(takeS s).2=0
 ·by_cases hc:checkE (takeN s)=0
  ·rw [show takeR s=(takeN s,0) from by unfold takeR;rw [if_neg (by simpa using hb),if_neg (by simpa using hc)]]
   exact take_y s h hb hc
  ·rw [show takeR s=(nod0,checkE (takeN s)) from by unfold takeR;rw [if_neg (by simpa using hb),if_pos hc]]
   exact take_c s h hb hc
 ·rw [show takeR s=(nod0,(takeS s).2) from by unfold takeR;rw [if_pos hb]]
  exact take_b s h hb
theorem take_nil   : VC Try.prog 40 ([.lit (.pointer none)]) (.tup [.agg [i64 0,i64 0,i64 0,i64 0,i64 0,i64 0,i64 0,i8 0,i8 0,.sl 1 [],.sl 1 [],i32 0,i64 0,i8 0,i32 0,i64 0,i8 0,i8 0,i8 0],i64 1]):=by
 exact (VC.run (fn:=Try.f40) (W:=[.r [] [],.r [] [],.br true,.r [] []]) (r:=AV.tup [AV.agg [i64 0,i64 0,i64 0,i64 0,i64 0,i64 0,i64 0,i8 0,i8 0,nilv,nilv,i32 0,i64 0,i8 0,i32 0,i64 0,i8 0,i8 0,i8 0],i64 1]) Try.func40 (by kernel_rfl) (.c z1_<|.n)).weak (WeakL.refl _) (Weak.tup (.cons (Weak.agg (.cons (.refl _) (.cons (.refl _) (.cons (.refl _) (.cons (.refl _) (.cons (.refl _) (.cons (.refl _) (.cons (.refl _) (.cons (.refl _) (.cons (.refl _) (.cons (Weak.nil _) (.cons (Weak.nil _) (.cons (.refl _) (.cons (.refl _) (.cons (.refl _) (.cons (.refl _) (.cons (.refl _) (.cons (.refl _) (.cons (.refl _) (.cons (.refl _) .nil)))))))))))))))))))) (.cons (.refl _) .nil)))
theorem tsml_x (s:Rst) (l:List Nod) (w b:List Int) (nd:Int) (e:Bool) (m:Int) (h:s.In):VM Try.prog 261 ([.agg [.ptr 100000 0 0],.ptr 100001 0 2,i64 m]) ([(950,.slc 47 19 (l.map nodC)),(100000,.var (rdC s)),(100001,.var [.own 950,bv e,ints .i8 w,ints .i32 b,i32 nd])]) (.tup []) ([(950,.slc 47 19 (l.map nodC)),(100000,.var (rdC (smlS s m))),(100001,.var [.own 950,bv e,ints .i8 (smlV s m),ints .i32 b,i32 nd])]):=by
 have oz0 := @smallR_v (s) (m) h
 exact VM.run (fn:=Try.f261) (W:=[.r [] [],.r [] [cm oz0]]) (G:=[.drop [3],.sort]) Try.func261 (by kernel_rfl) (.c oz0<|.n)
theorem twid_x (s:Rst) (l:List Nod) (w b:List Int) (nd:Int) (e:Bool) (m:Int) (h:s.In):VM Try.prog 262 ([.agg [.ptr 100000 0 0],.ptr 100001 0 3,i64 m]) ([(950,.slc 47 19 (l.map nodC)),(100000,.var (rdC s)),(100001,.var [.own 950,bv e,ints .i8 w,ints .i32 b,i32 nd])]) (.tup []) ([(950,.slc 47 19 (l.map nodC)),(100000,.var (rdC (widS s m))),(100001,.var [.own 950,bv e,ints .i8 w,ints .i32 (widV s m),i32 nd])]):=by
 have oz0 := @wideR_v (s) (m) h
 exact VM.run (fn:=Try.f262) (W:=[.r [] [],.r [] [cm oz0]]) (G:=[.drop [3],.sort]) Try.func262 (by kernel_rfl) (.c oz0<|.n)
theorem tlists_x0 (s:Rst) (l:List Nod) (w b:List Int) (nd:Int) (e:Bool) (h:s.In):VM Try.prog 168 ([.ifc 169 (.agg [.ptr 100000 0 0]),.ptr 100001 0 2,.ptr 100001 0 3]) ([(950,.slc 47 19 (l.map nodC)),(100000,.var (rdC s)),(100001,.var [.own 950,bv e,ints .i8 w,ints .i32 b,i32 nd])]) (.tup []) ([(950,.slc 47 19 (l.map nodC)),(100000,.var (rdC (widS (cntS (smlS (cntS s 16384) (cntV s 16384)) 16384) (cntV (smlS (cntS s 16384) (cntV s 16384)) 16384)))),(100001,.var [.own 950,bv e,ints .i8 (smlV (cntS s 16384) (cntV s 16384)),ints .i32 (widV (cntS (smlS (cntS s 16384) (cntV s 16384)) 16384) (cntV (smlS (cntS s 16384) (cntV s 16384)) 16384)),i32 nd])]):=by
 have oz0 := @tnum_1 (s) ((↑(List.map (row1 IntKind.i8) w).length:Int)) (16384) h (by omega) (by omega)
 have oz1:=(show MethodIs Try.prog (169:Nat) "stepwell/pack.number" (methF Try.prog (169:Nat) "stepwell/pack.number") from (methodIs (by kernel_rfl)))
 have oz2 := @tsml_x (cntS s 16384) (l) (w) (b) (nd) (e) (cntV s 16384) (by (repeat first | exact h | apply cnt_in | apply sml_in))
 have oz4 := @tnum_1 (smlS (cntS s 16384) (cntV s 16384)) ((↑(List.map (row1 IntKind.i32) b).length:Int)) (16384) (by (repeat first | exact h | apply cnt_in | apply sml_in)) (by omega) (by omega)
 have oz6 := @twid_x (cntS (smlS (cntS s 16384) (cntV s 16384)) 16384) (l) (smlV (cntS s 16384) (cntV s 16384)) (b) (nd) (e) (cntV (smlS (cntS s 16384) (cntV s 16384)) 16384) (by (repeat first | exact h | apply cnt_in | apply sml_in))
 exact VM.run (fn:=Try.f168) (W:=[.r [] [],.r [] [.callm [(100000,100000),(6,100001)] [] (rM oz0) (oM oz0)],.r [] [.callm [(950,950),(100000,100000),(100001,100001)] [(950,20000)] (rM oz2) (oM oz2)],.r [] [],.r [] [.callm [(100000,100000),(7,100001)] [] (rM oz4) (oM oz4)],.r [] [.callm [(20000,950),(100000,100000),(100001,100001)] [(950,20001)] (rM oz6) (oM oz6)]]) (G:=[.drop [6,7],.ren 20001 950,.sort]) Try.func168 (by kernel_rfl) (.c oz0<|.c oz1<|.c oz2<|.c (show MethodIs Try.prog (169:Nat) "stepwell/pack.small" (methF Try.prog (169:Nat) "stepwell/pack.small") from (methodIs (by kernel_rfl)))<|.c oz4<|.c oz1<|.c oz6<|.c (show MethodIs Try.prog (169:Nat) "stepwell/pack.wides" (methF Try.prog (169:Nat) "stepwell/pack.wides") from (methodIs (by kernel_rfl)))<|.n)
theorem tlists_x (s:Rst) (l:List Nod) (w b:List Int) (nd:Int) (e:Bool) (h:s.In):VM Try.prog 168 [.ifc 169 (.agg [.ptr 100000 0 0]),.ptr 100001 0 2,.ptr 100001 0 3] [(950,.slc 47 19 (l.map nodC)),(100000,.var (rdC s)),(100001,.var [.own 950,bv e,ints .i8 w,ints .i32 b,i32 nd])] (.tup []) [(950,.slc 47 19 (l.map nodC)),(100000,.var (rdC (lstS s))),(100001,.var [.own 950,bv e,ints .i8 (lstW s),ints .i32 (lstB s),i32 nd])]:=tlists_x0 s l w b nd e h
theorem texit_y (s:Rst) (l:List Nod) (w b:List Int) (nd:Int) (h:s.In) (hk:cntV s 1=1):VM Try.prog 116 ([.ifc 169 (.agg [.ptr 100000 0 0]),.ptr 100001 0 0]) ([(950,.slc 47 19 (l.map nodC)),(100000,.var (rdC s)),(100001,.var [.own 950,bv false,ints .i8 w,ints .i32 b,i32 nd])]) (.tup []) ([(950,.slc 47 19 (l.map nodC)),(100000,.var (rdC (cntS (lstS (cntS s 1)) 2147483647))),(100001,.var [.own 950,bv true,ints .i8 (lstW (cntS s 1)),ints .i32 (lstB (cntS s 1)),i32 (cntV (lstS (cntS s 1)) 2147483647)])]):=by
 have q := @cntV_rng (lstS (cntS s 1)) 2147483647 (lst_in (cnt_in h _)) (by decide)
 have oz1 := @tnum_1 (s) (0) (1) h (by omega) (by omega)
 have oz2:=(show MethodIs Try.prog (169:Nat) "stepwell/pack.number" (methF Try.prog (169:Nat) "stepwell/pack.number") from (methodIs (by kernel_rfl)))
 have oz4 := @tlists_x (cntS s 1) (l) (w) (b) (nd) (cntV s 1==1) (by (repeat first | exact h | apply cnt_in | apply sml_in | apply lst_in))
 have oz5 := @tnum_1 (lstS (cntS s 1)) (IntKind.i64.wrap nd) (2147483647) (by (repeat first | exact h | apply cnt_in | apply sml_in | apply lst_in)) (by omega) (by omega)
 have oz7:=(IntWalk.i32_in (cntV (lstS (cntS s 1)) 2147483647) (by omega))
 exact VM.run (fn:=Try.f116) (W:=[.r [] [],.r [] [],.br false,.r [] [.callm [(100000,100000),(4,100001)] [] (rM oz1) (oM oz1)],.r [] [],.r [] [],.br false,.r [] [.callm [(950,950),(100000,100000),(100001,100001)] [(950,20000)] (rM oz4) (oM oz4)],.r [] [.w],.r [] [.callm [(100000,100000),(5,100001)] [] (rM oz5) (oM oz5)],.r [] [.n (nO oz7)]]) (G:=[.drop [4,5],.ren 20000 950,.blk 100001 (Blk.var [AV.own 950,bv true,AV.sl 1 (List.map (row1 IntKind.i8) (lstW (cntS s 1))),AV.sl 1 (List.map (row1 IntKind.i32) (lstB (cntS s 1))),i32 (cntV (lstS (cntS s 1)) 2147483647)]),.sort]) Try.func116 (by kernel_rfl) (.c z0_<|.c oz1<|.c oz2<|.c (show (!cntV s 1==1)=false by (simp;omega))<|.c oz4<|.c oz5<|.c oz2<|.c oz7<|.c (show BlkW (Blk.var [AV.own 950,bv (cntV s 1==1),AV.sl 1 (List.map (row1 IntKind.i8) (lstW (cntS s 1))),AV.sl 1 (List.map (row1 IntKind.i32) (lstB (cntS s 1))),i32 (cntV (lstS (cntS s 1)) 2147483647)]) (Blk.var [AV.own 950,bv true,AV.sl 1 (List.map (row1 IntKind.i8) (lstW (cntS s 1))),AV.sl 1 (List.map (row1 IntKind.i32) (lstB (cntS s 1))),i32 (cntV (lstS (cntS s 1)) 2147483647)]) from (BlkW.var (m:=[AV.own 950,bv true,AV.sl 1 (List.map (row1 IntKind.i8) (lstW (cntS s 1))),AV.sl 1 (List.map (row1 IntKind.i32) (lstB (cntS s 1))),i32 (cntV (lstS (cntS s 1)) 2147483647)]) (.cons (.refl _) (.cons (Weak.bool (show ((cntV s 1==1):Bool)=(true) from (by (refine decide_eq_true ?_;omega)))) (.cons (.refl _) (.cons (.refl _) (.cons (.refl _) .nil)))))))<|.n)
theorem texit_n (s:Rst) (l:List Nod) (w b:List Int) (nd:Int) (h:s.In) (hk:cntV s 1≠1):VM Try.prog 116 ([.ifc 169 (.agg [.ptr 100000 0 0]),.ptr 100001 0 0]) ([(950,.slc 47 19 (l.map nodC)),(100000,.var (rdC s)),(100001,.var [.own 950,bv false,ints .i8 w,ints .i32 b,i32 nd])]) (.tup []) ([(950,.slc 47 19 (l.map nodC)),(100000,.var (rdC (cntS s 1))),(100001,.var [.own 950,bv false,ints .i8 w,ints .i32 b,i32 nd])]):=by
 have oz1 := @tnum_1 (s) (0) (1) h (by omega) (by omega)
 exact VM.run (fn:=Try.f116) (W:=[.r [] [],.r [] [],.br false,.r [] [.callm [(100000,100000),(4,100001)] [] (rM oz1) (oM oz1)],.r [] [],.r [] [],.br true]) (G:=[.drop [4],.blk 100001 (Blk.var [AV.own 950,bv false,AV.sl 1 (List.map (row1 IntKind.i8) w),AV.sl 1 (List.map (row1 IntKind.i32) b),i32 nd]),.sort]) Try.func116 (by kernel_rfl) (.c z0_<|.c oz1<|.c (show MethodIs Try.prog (169:Nat) "stepwell/pack.number" (methF Try.prog (169:Nat) "stepwell/pack.number") from (methodIs (by kernel_rfl)))<|.c (show (!cntV s 1==1)=true by (simp;omega))<|.c (show BlkW (Blk.var [AV.own 950,bv (cntV s 1==1),AV.sl 1 (List.map (row1 IntKind.i8) w),AV.sl 1 (List.map (row1 IntKind.i32) b),i32 nd]) (Blk.var [AV.own 950,bv false,AV.sl 1 (List.map (row1 IntKind.i8) w),AV.sl 1 (List.map (row1 IntKind.i32) b),i32 nd]) from (BlkW.var (m:=[AV.own 950,bv false,AV.sl 1 (List.map (row1 IntKind.i8) w),AV.sl 1 (List.map (row1 IntKind.i32) b),i32 nd]) (.cons (.refl _) (.cons (Weak.bool (show ((cntV s 1==1):Bool)=(false) from (by (refine decide_eq_false ?_;omega)))) (.cons (.refl _) (.cons (.refl _) (.cons (.refl _) .nil)))))))<|.n)
def tkS (s:Rst):Nat→Rst
 | 0=>s
 | k+1=>takeS (tkS s k)
def tkL (s:Rst):Nat→List Nod
 | 0=>[]
 | k+1=>tkL s k++[(takeR (tkS s k)).1]
theorem tkS_fit {s:Rst} (h:s.Fit) (k:Nat):(tkS s k).Fit:=by
 induction k with
 | zero=>exact h
 | succ k ih=>exact takeS_fit ih
theorem tkL_len (s:Rst) (k:Nat):(tkL s k).length=k:=by
 induction k with
 | zero=>rfl
 | succ k ih=>rw [tkL,lla,ih];rfl
def stB (s:Rst):Rst:=tkS (cntS s 8) (cntV s 8).toNat
def exS (s:Rst):Rst:=if cntV s 1=1 then cntS (lstS (cntS s 1)) 2147483647 else cntS s 1
noncomputable def ptkb_y_I (s:Rst) (k:Nat):VS:=stt 47 [(0,.ptr 100000 0 0),(2,.ptr 2 0 0),(4,.ptr 4 0 0),(5,.ptr 5 0 0),(18,i64 (cntV s 8)),(19,i64 k)] [(2,.var [.any,.any,.any,.any,.any]),(4,.var [.ptr 100000 0 0]),(5,.var [.own 900,bv false,ints .i8 [],ints .i32 [],i32 0]),(900,.slc 47 19 ((tkL (cntS s 8) k).map nodC)),(100000,.var (rdC (tkS (cntS s 8) k)))]
noncomputable def ptkb_y_Z (s:Rst):VS:=ptkb_y_I s ((cntV s 8).toNat)
theorem ptkb_y_s (s:Rst) (h:s.Fit) (hh:∀ k,k<(cntV s 8).toNat→(takeR (tkS (cntS s 8) k)).2=0) (k:Nat) (hk:k<(cntV s 8).toNat):VT Try.prog (fnC Try.f48 [1,1,1,1,1,0,1,0,0]) (ptkb_y_I s k) .normal (ptkb_y_I s (k+1)):=by
 have q:=cntV_rng (m:=8) h.i (by decide)
 have q0:=tkS_fit (cnt_fit h 8) k
 have q1:=tkL_len (cntS s 8) k
 have q2:=hh k hk
 have oz1 := @take_v (tkS (cntS s 8) k) q0
 exact VT.run (W:=[.r [] [],.br true,.r [] [cm oz1],.r [] [],.br false,.r [] [],.r [] [.n ((↑k:Int)+1)]]) (G:=[.any (rg [(7,2),(20,8),(30,7)]),.drop [7,33],.ren 34 900,.weak 19 (i64 (↑(k+1):Int)),.blk 900 (Blk.slc 47 19 (List.map nodC (tkL (cntS s 8) (k+1)))),.blk 100000 (Blk.var [AV.sl 1 (List.map (row1 IntKind.u8) (tkS (cntS s 8) (k+1)).fst),i64 (tkS (cntS s 8) (k+1)).snd]),.sort]) (by kernel_rfl) (.c (decide_eq_true (p:=((↑k:Int)<cntV s 8)) (by omega))<|.c oz1<|.c (show ((takeR (tkS (cntS s 8) k)).snd != 0)=false by (simp;omega))<|.c (show ((List.map nodC (tkL (cntS s 8) k)).length+1)*168≤140737488355328 by (simp;omega))<|.c (show (List.map nodC (tkL (cntS s 8) k)).length+1≤9223372036854775807 by (simp;omega))<|.c (i6n ((↑k:Int)+1) (by omega))<|.c (Weak.int (k:=.i64) (show (((↑k:Int)+1):Int)=((↑(k+1):Int)) from (by omega)))<|.c (show BlkW (Blk.slc 47 19 (List.map nodC (tkL (cntS s 8) k)++[[i64 (takeR (tkS (cntS s 8) k)).fst.kd,i64 (takeR (tkS (cntS s 8) k)).fst.na,i64 (takeR (tkS (cntS s 8) k)).fst.nb,i64 (takeR (tkS (cntS s 8) k)).fst.nk,i64 (takeR (tkS (cntS s 8) k)).fst.ns,i64 (takeR (tkS (cntS s 8) k)).fst.np,i64 (takeR (tkS (cntS s 8) k)).fst.no,i8 (takeR (tkS (cntS s 8) k)).fst.za,i8 (takeR (tkS (cntS s 8) k)).fst.zb,AV.sl 1 (List.map (row1 IntKind.i8) (takeR (tkS (cntS s 8) k)).fst.w),AV.sl 1 (List.map (row1 IntKind.i32) (takeR (tkS (cntS s 8) k)).fst.b),i32 (takeR (tkS (cntS s 8) k)).fst.qm,i64 (takeR (tkS (cntS s 8) k)).fst.qs,i8 (takeR (tkS (cntS s 8) k)).fst.qz,i32 (takeR (tkS (cntS s 8) k)).fst.rm,i64 (takeR (tkS (cntS s 8) k)).fst.rs,i8 (takeR (tkS (cntS s 8) k)).fst.rz,i8 (takeR (tkS (cntS s 8) k)).fst.lo,i8 (takeR (tkS (cntS s 8) k)).fst.hi]])) (Blk.slc 47 19 (List.map nodC (tkL (cntS s 8) (k+1)))) from (BlkW.rows (e:=47) (z:=19) (rows_to (nodC) (r:=List.map nodC (tkL (cntS s 8) k)++[[i64 (takeR (tkS (cntS s 8) k)).fst.kd,i64 (takeR (tkS (cntS s 8) k)).fst.na,i64 (takeR (tkS (cntS s 8) k)).fst.nb,i64 (takeR (tkS (cntS s 8) k)).fst.nk,i64 (takeR (tkS (cntS s 8) k)).fst.ns,i64 (takeR (tkS (cntS s 8) k)).fst.np,i64 (takeR (tkS (cntS s 8) k)).fst.no,i8 (takeR (tkS (cntS s 8) k)).fst.za,i8 (takeR (tkS (cntS s 8) k)).fst.zb,AV.sl 1 (List.map (row1 IntKind.i8) (takeR (tkS (cntS s 8) k)).fst.w),AV.sl 1 (List.map (row1 IntKind.i32) (takeR (tkS (cntS s 8) k)).fst.b),i32 (takeR (tkS (cntS s 8) k)).fst.qm,i64 (takeR (tkS (cntS s 8) k)).fst.qs,i8 (takeR (tkS (cntS s 8) k)).fst.qz,i32 (takeR (tkS (cntS s 8) k)).fst.rm,i64 (takeR (tkS (cntS s 8) k)).fst.rs,i8 (takeR (tkS (cntS s 8) k)).fst.rz,i8 (takeR (tkS (cntS s 8) k)).fst.lo,i8 (takeR (tkS (cntS s 8) k)).fst.hi]]) (l:=tkL (cntS s 8) k++[Nod.mk (takeR (tkS (cntS s 8) k)).fst.kd (takeR (tkS (cntS s 8) k)).fst.na (takeR (tkS (cntS s 8) k)).fst.nb (takeR (tkS (cntS s 8) k)).fst.nk (takeR (tkS (cntS s 8) k)).fst.ns (takeR (tkS (cntS s 8) k)).fst.np (takeR (tkS (cntS s 8) k)).fst.no (takeR (tkS (cntS s 8) k)).fst.za (takeR (tkS (cntS s 8) k)).fst.zb (takeR (tkS (cntS s 8) k)).fst.w (takeR (tkS (cntS s 8) k)).fst.b (takeR (tkS (cntS s 8) k)).fst.qm (takeR (tkS (cntS s 8) k)).fst.qs (takeR (tkS (cntS s 8) k)).fst.qz (takeR (tkS (cntS s 8) k)).fst.rm (takeR (tkS (cntS s 8) k)).fst.rs (takeR (tkS (cntS s 8) k)).fst.rz (takeR (tkS (cntS s 8) k)).fst.lo (takeR (tkS (cntS s 8) k)).fst.hi]) (m:=tkL (cntS s 8) (k+1)) (by first | (simp only [List.map_append,List.map_cons,List.map_nil,List.map_set,List.map_replicate,List.map_take,List.map_drop];done) | rfl | (simp only [List.map_append,List.map_cons,List.map_nil,List.map_set,List.map_replicate,List.map_take,List.map_drop];rfl) | (simp only [List.map_append,List.map_cons,List.map_nil,List.map_set,List.map_replicate,List.map_take,List.map_drop,nodC,ints];done)) (show (tkL (cntS s 8) k++[Nod.mk (takeR (tkS (cntS s 8) k)).fst.kd (takeR (tkS (cntS s 8) k)).fst.na (takeR (tkS (cntS s 8) k)).fst.nb (takeR (tkS (cntS s 8) k)).fst.nk (takeR (tkS (cntS s 8) k)).fst.ns (takeR (tkS (cntS s 8) k)).fst.np (takeR (tkS (cntS s 8) k)).fst.no (takeR (tkS (cntS s 8) k)).fst.za (takeR (tkS (cntS s 8) k)).fst.zb (takeR (tkS (cntS s 8) k)).fst.w (takeR (tkS (cntS s 8) k)).fst.b (takeR (tkS (cntS s 8) k)).fst.qm (takeR (tkS (cntS s 8) k)).fst.qs (takeR (tkS (cntS s 8) k)).fst.qz (takeR (tkS (cntS s 8) k)).fst.rm (takeR (tkS (cntS s 8) k)).fst.rs (takeR (tkS (cntS s 8) k)).fst.rz (takeR (tkS (cntS s 8) k)).fst.lo (takeR (tkS (cntS s 8) k)).fst.hi])=(tkL (cntS s 8) (k+1)) from (by rfl)))))<|.c (show BlkW (Blk.var [AV.sl 1 (List.map (row1 IntKind.u8) (takeS (tkS (cntS s 8) k)).fst),i64 (takeS (tkS (cntS s 8) k)).snd]) (Blk.var [AV.sl 1 (List.map (row1 IntKind.u8) (tkS (cntS s 8) (k+1)).fst),i64 (tkS (cntS s 8) (k+1)).snd]) from (BlkW.var (m:=[AV.sl 1 (List.map (row1 IntKind.u8) (tkS (cntS s 8) (k+1)).fst),i64 (tkS (cntS s 8) (k+1)).snd]) (.cons (Weak.rows (rows_to (row1 IntKind.u8) (r:=List.map (row1 IntKind.u8) (takeS (tkS (cntS s 8) k)).fst) (l:=(takeS (tkS (cntS s 8) k)).fst) (m:=(tkS (cntS s 8) (k+1)).fst) rfl (show ((takeS (tkS (cntS s 8) k)).fst)=((tkS (cntS s 8) (k+1)).fst) from (by rfl)))) (.cons (Weak.int (show (((takeS (tkS (cntS s 8) k)).snd):Int)=((tkS (cntS s 8) (k+1)).snd) from (by rfl))) .nil))))<|.n)
theorem ptkb_y_e (s:Rst) (h:s.Fit) (hh:∀ k,k<(cntV s 8).toNat→(takeR (tkS (cntS s 8) k)).2=0):VT Try.prog (fnC Try.f48 [1,1,1,1,1,0,1,0,0]) (ptkb_y_I s ((cntV s 8).toNat)) (.exit 0) (ptkb_y_Z s):=by
 exact VT.run (W:=[.r [] [],.br false]) (G:=[.any [20],.sort]) (by kernel_rfl) (.c (decide_eq_false (p:=((↑(cntV s 8).toNat:Int)<cntV s 8)) (by omega))<|.n)
theorem ptkb_y (s:Rst) (h:s.Fit) (hh:∀ k,k<(cntV s 8).toNat→(takeR (tkS (cntS s 8) k)).2=0):VT Try.prog (fnC Try.f48 [1,1,1,1,1,0,1,0]) (ptkb_y_I s 0) (.exit 0) (ptkb_y_Z s) :=
 VT.loop (fun k=>ptkb_y_I s k) ((cntV s 8).toNat) (fun k hk=>ptkb_y_s s h hh k hk) (ptkb_y_e s h hh) (by intro h;cases h)
noncomputable def ptkb_n_I (s:Rst) (m:Nat) (k:Nat):VS:=stt 47 [(0,.ptr 100000 0 0),(2,.ptr 2 0 0),(4,.ptr 4 0 0),(5,.ptr 5 0 0),(18,i64 (cntV s 8)),(19,i64 k)] [(2,.var [.any,.any,.any,.any,.any]),(4,.var [.ptr 100000 0 0]),(5,.var [.own 900,bv false,ints .i8 [],ints .i32 [],i32 0]),(900,.slc 47 19 ((tkL (cntS s 8) k).map nodC)),(100000,.var (rdC (tkS (cntS s 8) k)))]
noncomputable def ptkb_n_Z (s:Rst) (m:Nat):VS:=stt 47 [(2,.ptr 2 0 0),(3,i64 (takeR (tkS (cntS s 8) m)).2)] [(2,.var [nilv,bv false,nilv,nilv,i32 0]),(100000,.var (rdC (tkS (cntS s 8) (m+1))))]
theorem ptkb_n_s (s:Rst) (m:Nat) (h:s.Fit) (hm:m<(cntV s 8).toNat) (hf:(takeR (tkS (cntS s 8) m)).2≠0) (hh:∀ k,k<m→(takeR (tkS (cntS s 8) k)).2=0) (k:Nat) (hk:k<m):VT Try.prog (fnC Try.f48 [1,1,1,1,1,0,1,0,0]) (ptkb_n_I s m k) .normal (ptkb_n_I s m (k+1)):=by
 have q:=cntV_rng (m:=8) h.i (by decide)
 have q0:=tkS_fit (cnt_fit h 8) k
 have q1:=tkL_len (cntS s 8) k
 have q2:=hh k hk
 have oz1 := @take_v (tkS (cntS s 8) k) q0
 exact VT.run (W:=[.r [] [],.br true,.r [] [cm oz1],.r [] [],.br false,.r [] [],.r [] [.n ((↑k:Int)+1)]]) (G:=[.any (rg [(7,2),(20,8),(30,7)]),.drop [7,33],.ren 34 900,.weak 19 (i64 (↑(k+1):Int)),.blk 900 (Blk.slc 47 19 (List.map nodC (tkL (cntS s 8) (k+1)))),.blk 100000 (Blk.var [AV.sl 1 (List.map (row1 IntKind.u8) (tkS (cntS s 8) (k+1)).fst),i64 (tkS (cntS s 8) (k+1)).snd]),.sort]) (by kernel_rfl) (.c (decide_eq_true (p:=((↑k:Int)<cntV s 8)) (by omega))<|.c oz1<|.c (show ((takeR (tkS (cntS s 8) k)).snd != 0)=false by (simp;omega))<|.c (show ((List.map nodC (tkL (cntS s 8) k)).length+1)*168≤140737488355328 by (simp;omega))<|.c (show (List.map nodC (tkL (cntS s 8) k)).length+1≤9223372036854775807 by (simp;omega))<|.c (i6n ((↑k:Int)+1) (by omega))<|.c (Weak.int (k:=.i64) (show (((↑k:Int)+1):Int)=((↑(k+1):Int)) from (by omega)))<|.c (show BlkW (Blk.slc 47 19 (List.map nodC (tkL (cntS s 8) k)++[[i64 (takeR (tkS (cntS s 8) k)).fst.kd,i64 (takeR (tkS (cntS s 8) k)).fst.na,i64 (takeR (tkS (cntS s 8) k)).fst.nb,i64 (takeR (tkS (cntS s 8) k)).fst.nk,i64 (takeR (tkS (cntS s 8) k)).fst.ns,i64 (takeR (tkS (cntS s 8) k)).fst.np,i64 (takeR (tkS (cntS s 8) k)).fst.no,i8 (takeR (tkS (cntS s 8) k)).fst.za,i8 (takeR (tkS (cntS s 8) k)).fst.zb,AV.sl 1 (List.map (row1 IntKind.i8) (takeR (tkS (cntS s 8) k)).fst.w),AV.sl 1 (List.map (row1 IntKind.i32) (takeR (tkS (cntS s 8) k)).fst.b),i32 (takeR (tkS (cntS s 8) k)).fst.qm,i64 (takeR (tkS (cntS s 8) k)).fst.qs,i8 (takeR (tkS (cntS s 8) k)).fst.qz,i32 (takeR (tkS (cntS s 8) k)).fst.rm,i64 (takeR (tkS (cntS s 8) k)).fst.rs,i8 (takeR (tkS (cntS s 8) k)).fst.rz,i8 (takeR (tkS (cntS s 8) k)).fst.lo,i8 (takeR (tkS (cntS s 8) k)).fst.hi]])) (Blk.slc 47 19 (List.map nodC (tkL (cntS s 8) (k+1)))) from (BlkW.rows (e:=47) (z:=19) (rows_to (nodC) (r:=List.map nodC (tkL (cntS s 8) k)++[[i64 (takeR (tkS (cntS s 8) k)).fst.kd,i64 (takeR (tkS (cntS s 8) k)).fst.na,i64 (takeR (tkS (cntS s 8) k)).fst.nb,i64 (takeR (tkS (cntS s 8) k)).fst.nk,i64 (takeR (tkS (cntS s 8) k)).fst.ns,i64 (takeR (tkS (cntS s 8) k)).fst.np,i64 (takeR (tkS (cntS s 8) k)).fst.no,i8 (takeR (tkS (cntS s 8) k)).fst.za,i8 (takeR (tkS (cntS s 8) k)).fst.zb,AV.sl 1 (List.map (row1 IntKind.i8) (takeR (tkS (cntS s 8) k)).fst.w),AV.sl 1 (List.map (row1 IntKind.i32) (takeR (tkS (cntS s 8) k)).fst.b),i32 (takeR (tkS (cntS s 8) k)).fst.qm,i64 (takeR (tkS (cntS s 8) k)).fst.qs,i8 (takeR (tkS (cntS s 8) k)).fst.qz,i32 (takeR (tkS (cntS s 8) k)).fst.rm,i64 (takeR (tkS (cntS s 8) k)).fst.rs,i8 (takeR (tkS (cntS s 8) k)).fst.rz,i8 (takeR (tkS (cntS s 8) k)).fst.lo,i8 (takeR (tkS (cntS s 8) k)).fst.hi]]) (l:=tkL (cntS s 8) k++[Nod.mk (takeR (tkS (cntS s 8) k)).fst.kd (takeR (tkS (cntS s 8) k)).fst.na (takeR (tkS (cntS s 8) k)).fst.nb (takeR (tkS (cntS s 8) k)).fst.nk (takeR (tkS (cntS s 8) k)).fst.ns (takeR (tkS (cntS s 8) k)).fst.np (takeR (tkS (cntS s 8) k)).fst.no (takeR (tkS (cntS s 8) k)).fst.za (takeR (tkS (cntS s 8) k)).fst.zb (takeR (tkS (cntS s 8) k)).fst.w (takeR (tkS (cntS s 8) k)).fst.b (takeR (tkS (cntS s 8) k)).fst.qm (takeR (tkS (cntS s 8) k)).fst.qs (takeR (tkS (cntS s 8) k)).fst.qz (takeR (tkS (cntS s 8) k)).fst.rm (takeR (tkS (cntS s 8) k)).fst.rs (takeR (tkS (cntS s 8) k)).fst.rz (takeR (tkS (cntS s 8) k)).fst.lo (takeR (tkS (cntS s 8) k)).fst.hi]) (m:=tkL (cntS s 8) (k+1)) (by first | (simp only [List.map_append,List.map_cons,List.map_nil,List.map_set,List.map_replicate,List.map_take,List.map_drop];done) | rfl | (simp only [List.map_append,List.map_cons,List.map_nil,List.map_set,List.map_replicate,List.map_take,List.map_drop];rfl) | (simp only [List.map_append,List.map_cons,List.map_nil,List.map_set,List.map_replicate,List.map_take,List.map_drop,nodC,ints];done)) (show (tkL (cntS s 8) k++[Nod.mk (takeR (tkS (cntS s 8) k)).fst.kd (takeR (tkS (cntS s 8) k)).fst.na (takeR (tkS (cntS s 8) k)).fst.nb (takeR (tkS (cntS s 8) k)).fst.nk (takeR (tkS (cntS s 8) k)).fst.ns (takeR (tkS (cntS s 8) k)).fst.np (takeR (tkS (cntS s 8) k)).fst.no (takeR (tkS (cntS s 8) k)).fst.za (takeR (tkS (cntS s 8) k)).fst.zb (takeR (tkS (cntS s 8) k)).fst.w (takeR (tkS (cntS s 8) k)).fst.b (takeR (tkS (cntS s 8) k)).fst.qm (takeR (tkS (cntS s 8) k)).fst.qs (takeR (tkS (cntS s 8) k)).fst.qz (takeR (tkS (cntS s 8) k)).fst.rm (takeR (tkS (cntS s 8) k)).fst.rs (takeR (tkS (cntS s 8) k)).fst.rz (takeR (tkS (cntS s 8) k)).fst.lo (takeR (tkS (cntS s 8) k)).fst.hi])=(tkL (cntS s 8) (k+1)) from (by rfl)))))<|.c (show BlkW (Blk.var [AV.sl 1 (List.map (row1 IntKind.u8) (takeS (tkS (cntS s 8) k)).fst),i64 (takeS (tkS (cntS s 8) k)).snd]) (Blk.var [AV.sl 1 (List.map (row1 IntKind.u8) (tkS (cntS s 8) (k+1)).fst),i64 (tkS (cntS s 8) (k+1)).snd]) from (BlkW.var (m:=[AV.sl 1 (List.map (row1 IntKind.u8) (tkS (cntS s 8) (k+1)).fst),i64 (tkS (cntS s 8) (k+1)).snd]) (.cons (Weak.rows (rows_to (row1 IntKind.u8) (r:=List.map (row1 IntKind.u8) (takeS (tkS (cntS s 8) k)).fst) (l:=(takeS (tkS (cntS s 8) k)).fst) (m:=(tkS (cntS s 8) (k+1)).fst) rfl (show ((takeS (tkS (cntS s 8) k)).fst)=((tkS (cntS s 8) (k+1)).fst) from (by rfl)))) (.cons (Weak.int (show (((takeS (tkS (cntS s 8) k)).snd):Int)=((tkS (cntS s 8) (k+1)).snd) from (by rfl))) .nil))))<|.n)
theorem ptkb_n_e (s:Rst) (m:Nat) (h:s.Fit) (hm:m<(cntV s 8).toNat) (hf:(takeR (tkS (cntS s 8) m)).2≠0) (hh:∀ k,k<m→(takeR (tkS (cntS s 8) k)).2=0):VT Try.prog (fnC Try.f48 [1,1,1,1,1,0,1,0,0]) (ptkb_n_I s m (m)) (.ret) (ptkb_n_Z s m):=by
 have q:=cntV_rng (m:=8) h.i (by decide)
 have q0:=tkS_fit (cnt_fit h 8) m
 have q1:=tkL_len (cntS s 8) m
 have oz1 := @take_v (tkS (cntS s 8) m) q0
 exact VT.run (W:=[.r [] [],.br true,.r [] [cm oz1],.r [] [],.br true,.r [] []]) (G:=[.any (rg [(0,1),(4,2),(7,2),(18,12)]),.drop [4,5,900,7],.blk 100000 (Blk.var [AV.sl 1 (List.map (row1 IntKind.u8) (tkS (cntS s 8) (m+1)).fst),i64 (tkS (cntS s 8) (m+1)).snd]),.sort]) (by kernel_rfl) (.c (decide_eq_true (p:=((↑m:Int)<cntV s 8)) (by omega))<|.c oz1<|.c (show ((takeR (tkS (cntS s 8) m)).snd != 0)=true by (simp;omega))<|.c (show BlkW (Blk.var [AV.sl 1 (List.map (row1 IntKind.u8) (takeS (tkS (cntS s 8) m)).fst),i64 (takeS (tkS (cntS s 8) m)).snd]) (Blk.var [AV.sl 1 (List.map (row1 IntKind.u8) (tkS (cntS s 8) (m+1)).fst),i64 (tkS (cntS s 8) (m+1)).snd]) from (BlkW.var (m:=[AV.sl 1 (List.map (row1 IntKind.u8) (tkS (cntS s 8) (m+1)).fst),i64 (tkS (cntS s 8) (m+1)).snd]) (.cons (Weak.rows (rows_to (row1 IntKind.u8) (r:=List.map (row1 IntKind.u8) (takeS (tkS (cntS s 8) m)).fst) (l:=(takeS (tkS (cntS s 8) m)).fst) (m:=(tkS (cntS s 8) (m+1)).fst) rfl (show ((takeS (tkS (cntS s 8) m)).fst)=((tkS (cntS s 8) (m+1)).fst) from (by rfl)))) (.cons (Weak.int (show (((takeS (tkS (cntS s 8) m)).snd):Int)=((tkS (cntS s 8) (m+1)).snd) from (by rfl))) .nil))))<|.n)
theorem ptkb_n (s:Rst) (m:Nat) (h:s.Fit) (hm:m<(cntV s 8).toNat) (hf:(takeR (tkS (cntS s 8) m)).2≠0) (hh:∀ k,k<m→(takeR (tkS (cntS s 8) k)).2=0):VT Try.prog (fnC Try.f48 [1,1,1,1,1,0,1,0]) (ptkb_n_I s m 0) (.ret) (ptkb_n_Z s m) :=
 VT.loop (fun k=>ptkb_n_I s m k) (m) (fun k hk=>ptkb_n_s s m h hm hf hh k hk) (ptkb_n_e s m h hm hf hh) (by intro h;cases h)
theorem ptake_f (s:Rst) (m:Nat) (h:s.Fit) (hm:m<(cntV s 8).toNat) (hf:(takeR (tkS (cntS s 8) m)).2≠0) (hh:∀ k,k<m→(takeR (tkS (cntS s 8) k)).2=0):VM Try.prog 48 ([.ptr 100000 0 0]) ([(100000,.var (rdC s))]) (.tup [.agg [.sl 19 [],bv false,.sl 1 [],.sl 1 [],i32 0],i64 (takeR (tkS (cntS s 8) m)).2]) ([(100000,.var (rdC (tkS (cntS s 8) (m+1))))]):=by
 have q:=cntV_rng (m:=8) h.i (by decide)
 have q9:=h.i
 have qa:(tkS (cntS s 8) (cntV s 8).toNat).In:=(tkS_fit (cnt_fit h 8) _).i
 have qc:=tkS_fit (cnt_fit h 8) (cntV s 8).toNat
 have qd:=(cnt_fit qc 1).e
 have qe:=(cnt_fit (lst_fit (cnt_fit qc 1)) 2147483647).e
 have oz1 := @tnum_1 (s) (0) (8) q9 (by omega) (by omega)
 have oz6 := @ptkb_n (s) (m) h hm hf hh
 exact VM.run (fn:=Try.f48) (W:=[.r [] [],.r [] [],.br false,.r [] [],.r [] [],.r [] [.callm [(100000,100000),(6,100001)] [] (rM oz1) (oM oz1)],.r [] [],.code [.any [3,6,10,11,13,14,15,16,17],.drop [6],.weak 19 (i64 (↑0:Int)),.nilc 900 47 19 5 0,.blk 2 (Blk.var [AV.any,AV.any,AV.any,AV.any,AV.any]),.blk 5 (Blk.var [AV.own 900,bv false,AV.sl 1 [],AV.sl 1 [],i32 0]),.blk 100000 (Blk.var [AV.sl 1 (List.map (row1 IntKind.u8) (tkS (cntS s 8) 0).fst),i64 (tkS (cntS s 8) 0).snd]),.sort] (Exit.ret) (zO oz6)]) (G:=[.drop [2],.weak 0 (AV.tup [AV.agg [AV.sl 19 [],bv false,AV.sl 1 [],AV.sl 1 [],i32 0],i64 (takeR (tkS (cntS s 8) m)).snd]),.sort]) Try.func48 (by kernel_rfl) (.c z0_<|.c oz1<|.c (Weak.int (k:=.i64) (show ((0):Int)=((↑0:Int)) from (by omega)))<|.c (show BlkW (Blk.var [nilv,bv false,nilv,nilv,i32 (0:Int)]) (Blk.var [AV.any,AV.any,AV.any,AV.any,AV.any]) from (BlkW.var (m:=[AV.any,AV.any,AV.any,AV.any,AV.any]) (.cons (Weak.any _) (.cons (Weak.any _) (.cons (Weak.any _) (.cons (Weak.any _) (.cons (Weak.any _) .nil)))))))<|.c (show BlkW (Blk.var [AV.own (900:Nat),bv false,nilv,nilv,i32 (0:Int)]) (Blk.var [AV.own (900:Nat),bv false,AV.sl (1:Nat) [],AV.sl (1:Nat) [],i32 (0:Int)]) from (BlkW.var (m:=[AV.own 900,bv false,AV.sl 1 [],AV.sl 1 [],i32 0]) (.cons (.refl _) (.cons (.refl _) (.cons (Weak.nil _) (.cons (Weak.nil _) (.cons (.refl _) .nil)))))))<|.c (show BlkW (Blk.var [AV.sl 1 (List.map (row1 IntKind.u8) (cntS s 8).fst),i64 (cntS s 8).snd]) (Blk.var [AV.sl 1 (List.map (row1 IntKind.u8) (tkS (cntS s 8) 0).fst),i64 (tkS (cntS s 8) 0).snd]) from (BlkW.var (m:=[AV.sl 1 (List.map (row1 IntKind.u8) (tkS (cntS s 8) 0).fst),i64 (tkS (cntS s 8) 0).snd]) (.cons (Weak.rows (rows_to (row1 IntKind.u8) (r:=List.map (row1 IntKind.u8) (cntS s 8).fst) (l:=(cntS s 8).fst) (m:=(tkS (cntS s 8) 0).fst) rfl (show ((cntS s 8).fst)=((tkS (cntS s 8) 0).fst) from (by rfl)))) (.cons (Weak.int (show (((cntS s 8).snd):Int)=((tkS (cntS s 8) 0).snd) from (by rfl))) .nil))))<|.c oz6<|.c (show Weak (AV.tup [AV.agg [nilv,bv false,nilv,nilv,i32 0],i64 (takeR (tkS (cntS s 8) m)).snd]) (AV.tup [AV.agg [AV.sl 19 [],bv false,AV.sl 1 [],AV.sl 1 [],i32 0],i64 (takeR (tkS (cntS s 8) m)).snd]) from (Weak.tup (.cons (Weak.agg (.cons (Weak.nil _) (.cons (.refl _) (.cons (Weak.nil _) (.cons (Weak.nil _) (.cons (.refl _) .nil)))))) (.cons (.refl _) .nil))))<|.n)
theorem ptake_nb (s:Rst) (h:s.Fit) (hh:∀ k,k<(cntV s 8).toNat→(takeR (tkS (cntS s 8) k)).2=0) (hx:cntV (tkS (cntS s 8) (cntV s 8).toNat) 1≠1) (hb:(cntS (tkS (cntS s 8) (cntV s 8).toNat) 1).2≠0):VM Try.prog 48 ([.ptr 100000 0 0]) ([(100000,.var (rdC s))]) (.tup [.agg [.sl 19 [],bv false,.sl 1 [],.sl 1 [],i32 0],i64 (cntS (tkS (cntS s 8) (cntV s 8).toNat) 1).2]) ([(100000,.var (rdC (cntS (tkS (cntS s 8) (cntV s 8).toNat) 1)))]):=by
 have q:=cntV_rng (m:=8) h.i (by decide)
 have q9:=h.i
 have qa:(tkS (cntS s 8) (cntV s 8).toNat).In:=(tkS_fit (cnt_fit h 8) _).i
 have qc:=tkS_fit (cnt_fit h 8) (cntV s 8).toNat
 have qd:=(cnt_fit qc 1).e
 have qe:=(cnt_fit (lst_fit (cnt_fit qc 1)) 2147483647).e
 have oz1 := @tnum_1 (s) (0) (8) q9 (by omega) (by omega)
 have oz6 := @ptkb_y (s) h hh
 have oz7 := @VM.pre _ _ ([AV.ifc 169 (AV.agg [AV.ptr 100000 0 0]),AV.ptr 100001 0 0]) _ ([(950,Blk.slc 47 19 (List.map nodC (tkL (cntS s 8) (cntV s 8).toNat))),(100000,Blk.var [AV.sl 1 (List.map (row1 IntKind.u8) (tkS (cntS s 8) (cntV s 8).toNat).fst),i64 (tkS (cntS s 8) (cntV s 8).toNat).snd]),(100001,Blk.var [AV.own 950,bv false,AV.sl 1 [],AV.sl 1 [],i32 0])]) _ _ _ ([GI.sort]) _ (@texit_n (tkS (cntS s 8) (cntV s 8).toNat) (tkL (cntS s 8) (cntV s 8).toNat) ([]) ([]) (0) qa hx) (by kernel_rfl) (.n)
 have oz8 := @bad_v (cntS (tkS (cntS s 8) (cntV s 8).toNat) 1) qd
 exact VM.run (fn:=Try.f48) (W:=[.r [] [],.r [] [],.br false,.r [] [],.r [] [],.r [] [.callm [(100000,100000),(6,100001)] [] (rM oz1) (oM oz1)],.r [] [],.code [.any [3,6,10,11,13,14,15,16,17],.drop [6],.weak 19 (i64 (↑0:Int)),.nilc 900 47 19 5 0,.blk 2 (Blk.var [AV.any,AV.any,AV.any,AV.any,AV.any]),.blk 5 (Blk.var [AV.own 900,bv false,AV.sl 1 [],AV.sl 1 [],i32 0]),.blk 100000 (Blk.var [AV.sl 1 (List.map (row1 IntKind.u8) (tkS (cntS s 8) 0).fst),i64 (tkS (cntS s 8) 0).snd]),.sort] (Exit.exit 0) (zO oz6),.r [] [.callm [(900,950),(100000,100000),(5,100001)] [(950,20000)] (rM oz7) (oM oz7)],.r [] [cm oz8],.r [] [],.br true,.r [] []]) (G:=[.drop [2,4,20000,5],.weak 0 (AV.tup [AV.agg [AV.sl 19 [],bv false,AV.sl 1 [],AV.sl 1 [],i32 0],i64 (cntS (tkS (cntS s 8) (cntV s 8).toNat) 1).snd]),.sort]) Try.func48 (by kernel_rfl) (.c z0_<|.c oz1<|.c (Weak.int (k:=.i64) (show ((0):Int)=((↑0:Int)) from (by omega)))<|.c (show BlkW (Blk.var [nilv,bv false,nilv,nilv,i32 (0:Int)]) (Blk.var [AV.any,AV.any,AV.any,AV.any,AV.any]) from (BlkW.var (m:=[AV.any,AV.any,AV.any,AV.any,AV.any]) (.cons (Weak.any _) (.cons (Weak.any _) (.cons (Weak.any _) (.cons (Weak.any _) (.cons (Weak.any _) .nil)))))))<|.c (show BlkW (Blk.var [AV.own (900:Nat),bv false,nilv,nilv,i32 (0:Int)]) (Blk.var [AV.own (900:Nat),bv false,AV.sl (1:Nat) [],AV.sl (1:Nat) [],i32 (0:Int)]) from (BlkW.var (m:=[AV.own 900,bv false,AV.sl 1 [],AV.sl 1 [],i32 0]) (.cons (.refl _) (.cons (.refl _) (.cons (Weak.nil _) (.cons (Weak.nil _) (.cons (.refl _) .nil)))))))<|.c (show BlkW (Blk.var [AV.sl 1 (List.map (row1 IntKind.u8) (cntS s 8).fst),i64 (cntS s 8).snd]) (Blk.var [AV.sl 1 (List.map (row1 IntKind.u8) (tkS (cntS s 8) 0).fst),i64 (tkS (cntS s 8) 0).snd]) from (BlkW.var (m:=[AV.sl 1 (List.map (row1 IntKind.u8) (tkS (cntS s 8) 0).fst),i64 (tkS (cntS s 8) 0).snd]) (.cons (Weak.rows (rows_to (row1 IntKind.u8) (r:=List.map (row1 IntKind.u8) (cntS s 8).fst) (l:=(cntS s 8).fst) (m:=(tkS (cntS s 8) 0).fst) rfl (show ((cntS s 8).fst)=((tkS (cntS s 8) 0).fst) from (by rfl)))) (.cons (Weak.int (show (((cntS s 8).snd):Int)=((tkS (cntS s 8) 0).snd) from (by rfl))) .nil))))<|.c oz6<|.c oz7<|.c oz8<|.c (show ((cntS (tkS (cntS s 8) (cntV s 8).toNat) 1).snd != 0)=true by (simp;omega))<|.c (show Weak (AV.tup [AV.agg [nilv,bv false,nilv,nilv,i32 0],i64 (cntS (tkS (cntS s 8) (cntV s 8).toNat) 1).snd]) (AV.tup [AV.agg [AV.sl 19 [],bv false,AV.sl 1 [],AV.sl 1 [],i32 0],i64 (cntS (tkS (cntS s 8) (cntV s 8).toNat) 1).snd]) from (Weak.tup (.cons (Weak.agg (.cons (Weak.nil _) (.cons (.refl _) (.cons (Weak.nil _) (.cons (Weak.nil _) (.cons (.refl _) .nil)))))) (.cons (.refl _) .nil))))<|.n)
theorem ptake_ny (s:Rst) (h:s.Fit) (hh:∀ k,k<(cntV s 8).toNat→(takeR (tkS (cntS s 8) k)).2=0) (hx:cntV (tkS (cntS s 8) (cntV s 8).toNat) 1≠1) (hb:(cntS (tkS (cntS s 8) (cntV s 8).toNat) 1).2=0):VM Try.prog 48 ([.ptr 100000 0 0]) ([(100000,.var (rdC s))]) (.tup [.agg [.sl 19 ((tkL (cntS s 8) (cntV s 8).toNat).map nodC),bv false,ints .i8 [],ints .i32 [],i32 0],i64 0]) ([(100000,.var (rdC (cntS (tkS (cntS s 8) (cntV s 8).toNat) 1)))]):=by
 have q:=cntV_rng (m:=8) h.i (by decide)
 have q9:=h.i
 have qa:(tkS (cntS s 8) (cntV s 8).toNat).In:=(tkS_fit (cnt_fit h 8) _).i
 have qc:=tkS_fit (cnt_fit h 8) (cntV s 8).toNat
 have qd:=(cnt_fit qc 1).e
 have qe:=(cnt_fit (lst_fit (cnt_fit qc 1)) 2147483647).e
 have oz1 := @tnum_1 (s) (0) (8) q9 (by omega) (by omega)
 have oz6 := @ptkb_y (s) h hh
 have oz7 := @VM.pre _ _ ([AV.ifc 169 (AV.agg [AV.ptr 100000 0 0]),AV.ptr 100001 0 0]) _ ([(950,Blk.slc 47 19 (List.map nodC (tkL (cntS s 8) (cntV s 8).toNat))),(100000,Blk.var [AV.sl 1 (List.map (row1 IntKind.u8) (tkS (cntS s 8) (cntV s 8).toNat).fst),i64 (tkS (cntS s 8) (cntV s 8).toNat).snd]),(100001,Blk.var [AV.own 950,bv false,AV.sl 1 [],AV.sl 1 [],i32 0])]) _ _ _ ([GI.sort]) _ (@texit_n (tkS (cntS s 8) (cntV s 8).toNat) (tkL (cntS s 8) (cntV s 8).toNat) ([]) ([]) (0) qa hx) (by kernel_rfl) (.n)
 have oz8 := @bad_v (cntS (tkS (cntS s 8) (cntV s 8).toNat) 1) qd
 exact VM.run (fn:=Try.f48) (W:=[.r [] [],.r [] [],.br false,.r [] [],.r [] [],.r [] [.callm [(100000,100000),(6,100001)] [] (rM oz1) (oM oz1)],.r [] [],.code [.any [3,6,10,11,13,14,15,16,17],.drop [6],.weak 19 (i64 (↑0:Int)),.nilc 900 47 19 5 0,.blk 2 (Blk.var [AV.any,AV.any,AV.any,AV.any,AV.any]),.blk 5 (Blk.var [AV.own 900,bv false,AV.sl 1 [],AV.sl 1 [],i32 0]),.blk 100000 (Blk.var [AV.sl 1 (List.map (row1 IntKind.u8) (tkS (cntS s 8) 0).fst),i64 (tkS (cntS s 8) 0).snd]),.sort] (Exit.exit 0) (zO oz6),.r [] [.callm [(900,950),(100000,100000),(5,100001)] [(950,20000)] (rM oz7) (oM oz7)],.r [] [cm oz8],.r [] [],.br false,.r [] []]) (G:=[.frz 20000,.drop [2,4,5],.sort]) Try.func48 (by kernel_rfl) (.c z0_<|.c oz1<|.c (Weak.int (k:=.i64) (show ((0):Int)=((↑0:Int)) from (by omega)))<|.c (show BlkW (Blk.var [nilv,bv false,nilv,nilv,i32 (0:Int)]) (Blk.var [AV.any,AV.any,AV.any,AV.any,AV.any]) from (BlkW.var (m:=[AV.any,AV.any,AV.any,AV.any,AV.any]) (.cons (Weak.any _) (.cons (Weak.any _) (.cons (Weak.any _) (.cons (Weak.any _) (.cons (Weak.any _) .nil)))))))<|.c (show BlkW (Blk.var [AV.own (900:Nat),bv false,nilv,nilv,i32 (0:Int)]) (Blk.var [AV.own (900:Nat),bv false,AV.sl (1:Nat) [],AV.sl (1:Nat) [],i32 (0:Int)]) from (BlkW.var (m:=[AV.own 900,bv false,AV.sl 1 [],AV.sl 1 [],i32 0]) (.cons (.refl _) (.cons (.refl _) (.cons (Weak.nil _) (.cons (Weak.nil _) (.cons (.refl _) .nil)))))))<|.c (show BlkW (Blk.var [AV.sl 1 (List.map (row1 IntKind.u8) (cntS s 8).fst),i64 (cntS s 8).snd]) (Blk.var [AV.sl 1 (List.map (row1 IntKind.u8) (tkS (cntS s 8) 0).fst),i64 (tkS (cntS s 8) 0).snd]) from (BlkW.var (m:=[AV.sl 1 (List.map (row1 IntKind.u8) (tkS (cntS s 8) 0).fst),i64 (tkS (cntS s 8) 0).snd]) (.cons (Weak.rows (rows_to (row1 IntKind.u8) (r:=List.map (row1 IntKind.u8) (cntS s 8).fst) (l:=(cntS s 8).fst) (m:=(tkS (cntS s 8) 0).fst) rfl (show ((cntS s 8).fst)=((tkS (cntS s 8) 0).fst) from (by rfl)))) (.cons (Weak.int (show (((cntS s 8).snd):Int)=((tkS (cntS s 8) 0).snd) from (by rfl))) .nil))))<|.c oz6<|.c oz7<|.c oz8<|.c (show ((cntS (tkS (cntS s 8) (cntV s 8).toNat) 1).snd != 0)=false by (simp;omega))<|.n)
theorem ptake_yb (s:Rst) (h:s.Fit) (hh:∀ k,k<(cntV s 8).toNat→(takeR (tkS (cntS s 8) k)).2=0) (hx:cntV (tkS (cntS s 8) (cntV s 8).toNat) 1=1) (hb:(cntS (lstS (cntS (tkS (cntS s 8) (cntV s 8).toNat) 1)) 2147483647).2≠0):VM Try.prog 48 ([.ptr 100000 0 0]) ([(100000,.var (rdC s))]) (.tup [.agg [.sl 19 [],bv false,.sl 1 [],.sl 1 [],i32 0],i64 (cntS (lstS (cntS (tkS (cntS s 8) (cntV s 8).toNat) 1)) 2147483647).2]) ([(100000,.var (rdC (cntS (lstS (cntS (tkS (cntS s 8) (cntV s 8).toNat) 1)) 2147483647)))]):=by
 have q:=cntV_rng (m:=8) h.i (by decide)
 have q9:=h.i
 have qa:(tkS (cntS s 8) (cntV s 8).toNat).In:=(tkS_fit (cnt_fit h 8) _).i
 have qc:=tkS_fit (cnt_fit h 8) (cntV s 8).toNat
 have qd:=(cnt_fit qc 1).e
 have qe:=(cnt_fit (lst_fit (cnt_fit qc 1)) 2147483647).e
 have oz1 := @tnum_1 (s) (0) (8) q9 (by omega) (by omega)
 have oz6 := @ptkb_y (s) h hh
 have oz7 := @VM.pre _ _ ([AV.ifc 169 (AV.agg [AV.ptr 100000 0 0]),AV.ptr 100001 0 0]) _ ([(950,Blk.slc 47 19 (List.map nodC (tkL (cntS s 8) (cntV s 8).toNat))),(100000,Blk.var [AV.sl 1 (List.map (row1 IntKind.u8) (tkS (cntS s 8) (cntV s 8).toNat).fst),i64 (tkS (cntS s 8) (cntV s 8).toNat).snd]),(100001,Blk.var [AV.own 950,bv false,AV.sl 1 [],AV.sl 1 [],i32 0])]) _ _ _ ([GI.sort]) _ (@texit_y (tkS (cntS s 8) (cntV s 8).toNat) (tkL (cntS s 8) (cntV s 8).toNat) ([]) ([]) (0) qa hx) (by kernel_rfl) (.n)
 have oz8 := @bad_v (cntS (lstS (cntS (tkS (cntS s 8) (cntV s 8).toNat) 1)) 2147483647) qe
 exact VM.run (fn:=Try.f48) (W:=[.r [] [],.r [] [],.br false,.r [] [],.r [] [],.r [] [.callm [(100000,100000),(6,100001)] [] (rM oz1) (oM oz1)],.r [] [],.code [.any [3,6,10,11,13,14,15,16,17],.drop [6],.weak 19 (i64 (↑0:Int)),.nilc 900 47 19 5 0,.blk 2 (Blk.var [AV.any,AV.any,AV.any,AV.any,AV.any]),.blk 5 (Blk.var [AV.own 900,bv false,AV.sl 1 [],AV.sl 1 [],i32 0]),.blk 100000 (Blk.var [AV.sl 1 (List.map (row1 IntKind.u8) (tkS (cntS s 8) 0).fst),i64 (tkS (cntS s 8) 0).snd]),.sort] (Exit.exit 0) (zO oz6),.r [] [.callm [(900,950),(100000,100000),(5,100001)] [(950,20000)] (rM oz7) (oM oz7)],.r [] [cm oz8],.r [] [],.br true,.r [] []]) (G:=[.drop [2,4,20000,5],.weak 0 (AV.tup [AV.agg [AV.sl 19 [],bv false,AV.sl 1 [],AV.sl 1 [],i32 0],i64 (cntS (lstS (cntS (tkS (cntS s 8) (cntV s 8).toNat) 1)) 2147483647).snd]),.sort]) Try.func48 (by kernel_rfl) (.c z0_<|.c oz1<|.c (Weak.int (k:=.i64) (show ((0):Int)=((↑0:Int)) from (by omega)))<|.c (show BlkW (Blk.var [nilv,bv false,nilv,nilv,i32 (0:Int)]) (Blk.var [AV.any,AV.any,AV.any,AV.any,AV.any]) from (BlkW.var (m:=[AV.any,AV.any,AV.any,AV.any,AV.any]) (.cons (Weak.any _) (.cons (Weak.any _) (.cons (Weak.any _) (.cons (Weak.any _) (.cons (Weak.any _) .nil)))))))<|.c (show BlkW (Blk.var [AV.own (900:Nat),bv false,nilv,nilv,i32 (0:Int)]) (Blk.var [AV.own (900:Nat),bv false,AV.sl (1:Nat) [],AV.sl (1:Nat) [],i32 (0:Int)]) from (BlkW.var (m:=[AV.own 900,bv false,AV.sl 1 [],AV.sl 1 [],i32 0]) (.cons (.refl _) (.cons (.refl _) (.cons (Weak.nil _) (.cons (Weak.nil _) (.cons (.refl _) .nil)))))))<|.c (show BlkW (Blk.var [AV.sl 1 (List.map (row1 IntKind.u8) (cntS s 8).fst),i64 (cntS s 8).snd]) (Blk.var [AV.sl 1 (List.map (row1 IntKind.u8) (tkS (cntS s 8) 0).fst),i64 (tkS (cntS s 8) 0).snd]) from (BlkW.var (m:=[AV.sl 1 (List.map (row1 IntKind.u8) (tkS (cntS s 8) 0).fst),i64 (tkS (cntS s 8) 0).snd]) (.cons (Weak.rows (rows_to (row1 IntKind.u8) (r:=List.map (row1 IntKind.u8) (cntS s 8).fst) (l:=(cntS s 8).fst) (m:=(tkS (cntS s 8) 0).fst) rfl (show ((cntS s 8).fst)=((tkS (cntS s 8) 0).fst) from (by rfl)))) (.cons (Weak.int (show (((cntS s 8).snd):Int)=((tkS (cntS s 8) 0).snd) from (by rfl))) .nil))))<|.c oz6<|.c oz7<|.c oz8<|.c (show ((cntS (lstS (cntS (tkS (cntS s 8) (cntV s 8).toNat) 1)) 2147483647).snd != 0)=true by (simp;omega))<|.c (show Weak (AV.tup [AV.agg [nilv,bv false,nilv,nilv,i32 0],i64 (cntS (lstS (cntS (tkS (cntS s 8) (cntV s 8).toNat) 1)) 2147483647).snd]) (AV.tup [AV.agg [AV.sl 19 [],bv false,AV.sl 1 [],AV.sl 1 [],i32 0],i64 (cntS (lstS (cntS (tkS (cntS s 8) (cntV s 8).toNat) 1)) 2147483647).snd]) from (Weak.tup (.cons (Weak.agg (.cons (Weak.nil _) (.cons (.refl _) (.cons (Weak.nil _) (.cons (Weak.nil _) (.cons (.refl _) .nil)))))) (.cons (.refl _) .nil))))<|.n)
theorem ptake_yy (s:Rst) (h:s.Fit) (hh:∀ k,k<(cntV s 8).toNat→(takeR (tkS (cntS s 8) k)).2=0) (hx:cntV (tkS (cntS s 8) (cntV s 8).toNat) 1=1) (hb:(cntS (lstS (cntS (tkS (cntS s 8) (cntV s 8).toNat) 1)) 2147483647).2=0):VM Try.prog 48 ([.ptr 100000 0 0]) ([(100000,.var (rdC s))]) (.tup [.agg [.sl 19 ((tkL (cntS s 8) (cntV s 8).toNat).map nodC),bv true,ints .i8 (lstW (cntS (tkS (cntS s 8) (cntV s 8).toNat) 1)),ints .i32 (lstB (cntS (tkS (cntS s 8) (cntV s 8).toNat) 1)),i32 (cntV (lstS (cntS (tkS (cntS s 8) (cntV s 8).toNat) 1)) 2147483647)],i64 0]) ([(100000,.var (rdC (cntS (lstS (cntS (tkS (cntS s 8) (cntV s 8).toNat) 1)) 2147483647)))]):=by
 have q:=cntV_rng (m:=8) h.i (by decide)
 have q9:=h.i
 have qa:(tkS (cntS s 8) (cntV s 8).toNat).In:=(tkS_fit (cnt_fit h 8) _).i
 have qc:=tkS_fit (cnt_fit h 8) (cntV s 8).toNat
 have qd:=(cnt_fit qc 1).e
 have qe:=(cnt_fit (lst_fit (cnt_fit qc 1)) 2147483647).e
 have oz1 := @tnum_1 (s) (0) (8) q9 (by omega) (by omega)
 have oz6 := @ptkb_y (s) h hh
 have oz7 := @VM.pre _ _ ([AV.ifc 169 (AV.agg [AV.ptr 100000 0 0]),AV.ptr 100001 0 0]) _ ([(950,Blk.slc 47 19 (List.map nodC (tkL (cntS s 8) (cntV s 8).toNat))),(100000,Blk.var [AV.sl 1 (List.map (row1 IntKind.u8) (tkS (cntS s 8) (cntV s 8).toNat).fst),i64 (tkS (cntS s 8) (cntV s 8).toNat).snd]),(100001,Blk.var [AV.own 950,bv false,AV.sl 1 [],AV.sl 1 [],i32 0])]) _ _ _ ([GI.sort]) _ (@texit_y (tkS (cntS s 8) (cntV s 8).toNat) (tkL (cntS s 8) (cntV s 8).toNat) ([]) ([]) (0) qa hx) (by kernel_rfl) (.n)
 have oz8 := @bad_v (cntS (lstS (cntS (tkS (cntS s 8) (cntV s 8).toNat) 1)) 2147483647) qe
 exact VM.run (fn:=Try.f48) (W:=[.r [] [],.r [] [],.br false,.r [] [],.r [] [],.r [] [.callm [(100000,100000),(6,100001)] [] (rM oz1) (oM oz1)],.r [] [],.code [.any [3,6,10,11,13,14,15,16,17],.drop [6],.weak 19 (i64 (↑0:Int)),.nilc 900 47 19 5 0,.blk 2 (Blk.var [AV.any,AV.any,AV.any,AV.any,AV.any]),.blk 5 (Blk.var [AV.own 900,bv false,AV.sl 1 [],AV.sl 1 [],i32 0]),.blk 100000 (Blk.var [AV.sl 1 (List.map (row1 IntKind.u8) (tkS (cntS s 8) 0).fst),i64 (tkS (cntS s 8) 0).snd]),.sort] (Exit.exit 0) (zO oz6),.r [] [.callm [(900,950),(100000,100000),(5,100001)] [(950,20000)] (rM oz7) (oM oz7)],.r [] [cm oz8],.r [] [],.br false,.r [] []]) (G:=[.frz 20000,.drop [2,4,5],.sort]) Try.func48 (by kernel_rfl) (.c z0_<|.c oz1<|.c (Weak.int (k:=.i64) (show ((0):Int)=((↑0:Int)) from (by omega)))<|.c (show BlkW (Blk.var [nilv,bv false,nilv,nilv,i32 (0:Int)]) (Blk.var [AV.any,AV.any,AV.any,AV.any,AV.any]) from (BlkW.var (m:=[AV.any,AV.any,AV.any,AV.any,AV.any]) (.cons (Weak.any _) (.cons (Weak.any _) (.cons (Weak.any _) (.cons (Weak.any _) (.cons (Weak.any _) .nil)))))))<|.c (show BlkW (Blk.var [AV.own (900:Nat),bv false,nilv,nilv,i32 (0:Int)]) (Blk.var [AV.own (900:Nat),bv false,AV.sl (1:Nat) [],AV.sl (1:Nat) [],i32 (0:Int)]) from (BlkW.var (m:=[AV.own 900,bv false,AV.sl 1 [],AV.sl 1 [],i32 0]) (.cons (.refl _) (.cons (.refl _) (.cons (Weak.nil _) (.cons (Weak.nil _) (.cons (.refl _) .nil)))))))<|.c (show BlkW (Blk.var [AV.sl 1 (List.map (row1 IntKind.u8) (cntS s 8).fst),i64 (cntS s 8).snd]) (Blk.var [AV.sl 1 (List.map (row1 IntKind.u8) (tkS (cntS s 8) 0).fst),i64 (tkS (cntS s 8) 0).snd]) from (BlkW.var (m:=[AV.sl 1 (List.map (row1 IntKind.u8) (tkS (cntS s 8) 0).fst),i64 (tkS (cntS s 8) 0).snd]) (.cons (Weak.rows (rows_to (row1 IntKind.u8) (r:=List.map (row1 IntKind.u8) (cntS s 8).fst) (l:=(cntS s 8).fst) (m:=(tkS (cntS s 8) 0).fst) rfl (show ((cntS s 8).fst)=((tkS (cntS s 8) 0).fst) from (by rfl)))) (.cons (Weak.int (show (((cntS s 8).snd):Int)=((tkS (cntS s 8) 0).snd) from (by rfl))) .nil))))<|.c oz6<|.c oz7<|.c oz8<|.c (show ((cntS (lstS (cntS (tkS (cntS s 8) (cntV s 8).toNat) 1)) 2147483647).snd != 0)=false by (simp;omega))<|.n)
theorem tkS_succ (s:Rst) (k:Nat):tkS s (k+1)=tkS (takeS s) k:=by
 induction k with
 | zero=>rfl
 | succ k ih=>rw [tkS,ih];rfl
def takeB:Nat→Rst→Int×Rst
 | 0,s=>(0,s)
 | n+1,s=>if (takeR s).2≠0 then ((takeR s).2,takeS s) else takeB n (takeS s)
theorem takeB_y {n:Nat}:∀ {s:Rst},(∀ k,k<n→(takeR (tkS s k)).2=0)→takeB n s=(0,tkS s n):=by
 induction n with
 | zero=>intro s _;rfl
 | succ n ih =>
  intro s h
  have h0:(takeR s).2=0:=h 0 (by omega)
  rw [takeB,if_neg (by simpa using h0),tkS_succ]
  refine ih fun k hk=>?_
  rw [←tkS_succ];exact h (k+1) (by omega)
theorem takeB_n {n:Nat}:∀ {s:Rst} {m:Nat},m<n→(takeR (tkS s m)).2≠0→(∀ k,k<m→(takeR (tkS s k)).2=0)→takeB n s=((takeR (tkS s m)).2,tkS s (m+1)):=by
 induction n with
 | zero=>intro s m hm;omega
 | succ n ih =>
  intro s m hm hf h
  cases m with
  | zero=>rw [takeB,if_pos (by exact hf)];rfl
  | succ m =>
   have h0:(takeR s).2=0:=h 0 (by omega)
   rw [takeB,if_neg (by simpa using h0),tkS_succ s m,tkS_succ s (m+1)]
   rw [tkS_succ] at hf
   refine ih (by omega) hf fun k hk=>?_
   rw [←tkS_succ];exact h (k+1) (by omega)
theorem first_of {n:Nat} {p:Nat→Prop}:(∀ k,k<n→p k)∨∃ m,m<n∧¬ p m∧∀ k,k<m→p k:=by
 induction n with
 | zero=>exact .inl fun k hk=>by omega
 | succ n ih =>
  rcases ih with h | ⟨m,hm,hf,h⟩
  ·by_cases hp:p n
   ·exact .inl fun k hk=>by
     by_cases hk2:k<n
     ·exact h k hk2
     ·rw [show k=n by omega];exact hp
   ·exact .inr ⟨n,by omega,hp,h⟩
  ·exact .inr ⟨m,by omega,hf,h⟩
def blc0:Blc:=⟨[],false,[],[],0⟩
def exN (s:Rst) (l:List Nod):Blc:=if cntV s 1=1 then ⟨l,true,lstW (cntS s 1),lstB (cntS s 1),cntV (lstS (cntS s 1)) 2147483647⟩ else ⟨l,false,[],[],0⟩
def nodesT (s:Rst):List Nod:=tkL (cntS s 8) (cntV s 8).toNat
def blkT (s:Rst):(Blc×Int)×Rst :=
 if (takeB (cntV s 8).toNat (cntS s 8)).1≠0 then ((blc0,(takeB (cntV s 8).toNat (cntS s 8)).1),(takeB (cntV s 8).toNat (cntS s 8)).2)
 else if (exS (stB s)).2≠0 then ((blc0,(exS (stB s)).2),exS (stB s)) else ((exN (stB s) (nodesT s),0),exS (stB s))
theorem blkT_f {s:Rst} {m:Nat} (hm:m<(cntV s 8).toNat) (hf:(takeR (tkS (cntS s 8) m)).2≠0) (h:∀ k,k<m→(takeR (tkS (cntS s 8) k)).2=0):blkT s=((blc0,(takeR (tkS (cntS s 8) m)).2),tkS (cntS s 8) (m+1)):=by
 unfold blkT;rw [takeB_n hm hf h,if_pos (by exact hf)]
theorem blkT_b {s:Rst} (h:∀ k,k<(cntV s 8).toNat→(takeR (tkS (cntS s 8) k)).2=0) (hb:(exS (stB s)).2≠0):blkT s=((blc0,(exS (stB s)).2),exS (stB s)):=by
 unfold blkT;rw [takeB_y h,if_neg (by simp),if_pos hb]
theorem blkT_y {s:Rst} (h:∀ k,k<(cntV s 8).toNat→(takeR (tkS (cntS s 8) k)).2=0) (hb:(exS (stB s)).2=0):blkT s=((exN (stB s) (nodesT s),0),exS (stB s)):=by
 unfold blkT;rw [takeB_y h,if_neg (by simp),if_neg (by simpa using hb)]
theorem blkT_cases (s:Rst):(∃ m,m<(cntV s 8).toNat∧(takeR (tkS (cntS s 8) m)).2≠0∧∀ k,k<m→(takeR (tkS (cntS s 8) k)).2=0)∨((∀ k,k<(cntV s 8).toNat→(takeR (tkS (cntS s 8) k)).2=0)∧(exS (stB s)).2≠0)∨((∀ k,k<(cntV s 8).toNat→(takeR (tkS (cntS s 8) k)).2=0)∧(exS (stB s)).2=0):=by
 rcases first_of (n:=(cntV s 8).toNat) (p:=fun k=>(takeR (tkS (cntS s 8) k)).2=0) with h | h
 ·by_cases hb:(exS (stB s)).2=0
  ·exact .inr (.inr ⟨h,hb⟩)
  ·exact .inr (.inl ⟨h,hb⟩)
 ·exact .inl h
theorem exS_fit {s:Rst} (h:s.Fit):(exS s).Fit:=by
 unfold exS
 split
 ·exact cnt_fit (lst_fit (cnt_fit h 1)) _
 ·exact cnt_fit h 1
theorem blkT_fit {s:Rst} (h:s.Fit):(blkT s).2.Fit:=by
 rcases blkT_cases s with ⟨m,hm,hf,hh⟩ | ⟨hh,hb⟩ | ⟨hh,hb⟩
 ·rw [blkT_f hm hf hh];exact tkS_fit (cnt_fit h 8) _
 ·rw [blkT_b hh hb];exact exS_fit (tkS_fit (cnt_fit h 8) _)
 ·rw [blkT_y hh hb];exact exS_fit (tkS_fit (cnt_fit h 8) _)
theorem ptake_v (s:Rst) (h:s.Fit):VM Try.prog 48 [.ptr 100000 0 0] [(100000,.var (rdC s))] (.tup [blc (blkT s).1.1,i64 (blkT s).1.2]) [(100000,.var (rdC (blkT s).2))]:=by
 rcases blkT_cases s with ⟨m,hm,hf,hh⟩ | ⟨hh,hb⟩ | ⟨hh,hb⟩
 ·rw [blkT_f hm hf hh];exact ptake_f s m h hm hf hh
 ·rw [blkT_b hh hb]
  unfold exS stB at hb ⊢
  by_cases hx:cntV (tkS (cntS s 8) (cntV s 8).toNat) 1=1
  ·rw [if_pos hx] at hb ⊢;exact ptake_yb s h hh hx hb
  ·rw [if_neg hx] at hb ⊢;exact ptake_nb s h hh hx hb
 ·rw [blkT_y hh hb]
  unfold exS at hb ⊢
  unfold stB at hb ⊢
  unfold exN
  by_cases hx:cntV (tkS (cntS s 8) (cntV s 8).toNat) 1=1
  ·rw [if_pos hx] at hb ⊢;rw [if_pos hx];exact ptake_yy s h hh hx hb
  ·rw [if_neg hx] at hb ⊢;rw [if_neg hx];exact ptake_ny s h hh hx hb
def headX (x:Blc):Int:=if x.ex=false∧(0<x.w.length∨0<x.b.length∨x.nd≠0) then 11 else if x.nd<0∨16384<x.w.length∨16384<x.b.length then 3 else 0
def nodesE:List Nod→Int
 | []=>0
 | n::l=>if (nodeR n).2≠0 then (nodeR n).2 else nodesE l
theorem nodesE_y {l:List Nod}:(∀ n∈l,(nodeR n).2=0)→nodesE l=0:=by
 induction l with
 | nil=>intro _;rfl
 | cons n l ih =>
  intro h
  rw [nodesE,if_neg (by simpa using h n (by simp))]
  exact ih fun y hy=>h y (by simp [hy])
theorem nodesE_n {l:List Nod}:∀ {m:Nat},m<l.length→(nodeR (l.getD m default)).2≠0→(∀ k,k<m→(nodeR (l.getD k default)).2=0)→nodesE l=(nodeR (l.getD m default)).2:=by
 induction l with
 | nil=>intro m hm;simp at hm
 | cons n l ih =>
  intro m hm hf h
  cases m with
  | zero=>rw [nodesE,if_pos (by exact hf)];rfl
  | succ m =>
   have h0:(nodeR n).2=0:=h 0 (by omega)
   rw [nodesE,if_neg (by simpa using h0)]
   exact ih (by simpa using hm) hf fun k hk=>h (k+1) (by omega)
def exitL (B:List Int) (x:Blc):List Int:=if x.ex=true then B++putN 1++putN (x.w.length:Int)++smallL x.w++putN (x.b.length:Int)++wideL x.b++putN x.nd else B++putN 0
def blockR (x:Blc):List Int×Int:=if 8<x.n.length then ([],4) else if nodesE x.n≠0 then ([],nodesE x.n) else if headX x≠0 then ([],headX x) else (exitL (accB x.n (putN (x.n.length:Int)) x.n.length) x,0)
theorem headMay_a (x:Blc) (h:x.ex=false) (h2:0<x.w.length∨0<x.b.length∨x.nd≠0):VC Try.prog 115 ([blc x]) (i64 11):=by
 rcases bft (!x.ex&&(decide ((↑(List.map (row1 IntKind.i8) x.w).length:Int) > 0) || decide ((↑(List.map (row1 IntKind.i32) x.b).length:Int) > 0) || x.nd != 0)) with hc0 | hc0
 ·have gc0:x.ex=false∧(((↑(List.map (row1 IntKind.i8) x.w).length:Int) > 0∨(↑(List.map (row1 IntKind.i32) x.b).length:Int) > 0)∨¬x.nd=0):=by first | (simp only [Bool.or_eq_true,Bool.or_eq_false_iff,Bool.and_eq_true,Bool.and_eq_false_iff,Bool.not_eq_true',Bool.not_eq_false',decide_eq_true_eq,decide_eq_false_iff_not,beq_iff_eq,bne_iff_ne,ne_eq,beq_eq_false_iff_ne,bne_eq_false_iff_eq,eqNums,Bool.and_true] at hc0;first | exact hc0 | omega) | simpa using hc0 | (simp at hc0 ⊢;omega) | (apply cbc;intro hn;simp_all [eqNums];done) | (apply cbc;intro hn;simp [eqNums] at hc0 hn;omega)
  exact VC.run (fn:=Try.f115) (W:=[.r [] [],.r [] [],.r [] [.op false,.op false,.op false,.op false,.op false,.op false,.op false,.op false,.op false,.op false,.sel 1,.op false,.op false,.op false,.op false,.op false,.sel 1,.sel 2],.br true,.r [] []]) Try.func115 (by kernel_rfl) (.c hc0<|.n)
 ·have gc0:x.ex=true∨(¬(↑(List.map (row1 IntKind.i8) x.w).length:Int) > 0∧¬(↑(List.map (row1 IntKind.i32) x.b).length:Int) > 0)∧x.nd=0:=by first | (simp only [Bool.or_eq_true,Bool.or_eq_false_iff,Bool.and_eq_true,Bool.and_eq_false_iff,Bool.not_eq_true',Bool.not_eq_false',decide_eq_true_eq,decide_eq_false_iff_not,beq_iff_eq,bne_iff_ne,ne_eq,beq_eq_false_iff_ne,bne_eq_false_iff_eq,eqNums,Bool.and_true] at hc0;first | exact hc0 | omega) | simpa using hc0 | (simp at hc0 ⊢;omega) | (apply cbc;intro hn;simp_all [eqNums];done) | (apply cbc;intro hn;simp [eqNums] at hc0 hn;omega)
  rcases bft (decide (x.nd<0) || decide ((↑(List.map (row1 IntKind.i8) x.w).length:Int) > 16384) || decide ((↑(List.map (row1 IntKind.i32) x.b).length:Int) > 16384)) with hc1 | hc1
  ·have gc1:(x.nd<0∨(↑(List.map (row1 IntKind.i8) x.w).length:Int) > 16384)∨(↑(List.map (row1 IntKind.i32) x.b).length:Int) > 16384:=by first | (simp only [Bool.or_eq_true,Bool.or_eq_false_iff,Bool.and_eq_true,Bool.and_eq_false_iff,Bool.not_eq_true',Bool.not_eq_false',decide_eq_true_eq,decide_eq_false_iff_not,beq_iff_eq,bne_iff_ne,ne_eq,beq_eq_false_iff_ne,bne_eq_false_iff_eq,eqNums,Bool.and_true] at hc1;first | exact hc1 | omega) | simpa using hc1 | (simp at hc1 ⊢;omega) | (apply cbc;intro hn;simp_all [eqNums];done) | (apply cbc;intro hn;simp [eqNums] at hc1 hn;omega)
   exact (VC.run (fn:=Try.f115) (W:=[.r [] [],.r [] [],.r [] [.op false,.op false,.op false,.op false,.op false,.op false,.op false,.op false,.op false,.op false,.sel 1,.op false,.op false,.op false,.op false,.op false,.sel 1,.sel 2],.br false,.r [] [.op false,.op false,.op false,.op false,.sel 1,.op false,.op false,.op false,.op false,.sel 1],.br true,.r [] []]) (r:=i64 3) Try.func115 (by kernel_rfl) (.c hc0<|.c hc1<|.n)).weak (WeakL.refl _) (Weak.int (show ((3):Int)=(11) from (by (simp_all;done))))
  ·have gc1:(¬x.nd<0∧¬(↑(List.map (row1 IntKind.i8) x.w).length:Int) > 16384)∧¬(↑(List.map (row1 IntKind.i32) x.b).length:Int) > 16384:=by first | (simp only [Bool.or_eq_true,Bool.or_eq_false_iff,Bool.and_eq_true,Bool.and_eq_false_iff,Bool.not_eq_true',Bool.not_eq_false',decide_eq_true_eq,decide_eq_false_iff_not,beq_iff_eq,bne_iff_ne,ne_eq,beq_eq_false_iff_ne,bne_eq_false_iff_eq,eqNums,Bool.and_true] at hc1;first | exact hc1 | omega) | simpa using hc1 | (simp at hc1 ⊢;omega) | (apply cbc;intro hn;simp_all [eqNums];done) | (apply cbc;intro hn;simp [eqNums] at hc1 hn;omega)
   exact (VC.run (fn:=Try.f115) (W:=[.r [] [],.r [] [],.r [] [.op false,.op false,.op false,.op false,.op false,.op false,.op false,.op false,.op false,.op false,.sel 1,.op false,.op false,.op false,.op false,.op false,.sel 1,.sel 2],.br false,.r [] [.op false,.op false,.op false,.op false,.sel 1,.op false,.op false,.op false,.op false,.sel 1],.br false,.r [] []]) (r:=i64 0) Try.func115 (by kernel_rfl) (.c hc0<|.c hc1<|.n)).weak (WeakL.refl _) (Weak.int (show ((0):Int)=(11) from (by (simp_all;done))))
theorem headMay_b (x:Blc) (h:¬ (x.ex=false∧(0<x.w.length∨0<x.b.length∨x.nd≠0))) (h2:x.nd<0∨16384<x.w.length∨16384<x.b.length):VC Try.prog 115 ([blc x]) (i64 3):=by
 rcases bft (!x.ex&&(decide ((↑(List.map (row1 IntKind.i8) x.w).length:Int) > 0) || decide ((↑(List.map (row1 IntKind.i32) x.b).length:Int) > 0) || x.nd != 0)) with hc0 | hc0
 ·have gc0:x.ex=false∧(((↑(List.map (row1 IntKind.i8) x.w).length:Int) > 0∨(↑(List.map (row1 IntKind.i32) x.b).length:Int) > 0)∨¬x.nd=0):=by first | (simp only [Bool.or_eq_true,Bool.or_eq_false_iff,Bool.and_eq_true,Bool.and_eq_false_iff,Bool.not_eq_true',Bool.not_eq_false',decide_eq_true_eq,decide_eq_false_iff_not,beq_iff_eq,bne_iff_ne,ne_eq,beq_eq_false_iff_ne,bne_eq_false_iff_eq,eqNums,Bool.and_true] at hc0;first | exact hc0 | omega) | simpa using hc0 | (simp at hc0 ⊢;omega) | (apply cbc;intro hn;simp_all [eqNums];done) | (apply cbc;intro hn;simp [eqNums] at hc0 hn;omega)
  exact (VC.run (fn:=Try.f115) (W:=[.r [] [],.r [] [],.r [] [.op false,.op false,.op false,.op false,.op false,.op false,.op false,.op false,.op false,.op false,.sel 1,.op false,.op false,.op false,.op false,.op false,.sel 1,.sel 2],.br true,.r [] []]) (r:=i64 11) Try.func115 (by kernel_rfl) (.c hc0<|.n)).weak (WeakL.refl _) (Weak.int (show ((11):Int)=(3) from (by (simp_all;done))))
 ·have gc0:x.ex=true∨(¬(↑(List.map (row1 IntKind.i8) x.w).length:Int) > 0∧¬(↑(List.map (row1 IntKind.i32) x.b).length:Int) > 0)∧x.nd=0:=by first | (simp only [Bool.or_eq_true,Bool.or_eq_false_iff,Bool.and_eq_true,Bool.and_eq_false_iff,Bool.not_eq_true',Bool.not_eq_false',decide_eq_true_eq,decide_eq_false_iff_not,beq_iff_eq,bne_iff_ne,ne_eq,beq_eq_false_iff_ne,bne_eq_false_iff_eq,eqNums,Bool.and_true] at hc0;first | exact hc0 | omega) | simpa using hc0 | (simp at hc0 ⊢;omega) | (apply cbc;intro hn;simp_all [eqNums];done) | (apply cbc;intro hn;simp [eqNums] at hc0 hn;omega)
  exact VC.run (fn:=Try.f115) (W:=[.r [] [],.r [] [],.r [] [.op false,.op false,.op false,.op false,.op false,.op false,.op false,.op false,.op false,.op false,.sel 1,.op false,.op false,.op false,.op false,.op false,.sel 1,.sel 2],.br false,.r [] [.op false,.op false,.op false,.op false,.sel 1,.op false,.op false,.op false,.op false,.sel 1],.br true,.r [] []]) Try.func115 (by kernel_rfl) (.c hc0<|.c (show (decide (x.nd<0) || decide ((↑(List.map (row1 IntKind.i8) x.w).length:Int) > 16384) || decide ((↑(List.map (row1 IntKind.i32) x.b).length:Int) > 16384))=true by (simp;omega))<|.n)
theorem headMay_c (x:Blc) (h:¬ (x.ex=false∧(0<x.w.length∨0<x.b.length∨x.nd≠0))) (h2:¬ (x.nd<0∨16384<x.w.length∨16384<x.b.length)):VC Try.prog 115 ([blc x]) (i64 0):=by
 rcases bft (!x.ex&&(decide ((↑(List.map (row1 IntKind.i8) x.w).length:Int) > 0) || decide ((↑(List.map (row1 IntKind.i32) x.b).length:Int) > 0) || x.nd != 0)) with hc0 | hc0
 ·have gc0:x.ex=false∧(((↑(List.map (row1 IntKind.i8) x.w).length:Int) > 0∨(↑(List.map (row1 IntKind.i32) x.b).length:Int) > 0)∨¬x.nd=0):=by first | (simp only [Bool.or_eq_true,Bool.or_eq_false_iff,Bool.and_eq_true,Bool.and_eq_false_iff,Bool.not_eq_true',Bool.not_eq_false',decide_eq_true_eq,decide_eq_false_iff_not,beq_iff_eq,bne_iff_ne,ne_eq,beq_eq_false_iff_ne,bne_eq_false_iff_eq,eqNums,Bool.and_true] at hc0;first | exact hc0 | omega) | simpa using hc0 | (simp at hc0 ⊢;omega) | (apply cbc;intro hn;simp_all [eqNums];done) | (apply cbc;intro hn;simp [eqNums] at hc0 hn;omega)
  exact (VC.run (fn:=Try.f115) (W:=[.r [] [],.r [] [],.r [] [.op false,.op false,.op false,.op false,.op false,.op false,.op false,.op false,.op false,.op false,.sel 1,.op false,.op false,.op false,.op false,.op false,.sel 1,.sel 2],.br true,.r [] []]) (r:=i64 11) Try.func115 (by kernel_rfl) (.c hc0<|.n)).weak (WeakL.refl _) (Weak.int (show ((11):Int)=(0) from (by (simp_all;done))))
 ·have gc0:x.ex=true∨(¬(↑(List.map (row1 IntKind.i8) x.w).length:Int) > 0∧¬(↑(List.map (row1 IntKind.i32) x.b).length:Int) > 0)∧x.nd=0:=by first | (simp only [Bool.or_eq_true,Bool.or_eq_false_iff,Bool.and_eq_true,Bool.and_eq_false_iff,Bool.not_eq_true',Bool.not_eq_false',decide_eq_true_eq,decide_eq_false_iff_not,beq_iff_eq,bne_iff_ne,ne_eq,beq_eq_false_iff_ne,bne_eq_false_iff_eq,eqNums,Bool.and_true] at hc0;first | exact hc0 | omega) | simpa using hc0 | (simp at hc0 ⊢;omega) | (apply cbc;intro hn;simp_all [eqNums];done) | (apply cbc;intro hn;simp [eqNums] at hc0 hn;omega)
  have oz1:=(decide_eq_false (p:=(x.nd<0)) (by omega))
  exact VC.run (fn:=Try.f115) (W:=[.r [] [],.r [] [],.r [] [.op false,.op false,.op false,.op false,.op false,.op false,.op false,.op false,.op false,.op false,.sel 1,.op false,.op false,.op false,.op false,.op false,.sel 1,.sel 2],.br false,.r [] [.br true,.br true,.br true,.br true,.br false,.op false,.op false,.op false,.op false,.sel 1],.br false,.r [] []]) Try.func115 (by kernel_rfl) (.c hc0<|.c oz1<|.c oz1<|.c oz1<|.c oz1<|.c oz1<|.c (show (decide ((↑(List.map (row1 IntKind.i8) x.w).length:Int) > 16384) || decide ((↑(List.map (row1 IntKind.i32) x.b).length:Int) > 16384))=false by (simp;omega))<|.n)
theorem headMay_v (x:Blc):VC Try.prog 115 [blc x] (i64 (headX x)):=by
 unfold headX
 split
 ·rename_i h;exact headMay_a x h.1 h.2
 ·rename_i h
  split
  ·rename_i h2;exact headMay_b x h h2
  ·rename_i h2;exact headMay_c x h h2
noncomputable def pblk_y_I (x:Blc) (B:List Int) (k:Nat):VS:=stt 59 [(1,.ptr 1 0 0),(4,.ptr 16 0 0),(23,.sl 19 (x.n.map nodC)),(24,i64 x.n.length),(25,i64 k)] [(1,.var (blcC x)),(16,.var [.own 900]),(900,.slc 5 1 ((accB x.n B k).map (row1 .u8)))]
noncomputable def pblk_y_Z (x:Blc) (B:List Int):VS:=pblk_y_I x B (x.n.length)
theorem pblk_y_s (x:Blc) (B:List Int) (hn:Nods x.n) (hl:x.n.length≤8) (hB:B.length≤10) (h:∀ k,k<x.n.length→(nodeR (x.n.getD k default)).2=0) (k:Nat) (hk:k<x.n.length):VT Try.prog (fnC Try.f46 [1,1,1,1,1,0,1,0,0]) (pblk_y_I x B k) .normal (pblk_y_I x B (k+1)):=by
 have q:=h k hk
 have q1:=getD_in hn.ok hk
 obtain ⟨q2,q3⟩:=getD_in hn.w hk
 have q4:=accB_le hn B (Nat.le_of_lt hk)
 have q5:=nodeR_le _ q1
 have q6:(x.n.getD k default).w.length≤100000:=by omega
 have q7:(x.n.getD k default).b.length≤100000:=by omega
 have oz2:=(map_at (nodC) (default) (l:=x.n) (i:=k) hk)
 have oz3 := @pnode_v (x.n.getD k default) q1 q6 q7
 exact VT.run (W:=[.r [] [],.br true,.r [] [.row (sO oz2)],.r [] [.callr (rO oz3)],.r [] [],.br false,.r [] [],.r [] [.n ((↑k:Int)+1)]]) (G:=[.any (rg [(7,3),(26,10),(37,10)]),.drop [7],.ren 43 900,.weak 25 (i64 (↑(k+1):Int)),.blk 900 (Blk.slc 5 1 (List.map (row1 IntKind.u8) (accB x.n B (k+1)))),.sort]) (by kernel_rfl) (.c (decide_eq_true (p:=((↑k:Int)<(↑x.n.length:Int))) (by omega))<|.c (show 0≤(↑k:Int) by omega)<|.c oz2<|.c oz3<|.c (show ((nodeR (x.n.getD k default)).snd != 0)=false by (simp at *;omega))<|.c (show ((List.map (row1 IntKind.u8) (accB x.n B k)).length+(List.map (row1 IntKind.u8) (nodeR (x.n.getD k default)).fst).length)*1≤140737488355328 by (simp only [List.length_map];omega))<|.c (show (List.map (row1 IntKind.u8) (accB x.n B k)).length+(List.map (row1 IntKind.u8) (nodeR (x.n.getD k default)).fst).length≤9223372036854775807 by (simp only [List.length_map];omega))<|.c (i6n ((↑k:Int)+1) (by omega))<|.c (Weak.int (k:=.i64) (show (((↑k:Int)+1):Int)=((↑(k+1):Int)) from (by omega)))<|.c (show BlkW (Blk.slc 5 1 (List.map (row1 IntKind.u8) (accB x.n B k)++List.map (row1 IntKind.u8) (nodeR (x.n.getD k default)).fst)) (Blk.slc 5 1 (List.map (row1 IntKind.u8) (accB x.n B (k+1)))) from (BlkW.rows (e:=5) (z:=1) (rows_to (row1 IntKind.u8) (r:=List.map (row1 IntKind.u8) (accB x.n B k)++List.map (row1 IntKind.u8) (nodeR (x.n.getD k default)).fst) (l:=accB x.n B k++(nodeR (x.n.getD k default)).fst) (m:=accB x.n B (k+1)) (by first|(simp;done)|rfl|(simp;rfl)) (show (accB x.n B k++(nodeR (x.n.getD k default)).fst)=(accB x.n B (k+1)) from (by rfl)))))<|.n)
theorem pblk_y_e (x:Blc) (B:List Int) (hn:Nods x.n) (hl:x.n.length≤8) (hB:B.length≤10) (h:∀ k,k<x.n.length→(nodeR (x.n.getD k default)).2=0):VT Try.prog (fnC Try.f46 [1,1,1,1,1,0,1,0,0]) (pblk_y_I x B (x.n.length)) (.exit 0) (pblk_y_Z x B):=by
 exact VT.run (W:=[.r [] [],.br false]) (G:=[.any [26],.sort]) (by kernel_rfl) (.c (decide_eq_false (p:=((↑x.n.length:Int)<(↑x.n.length:Int))) (by omega))<|.n)
theorem pblk_y (x:Blc) (B:List Int) (hn:Nods x.n) (hl:x.n.length≤8) (hB:B.length≤10) (h:∀ k,k<x.n.length→(nodeR (x.n.getD k default)).2=0):VT Try.prog (fnC Try.f46 [1,1,1,1,1,0,1,0]) (pblk_y_I x B 0) (.exit 0) (pblk_y_Z x B) :=
 VT.loop (fun k=>pblk_y_I x B k) (x.n.length) (fun k hk=>pblk_y_s x B hn hl hB h k hk) (pblk_y_e x B hn hl hB h) (by intro h;cases h)
noncomputable def pblk_n_I (x:Blc) (B:List Int) (m:Nat) (k:Nat):VS:=stt 59 [(1,.ptr 1 0 0),(4,.ptr 16 0 0),(23,.sl 19 (x.n.map nodC)),(24,i64 x.n.length),(25,i64 k)] [(1,.var (blcC x)),(16,.var [.own 900]),(900,.slc 5 1 ((accB x.n B k).map (row1 .u8)))]
noncomputable def pblk_n_Z (x:Blc) (B:List Int) (m:Nat):VS:=stt 59 [(2,nilv),(3,i64 (nodeR (x.n.getD m default)).2)] []
theorem pblk_n_s (x:Blc) (B:List Int) (m:Nat) (hn:Nods x.n) (hl:x.n.length≤8) (hB:B.length≤10) (hm:m<x.n.length) (hf:(nodeR (x.n.getD m default)).2≠0) (h:∀ k,k<m→(nodeR (x.n.getD k default)).2=0) (k:Nat) (hk:k<m):VT Try.prog (fnC Try.f46 [1,1,1,1,1,0,1,0,0]) (pblk_n_I x B m k) .normal (pblk_n_I x B m (k+1)):=by
 have q:=h k hk
 have q0:k<x.n.length:=by omega
 have q1:=getD_in hn.ok q0
 obtain ⟨q2,q3⟩:=getD_in hn.w q0
 have q4:=accB_le hn B (Nat.le_of_lt q0)
 have q5:=nodeR_le _ q1
 have q6:(x.n.getD k default).w.length≤100000:=by omega
 have q7:(x.n.getD k default).b.length≤100000:=by omega
 have oz2:=(map_at (nodC) (default) (l:=x.n) (i:=k) q0)
 have oz3 := @pnode_v (x.n.getD k default) q1 q6 q7
 exact VT.run (W:=[.r [] [],.br true,.r [] [.row (sO oz2)],.r [] [.callr (rO oz3)],.r [] [],.br false,.r [] [],.r [] [.n ((↑k:Int)+1)]]) (G:=[.any (rg [(7,3),(26,10),(37,10)]),.drop [7],.ren 43 900,.weak 25 (i64 (↑(k+1):Int)),.blk 900 (Blk.slc 5 1 (List.map (row1 IntKind.u8) (accB x.n B (k+1)))),.sort]) (by kernel_rfl) (.c (decide_eq_true (p:=((↑k:Int)<(↑x.n.length:Int))) (by omega))<|.c (show 0≤(↑k:Int) by omega)<|.c oz2<|.c oz3<|.c (show ((nodeR (x.n.getD k default)).snd != 0)=false by (simp at *;omega))<|.c (show ((List.map (row1 IntKind.u8) (accB x.n B k)).length+(List.map (row1 IntKind.u8) (nodeR (x.n.getD k default)).fst).length)*1≤140737488355328 by (simp only [List.length_map];omega))<|.c (show (List.map (row1 IntKind.u8) (accB x.n B k)).length+(List.map (row1 IntKind.u8) (nodeR (x.n.getD k default)).fst).length≤9223372036854775807 by (simp only [List.length_map];omega))<|.c (i6n ((↑k:Int)+1) (by omega))<|.c (Weak.int (k:=.i64) (show (((↑k:Int)+1):Int)=((↑(k+1):Int)) from (by omega)))<|.c (show BlkW (Blk.slc 5 1 (List.map (row1 IntKind.u8) (accB x.n B k)++List.map (row1 IntKind.u8) (nodeR (x.n.getD k default)).fst)) (Blk.slc 5 1 (List.map (row1 IntKind.u8) (accB x.n B (k+1)))) from (BlkW.rows (e:=5) (z:=1) (rows_to (row1 IntKind.u8) (r:=List.map (row1 IntKind.u8) (accB x.n B k)++List.map (row1 IntKind.u8) (nodeR (x.n.getD k default)).fst) (l:=accB x.n B k++(nodeR (x.n.getD k default)).fst) (m:=accB x.n B (k+1)) (by first|(simp;done)|rfl|(simp;rfl)) (show (accB x.n B k++(nodeR (x.n.getD k default)).fst)=(accB x.n B (k+1)) from (by rfl)))))<|.n)
theorem pblk_n_e (x:Blc) (B:List Int) (m:Nat) (hn:Nods x.n) (hl:x.n.length≤8) (hB:B.length≤10) (hm:m<x.n.length) (hf:(nodeR (x.n.getD m default)).2≠0) (h:∀ k,k<m→(nodeR (x.n.getD k default)).2=0):VT Try.prog (fnC Try.f46 [1,1,1,1,1,0,1,0,0]) (pblk_n_I x B m (m)) (.ret) (pblk_n_Z x B m):=by
 have q1:=getD_in hn.ok hm
 obtain ⟨q2,q3⟩:=getD_in hn.w hm
 have q6:(x.n.getD m default).w.length≤100000:=by omega
 have q7:(x.n.getD m default).b.length≤100000:=by omega
 have oz2:=(map_at (nodC) (default) (l:=x.n) (i:=m) hm)
 have oz3 := @pnode_v (x.n.getD m default) q1 q6 q7
 exact VT.run (W:=[.r [] [],.br true,.r [] [.row (sO oz2)],.r [] [.callr (rO oz3)],.r [] [],.br true,.r [] []]) (G:=[.any (rg [(1,1),(4,1),(7,3),(23,14)]),.drop [1,16,900,7],.sort]) (by kernel_rfl) (.c (decide_eq_true (p:=((↑m:Int)<(↑x.n.length:Int))) (by omega))<|.c (show 0≤(↑m:Int) by omega)<|.c oz2<|.c oz3<|.c (show ((nodeR (x.n.getD m default)).snd != 0)=true by (simp at *;omega))<|.n)
theorem pblk_n (x:Blc) (B:List Int) (m:Nat) (hn:Nods x.n) (hl:x.n.length≤8) (hB:B.length≤10) (hm:m<x.n.length) (hf:(nodeR (x.n.getD m default)).2≠0) (h:∀ k,k<m→(nodeR (x.n.getD k default)).2=0):VT Try.prog (fnC Try.f46 [1,1,1,1,1,0,1,0]) (pblk_n_I x B m 0) (.ret) (pblk_n_Z x B m) :=
 VT.loop (fun k=>pblk_n_I x B m k) (m) (fun k hk=>pblk_n_s x B m hn hl hB hm hf h k hk) (pblk_n_e x B m hn hl hB hm hf h) (by intro h;cases h)
noncomputable def rblk_y_I (x:Blc) (B:List Int) (k:Nat):VS:=stt 92 [(1,.ptr 1 0 0),(4,.own 900),(5,i64 k)] [(1,.var (blcC x)),(900,.slc 5 1 ((accB x.n B k).map (row1 .u8)))]
noncomputable def rblk_y_Z (x:Blc) (B:List Int):VS:=rblk_y_I x B (x.n.length)
theorem rblk_y_s (x:Blc) (B:List Int) (hn:Nods x.n) (hl:x.n.length≤8) (hB:B.length≤10) (h:∀ k,k<x.n.length→(nodeR (x.n.getD k default)).2=0) (k:Nat) (hk:k<x.n.length):VT Try.prog (fnC Try.f47 [1,1,1,0,1,0,0]) (rblk_y_I x B k) .normal (rblk_y_I x B (k+1)):=by
 have q:=h k hk
 have q1:=getD_in hn.ok hk
 obtain ⟨q2,q3⟩:=getD_in hn.w hk
 have q4:=accB_le hn B (Nat.le_of_lt hk)
 have q5:=nodeR_le _ q1
 have q6:(x.n.getD k default).w.length≤100000:=by omega
 have q7:(x.n.getD k default).b.length≤100000:=by omega
 have oz2:=(map_at (nodC) (default) (l:=x.n) (i:=k) hk)
 have oz3 := @rnode_v (x.n.getD k default) q1 q6 q7
 exact VT.run (W:=[.r [] [],.br true,.r [] [.row (sO oz2),.callr (rO oz3)],.r [] [],.br false,.r [] [],.r [] [.n ((↑k:Int)+1)]]) (G:=[.any (rg [(6,2),(17,18),(36,3)]),.ren 38 900,.weak 5 (i64 (↑(k+1):Int)),.blk 900 (Blk.slc 5 1 (List.map (row1 IntKind.u8) (accB x.n B (k+1)))),.sort]) (by kernel_rfl) (.c (show decide ((↑k:Int)<(↑(List.map nodC x.n).length:Int))=true by (simp;omega))<|.c (show 0≤(↑k:Int) by omega)<|.c oz2<|.c oz3<|.c (show ((nodeR (x.n.getD k default)).snd != 0)=false by (simp at *;omega))<|.c (show ((List.map (row1 IntKind.u8) (accB x.n B k)).length+(List.map (row1 IntKind.u8) (nodeR (x.n.getD k default)).fst).length)*1≤140737488355328 by (simp only [List.length_map];omega))<|.c (show (List.map (row1 IntKind.u8) (accB x.n B k)).length+(List.map (row1 IntKind.u8) (nodeR (x.n.getD k default)).fst).length≤9223372036854775807 by (simp only [List.length_map];omega))<|.c (i6n ((↑k:Int)+1) (by omega))<|.c (Weak.int (k:=.i64) (show (((↑k:Int)+1):Int)=((↑(k+1):Int)) from (by omega)))<|.c (show BlkW (Blk.slc 5 1 (List.map (row1 IntKind.u8) (accB x.n B k)++List.map (row1 IntKind.u8) (nodeR (x.n.getD k default)).fst)) (Blk.slc 5 1 (List.map (row1 IntKind.u8) (accB x.n B (k+1)))) from (BlkW.rows (e:=5) (z:=1) (rows_to (row1 IntKind.u8) (r:=List.map (row1 IntKind.u8) (accB x.n B k)++List.map (row1 IntKind.u8) (nodeR (x.n.getD k default)).fst) (l:=accB x.n B k++(nodeR (x.n.getD k default)).fst) (m:=accB x.n B (k+1)) (by first|(simp;done)|rfl|(simp;rfl)) (show (accB x.n B k++(nodeR (x.n.getD k default)).fst)=(accB x.n B (k+1)) from (by rfl)))))<|.n)
theorem rblk_y_e (x:Blc) (B:List Int) (hn:Nods x.n) (hl:x.n.length≤8) (hB:B.length≤10) (h:∀ k,k<x.n.length→(nodeR (x.n.getD k default)).2=0):VT Try.prog (fnC Try.f47 [1,1,1,0,1,0,0]) (rblk_y_I x B (x.n.length)) (.exit 0) (rblk_y_Z x B):=by
 exact VT.run (W:=[.r [] [],.br false]) (G:=[.any (rg [(17,5)]),.sort]) (by kernel_rfl) (.c (show decide ((↑x.n.length:Int)<(↑(List.map nodC x.n).length:Int))=false by (simp;done))<|.n)
theorem rblk_y (x:Blc) (B:List Int) (hn:Nods x.n) (hl:x.n.length≤8) (hB:B.length≤10) (h:∀ k,k<x.n.length→(nodeR (x.n.getD k default)).2=0):VT Try.prog (fnC Try.f47 [1,1,1,0,1,0]) (rblk_y_I x B 0) (.exit 0) (rblk_y_Z x B) :=
 VT.loop (fun k=>rblk_y_I x B k) (x.n.length) (fun k hk=>rblk_y_s x B hn hl hB h k hk) (rblk_y_e x B hn hl hB h) (by intro h;cases h)
noncomputable def rblk_n_I (x:Blc) (B:List Int) (m:Nat) (k:Nat):VS:=stt 92 [(1,.ptr 1 0 0),(4,.own 900),(5,i64 k)] [(1,.var (blcC x)),(900,.slc 5 1 ((accB x.n B k).map (row1 .u8)))]
noncomputable def rblk_n_Z (x:Blc) (B:List Int) (m:Nat):VS:=stt 92 [(2,nilv),(3,i64 (nodeR (x.n.getD m default)).2)] []
theorem rblk_n_s (x:Blc) (B:List Int) (m:Nat) (hn:Nods x.n) (hl:x.n.length≤8) (hB:B.length≤10) (hm:m<x.n.length) (hf:(nodeR (x.n.getD m default)).2≠0) (h:∀ k,k<m→(nodeR (x.n.getD k default)).2=0) (k:Nat) (hk:k<m):VT Try.prog (fnC Try.f47 [1,1,1,0,1,0,0]) (rblk_n_I x B m k) .normal (rblk_n_I x B m (k+1)):=by
 have q:=h k hk
 have q0:k<x.n.length:=by omega
 have q1:=getD_in hn.ok q0
 obtain ⟨q2,q3⟩:=getD_in hn.w q0
 have q4:=accB_le hn B (Nat.le_of_lt q0)
 have q5:=nodeR_le _ q1
 have q6:(x.n.getD k default).w.length≤100000:=by omega
 have q7:(x.n.getD k default).b.length≤100000:=by omega
 have oz2:=(map_at (nodC) (default) (l:=x.n) (i:=k) q0)
 have oz3 := @rnode_v (x.n.getD k default) q1 q6 q7
 exact VT.run (W:=[.r [] [],.br true,.r [] [.row (sO oz2),.callr (rO oz3)],.r [] [],.br false,.r [] [],.r [] [.n ((↑k:Int)+1)]]) (G:=[.any (rg [(6,2),(17,18),(36,3)]),.ren 38 900,.weak 5 (i64 (↑(k+1):Int)),.blk 900 (Blk.slc 5 1 (List.map (row1 IntKind.u8) (accB x.n B (k+1)))),.sort]) (by kernel_rfl) (.c (show decide ((↑k:Int)<(↑(List.map nodC x.n).length:Int))=true by (simp;omega))<|.c (show 0≤(↑k:Int) by omega)<|.c oz2<|.c oz3<|.c (show ((nodeR (x.n.getD k default)).snd != 0)=false by (simp at *;omega))<|.c (show ((List.map (row1 IntKind.u8) (accB x.n B k)).length+(List.map (row1 IntKind.u8) (nodeR (x.n.getD k default)).fst).length)*1≤140737488355328 by (simp only [List.length_map];omega))<|.c (show (List.map (row1 IntKind.u8) (accB x.n B k)).length+(List.map (row1 IntKind.u8) (nodeR (x.n.getD k default)).fst).length≤9223372036854775807 by (simp only [List.length_map];omega))<|.c (i6n ((↑k:Int)+1) (by omega))<|.c (Weak.int (k:=.i64) (show (((↑k:Int)+1):Int)=((↑(k+1):Int)) from (by omega)))<|.c (show BlkW (Blk.slc 5 1 (List.map (row1 IntKind.u8) (accB x.n B k)++List.map (row1 IntKind.u8) (nodeR (x.n.getD k default)).fst)) (Blk.slc 5 1 (List.map (row1 IntKind.u8) (accB x.n B (k+1)))) from (BlkW.rows (e:=5) (z:=1) (rows_to (row1 IntKind.u8) (r:=List.map (row1 IntKind.u8) (accB x.n B k)++List.map (row1 IntKind.u8) (nodeR (x.n.getD k default)).fst) (l:=accB x.n B k++(nodeR (x.n.getD k default)).fst) (m:=accB x.n B (k+1)) (by first|(simp;done)|rfl|(simp;rfl)) (show (accB x.n B k++(nodeR (x.n.getD k default)).fst)=(accB x.n B (k+1)) from (by rfl)))))<|.n)
theorem rblk_n_e (x:Blc) (B:List Int) (m:Nat) (hn:Nods x.n) (hl:x.n.length≤8) (hB:B.length≤10) (hm:m<x.n.length) (hf:(nodeR (x.n.getD m default)).2≠0) (h:∀ k,k<m→(nodeR (x.n.getD k default)).2=0):VT Try.prog (fnC Try.f47 [1,1,1,0,1,0,0]) (rblk_n_I x B m (m)) (.ret) (rblk_n_Z x B m):=by
 have q1:=getD_in hn.ok hm
 obtain ⟨q2,q3⟩:=getD_in hn.w hm
 have q6:(x.n.getD m default).w.length≤100000:=by omega
 have q7:(x.n.getD m default).b.length≤100000:=by omega
 have oz2:=(map_at (nodC) (default) (l:=x.n) (i:=m) hm)
 have oz3 := @rnode_v (x.n.getD m default) q1 q6 q7
 exact VT.run (W:=[.r [] [],.br true,.r [] [.row (sO oz2),.callr (rO oz3)],.r [] [],.br true,.r [] []]) (G:=[.any (rg [(1,1),(4,4),(17,5),(24,12)]),.drop [1,900],.sort]) (by kernel_rfl) (.c (show decide ((↑m:Int)<(↑(List.map nodC x.n).length:Int))=true by (simp;omega))<|.c (show 0≤(↑m:Int) by omega)<|.c oz2<|.c oz3<|.c (show ((nodeR (x.n.getD m default)).snd != 0)=true by (simp at *;omega))<|.n)
theorem rblk_n (x:Blc) (B:List Int) (m:Nat) (hn:Nods x.n) (hl:x.n.length≤8) (hB:B.length≤10) (hm:m<x.n.length) (hf:(nodeR (x.n.getD m default)).2≠0) (h:∀ k,k<m→(nodeR (x.n.getD k default)).2=0):VT Try.prog (fnC Try.f47 [1,1,1,0,1,0]) (rblk_n_I x B m 0) (.ret) (rblk_n_Z x B m) :=
 VT.loop (fun k=>rblk_n_I x B m k) (m) (fun k hk=>rblk_n_s x B m hn hl hB hm hf h k hk) (rblk_n_e x B m hn hl hB hm hf h) (by intro h;cases h)
theorem pblock_f (x:Blc) (h:8<x.n.length):VC Try.prog 46 ([blc x]) (.tup [.sl 1 (([]:List Int).map (row1 .u8)),i64 4]):=by
 exact (VC.run (fn:=Try.f46) (W:=[.r [] [],.r [] [],.br true,.r [] []]) (r:=AV.tup [nilv,i64 4]) Try.func46 (by kernel_rfl) (.c (show decide ((↑(List.map nodC x.n).length:Int) > 8)=true by (simp;omega))<|.n)).weak (WeakL.refl _) (Weak.tup (.cons (Weak.nil _) (.cons (.refl _) .nil)))
theorem pblock_n (L:Int→List Int) (x:Blc) (m:Nat) (hL:Puts L) (hn:Nods x.n) (hl:x.n.length≤8) (hm:m<x.n.length) (hf:(nodeR (x.n.getD m default)).2≠0) (h:∀ k,k<m→(nodeR (x.n.getD k default)).2=0):VC Try.prog 46 ([blc x]) (.tup [.sl 1 (([]:List Int).map (row1 .u8)),i64 (nodeR (x.n.getD m default)).2]):=by
 have hB:([]++L (x.n.length:Int)).length≤10:=hL.l _
 have oz1 := @VM.pre _ _ ([AV.ptr 100000 0 0,AV.ptr 100001 0 0,i64 8]) _ ([(100000,Blk.var [nilv]),(100001,Blk.var [i64 (↑(List.map nodC x.n).length:Int)])]) _ _ _ ([GI.nilc 950 5 1 100000 0,GI.sort]) _ (@lnum_1 ([]) (L) ((↑(List.map nodC x.n).length:Int)) (8) (by (simp;done)) hL) (by kernel_rfl) (.n)
 have oz5 := @pblk_n (x) ([]++L (↑(List.map nodC x.n).length:Int)) (m) hn hl (by (simp only [List.length_map] at *;omega)) hm hf h
 exact (VC.run (fn:=Try.f46) (W:=[.r [] [],.r [] [],.br false,.r [] [],.r [] [],.r [] [.callm [(16,100000),(5,100001)] [(951,20000)] (rM oz1) (oM oz1)],.r [] [],.code [.any (rg [(0,1),(2,2),(5,1),(11,12)]),.drop [5],.ren 20000 900,.weak 24 (i64 (↑x.n.length:Int)),.weak 25 (i64 (↑0:Int)),.blk 900 (Blk.slc 5 1 (List.map (row1 IntKind.u8) (accB x.n ([]++L (↑(List.map nodC x.n).length:Int)) 0))),.sort] (Exit.ret) (zO oz5)]) (r:=AV.tup [nilv,i64 (nodeR (x.n.getD m default)).snd]) Try.func46 (by kernel_rfl) (.c (show decide ((↑(List.map nodC x.n).length:Int) > 8)=false by (simp;omega))<|.c oz1<|.c (Weak.int (k:=.i64) (show (((↑(List.map nodC x.n).length:Int)):Int)=((↑x.n.length:Int)) from (by (simp;done))))<|.c (Weak.int (k:=.i64) (show ((0):Int)=((↑0:Int)) from (by omega)))<|.c (show BlkW (Blk.slc 5 1 (List.map (row1 IntKind.u8) ([]++L (↑(List.map nodC x.n).length:Int)))) (Blk.slc 5 1 (List.map (row1 IntKind.u8) (accB x.n ([]++L (↑(List.map nodC x.n).length:Int)) 0))) from (BlkW.rows (e:=5) (z:=1) (rows_to (row1 IntKind.u8) (r:=List.map (row1 IntKind.u8) ([]++L (↑(List.map nodC x.n).length:Int))) (l:=[]++L (↑(List.map nodC x.n).length:Int)) (m:=accB x.n ([]++L (↑(List.map nodC x.n).length:Int)) 0) rfl (show ([]++L (↑(List.map nodC x.n).length:Int))=(accB x.n ([]++L (↑(List.map nodC x.n).length:Int)) 0) from (by rfl)))))<|.c oz5<|.n)).weak (WeakL.refl _) (Weak.tup (.cons (Weak.nil _) (.cons (.refl _) .nil)))
theorem pblock_h (L:Int→List Int) (x:Blc) (hL:Puts L) (hn:Nods x.n) (hl:x.n.length≤8) (h:∀ k,k<x.n.length→(nodeR (x.n.getD k default)).2=0) (hx:headX x≠0):VC Try.prog 46 ([blc x]) (.tup [.sl 1 (([]:List Int).map (row1 .u8)),i64 (headX x)]):=by
 have hB:([]++L (x.n.length:Int)).length≤10:=hL.l _
 have oz1 := @VM.pre _ _ ([AV.ptr 100000 0 0,AV.ptr 100001 0 0,i64 8]) _ ([(100000,Blk.var [nilv]),(100001,Blk.var [i64 (↑(List.map nodC x.n).length:Int)])]) _ _ _ ([GI.nilc 950 5 1 100000 0,GI.sort]) _ (@lnum_1 ([]) (L) ((↑(List.map nodC x.n).length:Int)) (8) (by (simp;done)) hL) (by kernel_rfl) (.n)
 have oz5 := @pblk_y (x) ([]++L (↑(List.map nodC x.n).length:Int)) hn hl (by (simp only [List.length_map] at *;omega)) h
 have oz6 := @headMay_v (x)
 exact (VC.run (fn:=Try.f46) (W:=[.r [] [],.r [] [],.br false,.r [] [],.r [] [],.r [] [.callm [(16,100000),(5,100001)] [(951,20000)] (rM oz1) (oM oz1)],.r [] [],.code [.any (rg [(0,1),(2,2),(5,1),(11,12)]),.drop [5],.ren 20000 900,.weak 24 (i64 (↑x.n.length:Int)),.weak 25 (i64 (↑0:Int)),.blk 900 (Blk.slc 5 1 (List.map (row1 IntKind.u8) (accB x.n ([]++L (↑(List.map nodC x.n).length:Int)) 0))),.sort] (Exit.exit 0) (zO oz5),.r [] [.callr (rO oz6)],.r [] [],.br true,.r [] []]) (r:=AV.tup [nilv,i64 (headX x)]) Try.func46 (by kernel_rfl) (.c (show decide ((↑(List.map nodC x.n).length:Int) > 8)=false by (simp;omega))<|.c oz1<|.c (Weak.int (k:=.i64) (show (((↑(List.map nodC x.n).length:Int)):Int)=((↑x.n.length:Int)) from (by (simp;done))))<|.c (Weak.int (k:=.i64) (show ((0):Int)=((↑0:Int)) from (by omega)))<|.c (show BlkW (Blk.slc 5 1 (List.map (row1 IntKind.u8) ([]++L (↑(List.map nodC x.n).length:Int)))) (Blk.slc 5 1 (List.map (row1 IntKind.u8) (accB x.n ([]++L (↑(List.map nodC x.n).length:Int)) 0))) from (BlkW.rows (e:=5) (z:=1) (rows_to (row1 IntKind.u8) (r:=List.map (row1 IntKind.u8) ([]++L (↑(List.map nodC x.n).length:Int))) (l:=[]++L (↑(List.map nodC x.n).length:Int)) (m:=accB x.n ([]++L (↑(List.map nodC x.n).length:Int)) 0) rfl (show ([]++L (↑(List.map nodC x.n).length:Int))=(accB x.n ([]++L (↑(List.map nodC x.n).length:Int)) 0) from (by rfl)))))<|.c oz5<|.c oz6<|.c (show (headX x != 0)=true by (simp;omega))<|.n)).weak (WeakL.refl _) (Weak.tup (.cons (Weak.nil _) (.cons (.refl _) .nil)))
theorem pblock_xn (L:Int→List Int) (x:Blc) (hL:Puts L) (hn:Nods x.n) (hl:x.n.length≤8) (h:∀ k,k<x.n.length→(nodeR (x.n.getD k default)).2=0) (hx:headX x=0) (he:x.ex=false):VC Try.prog 46 ([blc x]) (.tup [.sl 1 ((accB x.n ([]++L (x.n.length:Int)) x.n.length++L 0).map (row1 .u8)),i64 0]):=by
 have hB:([]++L (x.n.length:Int)).length≤10:=hL.l _
 have hA:(accB x.n ([]++L (x.n.length:Int)) x.n.length).length≤400000:=by
  have:=accB_le hn ([]++L (x.n.length:Int)) (Nat.le_refl _)
  omega
 have oz1 := @VM.pre _ _ ([AV.ptr 100000 0 0,AV.ptr 100001 0 0,i64 8]) _ ([(100000,Blk.var [nilv]),(100001,Blk.var [i64 (↑(List.map nodC x.n).length:Int)])]) _ _ _ ([GI.nilc 950 5 1 100000 0,GI.sort]) _ (@lnum_1 ([]) (L) ((↑(List.map nodC x.n).length:Int)) (8) (by (simp;done)) hL) (by kernel_rfl) (.n)
 have oz5 := @pblk_y (x) ([]++L (↑(List.map nodC x.n).length:Int)) hn hl (by (simp only [List.length_map] at *;omega)) h
 have oz6 := @headMay_v (x)
 have oz8 := @lexit_n (accB x.n ([]++L (↑(List.map nodC x.n).length:Int)) x.n.length) (L) (x) (by (simp only [List.length_map] at *;omega)) hL he
 exact (VC.run (fn:=Try.f46) (W:=[.r [] [],.r [] [],.br false,.r [] [],.r [] [],.r [] [.callm [(16,100000),(5,100001)] [(951,20000)] (rM oz1) (oM oz1)],.r [] [],.code [.any (rg [(0,1),(2,2),(5,1),(11,12)]),.drop [5],.ren 20000 900,.weak 24 (i64 (↑x.n.length:Int)),.weak 25 (i64 (↑0:Int)),.blk 900 (Blk.slc 5 1 (List.map (row1 IntKind.u8) (accB x.n ([]++L (↑(List.map nodC x.n).length:Int)) 0))),.sort] (Exit.exit 0) (zO oz5),.r [] [.callr (rO oz6)],.r [] [],.br false,.r [] [.callm [(900,950),(16,100000),(1,100001)] [(951,20001)] (rM oz8) (oM oz8)],.r [] []]) (r:=AV.tup [AV.sl 1 (List.map (row1 IntKind.u8) (accB x.n ([]++L (↑(List.map nodC x.n).length:Int)) x.n.length++L 0)),i64 0]) Try.func46 (by kernel_rfl) (.c (show decide ((↑(List.map nodC x.n).length:Int) > 8)=false by (simp;omega))<|.c oz1<|.c (Weak.int (k:=.i64) (show (((↑(List.map nodC x.n).length:Int)):Int)=((↑x.n.length:Int)) from (by (simp;done))))<|.c (Weak.int (k:=.i64) (show ((0):Int)=((↑0:Int)) from (by omega)))<|.c (show BlkW (Blk.slc 5 1 (List.map (row1 IntKind.u8) ([]++L (↑(List.map nodC x.n).length:Int)))) (Blk.slc 5 1 (List.map (row1 IntKind.u8) (accB x.n ([]++L (↑(List.map nodC x.n).length:Int)) 0))) from (BlkW.rows (e:=5) (z:=1) (rows_to (row1 IntKind.u8) (r:=List.map (row1 IntKind.u8) ([]++L (↑(List.map nodC x.n).length:Int))) (l:=[]++L (↑(List.map nodC x.n).length:Int)) (m:=accB x.n ([]++L (↑(List.map nodC x.n).length:Int)) 0) rfl (show ([]++L (↑(List.map nodC x.n).length:Int))=(accB x.n ([]++L (↑(List.map nodC x.n).length:Int)) 0) from (by rfl)))))<|.c oz5<|.c oz6<|.c (show (headX x != 0)=false by (simp;omega))<|.c oz8<|.n)).weak (WeakL.refl _) (Weak.tup (.cons (Weak.rows (rows_to (row1 IntKind.u8) (r:=List.map (row1 IntKind.u8) (accB x.n ([]++L (↑(List.map nodC x.n).length:Int)) x.n.length++L 0)) (l:=accB x.n ([]++L (↑(List.map nodC x.n).length:Int)) x.n.length++L 0) (m:=accB x.n ([]++L (↑x.n.length:Int)) x.n.length++L 0) rfl (show (accB x.n ([]++L (↑(List.map nodC x.n).length:Int)) x.n.length++L 0)=(accB x.n ([]++L (↑x.n.length:Int)) x.n.length++L 0) from (by (simp;done))))) (.cons (.refl _) .nil)))
theorem pblock_xy (L:Int→List Int) (x:Blc) (hL:Puts L) (ok:x.Ok) (hn:Nods x.n) (hl:x.n.length≤8) (h:∀ k,k<x.n.length→(nodeR (x.n.getD k default)).2=0) (hx:headX x=0) (he:x.ex=true) (hw:x.w.length≤16384) (hb:x.b.length≤16384):VC Try.prog 46 ([blc x]) (.tup [.sl 1 ((accB x.n ([]++L (x.n.length:Int)) x.n.length++L 1++L (x.w.length:Int)++smallL x.w++L (x.b.length:Int)++wideL x.b++L x.nd).map (row1 .u8)),i64 0]):=by
 have hB:([]++L (x.n.length:Int)).length≤10:=hL.l _
 have hA:(accB x.n ([]++L (x.n.length:Int)) x.n.length).length≤300000:=by
  have:=accB_le hn ([]++L (x.n.length:Int)) (Nat.le_refl _)
  omega
 have h32:=ok.b
 have hnd:=ok.nd
 have oz1 := @VM.pre _ _ ([AV.ptr 100000 0 0,AV.ptr 100001 0 0,i64 8]) _ ([(100000,Blk.var [nilv]),(100001,Blk.var [i64 (↑(List.map nodC x.n).length:Int)])]) _ _ _ ([GI.nilc 950 5 1 100000 0,GI.sort]) _ (@lnum_1 ([]) (L) ((↑(List.map nodC x.n).length:Int)) (8) (by (simp;done)) hL) (by kernel_rfl) (.n)
 have oz5 := @pblk_y (x) ([]++L (↑(List.map nodC x.n).length:Int)) hn hl (by (simp only [List.length_map] at *;omega)) h
 have oz6 := @headMay_v (x)
 have oz8 := @lexit_y (accB x.n ([]++L (↑(List.map nodC x.n).length:Int)) x.n.length) (L) (x) (by (simp only [List.length_map] at *;omega)) hL he hw hb h32 hnd
 exact (VC.run (fn:=Try.f46) (W:=[.r [] [],.r [] [],.br false,.r [] [],.r [] [],.r [] [.callm [(16,100000),(5,100001)] [(951,20000)] (rM oz1) (oM oz1)],.r [] [],.code [.any (rg [(0,1),(2,2),(5,1),(11,12)]),.drop [5],.ren 20000 900,.weak 24 (i64 (↑x.n.length:Int)),.weak 25 (i64 (↑0:Int)),.blk 900 (Blk.slc 5 1 (List.map (row1 IntKind.u8) (accB x.n ([]++L (↑(List.map nodC x.n).length:Int)) 0))),.sort] (Exit.exit 0) (zO oz5),.r [] [.callr (rO oz6)],.r [] [],.br false,.r [] [.callm [(900,950),(16,100000),(1,100001)] [(951,20001)] (rM oz8) (oM oz8)],.r [] []]) (r:=AV.tup [AV.sl 1 (List.map (row1 IntKind.u8) (accB x.n ([]++L (↑(List.map nodC x.n).length:Int)) x.n.length++L 1++L (↑x.w.length:Int)++smallL x.w++L (↑x.b.length:Int)++wideL x.b++L x.nd)),i64 0]) Try.func46 (by kernel_rfl) (.c (show decide ((↑(List.map nodC x.n).length:Int) > 8)=false by (simp;omega))<|.c oz1<|.c (Weak.int (k:=.i64) (show (((↑(List.map nodC x.n).length:Int)):Int)=((↑x.n.length:Int)) from (by (simp;done))))<|.c (Weak.int (k:=.i64) (show ((0):Int)=((↑0:Int)) from (by omega)))<|.c (show BlkW (Blk.slc 5 1 (List.map (row1 IntKind.u8) ([]++L (↑(List.map nodC x.n).length:Int)))) (Blk.slc 5 1 (List.map (row1 IntKind.u8) (accB x.n ([]++L (↑(List.map nodC x.n).length:Int)) 0))) from (BlkW.rows (e:=5) (z:=1) (rows_to (row1 IntKind.u8) (r:=List.map (row1 IntKind.u8) ([]++L (↑(List.map nodC x.n).length:Int))) (l:=[]++L (↑(List.map nodC x.n).length:Int)) (m:=accB x.n ([]++L (↑(List.map nodC x.n).length:Int)) 0) rfl (show ([]++L (↑(List.map nodC x.n).length:Int))=(accB x.n ([]++L (↑(List.map nodC x.n).length:Int)) 0) from (by rfl)))))<|.c oz5<|.c oz6<|.c (show (headX x != 0)=false by (simp;omega))<|.c oz8<|.n)).weak (WeakL.refl _) (Weak.tup (.cons (Weak.rows (rows_to (row1 IntKind.u8) (r:=List.map (row1 IntKind.u8) (accB x.n ([]++L (↑(List.map nodC x.n).length:Int)) x.n.length++L 1++L (↑x.w.length:Int)++smallL x.w++L (↑x.b.length:Int)++wideL x.b++L x.nd)) (l:=accB x.n ([]++L (↑(List.map nodC x.n).length:Int)) x.n.length++L 1++L (↑x.w.length:Int)++smallL x.w++L (↑x.b.length:Int)++wideL x.b++L x.nd) (m:=accB x.n ([]++L (↑x.n.length:Int)) x.n.length++L 1++L (↑x.w.length:Int)++smallL x.w++L (↑x.b.length:Int)++wideL x.b++L x.nd) rfl (show (accB x.n ([]++L (↑(List.map nodC x.n).length:Int)) x.n.length++L 1++L (↑x.w.length:Int)++smallL x.w++L (↑x.b.length:Int)++wideL x.b++L x.nd)=(accB x.n ([]++L (↑x.n.length:Int)) x.n.length++L 1++L (↑x.w.length:Int)++smallL x.w++L (↑x.b.length:Int)++wideL x.b++L x.nd) from (by (simp;done))))) (.cons (.refl _) .nil)))
theorem rblock_f (x:Blc) (h:8<x.n.length):VC Try.prog 47 ([blc x]) (.tup [.sl 1 (([]:List Int).map (row1 .u8)),i64 4]):=by
 exact (VC.run (fn:=Try.f47) (W:=[.r [] [],.r [] [],.br true,.r [] []]) (r:=AV.tup [nilv,i64 4]) Try.func47 (by kernel_rfl) (.c (show decide ((↑(List.map nodC x.n).length:Int) > 8)=true by (simp;omega))<|.n)).weak (WeakL.refl _) (Weak.tup (.cons (Weak.nil _) (.cons (.refl _) .nil)))
theorem rblock_n (L:Int→List Int) (x:Blc) (m:Nat) (hL:RPuts L) (hn:Nods x.n) (hl:x.n.length≤8) (hm:m<x.n.length) (hf:(nodeR (x.n.getD m default)).2≠0) (h:∀ k,k<m→(nodeR (x.n.getD k default)).2=0):VC Try.prog 47 ([blc x]) (.tup [.sl 1 (([]:List Int).map (row1 .u8)),i64 (nodeR (x.n.getD m default)).2]):=by
 have hB:([]++L (x.n.length:Int)).length≤10:=hL.l _
 have oz1 := @VM.pre _ _ ([nilv,i64 (↑(List.map nodC x.n).length:Int)]) _ ([]) _ _ _ ([GI.nils 0 950 5 1,GI.sort]) _ (@rput_1 ([]) (L) ((↑(List.map nodC x.n).length:Int)) (by (simp;done)) hL) (by kernel_rfl) (.n)
 have oz4 := @rblk_n (x) ([]++L (↑(List.map nodC x.n).length:Int)) (m) hn hl (by (simp only [List.length_map] at *;omega)) hm hf h
 exact (VC.run (fn:=Try.f47) (W:=[.r [] [],.r [] [],.br false,.r [] [.callm [] [(951,20000)] (rM oz1) (oM oz1)],.r [] [],.code [.any (rg [(0,1),(2,2),(9,8)]),.ren 20000 900,.weak 5 (i64 (↑0:Int)),.blk 900 (Blk.slc 5 1 (List.map (row1 IntKind.u8) (accB x.n ([]++L (↑(List.map nodC x.n).length:Int)) 0))),.sort] (Exit.ret) (zO oz4)]) (r:=AV.tup [nilv,i64 (nodeR (x.n.getD m default)).snd]) Try.func47 (by kernel_rfl) (.c (show decide ((↑(List.map nodC x.n).length:Int) > 8)=false by (simp;omega))<|.c oz1<|.c (Weak.int (k:=.i64) (show ((0):Int)=((↑0:Int)) from (by omega)))<|.c (show BlkW (Blk.slc 5 1 (List.map (row1 IntKind.u8) ([]++L (↑(List.map nodC x.n).length:Int)))) (Blk.slc 5 1 (List.map (row1 IntKind.u8) (accB x.n ([]++L (↑(List.map nodC x.n).length:Int)) 0))) from (BlkW.rows (e:=5) (z:=1) (rows_to (row1 IntKind.u8) (r:=List.map (row1 IntKind.u8) ([]++L (↑(List.map nodC x.n).length:Int))) (l:=[]++L (↑(List.map nodC x.n).length:Int)) (m:=accB x.n ([]++L (↑(List.map nodC x.n).length:Int)) 0) rfl (show ([]++L (↑(List.map nodC x.n).length:Int))=(accB x.n ([]++L (↑(List.map nodC x.n).length:Int)) 0) from (by rfl)))))<|.c oz4<|.n)).weak (WeakL.refl _) (Weak.tup (.cons (Weak.nil _) (.cons (.refl _) .nil)))
theorem rblock_ha (L:Int→List Int) (x:Blc) (hL:RPuts L) (hn:Nods x.n) (hl:x.n.length≤8) (h:∀ k,k<x.n.length→(nodeR (x.n.getD k default)).2=0) (hx:x.ex=false) (h2:0<x.w.length∨0<x.b.length∨x.nd≠0):VC Try.prog 47 ([blc x]) (.tup [.sl 1 (([]:List Int).map (row1 .u8)),i64 11]):=by
 have hB:([]++L (x.n.length:Int)).length≤10:=hL.l _
 have hA:(accB x.n ([]++L (x.n.length:Int)) x.n.length).length≤1000000:=by
  have:=accB_le hn ([]++L (x.n.length:Int)) (Nat.le_refl _)
  omega
 have oz0:=(show decide ((↑(List.map nodC x.n).length:Int) > 8)=false by (simp;omega))
 have oz1 := @VM.pre _ _ ([nilv,i64 (↑(List.map nodC x.n).length:Int)]) _ ([]) _ _ _ ([GI.nils 0 950 5 1,GI.sort]) _ (@rput_1 ([]) (L) ((↑(List.map nodC x.n).length:Int)) (by (simp;done)) hL) (by kernel_rfl) (.n)
 have oz2:=(Weak.int (k:=.i64) (show ((0):Int)=((↑0:Int)) from (by omega)))
 rcases bft (!x.ex&&(decide ((↑(List.map (row1 IntKind.i8) x.w).length:Int) > 0) || decide ((↑(List.map (row1 IntKind.i32) x.b).length:Int) > 0) || x.nd != 0)) with hc0 | hc0
 ·have gc0:x.ex=false∧(((↑(List.map (row1 IntKind.i8) x.w).length:Int) > 0∨(↑(List.map (row1 IntKind.i32) x.b).length:Int) > 0)∨¬x.nd=0):=by first | (simp only [Bool.or_eq_true,Bool.or_eq_false_iff,Bool.and_eq_true,Bool.and_eq_false_iff,Bool.not_eq_true',Bool.not_eq_false',decide_eq_true_eq,decide_eq_false_iff_not,beq_iff_eq,bne_iff_ne,ne_eq,beq_eq_false_iff_ne,bne_eq_false_iff_eq,eqNums,Bool.and_true] at hc0;first | exact hc0 | omega) | simpa using hc0 | (simp at hc0 ⊢;omega) | (apply cbc;intro hn;simp_all [eqNums];done) | (apply cbc;intro hn;simp [eqNums] at hc0 hn;omega)
  have oz4 := @rblk_y (x) ([]++L (↑(List.map nodC x.n).length:Int)) hn hl (by (simp only [List.length_map] at *;omega)) h
  exact (VC.run (fn:=Try.f47) (W:=[.r [] [],.r [] [],.br false,.r [] [.callm [] [(951,20000)] (rM oz1) (oM oz1)],.r [] [],.code [.any (rg [(0,1),(2,2),(9,8)]),.ren 20000 900,.weak 5 (wO oz2),.blk 900 (Blk.slc 5 1 (List.map (row1 IntKind.u8) (accB x.n ([]++L (↑(List.map nodC x.n).length:Int)) 0))),.sort] (Exit.exit 0) (zO oz4),.r [] [],.r [] [.op false,.op false,.op false,.op false,.op false,.op false,.op false,.op false,.op false,.op false,.sel 1,.op false,.op false,.op false,.op false,.op false,.sel 1,.sel 2],.br true,.r [] []]) (r:=AV.tup [nilv,i64 11]) Try.func47 (by kernel_rfl) (.c oz0<|.c oz1<|.c oz2<|.c (show BlkW (Blk.slc 5 1 (List.map (row1 IntKind.u8) ([]++L (↑(List.map nodC x.n).length:Int)))) (Blk.slc 5 1 (List.map (row1 IntKind.u8) (accB x.n ([]++L (↑(List.map nodC x.n).length:Int)) 0))) from (BlkW.rows (e:=5) (z:=1) (rows_to (row1 IntKind.u8) (r:=List.map (row1 IntKind.u8) ([]++L (↑(List.map nodC x.n).length:Int))) (l:=[]++L (↑(List.map nodC x.n).length:Int)) (m:=accB x.n ([]++L (↑(List.map nodC x.n).length:Int)) 0) rfl (show ([]++L (↑(List.map nodC x.n).length:Int))=(accB x.n ([]++L (↑(List.map nodC x.n).length:Int)) 0) from (by rfl)))))<|.c oz4<|.c hc0<|.n)).weak (WeakL.refl _) (Weak.tup (.cons (Weak.nil _) (.cons (.refl _) .nil)))
 ·have gc0:x.ex=true∨(¬(↑(List.map (row1 IntKind.i8) x.w).length:Int) > 0∧¬(↑(List.map (row1 IntKind.i32) x.b).length:Int) > 0)∧x.nd=0:=by first | (simp only [Bool.or_eq_true,Bool.or_eq_false_iff,Bool.and_eq_true,Bool.and_eq_false_iff,Bool.not_eq_true',Bool.not_eq_false',decide_eq_true_eq,decide_eq_false_iff_not,beq_iff_eq,bne_iff_ne,ne_eq,beq_eq_false_iff_ne,bne_eq_false_iff_eq,eqNums,Bool.and_true] at hc0;first | exact hc0 | omega) | simpa using hc0 | (simp at hc0 ⊢;omega) | (apply cbc;intro hn;simp_all [eqNums];done) | (apply cbc;intro hn;simp [eqNums] at hc0 hn;omega)
  have oz3:=(show BlkW (Blk.slc 5 1 (List.map (row1 IntKind.u8) ([]++L (↑(List.map nodC x.n).length:Int)))) (Blk.slc 5 1 (List.map (row1 IntKind.u8) (accB x.n ([]++L (↑(List.map nodC x.n).length:Int)) 0))) from (BlkW.rows (e:=5) (z:=1) (rows_to (row1 IntKind.u8) (r:=List.map (row1 IntKind.u8) ([]++L (↑(List.map nodC x.n).length:Int))) (l:=[]++L (↑(List.map nodC x.n).length:Int)) (m:=accB x.n ([]++L (↑(List.map nodC x.n).length:Int)) 0) rfl (show ([]++L (↑(List.map nodC x.n).length:Int))=(accB x.n ([]++L (↑(List.map nodC x.n).length:Int)) 0) from (by (simp_all;done))))))
  have oz4 := @rblk_y (x) ([]++L (↑(List.map nodC x.n).length:Int)) hn hl (by (simp only [List.length_map] at *;omega)) h
  rcases bft (decide (x.nd<0) || decide ((↑(List.map (row1 IntKind.i8) x.w).length:Int) > 16384) || decide ((↑(List.map (row1 IntKind.i32) x.b).length:Int) > 16384)) with hc1 | hc1
  ·have gc1:(x.nd<0∨(↑(List.map (row1 IntKind.i8) x.w).length:Int) > 16384)∨(↑(List.map (row1 IntKind.i32) x.b).length:Int) > 16384:=by first | (simp only [Bool.or_eq_true,Bool.or_eq_false_iff,Bool.and_eq_true,Bool.and_eq_false_iff,Bool.not_eq_true',Bool.not_eq_false',decide_eq_true_eq,decide_eq_false_iff_not,beq_iff_eq,bne_iff_ne,ne_eq,beq_eq_false_iff_ne,bne_eq_false_iff_eq,eqNums,Bool.and_true] at hc1;first | exact hc1 | omega) | simpa using hc1 | (simp at hc1 ⊢;omega) | (apply cbc;intro hn;simp_all [eqNums];done) | (apply cbc;intro hn;simp [eqNums] at hc1 hn;omega)
   exact (VC.run (fn:=Try.f47) (W:=[.r [] [],.r [] [],.br false,.r [] [.callm [] [(951,20000)] (rM oz1) (oM oz1)],.r [] [],.code [.any (rg [(0,1),(2,2),(9,8)]),.ren 20000 900,.weak 5 (wO oz2),.blk 900 (Blk.slc 5 1 (List.map (row1 IntKind.u8) (accB x.n ([]++L (↑(List.map nodC x.n).length:Int)) 0))),.sort] (Exit.exit 0) (zO oz4),.r [] [],.r [] [.op false,.op false,.op false,.op false,.op false,.op false,.op false,.op false,.op false,.op false,.sel 1,.op false,.op false,.op false,.op false,.op false,.sel 1,.sel 2],.br false,.r [] [.op false,.op false,.op false,.op false,.sel 1,.op false,.op false,.op false,.op false,.sel 1],.br true,.r [] []]) (r:=AV.tup [nilv,i64 3]) Try.func47 (by kernel_rfl) (.c oz0<|.c oz1<|.c oz2<|.c oz3<|.c oz4<|.c hc0<|.c hc1<|.n)).weak (WeakL.refl _) (Weak.tup (.cons (Weak.nil _) (.cons (Weak.int (show ((3):Int)=(11) from (by (simp_all;done)))) .nil)))
  ·have gc1:(¬x.nd<0∧¬(↑(List.map (row1 IntKind.i8) x.w).length:Int) > 16384)∧¬(↑(List.map (row1 IntKind.i32) x.b).length:Int) > 16384:=by first | (simp only [Bool.or_eq_true,Bool.or_eq_false_iff,Bool.and_eq_true,Bool.and_eq_false_iff,Bool.not_eq_true',Bool.not_eq_false',decide_eq_true_eq,decide_eq_false_iff_not,beq_iff_eq,bne_iff_ne,ne_eq,beq_eq_false_iff_ne,bne_eq_false_iff_eq,eqNums,Bool.and_true] at hc1;first | exact hc1 | omega) | simpa using hc1 | (simp at hc1 ⊢;omega) | (apply cbc;intro hn;simp_all [eqNums];done) | (apply cbc;intro hn;simp [eqNums] at hc1 hn;omega)
   have oz8 := @rput_1 (accB x.n ([]++L (↑(List.map nodC x.n).length:Int)) x.n.length) (L) (0) (by (simp only [List.length_map] at *;omega)) hL
   exact (VC.run (fn:=Try.f47) (W:=[.r [] [],.r [] [],.br false,.r [] [.callm [] [(951,20000)] (rM oz1) (oM oz1)],.r [] [],.code [.any (rg [(0,1),(2,2),(9,8)]),.ren 20000 900,.weak 5 (wO oz2),.blk 900 (Blk.slc 5 1 (List.map (row1 IntKind.u8) (accB x.n ([]++L (↑(List.map nodC x.n).length:Int)) 0))),.sort] (Exit.exit 0) (zO oz4),.r [] [],.r [] [.op false,.op false,.op false,.op false,.op false,.op false,.op false,.op false,.op false,.op false,.sel 1,.op false,.op false,.op false,.op false,.op false,.sel 1,.sel 2],.br false,.r [] [.op false,.op false,.op false,.op false,.sel 1,.op false,.op false,.op false,.op false,.sel 1],.br false,.r [] [],.br true,.r [] [.callm [(900,950)] [(951,20001)] (rM oz8) (oM oz8)]]) (r:=AV.tup [AV.sl 1 (List.map (row1 IntKind.u8) (accB x.n ([]++L (↑(List.map nodC x.n).length:Int)) x.n.length++L 0)),i64 0]) Try.func47 (by kernel_rfl) (.c oz0<|.c oz1<|.c oz2<|.c oz3<|.c oz4<|.c hc0<|.c hc1<|.c (show (!x.ex)=true by (simp;omega))<|.c oz8<|.n)).weak (WeakL.refl _) (Weak.tup (.cons (Weak.rows (show (List.map (row1 IntKind.u8) (accB x.n ([]++L (↑(List.map nodC x.n).length:Int)) x.n.length++L 0))=([]) from (by (simp_all;done)))) (.cons (Weak.int (show ((0):Int)=(11) from (by (simp_all;done)))) .nil)))
theorem rblock_hb (L:Int→List Int) (x:Blc) (hL:RPuts L) (hn:Nods x.n) (hl:x.n.length≤8) (h:∀ k,k<x.n.length→(nodeR (x.n.getD k default)).2=0) (hx:¬ (x.ex=false∧(0<x.w.length∨0<x.b.length∨x.nd≠0))) (h2:x.nd<0∨16384<x.w.length∨16384<x.b.length):VC Try.prog 47 ([blc x]) (.tup [.sl 1 (([]:List Int).map (row1 .u8)),i64 3]):=by
 have hB:([]++L (x.n.length:Int)).length≤10:=hL.l _
 have hA:(accB x.n ([]++L (x.n.length:Int)) x.n.length).length≤1000000:=by
  have:=accB_le hn ([]++L (x.n.length:Int)) (Nat.le_refl _)
  omega
 have oz0:=(show decide ((↑(List.map nodC x.n).length:Int) > 8)=false by (simp;omega))
 have oz1 := @VM.pre _ _ ([nilv,i64 (↑(List.map nodC x.n).length:Int)]) _ ([]) _ _ _ ([GI.nils 0 950 5 1,GI.sort]) _ (@rput_1 ([]) (L) ((↑(List.map nodC x.n).length:Int)) (by (simp;done)) hL) (by kernel_rfl) (.n)
 have oz2:=(Weak.int (k:=.i64) (show ((0):Int)=((↑0:Int)) from (by omega)))
 rcases bft (!x.ex&&(decide ((↑(List.map (row1 IntKind.i8) x.w).length:Int) > 0) || decide ((↑(List.map (row1 IntKind.i32) x.b).length:Int) > 0) || x.nd != 0)) with hc0 | hc0
 ·have gc0:x.ex=false∧(((↑(List.map (row1 IntKind.i8) x.w).length:Int) > 0∨(↑(List.map (row1 IntKind.i32) x.b).length:Int) > 0)∨¬x.nd=0):=by first | (simp only [Bool.or_eq_true,Bool.or_eq_false_iff,Bool.and_eq_true,Bool.and_eq_false_iff,Bool.not_eq_true',Bool.not_eq_false',decide_eq_true_eq,decide_eq_false_iff_not,beq_iff_eq,bne_iff_ne,ne_eq,beq_eq_false_iff_ne,bne_eq_false_iff_eq,eqNums,Bool.and_true] at hc0;first | exact hc0 | omega) | simpa using hc0 | (simp at hc0 ⊢;omega) | (apply cbc;intro hn;simp_all [eqNums];done) | (apply cbc;intro hn;simp [eqNums] at hc0 hn;omega)
  have oz4 := @rblk_y (x) ([]++L (↑(List.map nodC x.n).length:Int)) hn hl (by (simp only [List.length_map] at *;omega)) h
  exact (VC.run (fn:=Try.f47) (W:=[.r [] [],.r [] [],.br false,.r [] [.callm [] [(951,20000)] (rM oz1) (oM oz1)],.r [] [],.code [.any (rg [(0,1),(2,2),(9,8)]),.ren 20000 900,.weak 5 (wO oz2),.blk 900 (Blk.slc 5 1 (List.map (row1 IntKind.u8) (accB x.n ([]++L (↑(List.map nodC x.n).length:Int)) 0))),.sort] (Exit.exit 0) (zO oz4),.r [] [],.r [] [.op false,.op false,.op false,.op false,.op false,.op false,.op false,.op false,.op false,.op false,.sel 1,.op false,.op false,.op false,.op false,.op false,.sel 1,.sel 2],.br true,.r [] []]) (r:=AV.tup [nilv,i64 11]) Try.func47 (by kernel_rfl) (.c oz0<|.c oz1<|.c oz2<|.c (show BlkW (Blk.slc 5 1 (List.map (row1 IntKind.u8) ([]++L (↑(List.map nodC x.n).length:Int)))) (Blk.slc 5 1 (List.map (row1 IntKind.u8) (accB x.n ([]++L (↑(List.map nodC x.n).length:Int)) 0))) from (BlkW.rows (e:=5) (z:=1) (rows_to (row1 IntKind.u8) (r:=List.map (row1 IntKind.u8) ([]++L (↑(List.map nodC x.n).length:Int))) (l:=[]++L (↑(List.map nodC x.n).length:Int)) (m:=accB x.n ([]++L (↑(List.map nodC x.n).length:Int)) 0) rfl (show ([]++L (↑(List.map nodC x.n).length:Int))=(accB x.n ([]++L (↑(List.map nodC x.n).length:Int)) 0) from (by (simp_all;done))))))<|.c oz4<|.c hc0<|.n)).weak (WeakL.refl _) (Weak.tup (.cons (Weak.nil _) (.cons (Weak.int (show ((11):Int)=(3) from (by (simp_all;done)))) .nil)))
 ·have gc0:x.ex=true∨(¬(↑(List.map (row1 IntKind.i8) x.w).length:Int) > 0∧¬(↑(List.map (row1 IntKind.i32) x.b).length:Int) > 0)∧x.nd=0:=by first | (simp only [Bool.or_eq_true,Bool.or_eq_false_iff,Bool.and_eq_true,Bool.and_eq_false_iff,Bool.not_eq_true',Bool.not_eq_false',decide_eq_true_eq,decide_eq_false_iff_not,beq_iff_eq,bne_iff_ne,ne_eq,beq_eq_false_iff_ne,bne_eq_false_iff_eq,eqNums,Bool.and_true] at hc0;first | exact hc0 | omega) | simpa using hc0 | (simp at hc0 ⊢;omega) | (apply cbc;intro hn;simp_all [eqNums];done) | (apply cbc;intro hn;simp [eqNums] at hc0 hn;omega)
  have oz4 := @rblk_y (x) ([]++L (↑(List.map nodC x.n).length:Int)) hn hl (by (simp only [List.length_map] at *;omega)) h
  exact (VC.run (fn:=Try.f47) (W:=[.r [] [],.r [] [],.br false,.r [] [.callm [] [(951,20000)] (rM oz1) (oM oz1)],.r [] [],.code [.any (rg [(0,1),(2,2),(9,8)]),.ren 20000 900,.weak 5 (wO oz2),.blk 900 (Blk.slc 5 1 (List.map (row1 IntKind.u8) (accB x.n ([]++L (↑(List.map nodC x.n).length:Int)) 0))),.sort] (Exit.exit 0) (zO oz4),.r [] [],.r [] [.op false,.op false,.op false,.op false,.op false,.op false,.op false,.op false,.op false,.op false,.sel 1,.op false,.op false,.op false,.op false,.op false,.sel 1,.sel 2],.br false,.r [] [.op false,.op false,.op false,.op false,.sel 1,.op false,.op false,.op false,.op false,.sel 1],.br true,.r [] []]) (r:=AV.tup [nilv,i64 3]) Try.func47 (by kernel_rfl) (.c oz0<|.c oz1<|.c oz2<|.c (show BlkW (Blk.slc 5 1 (List.map (row1 IntKind.u8) ([]++L (↑(List.map nodC x.n).length:Int)))) (Blk.slc 5 1 (List.map (row1 IntKind.u8) (accB x.n ([]++L (↑(List.map nodC x.n).length:Int)) 0))) from (BlkW.rows (e:=5) (z:=1) (rows_to (row1 IntKind.u8) (r:=List.map (row1 IntKind.u8) ([]++L (↑(List.map nodC x.n).length:Int))) (l:=[]++L (↑(List.map nodC x.n).length:Int)) (m:=accB x.n ([]++L (↑(List.map nodC x.n).length:Int)) 0) rfl (show ([]++L (↑(List.map nodC x.n).length:Int))=(accB x.n ([]++L (↑(List.map nodC x.n).length:Int)) 0) from (by rfl)))))<|.c oz4<|.c hc0<|.c (show (decide (x.nd<0) || decide ((↑(List.map (row1 IntKind.i8) x.w).length:Int) > 16384) || decide ((↑(List.map (row1 IntKind.i32) x.b).length:Int) > 16384))=true by (simp;omega))<|.n)).weak (WeakL.refl _) (Weak.tup (.cons (Weak.nil _) (.cons (.refl _) .nil)))
theorem rblock_xn (L:Int→List Int) (x:Blc) (hL:RPuts L) (hn:Nods x.n) (hl:x.n.length≤8) (h:∀ k,k<x.n.length→(nodeR (x.n.getD k default)).2=0) (he:x.ex=false) (h2:¬ (0<x.w.length∨0<x.b.length∨x.nd≠0)):VC Try.prog 47 ([blc x]) (.tup [.sl 1 ((accB x.n ([]++L (x.n.length:Int)) x.n.length++L 0).map (row1 .u8)),i64 0]):=by
 have hB:([]++L (x.n.length:Int)).length≤10:=hL.l _
 have hA:(accB x.n ([]++L (x.n.length:Int)) x.n.length).length≤400000:=by
  have:=accB_le hn ([]++L (x.n.length:Int)) (Nat.le_refl _)
  omega
 have oz1 := @VM.pre _ _ ([nilv,i64 (↑(List.map nodC x.n).length:Int)]) _ ([]) _ _ _ ([GI.nils 0 950 5 1,GI.sort]) _ (@rput_1 ([]) (L) ((↑(List.map nodC x.n).length:Int)) (by (simp;done)) hL) (by kernel_rfl) (.n)
 have oz4 := @rblk_y (x) ([]++L (↑(List.map nodC x.n).length:Int)) hn hl (by (simp only [List.length_map] at *;omega)) h
 have oz6:=(decide_eq_false (p:=(x.nd<0)) (by omega))
 have oz13 := @rput_1 (accB x.n ([]++L (↑(List.map nodC x.n).length:Int)) x.n.length) (L) (0) (by (simp only [List.length_map] at *;omega)) hL
 exact (VC.run (fn:=Try.f47) (W:=[.r [] [],.r [] [],.br false,.r [] [.callm [] [(951,20000)] (rM oz1) (oM oz1)],.r [] [],.code [.any (rg [(0,1),(2,2),(9,8)]),.ren 20000 900,.weak 5 (i64 (↑0:Int)),.blk 900 (Blk.slc 5 1 (List.map (row1 IntKind.u8) (accB x.n ([]++L (↑(List.map nodC x.n).length:Int)) 0))),.sort] (Exit.exit 0) (zO oz4),.r [] [],.r [] [.op false,.op false,.op false,.op false,.op false,.op false,.op false,.op false,.op false,.op false,.sel 1,.op false,.op false,.op false,.op false,.op false,.sel 1,.sel 2],.br false,.r [] [.br true,.br true,.br true,.br true,.br false,.op false,.op false,.op false,.op false,.sel 1],.br false,.r [] [],.br true,.r [] [.callm [(900,950)] [(951,20001)] (rM oz13) (oM oz13)]]) (r:=AV.tup [AV.sl 1 (List.map (row1 IntKind.u8) (accB x.n ([]++L (↑(List.map nodC x.n).length:Int)) x.n.length++L 0)),i64 0]) Try.func47 (by kernel_rfl) (.c (show decide ((↑(List.map nodC x.n).length:Int) > 8)=false by (simp;omega))<|.c oz1<|.c (Weak.int (k:=.i64) (show ((0):Int)=((↑0:Int)) from (by omega)))<|.c (show BlkW (Blk.slc 5 1 (List.map (row1 IntKind.u8) ([]++L (↑(List.map nodC x.n).length:Int)))) (Blk.slc 5 1 (List.map (row1 IntKind.u8) (accB x.n ([]++L (↑(List.map nodC x.n).length:Int)) 0))) from (BlkW.rows (e:=5) (z:=1) (rows_to (row1 IntKind.u8) (r:=List.map (row1 IntKind.u8) ([]++L (↑(List.map nodC x.n).length:Int))) (l:=[]++L (↑(List.map nodC x.n).length:Int)) (m:=accB x.n ([]++L (↑(List.map nodC x.n).length:Int)) 0) rfl (show ([]++L (↑(List.map nodC x.n).length:Int))=(accB x.n ([]++L (↑(List.map nodC x.n).length:Int)) 0) from (by rfl)))))<|.c oz4<|.c (show (!x.ex&&(decide ((↑(List.map (row1 IntKind.i8) x.w).length:Int) > 0) || decide ((↑(List.map (row1 IntKind.i32) x.b).length:Int) > 0) || x.nd != 0))=false by (simp only [decide_eq_true_eq,decide_eq_false_iff_not,beq_iff_eq,bne_iff_ne,ne_eq,beq_eq_false_iff_ne,bne_eq_false_iff_eq,Bool.not_eq_true',Bool.not_eq_false',Bool.not_eq_eq_eq_not,Bool.not_true,Bool.not_false,Classical.not_not,Int.not_lt,Int.not_le,Bool.and_eq_true,Bool.and_eq_false_iff,Bool.or_eq_true,Bool.or_eq_false_iff,Bool.and_true,Bool.true_and,Bool.and_false,Bool.false_and,Bool.or_false,Bool.false_or,eqNums,List.length_map,lla,List.length_cons,List.length_nil,List.length_set,List.length_replicate,List.length_take,List.length_drop,List.length_range,Int.toNat_natCast,Nat.zero_add,List.map_eq_nil_iff];(first | done | with_reducible assumption | omega | contradiction)))<|.c oz6<|.c oz6<|.c oz6<|.c oz6<|.c oz6<|.c (show (decide ((↑(List.map (row1 IntKind.i8) x.w).length:Int) > 16384) || decide ((↑(List.map (row1 IntKind.i32) x.b).length:Int) > 16384))=false by (simp;omega))<|.c (show (!x.ex)=true by (simp;omega))<|.c oz13<|.n)).weak (WeakL.refl _) (Weak.tup (.cons (Weak.rows (rows_to (row1 IntKind.u8) (r:=List.map (row1 IntKind.u8) (accB x.n ([]++L (↑(List.map nodC x.n).length:Int)) x.n.length++L 0)) (l:=accB x.n ([]++L (↑(List.map nodC x.n).length:Int)) x.n.length++L 0) (m:=accB x.n ([]++L (↑x.n.length:Int)) x.n.length++L 0) rfl (show (accB x.n ([]++L (↑(List.map nodC x.n).length:Int)) x.n.length++L 0)=(accB x.n ([]++L (↑x.n.length:Int)) x.n.length++L 0) from (by (simp;done))))) (.cons (.refl _) .nil)))
theorem rblock_xy (L:Int→List Int) (x:Blc) (hL:RPuts L) (ok:x.Ok) (hn:Nods x.n) (hl:x.n.length≤8) (h:∀ k,k<x.n.length→(nodeR (x.n.getD k default)).2=0) (he:x.ex=true) (hw:x.w.length≤16384) (hb:x.b.length≤16384) (h0:0≤x.nd):VC Try.prog 47 ([blc x]) (.tup [.sl 1 ((accB x.n ([]++L (x.n.length:Int)) x.n.length++L 1++L (x.w.length:Int)++smallL x.w++L (x.b.length:Int)++wideL x.b++L x.nd).map (row1 .u8)),i64 0]):=by
 have hB:([]++L (x.n.length:Int)).length≤10:=hL.l _
 have h32:=ok.b
 have hnd:=ok.nd
 have q1:=hL.l 1
 have q2:=hL.l (x.w.length:Int)
 have q3:=hL.l (x.b.length:Int)
 have q4:(smallL x.w).length=x.w.length:=List.length_map _
 have q5:=wideL_len x.b h32
 have hA:(accB x.n ([]++L (x.n.length:Int)) x.n.length).length≤1000000:=by
  have:=accB_le hn ([]++L (x.n.length:Int)) (Nat.le_refl _)
  omega
 have hC:(accB x.n ([]++L (x.n.length:Int)) x.n.length++L 1).length≤500000:=by
  have:=accB_le hn ([]++L (x.n.length:Int)) (Nat.le_refl _)
  rw [lla];omega
 have hD:(accB x.n ([]++L (x.n.length:Int)) x.n.length++L 1++L (x.w.length:Int)++smallL x.w++L (x.b.length:Int)++wideL x.b).length≤1000000:=by
  have:=accB_le hn ([]++L (x.n.length:Int)) (Nat.le_refl _)
  simp only [lla] at *;omega
 have w5:x.w.length≤100000:=by omega
 clear q1 q2 q3 q4 q5
 have oz0:=(show decide ((↑(List.map nodC x.n).length:Int) > 8)=false by (simp;omega))
 have oz1 := @VM.pre _ _ ([nilv,i64 (↑(List.map nodC x.n).length:Int)]) _ ([]) _ _ _ ([GI.nils 0 950 5 1,GI.sort]) _ (@rput_1 ([]) (L) ((↑(List.map nodC x.n).length:Int)) (by (simp;done)) hL) (by kernel_rfl) (.n)
 have oz2:=(Weak.int (k:=.i64) (show ((0):Int)=((↑0:Int)) from (by omega)))
 rcases bft (!x.ex&&(decide ((↑(List.map (row1 IntKind.i8) x.w).length:Int) > 0) || decide ((↑(List.map (row1 IntKind.i32) x.b).length:Int) > 0) || x.nd != 0)) with hc0 | hc0
 ·have gc0:x.ex=false∧(((↑(List.map (row1 IntKind.i8) x.w).length:Int) > 0∨(↑(List.map (row1 IntKind.i32) x.b).length:Int) > 0)∨¬x.nd=0):=by first | (simp only [Bool.or_eq_true,Bool.or_eq_false_iff,Bool.and_eq_true,Bool.and_eq_false_iff,Bool.not_eq_true',Bool.not_eq_false',decide_eq_true_eq,decide_eq_false_iff_not,beq_iff_eq,bne_iff_ne,ne_eq,beq_eq_false_iff_ne,bne_eq_false_iff_eq,eqNums,Bool.and_true] at hc0;first | exact hc0 | omega) | simpa using hc0 | (simp at hc0 ⊢;omega) | (apply cbc;intro hn;simp_all [eqNums];done) | (apply cbc;intro hn;simp [eqNums] at hc0 hn;omega)
  have oz4 := @rblk_y (x) ([]++L (↑(List.map nodC x.n).length:Int)) hn hl (by (simp only [List.length_map] at *;omega)) h
  exact (VC.run (fn:=Try.f47) (W:=[.r [] [],.r [] [],.br false,.r [] [.callm [] [(951,20000)] (rM oz1) (oM oz1)],.r [] [],.code [.any (rg [(0,1),(2,2),(9,8)]),.ren 20000 900,.weak 5 (wO oz2),.blk 900 (Blk.slc 5 1 (List.map (row1 IntKind.u8) (accB x.n ([]++L (↑(List.map nodC x.n).length:Int)) 0))),.sort] (Exit.exit 0) (zO oz4),.r [] [],.r [] [.op false,.op false,.op false,.op false,.op false,.op false,.op false,.op false,.op false,.op false,.sel 1,.op false,.op false,.op false,.op false,.op false,.sel 1,.sel 2],.br true,.r [] []]) (r:=AV.tup [nilv,i64 11]) Try.func47 (by kernel_rfl) (.c oz0<|.c oz1<|.c oz2<|.c (show BlkW (Blk.slc 5 1 (List.map (row1 IntKind.u8) ([]++L (↑(List.map nodC x.n).length:Int)))) (Blk.slc 5 1 (List.map (row1 IntKind.u8) (accB x.n ([]++L (↑(List.map nodC x.n).length:Int)) 0))) from (BlkW.rows (e:=5) (z:=1) (rows_to (row1 IntKind.u8) (r:=List.map (row1 IntKind.u8) ([]++L (↑(List.map nodC x.n).length:Int))) (l:=[]++L (↑(List.map nodC x.n).length:Int)) (m:=accB x.n ([]++L (↑(List.map nodC x.n).length:Int)) 0) rfl (show ([]++L (↑(List.map nodC x.n).length:Int))=(accB x.n ([]++L (↑(List.map nodC x.n).length:Int)) 0) from (by (simp_all;done))))))<|.c oz4<|.c hc0<|.n)).weak (WeakL.refl _) (Weak.tup (.cons (Weak.nilr (show []=(List.map (row1 IntKind.u8) (accB x.n ([]++L (↑x.n.length:Int)) x.n.length++L 1++L (↑x.w.length:Int)++smallL x.w++L (↑x.b.length:Int)++wideL x.b++L x.nd)) from (by (simp_all;done)))) (.cons (Weak.int (show ((11):Int)=(0) from (by (simp_all;done)))) .nil)))
 ·have gc0:x.ex=true∨(¬(↑(List.map (row1 IntKind.i8) x.w).length:Int) > 0∧¬(↑(List.map (row1 IntKind.i32) x.b).length:Int) > 0)∧x.nd=0:=by first | (simp only [Bool.or_eq_true,Bool.or_eq_false_iff,Bool.and_eq_true,Bool.and_eq_false_iff,Bool.not_eq_true',Bool.not_eq_false',decide_eq_true_eq,decide_eq_false_iff_not,beq_iff_eq,bne_iff_ne,ne_eq,beq_eq_false_iff_ne,bne_eq_false_iff_eq,eqNums,Bool.and_true] at hc0;first | exact hc0 | omega) | simpa using hc0 | (simp at hc0 ⊢;omega) | (apply cbc;intro hn;simp_all [eqNums];done) | (apply cbc;intro hn;simp [eqNums] at hc0 hn;omega)
  have oz4 := @rblk_y (x) ([]++L (↑(List.map nodC x.n).length:Int)) hn hl (by (simp only [List.length_map] at *;omega)) h
  have oz6:=(decide_eq_false (p:=(x.nd<0)) (by omega))
  have oz13 := @rput_1 (accB x.n ([]++L (↑(List.map nodC x.n).length:Int)) x.n.length) (L) (1) (by (simp only [List.length_map] at *;omega)) hL
  have oz14 := @rlists_v (accB x.n ([]++L (↑(List.map nodC x.n).length:Int)) x.n.length++L 1) (L) (x.w) (x.b) (by (simp only [List.length_map] at *;omega)) hL w5 hb h32
  have oz16 := @rput_1 (accB x.n ([]++L (↑(List.map nodC x.n).length:Int)) x.n.length++L 1++L (↑x.w.length:Int)++smallL x.w++L (↑x.b.length:Int)++wideL x.b) (L) (x.nd) (by (simp only [List.length_map] at *;omega)) hL
  exact (VC.run (fn:=Try.f47) (W:=[.r [] [],.r [] [],.br false,.r [] [.callm [] [(951,20000)] (rM oz1) (oM oz1)],.r [] [],.code [.any (rg [(0,1),(2,2),(9,8)]),.ren 20000 900,.weak 5 (wO oz2),.blk 900 (Blk.slc 5 1 (List.map (row1 IntKind.u8) (accB x.n ([]++L (↑(List.map nodC x.n).length:Int)) 0))),.sort] (Exit.exit 0) (zO oz4),.r [] [],.r [] [.op false,.op false,.op false,.op false,.op false,.op false,.op false,.op false,.op false,.op false,.sel 1,.op false,.op false,.op false,.op false,.op false,.sel 1,.sel 2],.br false,.r [] [.br true,.br true,.br true,.br true,.br false,.op false,.op false,.op false,.op false,.sel 1],.br false,.r [] [],.br false,.r [] [.callm [(900,950)] [(951,20001)] (rM oz13) (oM oz13),.callm [(20001,950)] [(951,20002)] (rM oz14) (oM oz14),.n x.nd,.callm [(20002,950)] [(951,20003)] (rM oz16) (oM oz16)]]) (r:=AV.tup [AV.sl 1 (List.map (row1 IntKind.u8) (accB x.n ([]++L (↑(List.map nodC x.n).length:Int)) x.n.length++L 1++L (↑x.w.length:Int)++smallL x.w++L (↑x.b.length:Int)++wideL x.b++L x.nd)),i64 0]) Try.func47 (by kernel_rfl) (.c oz0<|.c oz1<|.c oz2<|.c (show BlkW (Blk.slc 5 1 (List.map (row1 IntKind.u8) ([]++L (↑(List.map nodC x.n).length:Int)))) (Blk.slc 5 1 (List.map (row1 IntKind.u8) (accB x.n ([]++L (↑(List.map nodC x.n).length:Int)) 0))) from (BlkW.rows (e:=5) (z:=1) (rows_to (row1 IntKind.u8) (r:=List.map (row1 IntKind.u8) ([]++L (↑(List.map nodC x.n).length:Int))) (l:=[]++L (↑(List.map nodC x.n).length:Int)) (m:=accB x.n ([]++L (↑(List.map nodC x.n).length:Int)) 0) rfl (show ([]++L (↑(List.map nodC x.n).length:Int))=(accB x.n ([]++L (↑(List.map nodC x.n).length:Int)) 0) from (by rfl)))))<|.c oz4<|.c hc0<|.c oz6<|.c oz6<|.c oz6<|.c oz6<|.c oz6<|.c (show (decide ((↑(List.map (row1 IntKind.i8) x.w).length:Int) > 16384) || decide ((↑(List.map (row1 IntKind.i32) x.b).length:Int) > 16384))=false by (simp;omega))<|.c (show (!x.ex)=false by (simp;omega))<|.c oz13<|.c oz14<|.c (i6n x.nd (by omega))<|.c oz16<|.n)).weak (WeakL.refl _) (Weak.tup (.cons (Weak.rows (rows_to (row1 IntKind.u8) (r:=List.map (row1 IntKind.u8) (accB x.n ([]++L (↑(List.map nodC x.n).length:Int)) x.n.length++L 1++L (↑x.w.length:Int)++smallL x.w++L (↑x.b.length:Int)++wideL x.b++L x.nd)) (l:=accB x.n ([]++L (↑(List.map nodC x.n).length:Int)) x.n.length++L 1++L (↑x.w.length:Int)++smallL x.w++L (↑x.b.length:Int)++wideL x.b++L x.nd) (m:=accB x.n ([]++L (↑x.n.length:Int)) x.n.length++L 1++L (↑x.w.length:Int)++smallL x.w++L (↑x.b.length:Int)++wideL x.b++L x.nd) rfl (show (accB x.n ([]++L (↑(List.map nodC x.n).length:Int)) x.n.length++L 1++L (↑x.w.length:Int)++smallL x.w++L (↑x.b.length:Int)++wideL x.b++L x.nd)=(accB x.n ([]++L (↑x.n.length:Int)) x.n.length++L 1++L (↑x.w.length:Int)++smallL x.w++L (↑x.b.length:Int)++wideL x.b++L x.nd) from (by (simp;done))))) (.cons (.refl _) .nil)))
theorem nodes_first (l:List Nod):(∀ k,k<l.length→(nodeR (l.getD k default)).2=0)∨∃ m,m<l.length∧¬ (nodeR (l.getD m default)).2=0∧∀ k,k<m→(nodeR (l.getD k default)).2=0:=first_of
theorem mem_of_getD {l:List Nod} {p:Nod→Prop} (h:∀ k,k<l.length→p (l.getD k default)):∀ n∈l,p n:=by
 intro n hn
 obtain ⟨k,hk,e⟩:=List.mem_iff_getElem.1 hn
 have:=h k hk
 rwa [List.getD_eq_getElem?_getD,List.getElem?_eq_getElem hk,Option.getD_some,e] at this
theorem headX_ex {x:Blc} (h:headX x=0) (he:x.ex=true):0≤x.nd∧x.w.length≤16384∧x.b.length≤16384:=by
 unfold headX at h
 rw [if_neg (by rw [he];simp)] at h
 by_cases q:x.nd<0∨16384<x.w.length∨16384<x.b.length
 ·rw [if_pos q] at h;cases h
 ·omega
theorem headX_n {x:Blc} (h:headX x=0) (he:x.ex=false):¬ (0<x.w.length∨0<x.b.length∨x.nd≠0):=fun q=>by
 unfold headX at h;rw [if_pos ⟨he,q⟩] at h;cases h
theorem pblock_v (x:Blc) (ok:x.Ok) (hw:∀ n∈x.n,n.w.length≤3000∧n.b.length≤3000):VC Try.prog 46 [blc x] (.tup [.sl 1 ((blockR x).1.map (row1 .u8)),i64 (blockR x).2]):=by
 have hn:Nods x.n:=⟨ok.n,hw⟩
 by_cases h1:8<x.n.length
 ·rw [show blockR x=([],4) from by unfold blockR;rw [if_pos h1]];exact pblock_f x h1
 rcases nodes_first x.n with h | ⟨m,hm,hf,h⟩
 ·have hE:=nodesE_y (mem_of_getD h)
  by_cases h3:headX x=0
  ·rw [show blockR x=(exitL (accB x.n (putN (x.n.length:Int)) x.n.length) x,0) from by unfold blockR;rw [if_neg h1,if_neg (by simpa using hE),if_neg (by simpa using h3)]]
   unfold exitL
   cases he:x.ex with
   | true =>
    rw [if_pos rfl]
    have q:=headX_ex h3 he
    exact pblock_xy putN x puts ok hn (by omega) h h3 he q.2.1 q.2.2
   | false =>
    rw [if_neg (by simp)]
    exact pblock_xn putN x puts hn (by omega) h h3 he
  ·rw [show blockR x=([],headX x) from by unfold blockR;rw [if_neg h1,if_neg (by simpa using hE),if_pos h3]]
   exact pblock_h putN x puts hn (by omega) h h3
 ·have hE:=nodesE_n hm hf h
  rw [show blockR x=([],(nodeR (x.n.getD m default)).2) from by unfold blockR;rw [if_neg h1,hE,if_pos hf]]
  exact pblock_n putN x m puts hn (by omega) hm hf h
theorem rblock_v (x:Blc) (ok:x.Ok) (hw:∀ n∈x.n,n.w.length≤3000∧n.b.length≤3000):VC Try.prog 47 [blc x] (.tup [.sl 1 ((blockR x).1.map (row1 .u8)),i64 (blockR x).2]):=by
 have hn:Nods x.n:=⟨ok.n,hw⟩
 by_cases h1:8<x.n.length
 ·rw [show blockR x=([],4) from by unfold blockR;rw [if_pos h1]];exact rblock_f x h1
 rcases nodes_first x.n with h | ⟨m,hm,hf,h⟩
 ·have hE:=nodesE_y (mem_of_getD h)
  by_cases h3:headX x=0
  ·rw [show blockR x=(exitL (accB x.n (putN (x.n.length:Int)) x.n.length) x,0) from by unfold blockR;rw [if_neg h1,if_neg (by simpa using hE),if_neg (by simpa using h3)]]
   unfold exitL
   cases he:x.ex with
   | true =>
    rw [if_pos rfl]
    have q:=headX_ex h3 he
    exact rblock_xy putN x rputs ok hn (by omega) h he q.2.1 q.2.2 q.1
   | false =>
    rw [if_neg (by simp)]
    exact rblock_xn putN x rputs hn (by omega) h he (headX_n h3 he)
  ·rw [show blockR x=([],headX x) from by unfold blockR;rw [if_neg h1,if_neg (by simpa using hE),if_pos h3]]
   unfold headX
   by_cases ha:x.ex=false∧(0<x.w.length∨0<x.b.length∨x.nd≠0)
   ·rw [if_pos ha];exact rblock_ha putN x rputs hn (by omega) h ha.1 ha.2
   ·rw [if_neg ha]
    by_cases hb:x.nd<0∨16384<x.w.length∨16384<x.b.length
    ·rw [if_pos hb];exact rblock_hb putN x rputs hn (by omega) h ha hb
    ·exact absurd (by unfold headX;rw [if_neg ha,if_neg hb]) h3
 ·have hE:=nodesE_n hm hf h
  rw [show blockR x=([],(nodeR (x.n.getD m default)).2) from by unfold blockR;rw [if_neg h1,hE,if_pos hf]]
  exact rblock_n putN x m rputs hn (by omega) hm hf h
theorem lst_le {s:Rst} {k:Nat} (h:s.1.length≤k):(lstS s).1.length≤k:=wid_le (cnt_le (sml_le (cnt_le h _) _) _) _
theorem scl_le {s:Rst} {k:Nat} (h:s.1.length≤k):(sclS s).1.length≤k:=cnt_le (cnt_le h _) _
theorem lstW_sm {s:Rst} {k:Nat} (h:s.1.length≤k):(lstW s).length≤k:=Nat.le_trans (smlV_len _ _) (cnt_le h _)
theorem lstB_sm {s:Rst} {k:Nat} (h:s.1.length≤k):(lstB s).length≤k:=Nat.le_trans (widV_len _ _) (cnt_le (sml_le (cnt_le h _) _) _)
theorem takeS_sm {s:Rst} {k:Nat} (h:s.1.length≤k):(takeS s).1.length≤k:=by
 unfold takeS
 repeat' split
 all_goals (first | unfold ts_1 | unfold ts_2 | unfold ts_3 | unfold ts_4 | unfold ts_6 | unfold ts_7 | unfold ts_8 | unfold ts_9)
 all_goals (repeat first | exact h | apply cnt_le | apply sml_le | apply lst_le | apply scl_le)
theorem takeN_sm {s:Rst} {k:Nat} (h:s.1.length≤k):(takeN s).w.length≤k∧(takeN s).b.length≤k:=by
 unfold takeN
 repeat' split
 all_goals (first | unfold tn_1 | unfold tn_2 | unfold tn_3 | unfold tn_4 | unfold tn_6 | unfold tn_7 | unfold tn_8 | unfold tn_9)
 all_goals (constructor<;>first | exact Nat.zero_le _ | (apply lstW_sm;repeat first | exact h | apply cnt_le | apply sml_le | apply lst_le | apply scl_le) | (apply lstB_sm;repeat first | exact h | apply cnt_le | apply sml_le | apply lst_le | apply scl_le))
theorem takeR_sm {s:Rst} {k:Nat} (h:s.1.length≤k):(takeR s).1.w.length≤k∧(takeR s).1.b.length≤k:=by
 unfold takeR
 split
 ·exact ⟨Nat.zero_le _,Nat.zero_le _⟩
 ·split
  ·exact ⟨Nat.zero_le _,Nat.zero_le _⟩
  ·exact takeN_sm h
theorem tkS_sm {s:Rst} {k:Nat} (h:s.1.length≤k) (n:Nat):(tkS s n).1.length≤k:=by
 induction n with
 | zero=>exact h
 | succ n ih=>exact takeS_sm ih
theorem tkL_sm {s:Rst} {k:Nat} (h:s.1.length≤k) (n:Nat):∀ y∈tkL s n,y.w.length≤k∧y.b.length≤k:=by
 induction n with
 | zero=>intro y hy;cases hy
 | succ n ih =>
  intro y hy
  rw [tkL,List.mem_append] at hy
  rcases hy with hy | hy
  ·exact ih y hy
  ·rw [List.mem_singleton] at hy;subst hy;exact takeR_sm (tkS_sm h n)
theorem blkT_sm {s:Rst} {k:Nat} (h:s.1.length≤k):∀ y∈(blkT s).1.1.n,y.w.length≤k∧y.b.length≤k:=by
 rcases blkT_cases s with ⟨m,hm,hf,hh⟩ | ⟨hh,hb⟩ | ⟨hh,hb⟩
 ·rw [blkT_f hm hf hh];intro y hy;cases hy
 ·rw [blkT_b hh hb];intro y hy;cases hy
 ·rw [blkT_y hh hb]
  have:(exN (stB s) (nodesT s)).n=nodesT s:=by unfold exN;split<;>rfl
  rw [this]
  exact tkL_sm (cnt_le h 8) _
noncomputable def same06_l_I (l:List Int) (k:Nat):VS:=stt 26 [(0,.sl 1 (l.map (row1 .u8))),(1,.sl 1 (l.map (row1 .u8))),(5,i64 k)] []
noncomputable def same06_l_Z (l:List Int):VS:=same06_l_I l (l.length)
theorem same06_l_s (l:List Int) (hl:l.length≤10000000) (k:Nat) (hk:k<l.length):VT Try.prog (fnC Try.f42 [1,1,0,1,0,0]) (same06_l_I l k) .normal (same06_l_I l (k+1)):=by
 have oz1:=(show 0≤(↑k:Int) by omega)
 have oz2:=(map_at (row1 IntKind.u8) (0) (l:=l) (i:=k) hk)
 exact VT.run (W:=[.r [] [],.br true,.r [] [.row (sO oz2),.row (sO oz2)],.br false,.r [] [.n ((↑k:Int)+1)]]) (G:=[.any (rg [(11,15)]),.weak 5 (i64 (↑(k+1):Int)),.sort]) (by kernel_rfl) (.c (show decide ((↑k:Int)<(↑(List.map (row1 IntKind.u8) l).length:Int))=true by (simp;omega))<|.c oz1<|.c oz2<|.c oz1<|.c oz2<|.c (show (l.getD k 0 != l.getD k 0)=false by (simp;done))<|.c (i6n ((↑k:Int)+1) (by omega))<|.c (Weak.int (k:=.i64) (show (((↑k:Int)+1):Int)=((↑(k+1):Int)) from (by omega)))<|.n)
theorem same06_l_e (l:List Int) (hl:l.length≤10000000):VT Try.prog (fnC Try.f42 [1,1,0,1,0,0]) (same06_l_I l (l.length)) (.exit 0) (same06_l_Z l):=by
 exact VT.run (W:=[.r [] [],.br false]) (G:=[.any (rg [(11,4)]),.sort]) (by kernel_rfl) (.c (show decide ((↑l.length:Int)<(↑(List.map (row1 IntKind.u8) l).length:Int))=false by (simp;done))<|.n)
theorem same06_l (l:List Int) (hl:l.length≤10000000):VT Try.prog (fnC Try.f42 [1,1,0,1,0]) (same06_l_I l 0) (.exit 0) (same06_l_Z l) :=
 VT.loop (fun k=>same06_l_I l k) (l.length) (fun k hk=>same06_l_s l hl k hk) (same06_l_e l hl) (by intro h;cases h)
theorem same06_v (l:List Int) (hl:l.length≤10000000):VC Try.prog 42 ([.sl 1 (l.map (row1 .u8)),.sl 1 (l.map (row1 .u8))]) (bv true):=by
 have oz2 := @same06_l (l) hl
 exact VC.run (fn:=Try.f42) (W:=[.r [] [],.r [] [],.br false,.r [] [],.code [.any [4,6,7,8,9,10],.weak 5 (i64 (↑0:Int)),.sort] (Exit.exit 0) (zO oz2),.r [] []]) Try.func42 (by kernel_rfl) (.c (show ((↑(List.map (row1 IntKind.u8) l).length:Int) != (↑(List.map (row1 IntKind.u8) l).length:Int))=false by (simp;done))<|.c (Weak.int (k:=.i64) (show ((0):Int)=((↑0:Int)) from (by omega)))<|.c oz2<|.n)
theorem read_v (d:List Int) (hd:d.length≤1000000):VM Try.prog 39 ([.sl 1 (d.map (row1 .u8))]) ([]) (.ptr 950 0 0) ([(950,.var (rdC (d,0)))]):=by
 exact VM.run (fn:=Try.f39) (W:=[.r [] [],.r [] []]) (G:=[.frz 4,.ren 6 950,.sort]) Try.func39 (by kernel_rfl) (.c (show (List.map (row1 IntKind.u8) d).length*1≤140737488355328 by (simp only [List.length_map];omega))<|.c (show (List.map (row1 IntKind.u8) d).length≤9223372036854775807 by (simp only [List.length_map];omega))<|.n)
theorem putL_9:putL 9=[9]:=by unfold putL;rfl
theorem putL_0:putL 0=[0]:=by unfold putL;rfl
theorem nodeR_9:nodeR ⟨9,0,0,0,0,0,0,0,0,[],[],0,0,0,0,0,0,0,0⟩=([9,0],0):=by
 have h:nodeR ⟨9,0,0,0,0,0,0,0,0,[],[],0,0,0,0,0,0,0,0⟩=(putN 9++putN 0,0):=rfl
 rw [h,putN_eq (by decide) (by decide),putN_eq (by decide) (by decide)]
 show (putL 9++putL 0,0)=_
 rw [putL_9,putL_0];rfl
theorem pnode9_v:VC Try.prog 37 [.agg [i64 9,i64 0,i64 0,i64 0,i64 0,i64 0,i64 0,i8 0,i8 0,.sl 1 [],.sl 1 [],i32 0,i64 0,i8 0,i32 0,i64 0,i8 0,i8 0,i8 0]] (.tup [.sl 1 (([9,0]:List Int).map (row1 .u8)),i64 0]):=by
 have h:=pnode_v ⟨9,0,0,0,0,0,0,0,0,[],[],0,0,0,0,0,0,0,0⟩ (by constructor<;>first | (constructor<;>decide) | (intro v hv;cases hv)) (by decide) (by decide)
 rw [nodeR_9] at h
 exact h
theorem known34_v   : VC Try.prog 36 ([]) (bv true):=by
 have oz1 := @pnode9_v
 have oz2 := @take_nil
 have oz3:=z1_
 exact VC.run (fn:=Try.f36) (W:=[.r [] [],.r [] [.call (aO oz1) (rO oz1)],.r [] [.callr (rO oz2)],.r [] [.br true,.br true,.il [9,0],.br true,.br true,.br true,.br true,.br true]]) Try.func36 (by kernel_rfl) (.c (show WeakL [AV.agg [i64 9,i64 0,i64 0,i64 0,i64 0,i64 0,i64 0,i8 0,i8 0,nilv,nilv,i32 0,i64 0,i8 0,i32 0,i64 0,i8 0,i8 0,i8 0]] [AV.agg [i64 9,i64 0,i64 0,i64 0,i64 0,i64 0,i64 0,i8 0,i8 0,AV.sl 1 [],AV.sl 1 [],i32 0,i64 0,i8 0,i32 0,i64 0,i8 0,i8 0,i8 0]] from (.cons (Weak.agg (.cons (.refl _) (.cons (.refl _) (.cons (.refl _) (.cons (.refl _) (.cons (.refl _) (.cons (.refl _) (.cons (.refl _) (.cons (.refl _) (.cons (.refl _) (.cons (Weak.nil _) (.cons (Weak.nil _) (.cons (.refl _) (.cons (.refl _) (.cons (.refl _) (.cons (.refl _) (.cons (.refl _) (.cons (.refl _) (.cons (.refl _) (.cons (.refl _) .nil)))))))))))))))))))) .nil))<|.c oz1<|.c oz2<|.c oz3<|.c oz3<|.c (show [[u8 (9:Int)],[u8 (0:Int)]]=List.map (fun (n:Int)=>[u8 n]) [(9:Int),(0:Int)] from rfl)<|.c oz3<|.c oz3<|.c oz3<|.c oz3<|.c oz3<|.n)
structure Byt (d:List Int):Prop where
 b:∀ x∈d,0≤x∧x≤255
 l:d.length≤3000
theorem Byt.fit {d:List Int} (h:Byt d):Rst.Fit (d,0):=⟨h.b,by have:=h.l;dsimp only;omega,by simp⟩
noncomputable def sblk_l_I (x:Blc) (k:Nat):VS:=stt 68 [(2,.ptr 2 0 0),(3,.ptr 3 0 0),(5,i64 k)] [(2,.var (blcC x)),(3,.var (blcC x))]
noncomputable def sblk_l_Z (x:Blc):VS:=sblk_l_I x (x.n.length)
theorem sblk_l_s (x:Blc) (hl:x.n.length≤100) (hw:∀ n∈x.n,n.w.length≤100000∧n.b.length≤100000) (k:Nat) (hk:k<x.n.length):VT Try.prog (fnC Try.f49 [1,1,0,1,0,0]) (sblk_l_I x k) .normal (sblk_l_I x (k+1)):=by
 obtain ⟨q1,q2⟩:=getD_in hw hk
 have qe:nodEq (x.n.getD k default) (x.n.getD k default)=true:=(nodEq_iff _ _).2 rfl
 have oz1:=(show 0≤(↑k:Int) by omega)
 have oz2:=(map_at (nodC) (default) (l:=x.n) (i:=k) hk)
 have oz5 := @refSame_v (x.n.getD k default) (x.n.getD k default) q1 q2
 exact VT.run (W:=[.r [] [],.br true,.r [] [.row (sO oz2),.row (sO oz2),.callr (rO oz5)],.br false,.r [] [.n ((↑k:Int)+1)]]) (G:=[.any (rg [(49,19)]),.weak 5 (i64 (↑(k+1):Int)),.sort]) (by kernel_rfl) (.c (show decide ((↑k:Int)<(↑(List.map nodC x.n).length:Int))=true by (simp;omega))<|.c oz1<|.c oz2<|.c oz1<|.c oz2<|.c oz5<|.c (show (!nodEq (x.n.getD k default) (x.n.getD k default))=false by (simp at *;omega))<|.c (i6n ((↑k:Int)+1) (by omega))<|.c (Weak.int (k:=.i64) (show (((↑k:Int)+1):Int)=((↑(k+1):Int)) from (by omega)))<|.n)
theorem sblk_l_e (x:Blc) (hl:x.n.length≤100) (hw:∀ n∈x.n,n.w.length≤100000∧n.b.length≤100000):VT Try.prog (fnC Try.f49 [1,1,0,1,0,0]) (sblk_l_I x (x.n.length)) (.exit 0) (sblk_l_Z x):=by
 exact VT.run (W:=[.r [] [],.br false]) (G:=[.any (rg [(49,5)]),.sort]) (by kernel_rfl) (.c (show decide ((↑x.n.length:Int)<(↑(List.map nodC x.n).length:Int))=false by (simp;done))<|.n)
theorem sblk_l (x:Blc) (hl:x.n.length≤100) (hw:∀ n∈x.n,n.w.length≤100000∧n.b.length≤100000):VT Try.prog (fnC Try.f49 [1,1,0,1,0]) (sblk_l_I x 0) (.exit 0) (sblk_l_Z x) :=
 VT.loop (fun k=>sblk_l_I x k) (x.n.length) (fun k hk=>sblk_l_s x hl hw k hk) (sblk_l_e x hl hw) (by intro h;cases h)
theorem sblk_v (x:Blc) (hl:x.n.length≤100) (hw:∀ n∈x.n,n.w.length≤100000∧n.b.length≤100000) (h1:x.w.length≤100000) (h2:x.b.length≤100000):VC Try.prog 49 ([blc x,blc x]) (bv true):=by
 have z1:(x.ex != x.ex)=false:=by simp
 have z2:decide (x.w=x.w)=true:=by simp
 have z3:decide (x.b=x.b)=true:=by simp
 have oz0 := @rsame8_v (x.w) (x.w) (by omega)
 have oz1 := @rsame32_v (x.b) (x.b) (by omega)
 have oz4 := @sblk_l (x) hl hw
 exact VC.run (fn:=Try.f49) (W:=[.r [] [],.r [] [.op false,.op false,.op false,.op false,.op false,.sel 1,.op false,.op false,.op false,.op false,.op false,.op false,.op false,.sel 1,.op false,.op false,.op false,.op false,.op false,.op false,.op false,.callr (rO oz0),.op false,.sel 1,.op false,.op false,.op false,.op false,.op false,.op false,.op false,.callr (rO oz1),.op false,.sel 1],.br false,.r [] [],.code [.any [0,1,4,6,7,8,9,10,11,12,13,19,20,28,29,38,39,48],.weak 5 (i64 (↑0:Int)),.sort] (Exit.exit 0) (zO oz4),.r [] []]) Try.func49 (by kernel_rfl) (.c oz0<|.c oz1<|.c (show ((↑(List.map nodC x.n).length:Int) != (↑(List.map nodC x.n).length:Int) || !x.ex==x.ex || x.nd != x.nd || !decide (x.w=x.w) || !decide (x.b=x.b))=false by (simp;done))<|.c (Weak.int (k:=.i64) (show ((0):Int)=((↑0:Int)) from (by omega)))<|.c oz4<|.n)
structure Blc.Fw (x:Blc):Prop where
 ok:x.Ok
 n:∀ n∈x.n,n.w.length≤1000∧n.b.length≤100
 l:x.n.length≤12
 w:x.w.length≤4000
 b:x.b.length≤100
theorem Blc.fw {x:Blc} (ok:x.Ok) (h:blcS x=true):x.Fw:=by
 obtain ⟨a,b,c⟩:=blcS_iff.1 h
 obtain ⟨d,_,e⟩:=few_facts a
 exact ⟨ok,e,d,b,c⟩
theorem accB_few {x:Blc} (h:x.Fw) (B:List Int) {k:Nat} (hk:k≤x.n.length):(accB x.n B k).length≤B.length+2200*k:=by
 induction k with
 | zero=>exact Nat.le_refl _
 | succ k ih =>
  have a:=ih (by omega)
  have b:=nodeR_le _ (getD_in h.ok.n (show k<x.n.length by omega))
  have c:=getD_in h.n (show k<x.n.length by omega)
  rw [accB,lla];omega
theorem blockR_few {x:Blc} (h:x.Fw):(blockR x).1.length≤50000:=by
 unfold blockR
 split
 ·exact Nat.zero_le _
 ·split
  ·exact Nat.zero_le _
  ·split
   ·exact Nat.zero_le _
   ·have a:=accB_few h (putN (x.n.length:Int)) (Nat.le_refl _)
    have p:=putN_len
    have p1:=p (x.n.length:Int);have p2:=p 1;have p3:=p (x.w.length:Int);have p4:=p (x.b.length:Int);have p5:=p x.nd;have p6:=p 0
    have w:=wideL_len x.b h.ok.b
    have s:(smallL x.w).length=x.w.length:=List.length_map _
    have h1:=h.l;have h2:=h.w;have h3:=h.b
    dsimp only
    unfold exitL
    split<;>simp only [lla]<;>omega
end Go.Proofs.Ytgecmooedhnenaa
