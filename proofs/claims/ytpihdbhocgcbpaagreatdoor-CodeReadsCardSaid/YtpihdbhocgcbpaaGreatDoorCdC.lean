/- Code: reading: words, numbers, names. -/
import Derived.Test.YtpihdbhocgcbpaaGreatDoorAmH
import Derived.Test.YtpihdbhocgcbpaaGreatDoorProg
import Derived.KernelRfl
import Derived.Test.YtpihdbhocgcbpaaGreatDoorCdB
set_option linter.unusedSectionVars false
set_option linter.unusedVariables false
set_option linter.unusedSimpArgs false
open Go Am
namespace Go.Proofs.YtpihdbhocgcbpaaGreatDoor.Rd
def frzR (f:FuncId):Nat:=bif Nat.beq f 171||Nat.beq f 172 then 2 else 1
noncomputable abbrev EK (K:FuncId→List AV→Option AV):Env:=envF Tryz.prog 1200 1200 frzR K (fun _=>none)
section
variable {K : FuncId → List AV → Option AV}
theorem u_3:und (EK K) 3=some (.int .i64):=by kernel_rfl
theorem Bf:Am.sizeOf (EK K) 3=some 1:=by kernel_rfl
theorem B3:Am.isAgg (EK K) 3=some false:=by kernel_rfl
theorem z_3:Am.zeroOf (EK K) 3=some (.int .i64 0):=by kernel_rfl
theorem by_3:bytesOf (EK K) 3=some 8:=by kernel_rfl
theorem sz_4:Am.sizeOf (EK K) 4=some 1:=by kernel_rfl
theorem z_4:Am.zeroOf (EK K) 4=some (.bool false):=by kernel_rfl
theorem u_5:und (EK K) 5=some (.int .u8):=by kernel_rfl
theorem u_9:und (EK K) 9=some .string:=by kernel_rfl
theorem Bt:Am.sizeOf (EK K) 9=some 1:=by kernel_rfl
theorem Fg:Am.isAgg (EK K) 9=some false:=by kernel_rfl
theorem z_9:Am.zeroOf (EK K) 9=some (.str []):=by kernel_rfl
theorem by_9:bytesOf (EK K) 9=some 16:=by kernel_rfl
theorem kd_9:kdOf (EK K) 9=some (.one .string):=by kernel_rfl
theorem if_20:isIfaceT (EK K) 20=some true:=by kernel_rfl
theorem u_21:und (EK K) 21=some (.int .i32):=by kernel_rfl
theorem DY:und (EK K) 22=some (.slice 54):=by kernel_rfl
theorem B2:Am.sizeOf (EK K) 22=some 1:=by kernel_rfl
theorem B4:Am.isAgg (EK K) 22=some false:=by kernel_rfl
theorem BU:fieldOf (EK K) 24 0=some (0,1,false):=by kernel_rfl
theorem BT:fieldOf (EK K) 24 1=some (1,1,false):=by kernel_rfl
theorem sz_24:Am.sizeOf (EK K) 24=some 2:=by kernel_rfl
theorem ag_24:Am.isAgg (EK K) 24=some true:=by kernel_rfl
theorem u_25:und (EK K) 25=some (.slice 58):=by kernel_rfl
theorem Dc:Am.sizeOf (EK K) 25=some 1:=by kernel_rfl
theorem Du:Am.isAgg (EK K) 25=some false:=by kernel_rfl
theorem D6:und (EK K) 26=some (.slice 3):=by kernel_rfl
theorem BC:Am.sizeOf (EK K) 26=some 1:=by kernel_rfl
theorem Dn:Am.isAgg (EK K) 26=some false:=by kernel_rfl
theorem DI:fieldOf (EK K) 28 0=some (0,2,true):=by kernel_rfl
theorem Bp:fieldOf (EK K) 28 1=some (2,1,false):=by kernel_rfl
theorem ES:fieldOf (EK K) 28 2=some (3,1,false):=by kernel_rfl
theorem Bg:Am.sizeOf (EK K) 28=some 4:=by kernel_rfl
theorem DU:Am.isAgg (EK K) 28=some true:=by kernel_rfl
theorem z_28:Am.zeroOf (EK K) 28=some (.agg [.nilslice,.nilslice,.nilslice,.nilslice]):=by kernel_rfl
theorem pl_28:Am.buildPlan (EK K) 28=some ([.nilslice,.nilslice,.nilslice,.nilslice],nth [(0,2),(2,1),(3,1)]):=by kernel_rfl
theorem u_31:und (EK K) 31=some (.int .i64):=by kernel_rfl
theorem u_37:und (EK K) 37=some (.int .i64):=by kernel_rfl
theorem sz_37:Am.sizeOf (EK K) 37=some 1:=by kernel_rfl
theorem ag_37:Am.isAgg (EK K) 37=some false:=by kernel_rfl
theorem st_54:isStructT (EK K) 54=true:=by kernel_rfl
theorem f_54_0:fieldOf (EK K) 54 0=some (0,1,false):=by kernel_rfl
theorem f_54_1:fieldOf (EK K) 54 1=some (1,1,false):=by kernel_rfl
theorem BS:Am.sizeOf (EK K) 54=some 2:=by kernel_rfl
theorem ag_54:Am.isAgg (EK K) 54=some true:=by kernel_rfl
theorem z_54:Am.zeroOf (EK K) 54=some (.agg [.str [],.int .i64 0]):=by kernel_rfl
theorem by_54:bytesOf (EK K) 54=some 24:=by kernel_rfl
theorem kd_54:kdOf (EK K) 54=some (.flat [.string,.int .i64]):=by kernel_rfl
theorem pl_54:Am.buildPlan (EK K) 54=some ([.str [],.int .i64 0],nth [(0,1),(1,1)]):=by kernel_rfl
theorem BB:und (EK K) 55=some (.int .i64):=by kernel_rfl
theorem DN:Am.sizeOf (EK K) 55=some 1:=by kernel_rfl
theorem DT:Am.isAgg (EK K) 55=some false:=by kernel_rfl
theorem u_56:und (EK K) 56=some (.slice 60):=by kernel_rfl
theorem E7:Am.sizeOf (EK K) 56=some 1:=by kernel_rfl
theorem ag_56:Am.isAgg (EK K) 56=some false:=by kernel_rfl
theorem B1:fieldOf (EK K) 58 0=some (0,1,false):=by kernel_rfl
theorem DZ:fieldOf (EK K) 58 1=some (1,1,false):=by kernel_rfl
theorem D5:fieldOf (EK K) 58 2=some (2,1,false):=by kernel_rfl
theorem Em:fieldOf (EK K) 58 3=some (3,1,false):=by kernel_rfl
theorem f_58_4:fieldOf (EK K) 58 4=some (4,1,false):=by kernel_rfl
theorem BY:fieldOf (EK K) 58 5=some (5,1,false):=by kernel_rfl
theorem f_58_6:fieldOf (EK K) 58 6=some (6,1,false):=by kernel_rfl
theorem AP:Am.sizeOf (EK K) 58=some 7:=by kernel_rfl
theorem Dy:Am.isAgg (EK K) 58=some true:=by kernel_rfl
theorem z_58:Am.zeroOf (EK K) 58=some (.agg [.int .i64 0,.int .i64 0,.nilslice,.nilslice,.int .i64 0,.int .i64 0,.nilslice]):=by kernel_rfl
theorem by_58:bytesOf (EK K) 58=some 104:=by kernel_rfl
theorem pl_58:Am.buildPlan (EK K) 58=some ([.int .i64 0,.int .i64 0,.nilslice,.nilslice,.int .i64 0,.int .i64 0,.nilslice],nth [(0,1),(1,1),(2,1),(3,1),(4,1),(5,1),(6,1)]):=by kernel_rfl
theorem st_60:isStructT (EK K) 60=true:=by kernel_rfl
theorem f_60_0:fieldOf (EK K) 60 0=some (0,1,false):=by kernel_rfl
theorem f_60_1:fieldOf (EK K) 60 1=some (1,1,false):=by kernel_rfl
theorem sz_60:Am.sizeOf (EK K) 60=some 2:=by kernel_rfl
theorem ag_60:Am.isAgg (EK K) 60=some true:=by kernel_rfl
theorem z_60:Am.zeroOf (EK K) 60=some (.agg [.int .i64 0,.int .i64 0]):=by kernel_rfl
theorem by_60:bytesOf (EK K) 60=some 16:=by kernel_rfl
theorem kd_60:kdOf (EK K) 60=some (.flat [.int .i64,.int .i64]):=by kernel_rfl
theorem pl_60:Am.buildPlan (EK K) 60=some ([.int .i64 0,.int .i64 0],nth [(0,1),(1,1)]):=by kernel_rfl
theorem AI:und (EK K) 106=some (.slice 9):=by kernel_rfl
theorem EN:Am.sizeOf (EK K) 106=some 1:=by kernel_rfl
theorem ag_106:Am.isAgg (EK K) 106=some false:=by kernel_rfl
theorem u_108:und (EK K) 108=some (.array 7 9):=by kernel_rfl
theorem if_111:isIfaceT (EK K) 111=some true:=by kernel_rfl
theorem f_114_0:fieldOf (EK K) 114 0=some (0,1,false):=by kernel_rfl
theorem f_114_1:fieldOf (EK K) 114 1=some (1,1,false):=by kernel_rfl
theorem sz_114:Am.sizeOf (EK K) 114=some 2:=by kernel_rfl
theorem z_114:Am.zeroOf (EK K) 114=some (.agg [.int .i64 0,.nilslice]):=by kernel_rfl
theorem if_114:isIfaceT (EK K) 114=some false:=by kernel_rfl
theorem pl_114:Am.buildPlan (EK K) 114=some ([.int .i64 0,.nilslice],nth [(0,1),(1,1)]):=by kernel_rfl
theorem f_117_0:fieldOf (EK K) 117 0=some (0,1,false):=by kernel_rfl
theorem sz_117:Am.sizeOf (EK K) 117=some 1:=by kernel_rfl
theorem z_117:Am.zeroOf (EK K) 117=some (.agg [.nilslice]):=by kernel_rfl
theorem if_117:isIfaceT (EK K) 117=some false:=by kernel_rfl
theorem pl_117:Am.buildPlan (EK K) 117=some ([.nilslice],nth [(0,1)]):=by kernel_rfl
theorem f_119_0:fieldOf (EK K) 119 0=some (0,1,false):=by kernel_rfl
theorem Di:fieldOf (EK K) 119 1=some (1,1,false):=by kernel_rfl
theorem f_119_2:fieldOf (EK K) 119 2=some (2,1,false):=by kernel_rfl
theorem sz_119:Am.sizeOf (EK K) 119=some 3:=by kernel_rfl
theorem ag_119:Am.isAgg (EK K) 119=some true:=by kernel_rfl
theorem z_119:Am.zeroOf (EK K) 119=some (.agg [.int .i64 0,.int .i64 0,.nilslice]):=by kernel_rfl
theorem if_119:isIfaceT (EK K) 119=some false:=by kernel_rfl
theorem pl_119:Am.buildPlan (EK K) 119=some ([.int .i64 0,.int .i64 0,.nilslice],nth [(0,1),(1,1),(2,1)]):=by kernel_rfl
theorem f_121_0:fieldOf (EK K) 121 0=some (0,1,false):=by kernel_rfl
theorem if_121:isIfaceT (EK K) 121=some false:=by kernel_rfl
theorem pl_121:Am.buildPlan (EK K) 121=some ([.int .i64 0],nth [(0,1)]):=by kernel_rfl
theorem sz_146:Am.sizeOf (EK K) 146=some 1:=by kernel_rfl
theorem ag_146:Am.isAgg (EK K) 146=some false:=by kernel_rfl
theorem z_146:Am.zeroOf (EK K) 146=some .nilfunc:=by kernel_rfl
theorem u_155:und (EK K) 155=some (.map 9 4):=by kernel_rfl
theorem sz_155:Am.sizeOf (EK K) 155=some 1:=by kernel_rfl
theorem ag_155:Am.isAgg (EK K) 155=some false:=by kernel_rfl
theorem z_155:Am.zeroOf (EK K) 155=some .nilmap:=by kernel_rfl
theorem if_166:isIfaceT (EK K) 166=some false:=by kernel_rfl
theorem pl_166:Am.buildPlan (EK K) 166=some ([],nth []):=by kernel_rfl
theorem if_167:isIfaceT (EK K) 167=some false:=by kernel_rfl
theorem pl_167:Am.buildPlan (EK K) 167=some ([],nth []):=by kernel_rfl
theorem sz_181:Am.sizeOf (EK K) 181=some 0:=by kernel_rfl
theorem z_181:Am.zeroOf (EK K) 181=some (.agg []):=by kernel_rfl
theorem if_181:isIfaceT (EK K) 181=some false:=by kernel_rfl
theorem pl_181:Am.buildPlan (EK K) 181=some ([],nth []):=by kernel_rfl
theorem Fe:fieldOf (EK K) 184 0=some (0,4,true):=by kernel_rfl
theorem DS:fieldOf (EK K) 184 1=some (4,1,false):=by kernel_rfl
theorem pl_184:Am.buildPlan (EK K) 184=some ([.nilslice,.nilslice,.nilslice,.nilslice,.nilslice],nth [(0,4),(4,1)]):=by kernel_rfl
theorem sz_185:Am.sizeOf (EK K) 185=some 1:=by kernel_rfl
theorem ag_185:Am.isAgg (EK K) 185=some false:=by kernel_rfl
theorem u_222:und (EK K) 222=some (.array 3 185):=by kernel_rfl
theorem sz_222:Am.sizeOf (EK K) 222=some 3:=by kernel_rfl
theorem z_222:Am.zeroOf (EK K) 222=some (.agg [.nilfunc,.nilfunc,.nilfunc]):=by kernel_rfl
theorem pl_222:Am.buildPlan (EK K) 222=some ([.nilfunc,.nilfunc,.nilfunc],fun i=>some (i*1,1)):=by kernel_rfl
theorem m_114_registers:methodOf (EK K) 114 "swingle/code.registers" =some (341,.mk none none):=by kernel_rfl
theorem m_117_registers:methodOf (EK K) 117 "swingle/code.registers" =some (342,.mk none none):=by kernel_rfl
theorem m_119_registers:methodOf (EK K) 119 "swingle/code.registers" =some (343,.mk none none):=by kernel_rfl
theorem m_121_registers:methodOf (EK K) 121 "swingle/code.registers" =some (344,.mk none none):=by kernel_rfl
theorem m_166_registers:methodOf (EK K) 166 "swingle/code.registers" =some (345,.mk none none):=by kernel_rfl
theorem m_167_registers:methodOf (EK K) 167 "swingle/code.registers" =some (346,.mk none none):=by kernel_rfl
end
def lst {α:Type} (enc:α→List AV) (k:Nat) (l:List α):AV:=match l with
 | []=> .nilslice
 |a::l=>recs enc k (a::l)
theorem DO {α:Type} {enc:α→List AV} {k:Nat} (hi:∀a b,enc a=enc b→a=b) (hl:∀a,(enc a).length=k+1) {l m:List α} (h:lst enc (k+1) l=lst enc (k+1) m):l=m:=by
 cases l with
 |nil=>cases m with
  |nil=>rfl
  |cons a m=>cases h
 |cons a l=>cases m with
  |nil=>cases h
  |cons b m=>exact B0 hi hl h
def encIR (x:InsT):List AV:=[.int .i64 x.op,.int .i64 x.a,lst encA 2 x.alts,lst encZ 1 x.to,.int .i64 x.term,.int .i64 x.n,lst encZ 1 x.args]
def encIF (x:InsT):List AV:=[.int .i64 x.op,.int .i64 x.a,lst encA 2 x.alts,lst encZ 1 x.to,.int .i64 x.term,.int .i64 x.n,if x.op=5 then recs encZ 1 x.args else lst encZ 1 x.args]
def encR (c:CodeT):List AV:=[lst encN 2 c.cons,lst encN 2 c.funs,lst encIR 7 c.ins,lst encZ 1 c.starts]
def encF (c:CodeT):List AV:=[lst encN 2 c.cons,lst encN 2 c.funs,lst encIF 7 c.ins,lst encZ 1 c.starts]
theorem wk_flat {α:Type} {enc enc':α→List AV} (h:∀a,WeakL (enc a) (enc' a)):∀l:List α,WeakL (l.flatMap enc) (l.flatMap enc')
 | []=> .nil
 |a::l=>(h a).app (wk_flat h l)
theorem wk_recs {α:Type} {enc enc':α→List AV} {k:Nat} (h:∀a,WeakL (enc a) (enc' a)) (l:List α):Weak (recs enc k l) (recs enc' k l):= .islice (wk_flat h l)
theorem wk_lst {α:Type} {enc enc':α→List AV} {k:Nat} (h:∀a,WeakL (enc a) (enc' a)) (l:List α):Weak (lst enc k l) (recs enc' k l):=by
 cases l with
 |nil=>exact .nil k
 |cons a l=>exact wk_recs h (a::l)
theorem wk_a (l:List AltT):Weak (lst encA 2 l) (recs encA 2 l):=wk_lst (fun _=> .refl _) l
theorem wk_z (l:List Int):Weak (lst encZ 1 l) (recs encZ 1 l):=wk_lst (fun _=> .refl _) l
theorem wk_n (l:List NameT):Weak (lst encN 2 l) (recs encN 2 l):=wk_lst (fun _=> .refl _) l
theorem wk_ir (x:InsT):WeakL (encIR x) (encI x):= .cons (.refl _) (.cons (.refl _) (.cons (wk_a _) (.cons (wk_z _) (.cons (.refl _) (.cons (.refl _) (.cons (wk_z _) .nil))))))
theorem wk_if (x:InsT):WeakL (encIF x) (encI x):= .cons (.refl _) (.cons (.refl _) (.cons (wk_a _) (.cons (wk_z _) (.cons (.refl _) (.cons (.refl _) (.cons (by
 split
 ·exact .refl _
 ·exact wk_z _) .nil))))))
theorem wk_r (c:CodeT):Weak (.agg (encR c)) (.agg (encC c)):= .agg (.cons (wk_n _) (.cons (wk_n _) (.cons (wk_lst wk_ir _) (.cons (wk_z _) .nil))))
theorem wk_f (c:CodeT):Weak (.agg (encF c)) (.agg (encC c)):= .agg (.cons (wk_n _) (.cons (wk_n _) (.cons (wk_lst wk_if _) (.cons (wk_z _) .nil))))
theorem encIR_inj (x y:InsT) (h:encIR x=encIR y):x=y:=by
 obtain⟨a,b,c,d,e,f,g⟩:=x
 obtain⟨a',b',c',d',e',f',g'⟩:=y
 simp only[encIR,List.cons.injEq,AV.int.injEq,and_true,true_and]at h
 obtain⟨rfl,rfl,h3,h4,rfl,rfl,h7⟩:=h
 rw[DO encA_inj EU h3,DO D8 Be h4,DO D8 Be h7]
theorem encIF_inj (x y:InsT) (h:encIF x=encIF y):x=y:=by
 obtain⟨a,b,c,d,e,f,g⟩:=x
 obtain⟨a',b',c',d',e',f',g'⟩:=y
 simp only[encIF,List.cons.injEq,AV.int.injEq,and_true,true_and]at h
 obtain⟨rfl,rfl,h3,h4,rfl,rfl,h7⟩:=h
 have:g=g':=by
  split at h7
  ·exact B0 D8 Be h7
  ·exact DO D8 Be h7
 rw[DO encA_inj EU h3,DO D8 Be h4,this]
theorem encR_inj {x y:CodeT} (h:encR x=encR y):x=y:=by
 obtain⟨a,b,c,d⟩:=x
 obtain⟨a',b',c',d'⟩:=y
 simp only[encR,List.cons.injEq,and_true]at h
 rw[DO Dr AU h.1,DO Dr AU h.2.1,DO encIR_inj (k:=6) (fun _=>rfl) h.2.2.1,DO D8 Be h.2.2.2]
theorem encRF_inj {x y:CodeT} (h:encF x=encF y):x=y:=by
 obtain⟨a,b,c,d⟩:=x
 obtain⟨a',b',c',d'⟩:=y
 simp only[encF,List.cons.injEq,and_true]at h
 rw[DO Dr AU h.1,DO Dr AU h.2.1,DO encIF_inj (k:=6) (fun _=>rfl) h.2.2.1,DO D8 Be h.2.2.2]
noncomputable def R0a:=addC K15 13 (fun p:FitT=>[.agg (encR p.1)]) (fun p=> .int .i64 (if codeV p.1 then 0 else 2))
theorem hit_13 {c:CodeT} (h:Fits c):R0a 13 [.agg (encR c)]=some (.int .i64 (if codeV c then 0 else 2)):=
 A2 (f:=13) (enc:=fun p:FitT=>[.agg (encR p.1)]) (res:=fun p=> .int .i64 (if codeV p.1 then 0 else 2)) (by
  rintro⟨a,_⟩ ⟨b,_⟩ h
  obtain rfl:=encR_inj (AV.agg.inj (List.cons.inj h).1)
  rfl) ⟨c,h⟩
noncomputable def R0:=addC R0a 24 (fun p:FitT=>[.agg (encF p.1)]) (fun p=> .bool (codeV p.1))
theorem hit_24 {c:CodeT} (h:Fits c):R0 24 [.agg (encF c)]=some (.bool (codeV c)):=
 A2 (f:=24) (enc:=fun p:FitT=>[.agg (encF p.1)]) (res:=fun p=> .bool (codeV p.1)) (by
  rintro⟨a,_⟩ ⟨b,_⟩ h
  obtain rfl:=encRF_inj (AV.agg.inj (List.cons.inj h).1)
  rfl) ⟨c,h⟩
theorem rall0 (h:KnownF Tryz.prog 10 [] (.bool true)):KnownGs Tryz.prog (fun _=>none) R0:=by
 have h15:KnownGs Tryz.prog (fun _=>none) K15:=(all15 h).g
 have ha:KnownGs Tryz.prog (fun _=>none) R0a:=DB h15 fun p=>(h15 13 [.agg (encC p.1)] _ (Go.Proofs.YtpihdbhocgcbpaaGreatDoor.hit_13 p.2)).weak (.cons (wk_r _) .nil)
 exact DB ha fun p=>(h15 24 [.agg (encC p.1)] (.bool (codeV p.1)) (Go.Proofs.YtpihdbhocgcbpaaGreatDoor.hit_24 p.2)).weak (.cons (wk_f _) .nil)
def cutV (c:UInt8) (w:List UInt8):AV:=match idxS c w with
 |some n=> .tuple [.str (w.take n),.str (w.drop (n+1)),.bool true]
 |none=> .tuple [.str w,.str [],.bool false]
theorem idx_self {c:UInt8}:idxI c [c]=0:=by unfold idxI idxS;rw[if_pos rfl];rfl
theorem index_to (w:List UInt8) (c:UInt8):CallTo (EK R0) 210 [.str w,.str [c]] S0 (.int .i64 (idxI c w)):=by
 refine Ax (fn:=Tryz.f210) U U (by kernel_rfl) U U U U ?_
 focus
  refine Es<|qa rfl<|Ld<|Es<|qm rfl<|Lq (Aw U U U U u_9 U) rfl<|qa rfl<|Ld ?_
  refine Ab<|Af<|Es<|qm rfl<|Lq (o2 u_3 U U) rfl<|qm U ?_
  iterate 2 refine Lh U U (om U) ?_
  refine Lh U U (AX U u_9 U U U U)<|Lq (oF U U U) rfl<|qa rfl<|Ld ?_
  refine Ec U (fun g1=>?_) (fun g1=>?_)
  have h1:=bT g1
  refine Es<|qa rfl<|Ld ?_
  refine Aa (Er U ?_)
  rotate_left
  have h1:=bF g1
  refine Es<|qm rfl<|Lq (o2 u_3 U U) rfl<|qa rfl<|Ld<|Ai U rfl<|Es ?_
  iterate 2 refine qm U ?_
  refine Lq (A7 (n:=0) U u_9 U U (by first|assumption|omega|(simp only[LL];omega))) U ?_
  refine EY (fn:=Tryz.f242) (by kernel_rfl) (by kernel_rfl) U U U U U U U U U U rfl<|Es<|qa rfl<|Ld<|Es ?_
  iterate 2 refine qm U ?_
  refine Lq (OpQ.pure2 (f:=indexByteV) (x:= .tmp 5) (y:= .tmp 6) (by kernel_rfl) U U (indexByteV_eq _ _)) rfl<|qa rfl<|Ld ?_
  refine Aa (BP (BJ U (Aj U U) U U U U ?_))
  refine qa rfl<|Ld ?_
  refine Aa (Er U ?_)
  rotate_left
 ·show AV.int .i64 0=_
  rw[←h1,idx_self]
 ·rfl
noncomputable def R1:=addC R0 210 (fun p:List UInt8×UInt8=>[.str p.1,.str [p.2]]) (fun p=> .int .i64 (idxI p.2 p.1))
theorem hit_210 {w:List UInt8} {c:UInt8}:R1 210 [.str w,.str [c]]=some (.int .i64 (idxI c w)):=
 A2 (f:=210) (enc:=fun p:List UInt8×UInt8=>[.str p.1,.str [p.2]]) (res:=fun p=> .int .i64 (idxI p.2 p.1)) (by rintro⟨a,b⟩ ⟨c,d⟩ h;cases h;rfl) (w,c)
theorem sindex_to (w:List UInt8) (c:UInt8):CallTo (EK R1) 213 [.str w,.str [c]] S0 (.int .i64 (idxI c w)):=by
 refine Ax (fn:=Tryz.f213) U U (by kernel_rfl) U U U rfl<|Es<|qa rfl<|Ld<|Es ?_
 iterate 2 refine qm U ?_
 refine Lo (Ad U U (by kernel_rfl) U (Ac (hit_210))) rfl<|qa rfl<|Ld ?_
 refine Aa (Er U ?_)
 rfl
noncomputable def R1s:=addC R1 213 (fun p:List UInt8×UInt8=>[.str p.1,.str [p.2]]) (fun p=> .int .i64 (idxI p.2 p.1))
theorem hit_213 {w:List UInt8} {c:UInt8}:R1s 213 [.str w,.str [c]]=some (.int .i64 (idxI c w)):=
 A2 (f:=213) (enc:=fun p:List UInt8×UInt8=>[.str p.1,.str [p.2]]) (res:=fun p=> .int .i64 (idxI p.2 p.1)) (by rintro⟨a,b⟩ ⟨c,d⟩ h;cases h;rfl) (w,c)
theorem cut_to (w:List UInt8) (c:UInt8) (hw:w.length≤50000):CallTo (EK R1s) 134 [.str w,.str [c]] S0 (cutV c w):=by
 refine Ax (fn:=Tryz.f134) U U (by kernel_rfl) U U U U ?_
 cases h:idxS c w with
 |none=>
  have hix:idxI c w= -1:=by unfold idxI;rw[h]
  focus
   refine Es ?_
   iterate 3 refine qa U ?_
   refine Ld<|Es ?_
   iterate 2 refine qm U ?_
   refine EY (fn:=Tryz.f173) (by kernel_rfl) (by kernel_rfl) U U U U U U U U U U rfl<|Es ?_
   iterate 3 refine qa U ?_
   refine Ld<|Ab<|Es ?_
   iterate 2 refine qm U ?_
   refine Lo (Ad U U (by kernel_rfl) U (Ac (hit_210))) rfl<|qa rfl<|Ld<|Es<|qm rfl<|Lq (o2 u_3 U U) rfl<|Ld ?_
   refine Ec U (fun g1=>?_) (fun g1=>?_)
   have h1:=dT g1
   exact absurd h1 (by omega)
   have h1:=dF g1
   refine Ae<|Es<|qm U ?_
   iterate 3 refine qa U ?_
   refine Ld ?_
   refine Aa (BP (BJ U (Aj U (Aj U (Aj U U))) U U U U ?_))
   iterate 3 refine Lq (oe U) U ?_
   iterate 3 refine qa U ?_
   refine Ld ?_
   refine Aa ⟨.inl U,rfl,rfl,rfl,_,_,_,(Aj U (Aj U (Aj U U))),rfl,rfl,?_⟩
   rotate_left
  show AV.tuple _=_
  unfold cutV
  rw[h]
 |some n=>
  have hn:=F8 h
  have hix:idxI c w=(n:Int):=by unfold idxI;rw[h]
  focus
   refine Es ?_
   iterate 3 refine qa U ?_
   refine Ld<|Es ?_
   iterate 2 refine qm U ?_
   refine EY (fn:=Tryz.f173) (by kernel_rfl) (by kernel_rfl) U U U U U U U U U U rfl<|Es ?_
   iterate 3 refine qa U ?_
   refine Ld<|Ab<|Es ?_
   iterate 2 refine qm U ?_
   refine Lo (Ad U U (by kernel_rfl) U (Ac (hit_210))) rfl<|qa rfl<|Ld<|Es<|qm rfl<|Lq (o2 u_3 U U) rfl<|Ld ?_
   refine Ec U (fun g1=>?_) (fun g1=>?_)
   have h1:=dT g1
   refine AK (by kernel_rfl) ?_
   iterate 2 refine Nq (om U) U ?_
   rotate_left
   have h1:=dF g1
   exact absurd h1 (by omega)
  rw[hix]
  refine Nq (BO U u_9 U U U (AL (by omega)) U ⟨by omega,by omega⟩) U ?_
  iterate 3 refine Nq (om U) U ?_
  refine Nq (Aw U U U U u_9 U) U ?_
  refine Nq (A0 (b:=1) U u_3 U U (by first|assumption|omega|(simp only[LL];omega))) U ?_
  refine Nq (BO U u_9 U U U U (AL (by omega)) ⟨by omega,by omega⟩) U ?_
  iterate 3 refine Nq (oa U) U ?_
  refine AG ?_
  refine Aa (BP (BJ U (Aj U (Aj U (Aj U U))) U U U U ?_))
  iterate 3 refine Lq (oe U) U ?_
  iterate 3 refine qa U ?_
  refine Ld ?_
  refine Aa ⟨.inl U,rfl,rfl,rfl,_,_,_,(Aj U (Aj U (Aj U U))),rfl,rfl,?_⟩
  show AV.tuple [.str ((w.drop 0).take (n-0)),.str ((w.drop (n+1)).take (w.length-(n+1))),.bool true]=_
  unfold cutV
  rw[h,List.drop_zero,Nat.sub_zero,List.take_of_length_le (l:=w.drop (n+1)) (by rw[List.length_drop];omega)]
abbrev Str5:= {w:List UInt8//w.length≤50000}
noncomputable def R2:=addC R1s 134 (fun p:Str5×UInt8=>[.str p.1.1,.str [p.2]]) (fun p=>cutV p.2 p.1.1)
theorem DR {w:List UInt8} {c:UInt8} (hw:w.length≤50000):R2 134 [.str w,.str [c]]=some (cutV c w):=
 A2 (f:=134) (enc:=fun p:Str5×UInt8=>[.str p.1.1,.str [p.2]]) (res:=fun p=>cutV p.2 p.1.1) (by rintro⟨⟨a,_⟩,b⟩ ⟨⟨c,_⟩,d⟩ h;cases h;rfl) (⟨w,hw⟩,c)
def pcs (c:UInt8):List UInt8→List (List UInt8)
 | []=>[[]]
 |b::w=>if b=c then []::pcs c w else match pcs c w with
  |p::ps=>(b::p)::ps
  | []=>[[b]]
theorem pcs_ne (c:UInt8):∀w,pcs c w≠ []
 | []=>by simp[pcs]
 |b::w=>by
  unfold pcs
  split
  ·simp
  ·split<;>simp
theorem Ey {c:UInt8}:∀ {w:List UInt8},idxS c w=none→pcs c w=[w]
 | [],_=>rfl
 |b::w,h=>by
  unfold idxS at h
  split at h
  ·cases h
  ·next hb=>
   have:=Ey (w:=w) (by simpa using h)
   unfold pcs
   rw[if_neg hb,this]
theorem ER {c:UInt8}:∀ {w:List UInt8} {n:Nat},idxS c w=some n→pcs c w=w.take n::pcs c (w.drop (n+1))
 |b::w,n,h=>by
  unfold idxS at h
  split at h
  ·next hb=>
   cases h
   conv=>lhs;unfold pcs
   rw[if_pos hb];rfl
  ·next hb=>
   obtain⟨m,hm,rfl⟩:=Option.map_eq_some_iff.1 h
   rw[List.take_succ_cons,List.drop_succ_cons]
   conv=>lhs;unfold pcs
   rw[if_neg hb,ER hm]
theorem Eo (c:UInt8):∀w,(pcs c w).length=cntA c.toNat w+1
 | []=>rfl
 |b::w=>by
  have ih:=Eo c w
  show _=(bif Nat.beq b.toNat c.toNat then cntA c.toNat w+1 else cntA c.toNat w)+1
  unfold pcs
  by_cases h:b=c
  ·rw[if_pos h,h,Nat.beq_refl,List.length_cons,ih];rfl
  ·rw[if_neg h]
   have:Nat.beq b.toNat c.toNat=false:=by
    cases hb:Nat.beq b.toNat c.toNat with
    |false=>rfl
    |true=>exact absurd (UInt8.toNat_inj.1 (Qb hb)) h
   rw[this]
   cases hp:pcs c w with
   |nil=>exact absurd hp (pcs_ne c w)
   |cons p ps=>rw[hp]at ih;exact ih
def strsV (l:List (List UInt8)):AV:= .islice (l.map .str) l.length 1 true
theorem rep_one (z:AV):∀n,repeatA [z] n=List.replicate n z
 |0=>rfl
 |n+1=>by rw[List.replicate_succ,←rep_one z n];rfl
theorem genSplit_to (w:List UInt8) (c:UInt8) (hw:w.length≤50000):CallTo (EK R2) 174 [.str w,.str [c],.int .i64 0,.int .i64 (-1)] S0 (strsV (pcs c w)):=by
 refine Ax (fn:=Tryz.f174) U U (by kernel_rfl) U U U U ?_
 have hcn:cntA ([c].getD 0 0).toNat w≤w.length:=cnt_le _ w
 have hln:(pcs c w).length=cntA ([c].getD 0 0).toNat w+1:=Eo c w
 refine Es<|qa rfl<|Ld<|Ab<|Es<|qm rfl<|Lq (o2 u_3 U U) rfl<|Ld ?_
 refine Ap U rfl<|Ae<|Ab<|Es<|qm rfl<|Lq (AX U u_9 U U U U) rfl<|Ld<|Ap U U ?_
 refine Ae<|Ab<|Es<|qm rfl<|Lq (o2 u_3 U U) rfl<|Ld<|Ai U rfl<|Ao ?_
 iterate 2 refine qm U ?_
 refine EY (fn:=Tryz.f212) (by kernel_rfl) (by kernel_rfl) U U U U U U U U U U rfl<|Es<|qa rfl<|Ld<|Ab<|Es<|qm rfl<|Lq (Aw U U U U u_9 U) U ?_
 refine Lq (o2 u_3 U U) rfl<|Ld<|Ap U rfl<|Ae<|Ab<|Es<|qm rfl<|Lq (Aw U U U U u_9 U) U ?_
 refine Lq (o2 u_3 U U) rfl<|Ld<|Ai U rfl<|Es ?_
 iterate 2 refine qm U ?_
 refine Lq (A7 (n:=0) U u_9 U U (by first|assumption|omega|(simp only[LL];omega))) U ?_
 refine Lq (OpQ.pure2 (f:=countV) (x:= .tmp 16) (y:= .tmp 18) (by kernel_rfl) U U (countV_eq _ _)) rfl<|qa rfl<|Ld ?_
 refine Aa (BP (BJ U (Aj U U) U U U U ?_))
 refine Lq (A0 (b:=1) U u_3 U U (by first|assumption|omega|(simp only[LL];omega))) U ?_
 refine qa rfl<|Ld<|Es ?_
 iterate 2 refine qm U ?_
 refine Lq (Aw U U U U u_9 U) U ?_
 refine Lq (A0 (b:=1) U u_3 U U (by first|assumption|omega|(simp only[LL];omega))) U ?_
 refine Lq (OpQ.minL U U U U U (by omega)) rfl<|qa rfl<|Ld<|Es<|qm rfl<|Lo (OpL.makeSlice U AI Bt by_9 z_9 U U U (Nat.succ_ne_zero _) (AR (by omega) (by decide))) rfl<|qa rfl<|Ld ?_
 refine Es<|qm rfl<|Lq (DV (b:=1) U u_3 U U (by omega)) rfl<|qa rfl<|Ld<|Es<|qa rfl<|Ld ?_
 generalize hN:cntA ([c].getD 0 0).toNat w=N at*
 have hrep:repeatA (AV.str []).cells (N+1)=List.replicate (N+1) (.str []):=rep_one _ _
 refine Ab (Af (A5 (fun x:Nat×List UInt8×St=>([(10,.int .i64 (x.1:Nat)),(3,.int .i64 (N:Nat)),(9,.slice 0 0 (N+1) 1 (some (N+1))),(2,.int .i64 0),(1,.str [c]),(0,.str x.2.1)],x.2.2)) (fun x=>N-x.1)
  (fun x=>x.1≤N∧x.2.1.length≤w.length∧cntA c.toNat x.2.1=N-x.1∧x.2.2.next=1∧x.2.2.bound=0∧x.2.2.log=[]∧∃D:List (List UInt8),D.length=x.1∧pcs c w=D++pcs c x.2.1∧x.2.2.heap.get 0=some (.cells (D.map .str++List.replicate (N+1-x.1) (.str [])) 9 false))
  (0,w,_) ⟨Qn _,Qj _,hN,rfl,rfl,rfl,[],rfl,rfl,by rw[hrep];rfl⟩ rfl (by(refine Am.Av ?_;repeat (first|exact trivial|refine⟨rfl,?_⟩))) ?_))
 rintro⟨i,s,st⟩ ⟨hi,hsl,hcs,hn1,hb0,hl0,D,hD,hp,hg⟩
 dsimp only at hi hsl hcs hn1 hb0 hl0 hD hp hg⊢
 have hcells:∀v,over [v] i (D.map AV.str++List.replicate (N+1-i) (.str []))=some (D.map AV.str++v::List.replicate (N-i) (.str [])):=by
  intro v
  have:=over_app (vs:=[v]) (mid:=[.str []]) (post:=List.replicate (N-i) (AV.str [])) rfl (pre:=D.map AV.str)
  rw[List.length_map,hD]at this
  rw[show N+1-i=N-i+1 by omega,List.replicate_succ]
  exact this
 by_cases h:i<N
 ·obtain⟨m,hm⟩:∃m,idxS c s=some m:=by
   cases hx:idxS c s with
   |some m=>exact⟨m,rfl⟩
   |none=>
    have h1:=Eo c s
    rw[Ey hx,hcs]at h1
    simp only[List.length_cons,List.length_nil]at h1
    omega
  have hml:=F8 hm
  have hix:idxI c s=(m:Int):=by unfold idxI;rw[hm]
  focus
   refine Ab<|Es ?_
   iterate 2 refine qm U ?_
   refine Lq (o2 u_3 U U) rfl<|Ld ?_
   refine Ec U (fun g1=>?_) (fun g1=>?_)
   have h1:=dT g1
   refine Ae<|Af<|Es ?_
   iterate 2 refine qm U ?_
   refine Lo (Ad U U (by kernel_rfl) U (Ac (hit_213))) rfl<|qa rfl<|Ld<|Ab<|Es<|qm rfl<|Lq (o2 u_3 U U) rfl<|Ld ?_
   refine Ec U (fun g2=>?_) (fun g2=>?_)
   have h2:=dT g2
   exact absurd h2 (by omega)
   have h2:=dF g2
   refine Ae<|Es ?_
   iterate 5 refine qm U ?_
   refine Lq (OpQ.add U u_3 U U (by omega)) U ?_
   rotate_left
   have h1:=dF g1
   exact absurd h1 (by omega)
  rw[hix,Int.add_zero]
  refine Lq (BO U u_9 U U U (AL (by omega)) U ⟨by omega,by omega⟩) U ?_
  refine Lq (Eg U AI Bt U U (by first|assumption|omega|(simp only[LL];omega))) U ?_
  refine Ak (Ar U Bt U U (Aq hg U U (by rw[Nat.zero_add,Nat.zero_add,Nat.mul_one];exact hcells _))) U U ?_
  refine Ld<|Es ?_
  iterate 3 refine qm U ?_
  refine Lq (Aw U U U U u_9 U) U ?_
  refine Lq (A0 (b:=1) U u_3 U U (by first|assumption|omega|(simp only[LL];omega))) U ?_
  refine Lq (BO U u_9 U U U U (AL (by omega)) ⟨by omega,by omega⟩) rfl<|qa rfl<|Ld<|Ao<|qm U ?_
  refine Lq (A0 (b:=1) U u_3 U U (by first|assumption|omega|(simp only[LL];omega))) U ?_
  refine qa rfl<|Ld ?_
  have hw1:s.take m=(s.drop 0).take (m-0):=by rw[List.drop_zero,Nat.sub_zero]
  have hp1:=ER hm
  have hrest:(s.drop (m+1)).take (s.length-(m+1))=s.drop (m+1):=List.take_of_length_le (by rw[List.length_drop];exact Qj _)
  refine⟨(i+1,s.drop (m+1),st.put 0 (some (.cells (D.map AV.str++AV.str ((s.drop 0).take (m-0))::List.replicate (N-i) (.str [])) 9 false))),⟨h,by rw[List.length_drop];omega,?_,hn1,hb0,(put_low hb0).trans hl0,D++[s.take m],by rw[Qm,hD];rfl,by rw[hp,hp1,List.append_assoc];rfl,?_⟩,by show N-(i+1)<N-i;omega,rfl,rfl,?_⟩
  ·have h1:=Eo c s
   have h2:=Eo c (s.drop (m+1))
   rw[hp1,List.length_cons,hcs,h2]at h1
   show cntA c.toNat (s.drop (m+1))=N-(i+1)
   omega
  ·rw[Bl,if_pos rfl]
   rw[List.map_append,List.append_assoc,show N+1-(i+1)=N-i by omega,hw1];rfl
  ·refine Av ⟨rfl,rfl,rfl,rfl,rfl,?_,trivial⟩
   show some (AV.str ((s.drop (m+1)).take (s.length-(m+1))))=some (.str (s.drop (m+1)))
   rw[hrest]
 ·have e:i=N:=by omega
  subst e
  have hs0:idxS c s=none:=by
   cases hx:idxS c s with
   |none=>rfl
   |some m=>
    have h1:=Eo c s
    rw[ER hx,hcs,List.length_cons]at h1
    have:=List.length_pos_iff.2 (pcs_ne c (s.drop (m+1)))
    omega
  focus
   refine Ab<|Es ?_
   iterate 2 refine qm U ?_
   refine Lq (o2 u_3 U U) rfl<|Ld ?_
   refine Ec U (fun g1=>?_) (fun g1=>?_)
   have h1:=dT g1
   exact absurd h1 (by omega)
   have h1:=dF g1
   refine A9<|Bq rfl<|Es ?_
   iterate 3 refine qm U ?_
   refine Lq (Eg U AI Bt U U (by first|assumption|omega|(simp only[LL];omega))) U ?_
   rotate_left
  refine Ak (Ar U Bt U U (Aq hg U U (by rw[Nat.zero_add,Nat.zero_add,Nat.mul_one];exact hcells _))) U U ?_
  refine Ld<|Es ?_
  iterate 2 refine qm U ?_
  refine Lq (A0 (b:=1) U u_3 U U (by first|assumption|omega|(simp only[LL];omega))) U ?_
  have hp1:=Ey hs0
  rw[hp1]at hp
  rw[Nat.sub_self,List.replicate_zero]at*
  have hge:∀x,(D.map AV.str++[x]).length=i+1:=fun x=>by rw[Qm,List.length_map,hD];rfl
  have hsl:∀(st:St) (x:AV),st.heap.get 0=some (.cells (D.map AV.str++[x]) 9 false)→sliceSlV st 1 none (some (.int .i64 ((i+1:Nat):Int))) none (.slice 0 0 (i+1) 1 (some (i+1)))=some (.slice 0 0 (i+1) 1 (some (i+1))):=by
   intro st x hg
   show((cellsOf? (st.heap.get 0)).bind fun cs=>sliceV3 1 none (some (.int .i64 ((i+1:Nat):Int))) none 0 0 (i+1) (some (i+1)) (mostOf 1 0 (i+1) (some (i+1)) cs))=_
   rw[hg]
   show((boundsA (i+1) (i+1) (some (.int .i64 ((i+1:Nat):Int)))).bind fun h=>(boundsA 0 h none).bind fun l=>sliceFrom 1 0 0 (h-l) (some (i+1)) (i+1) l)=_
   rw[AL (Qj _)]
   rfl
  refine Lo (Bv U AI Bt U U U (hsl _ _ (by rw[Bl,if_pos rfl]))) rfl<|qa rfl<|Ld ?_
  have hfz:frzV (st.put 0 (some (.cells (D.map AV.str++[.str s]) 9 false))) 0 40 (.slice 0 0 (i+1) 1 (some (i+1))) []=some (strsV (pcs c w),[0]):=by
   have e:D.map AV.str++[AV.str s]=(D++[s]).map AV.str:=by rw[List.map_append];rfl
   rw[e,hp]
   refine(frz_slice (cs':=(D++[s]).map AV.str) (Qn _) (by rw[Bl,if_pos rfl]) (by rw[List.length_map,Qm,hD,Nat.mul_one];rfl) (frz_strs _ _)).trans ?_
   rw[str_closed]
   unfold strsV
   rw[Qm,hD];rfl
  refine Aa ⟨.inl U,rfl,(put_low hb0).trans hl0,hb0,_,_,_,Aj U U,hfz,rfl,rfl⟩
abbrev SplitT:=Str5×UInt8
noncomputable def R3:=addC R2 174 (fun p:SplitT=>[.str p.1.1,.str [p.2],.int .i64 0,.int .i64 (-1)]) (fun p=>strsV (pcs p.2 p.1.1))
theorem hit_174 {w:List UInt8} {c:UInt8} (hw:w.length≤50000):R3 174 [.str w,.str [c],.int .i64 0,.int .i64 (-1)]=some (strsV (pcs c w)):=
 A2 (f:=174) (enc:=fun p:SplitT=>[.str p.1.1,.str [p.2],.int .i64 0,.int .i64 (-1)]) (res:=fun p=>strsV (pcs p.2 p.1.1)) (by rintro⟨⟨a,_⟩,b⟩ ⟨⟨c,_⟩,d⟩ h;cases h;rfl) (⟨w,hw⟩,c)
theorem split_to (w:List UInt8) (c:UInt8) (hw:w.length≤50000):CallTo (EK R3) 136 [.str w,.str [c]] S0 (strsV (pcs c w)):=by
 refine Ax (fn:=Tryz.f136) U U (by kernel_rfl) U U U rfl<|Es<|qa rfl<|Ld<|Es ?_
 iterate 2 refine qm U ?_
 refine Lo (Ad U U (by kernel_rfl) U (Ac (hit_174 (by first|assumption|omega|(simp only[LL];omega))))) U ?_
 refine qa rfl<|Ld ?_
 refine Aa (Er U ?_)
 rfl
noncomputable def R4:=addC R3 136 (fun p:SplitT=>[.str p.1.1,.str [p.2]]) (fun p=>strsV (pcs p.2 p.1.1))
theorem hit_136 {w:List UInt8} {c:UInt8} (hw:w.length≤50000):R4 136 [.str w,.str [c]]=some (strsV (pcs c w)):=
 A2 (f:=136) (enc:=fun p:SplitT=>[.str p.1.1,.str [p.2]]) (res:=fun p=>strsV (pcs p.2 p.1.1)) (by rintro⟨⟨a,_⟩,b⟩ ⟨⟨c,_⟩,d⟩ h;cases h;rfl) (⟨w,hw⟩,c)
def bad:AV:= .iface 181 (.agg [])
theorem must_to:CallTo (EK R4) 135 [.bool true] S0 (.tuple []):=by
 refine Ax (fn:=Tryz.f135) U U (by kernel_rfl) U U U rfl<|Es<|qm rfl<|Lq (on U) rfl<|Ld<|Ap U rfl<|Ae ?_
 exact⟨.inr U,rfl,rfl,rfl,[],.tuple [],[],rfl,rfl,rfl,rfl⟩
def trimV:List UInt8→List UInt8
 | []=>[]
 |b::w=>if b=45 then w else b::w
theorem trim_to (w:List UInt8) (hw:w.length≤50000):CallTo (EK R4) 209 [.str w,.str [45]] S0 (.str (trimV w)):=by
 refine Ax (fn:=Tryz.f209) U U (by kernel_rfl) U U U U ?_
 have h45:([45]:List UInt8).length=1:=rfl
 cases w with
 |nil=>
  refine Es<|qa rfl<|Ld<|Es ?_
  iterate 2 refine qm U ?_
  refine EY (fn:=Tryz.f241) (by kernel_rfl) (by kernel_rfl) U U U U U U U U U U rfl<|Es<|qa rfl<|Ld<|Ab<|Es ?_
  iterate 2 refine qm U ?_
  refine EY (fn:=Tryz.f294) (by kernel_rfl) (by kernel_rfl) U U U U U U U U U U rfl<|Es<|qa rfl<|Ld<|Es<|qm rfl<|Lq (Aw U U U U u_9 U) rfl<|qm U ?_
  refine Lq (Aw U U U U u_9 U) rfl<|Lq (o2 u_3 U U) rfl<|qm U ?_
  iterate 6 refine Lk U U ?_
  refine Lq (oF U U U) rfl<|qa rfl<|Ld ?_
  refine Aa (BP (BJ U (Aj U U) U U U U ?_))
  refine Ld<|Ap U rfl<|Ae<|Es<|qm rfl<|qa rfl<|Ld ?_
  refine Aa (BP (BJ U (Aj U U) U U U U ?_))
  refine qa rfl<|Ld ?_
  refine Aa (Er U ?_)
  rfl
 |cons b w=>
  have hb:(b::w).length=w.length+1:=rfl
  focus
   refine Es<|qa rfl<|Ld<|Es ?_
   iterate 2 refine qm U ?_
   refine EY (fn:=Tryz.f241) (by kernel_rfl) (by kernel_rfl) U U U U U U U U U U rfl<|Es<|qa rfl<|Ld<|Ab<|Es ?_
   iterate 2 refine qm U ?_
   refine EY (fn:=Tryz.f294) (by kernel_rfl) (by kernel_rfl) U U U U U U U U U U rfl<|Es<|qa rfl<|Ld<|Es<|qm rfl<|Lq (Aw U U U U u_9 U) rfl<|qm U ?_
   refine Lq (Aw U U U U u_9 U) rfl<|Lq (o2 u_3 U U) rfl<|qm U ?_
   refine Lb U (fun g1=>?_) (fun g1=>?_)
   have h1:=dT g1
   iterate 2 refine Lh U ‹_› (om U) ?_
   refine Lh U ‹_› (Aw U U U U u_9 U)<|Lh U ‹_› (BO U u_9 U U U (AL (n:=1) (by omega)) U ⟨by omega,by omega⟩)<|Lh U ‹_› (om U)<|Lh U ‹_› (AX U u_9 U U U U)<|Lq (oT U ‹_› U) rfl<|qa rfl<|Ld ?_
   refine Aa (BP (BJ U (Aj U U) U U U U ?_))
   refine Ld ?_
   refine Ec U (fun g2=>?_) (fun g2=>?_)
   have h2:=bT g2
   refine Es ?_
   iterate 2 refine qm U ?_
   refine Lq (Aw U U U U u_9 U) rfl<|Lq (BO U u_9 U U U U (AL (n:=1) (by omega)) ⟨by omega,by omega⟩) rfl<|qa rfl<|Ld ?_
   refine Aa (BP (BJ U (Aj U U) U U U U ?_))
   refine qa rfl<|Ld ?_
   refine Aa (Er U ?_)
   rotate_left
   have h2:=bF g2
   refine Ae<|Es<|qm rfl<|qa rfl<|Ld ?_
   refine Aa (BP (BJ U (Aj U U) U U U U ?_))
   refine qa rfl<|Ld ?_
   refine Aa (Er U ?_)
   rotate_left
   have h1:=dF g1
   exact absurd h1 (by omega)
  ·have e:b=45:=by simpa using h2
   show AV.str (((b::w).drop 1).take ((b::w).length-1))= .str (trimV (b::w))
   show _=AV.str (if b=45 then w else b::w)
   rw[if_pos e,List.drop_succ_cons,List.drop_zero,hb,Nat.add_sub_cancel,List.take_length]
  ·have e:b≠45:=fun e=>h2 (by rw[e];rfl)
   show AV.str (b::w)= .str (trimV (b::w))
   show _=AV.str (if b=45 then w else b::w)
   rw[if_neg e]
noncomputable def R5a:=addC R4 135 (fun _:Unit=>[.bool true]) (fun _=> .tuple [])
theorem Bu:R5a 135 [.bool true]=some (.tuple []):=
 A2 (f:=135) (enc:=fun _:Unit=>[.bool true]) (res:=fun _=> .tuple []) (fun _ _ _=>rfl) ()
noncomputable def R5:=addC R5a 209 (fun w:Str5=>[.str w.1,.str [45]]) (fun w=> .str (trimV w.1))
theorem hit_209 {w:List UInt8} (hw:w.length≤50000):R5 209 [.str w,.str [45]]=some (.str (trimV w)):=
 A2 (f:=209) (enc:=fun w:Str5=>[.str w.1,.str [45]]) (res:=fun w=> .str (trimV w.1)) (by rintro⟨a,_⟩ ⟨b,_⟩ h;cases h;rfl) ⟨w,hw⟩
theorem must_px {K:FuncId→List AV→Option AV} (hK:K 135 [.bool false]=none) (s:St):PureX (EK K) 135 [.bool false] s (fun _=>False) (fun v=>v=bad):=by
 refine PureX.gen (fn:=Tryz.f135) hK (by kernel_rfl) U U U rfl<|Es<|qm rfl<|Lq (on U) rfl<|Ld<|Ai U rfl<|Ao<|Lq (AJ U pl_181 U U) U ?_
 refine Lq (DC U if_181 U) rfl<|RegL.raise U U U ?_
 exact⟨rfl,rfl,rfl⟩
theorem Bc:R5a 135 [.bool false]=none:=addC_none fun _ h=>by cases h
theorem BQ {K:FuncId→List AV→Option AV} {s:St} {R RP:AV→St→Prop} (hK:K 135 [.bool false]=none) (h:RP bad s):RunsX (EK K) 135 [.bool false] s R RP:=(must_px hK s).pan (fun _ h=>h) (fun _ h=>h) h
def digitB (b:UInt8):Bool:=decide (48≤(b.toNat:Int))&&decide ((b.toNat:Int)≤57)
def valN (d:List UInt8):Nat:=d.foldl (fun n b=>10*n+(b.toNat-48)) 0
def NumP (w:List UInt8):Prop:=1≤(trimV w).length∧(trimV w).length≤7∧(¬(trimV w).getD 0 0=48∨w=[48])∧∀i,i<(trimV w).length→digitB ((trimV w).getD i 0)=true
def numV (w:List UInt8):Int:=if trimV w=w then(valN (trimV w):Int)else-(valN (trimV w):Int)
open Classical in
noncomputable def numS (w:List UInt8):Option Int:=if NumP w then some (numV w)else none
theorem numS_none {w:List UInt8} (h:¬NumP w):numS w=none:=by unfold numS;rw[if_neg h]
theorem numS_some {w:List UInt8} (h:NumP w):numS w=some (numV w):=by unfold numS;rw[if_pos h]
theorem val_step {d:List UInt8} {i:Nat} (h:i<d.length):valN (d.take (i+1))=10*valN (d.take i)+((d.getD i 0).toNat-48):=by
 unfold valN
 rw[List.take_succ_eq_append_getElem h,List.foldl_append,List.getD_eq_getElem?_getD,Qi h];rfl
theorem byte48 {b:UInt8}:(b.toNat:Int)=48↔b=48:=⟨fun h=>UInt8.toNat_inj.1 (by simpa using(show b.toNat=48 by omega)),fun h=>by rw[h];rfl⟩
theorem number_px {K:FuncId→List AV→Option AV} (hit_209:∀w:List UInt8,w.length≤50000→K 209 [.str w,.str [45]]=some (.str (trimV w))) (Bu:K 135 [.bool true]=some (.tuple [])) (Bc:K 135 [.bool false]=none)
 (w:List UInt8) (hK:K 169 [.str w]=none) (hw:w.length≤50000) (s:St):PureX (EK K) 169 [.str w] s (fun v=>∃n,numS w=some n∧v= .int .i64 n) (fun v=>v=bad∧numS w=none):=by
 refine PureX.gen (fn:=Tryz.f169) hK (by kernel_rfl) U U U rfl<|Es<|qa rfl<|Ld<|Es<|qm U ?_
 refine Lo (Ad U U (by kernel_rfl) U (Ac (hit_209 _ (by first|assumption|omega|(simp only[LL];omega))))) U ?_
 refine qa rfl<|Ld ?_
 refine EvtL.cutX [(3,.str (trimV w)),(0,.str w)] s.enter (1≤(trimV w).length∧(trimV w).length≤7∧(¬(trimV w).getD 0 0=48∨w=[48])) ?_ fun⟨hl1,hl7,hh⟩=>?_
 ·focus
   refine Ao<|qm rfl<|Lq (Aw U U U U u_9 U) rfl<|Lq (o2 u_3 U U) rfl<|qm U ?_
   refine Lb U (fun g1=>?_) (fun g1=>?_)
   have h1:=dT g1
   refine Lh U ‹_› (om U)<|Lh U ‹_› (Aw U U U U u_9 U)<|Lh U ‹_› (o2 u_3 U U)<|Lq (oT U ‹_› U) rfl<|qm U ?_
   refine Lb U (fun g2=>?_) (fun g2=>?_)
   have h2:=dT g2
   refine Lh U ‹_› (om U) ?_
   refine Lh U ‹_› (A7 (n:=0) U u_9 U U (by first|assumption|omega|(simp only[LL];omega))) ?_
   refine Lh U ‹_› (o2 u_5 U U)<|Lh U ‹_› (om U) ?_
   refine Lb U (fun g3=>?_) (fun g3=>?_)
   have h3:=nT g3
   iterate 2 refine Lk U ‹_› ?_
   refine Lh U ‹_› (oT U ‹_› U)<|Lq (oT U ‹_› U) U ?_
   refine Lo (Ad U U (by kernel_rfl) U (Ac (Bu))) rfl<|Ld ?_
   rotate_left
   have h3:=nF g3
   refine Lh U ‹_› (om U)<|Lh U ‹_› (AX U u_9 U U U U)<|Lh U ‹_› (oF U ‹_› U)<|Lq (oT U ‹_› U) U ?_
   refine Bo (k:=24) U (fun g4=>?_) (fun g4=>?_)
   have h4:=bT g4
   refine Lo (Ad U U (by kernel_rfl) U (Ac (Bu))) rfl<|Ld ?_
   rotate_left
   have h4:=bF g4
   refine Ay U U (by kernel_rfl) U U U U (BQ Bc ?_)
   rotate_left
   have h2:=dF g2
   iterate 4 refine Lk U ‹_› ?_
   iterate 2 refine DL U U U U U U ?_
   refine Lk U ‹_›<|Lq (oF U ‹_› U) U ?_
   refine Ay U U (by kernel_rfl) U U U U (BQ Bc ?_)
   rotate_left
   have h1:=dF g1
   iterate 3 refine Lk U ‹_› ?_
   refine Lq (oF U ‹_› U) rfl<|qm U ?_
   iterate 4 refine Lk U U ?_
   iterate 2 refine DL U U U U U U ?_
   refine Lk U rfl<|Lq (oF U U U) U ?_
   refine Ay U U (by kernel_rfl) U U U U (BQ Bc ?_)
   rotate_left
  ·exact⟨rfl,rfl,⟨by omega,by omega,.inl fun e=>h3 (byte48.2 e)⟩,by(refine Am.Av ?_;repeat (first|exact trivial|refine⟨rfl,?_⟩))⟩
  ·exact⟨rfl,rfl,⟨by omega,by omega,.inr h4⟩,by(refine Am.Av ?_;repeat (first|exact trivial|refine⟨rfl,?_⟩))⟩
  ·exact⟨rfl,rfl,rfl,numS_none fun h=>h.2.2.1.elim (fun h=>h (byte48.1 h3)) h4⟩
  ·exact⟨rfl,rfl,rfl,numS_none fun h=>by have:=h.2.1;omega⟩
  ·exact⟨rfl,rfl,rfl,numS_none fun h=>by have:=h.1;omega⟩
 ·refine Es ?_
  refine qa rfl<|Ld<|Ab<|Es<|qm rfl<|Lq (Aw U U U U u_9 U) rfl<|qm rfl<|Ld ?_
  refine Af ?_
  refine A5 (fun i:Nat=>([(28,.int .i64 (i:Nat)),(27,.int .i64 ((trimV w).length:Nat)),(4,.int .i64 (valN ((trimV w).take i):Nat)),(3,.str (trimV w)),(0,.str w)],s.enter)) (fun i=>(trimV w).length-i)
   (fun i=>i≤(trimV w).length∧valN ((trimV w).take i)<10^i∧∀j,j<i→digitB ((trimV w).getD j 0)=true) 0 ⟨Qn _,Nat.zero_lt_one,fun j hj=>absurd hj (Nat.not_lt_zero _)⟩ rfl (by(refine Am.Av ?_;repeat (first|exact trivial|refine⟨rfl,?_⟩))) ?_
  rintro i ⟨hi,hv,hd⟩
  dsimp only at hi hv hd⊢
  have hv7:valN ((trimV w).take i)<10000000:=Nat.lt_of_lt_of_le hv (Nat.pow_le_pow_right (by decide) (show i≤7 by omega))
  by_cases h:i<(trimV w).length
  ·have hstep:=val_step h
   have hb:=((trimV w).getD i 0).toNat_lt
   have notP:digitB ((trimV w).getD i 0)=false→numS w=none:=fun hx=>numS_none fun hp=>by
    have:=hp.2.2.2 i h
    rw[hx]at this;cases this
   focus
    refine Es<|Lq (o2 u_3 U U) rfl<|Ld<|Ab ?_
    refine Ec U (fun g1=>?_) (fun g1=>?_)
    have h1:=dT g1
    refine Ae<|Ab<|Af<|Es<|qm rfl<|qa rfl<|Ld<|Es ?_
    iterate 2 refine qm U ?_
    refine Lq (A7 U u_9 U U (by first|assumption|omega|(simp only[LL];omega))) U ?_
    refine Lq (o2 u_5 U U) rfl<|qm U ?_
    refine Lb U (fun g2=>?_) (fun g2=>?_)
    have h2:=dT g2
    iterate 2 refine Lh U ‹_› (om U) ?_
    refine Lh U ‹_› (A7 U u_9 U U (by first|assumption|omega|(simp only[LL];omega))) ?_
    refine Lh U ‹_› (o2 u_5 U U)<|Lq (oT U ‹_› U) U ?_
    refine Bo (k:=40) U (fun g3=>?_) (fun g3=>?_)
    have h3:=dT g3
    refine Lo (Ad U U (by kernel_rfl) U (Ac (Bu))) rfl<|Ld<|Ao<|qm U ?_
    refine Lq (OpQ.mulN (a:=10) U u_3 U U (by first|assumption|omega|(simp only[LL];omega))) U ?_
    iterate 2 refine qm U ?_
    refine Lq (A7 U u_9 U U (by first|assumption|omega|(simp only[LL];omega))) U ?_
    refine Lq (OpQ.subB (b:=48) U u_5 U U (by omega)) rfl<|Lq (OpQ.convI U u_5 u_3 U ⟨by omega,by omega⟩) U ?_
    refine Lq (A0 U u_3 U U (by first|assumption|omega|(simp only[LL];omega))) U ?_
    refine qa rfl<|Ld<|Ao ?_
    refine Lq (A0 (b:=1) U u_3 U U (by first|assumption|omega|(simp only[LL];omega))) U ?_
    refine qm rfl<|Ld ?_
    rotate_left
    have h3:=dF g3
    refine Ay U U (by kernel_rfl) U U U U (BQ Bc ?_)
    rotate_left
    have h2:=dF g2
    iterate 4 refine Lk U ‹_› ?_
    refine Lq (oF U ‹_› U) U ?_
    refine Ay U U (by kernel_rfl) U U U U (BQ Bc ?_)
    rotate_left
    have h1:=dF g1
    exact absurd h1 (by omega)
   ·refine⟨i+1,⟨h,?_,fun j hj=>?_⟩,by show(trimV w).length-(i+1)<(trimV w).length-i;omega,rfl,rfl,Av ⟨rfl,rfl,?_,rfl,rfl,trivial⟩⟩
    ·rw[hstep,Nat.pow_succ];omega
    ·rcases Nat.lt_or_ge j i with hj|hj
     ·exact hd j hj
     ·obtain rfl:j=i:=by omega
      unfold digitB
      rw[g2,g3];rfl
    ·show some (AV.int .i64 _)=some (.int .i64 ((valN ((trimV w).take (i+1)):Nat):Int))
     rw[hstep]
   ·exact⟨rfl,rfl,rfl,notP (by unfold digitB;rw[g2,g3];rfl)⟩
   ·exact⟨rfl,rfl,rfl,notP (by unfold digitB;rw[g2];rfl)⟩
  ·obtain rfl:i=(trimV w).length:=by omega
   have hP:NumP w:=⟨hl1,hl7,hh,hd⟩
   rw[List.take_length]at*
   focus
    refine Es<|Lq (o2 u_3 U U) rfl<|Ld<|Ab ?_
    refine Ec U (fun g1=>?_) (fun g1=>?_)
    have h1:=dT g1
    exact absurd h1 (by omega)
    have h1:=dF g1
    refine A9<|Bq rfl<|Ab<|Es ?_
    iterate 2 refine qm U ?_
    refine Lq (AX U u_9 U U U U) rfl<|Ld ?_
    refine Ec U (fun g2=>?_) (fun g2=>?_)
    have h2:=bnT g2
    refine Es<|qm U ?_
    refine Lq (OpQ.neg U U (by first|assumption|omega|(simp only[LL];omega))) U ?_
    refine qa rfl<|Ld ?_
    rotate_left
    have h2:=bnF g2
    refine Ae<|Es<|qm rfl<|qa rfl<|Ld ?_
    rotate_left
   ·refine Aa ⟨.inl U,rfl,rfl,_,Aj U U,rfl,_,numS_some hP,?_⟩
    unfold numV
    rw[if_neg h2];rfl
   ·refine Aa ⟨.inl U,rfl,rfl,_,Aj U U,rfl,_,numS_some hP,?_⟩
    unfold numV
    rw[if_pos h2];rfl
abbrev NumT:= {w:List UInt8//w.length≤50000∧NumP w}
noncomputable def R6:=addC R5 169 (fun w:NumT=>[.str w.1]) (fun w=> .int .i64 (numV w.1))
theorem EC {w:List UInt8} (hw:w.length≤50000) (h:NumP w):R6 169 [.str w]=some (.int .i64 (numV w)):=
 A2 (f:=169) (enc:=fun w:NumT=>[.str w.1]) (res:=fun w=> .int .i64 (numV w.1)) (by rintro⟨a,_⟩ ⟨b,_⟩ h;cases h;rfl) ⟨w,hw,h⟩
theorem number_to (w:List UInt8) (hw:w.length≤50000) (h:NumP w):CallTo (EK R5) 169 [.str w] S0 (.int .i64 (numV w)):=
 (number_px (K:=R5) (fun _ h=>hit_209 h) Bu Bc w rfl hw S0).value (fun u ⟨n,h1,h2⟩=>by rw[numS_some h]at h1;cases h1;exact h2) fun u hu=>by rw[numS_some h]at hu;cases hu.2
def wordsL:List (List UInt8):=[[],[99,97,115,101],[111,114],[102,97,105,108],[102,114,101,101],[110,111,100,101],[101,110,116,101,114]]
def wordsA:AV:= .agg (wordsL.map AV.str)
theorem word_ok:entOk (envT Tryz.prog 1200 1200 0 []) 100 ⟨50,[],wordsA⟩=true:=by kernel_rfl
theorem word_known:KnownF Tryz.prog 50 [] wordsA:=by
 have h2:=D1 AB (m:=[]) (fun e he=>by cases he) word_ok
 exact fun C S w xs c cs hv hS=>h2 [] C S w xs c cs (fun g cs hg=>by cases hg) hv hS
noncomputable def R7:=addC R6 50 (fun _:Unit=>[]) (fun _=>wordsA)
theorem hit_50:R7 50 []=some wordsA:=
 A2 (f:=50) (enc:=fun _:Unit=>[]) (res:=fun _=>wordsA) (fun _ _ _=>rfl) ()
def opS (w:List UInt8):Int:=if w=[99,97,115,101]then 1 else if w=[111,114]then 2 else if w=[102,97,105,108]then 3 else if w=[102,114,101,101]then 4 else if w=[110,111,100,101]then 5 else if w=[101,110,116,101,114]then 6 else 0
theorem opOf_ok:(wordsL.all fun w=>entOk (envT Tryz.prog 1200 1200 0 []) 1000 ⟨170,[.str w],.int .i64 (opS w)⟩)=true:=by kernel_rfl
theorem opOf_known {w:List UInt8} (h:w∈wordsL):KnownF Tryz.prog 170 [.str w] (.int .i64 (opS w)):=by
 have h2:=D1 AB (m:=[]) (fun e he=>by cases he) (List.all_eq_true.1 opOf_ok w h)
 exact fun C S w xs c cs hv hS=>h2 [] C S w xs c cs (fun g cs hg=>by cases hg) hv hS
theorem opOf_to (w:List UInt8) (h:w∉wordsL):CallTo (EK R7) 170 [.str w] S0 (.int .i64 (opS w)):=by
 refine Ax (fn:=Tryz.f170) U U (by kernel_rfl) U U U U ?_
 have nb:∀x∈wordsL,bytesEq x w=false:=fun x hx=>by
  cases hb:bytesEq x w with
  |false=>rfl
  |true=>exact absurd (bT hb▸hx) h
 have f0:=nb [] (by simp[wordsL])
 have f1:=nb [99,97,115,101] (by simp[wordsL])
 have f2:=nb [111,114] (by simp[wordsL])
 have f3:=nb [102,97,105,108] (by simp[wordsL])
 have f4:=nb [102,114,101,101] (by simp[wordsL])
 have f5:=nb [110,111,100,101] (by simp[wordsL])
 have f6:=nb [101,110,116,101,114] (by simp[wordsL])
 refine Es<|qa rfl<|Ld<|Ab<|Es ?_
 refine Lo (Ad U U (by kernel_rfl) U (Ac (hit_50))) rfl<|qm rfl<|Ld<|Af<|Dp<|Es<|Lq (o2 u_3 U U) rfl<|Ld ?_
 refine Ab<|Ai U rfl<|Ae<|Ab<|Af<|Es<|qm rfl<|Lq (Do (k:=0) U u_108 Fg Bt U U (by decide) U) U ?_
 iterate 2 refine qa U ?_
 refine Ld<|Es ?_
 iterate 2 refine qm U ?_
 refine Lq (AX U u_9 U U U U) rfl<|qm U ?_
 iterate 2 refine Lk U ‹_› ?_
 refine Lq (oF U ‹_› U) rfl<|Ld<|Ap U rfl<|Ae<|Ao ?_
 refine Lq (A0 (a:=0) (b:=1) U u_3 U U (by first|assumption|omega|(simp only[LL];omega))) U ?_
 refine qm rfl<|Ld<|Dp<|Es<|Lq (o2 u_3 U U) rfl<|Ld<|Ab<|Ai U U ?_
 refine Ae<|Ab<|Af<|Es<|qm rfl<|Lq (Do (k:=1) U u_108 Fg Bt U U (by decide) U) U ?_
 iterate 2 refine qa U ?_
 refine Ld<|Es ?_
 iterate 2 refine qm U ?_
 refine Lq (AX U u_9 U U U U) rfl<|qm U ?_
 iterate 2 refine Lk U ‹_› ?_
 refine Lq (oF U ‹_› U) rfl<|Ld<|Ap U rfl<|Ae<|Ao ?_
 refine Lq (A0 (a:=1) (b:=1) U u_3 U U (by first|assumption|omega|(simp only[LL];omega))) U ?_
 refine qm rfl<|Ld<|Dp<|Es<|Lq (o2 u_3 U U) rfl<|Ld<|Ab<|Ai U U ?_
 refine Ae<|Ab<|Af<|Es<|qm rfl<|Lq (Do (k:=2) U u_108 Fg Bt U U (by decide) U) U ?_
 iterate 2 refine qa U ?_
 refine Ld<|Es ?_
 iterate 2 refine qm U ?_
 refine Lq (AX U u_9 U U U U) rfl<|qm U ?_
 iterate 2 refine Lk U ‹_› ?_
 refine Lq (oF U ‹_› U) rfl<|Ld<|Ap U rfl<|Ae<|Ao ?_
 refine Lq (A0 (a:=2) (b:=1) U u_3 U U (by first|assumption|omega|(simp only[LL];omega))) U ?_
 refine qm rfl<|Ld<|Dp<|Es<|Lq (o2 u_3 U U) rfl<|Ld<|Ab<|Ai U U ?_
 refine Ae<|Ab<|Af<|Es<|qm rfl<|Lq (Do (k:=3) U u_108 Fg Bt U U (by decide) U) U ?_
 iterate 2 refine qa U ?_
 refine Ld<|Es ?_
 iterate 2 refine qm U ?_
 refine Lq (AX U u_9 U U U U) rfl<|qm U ?_
 iterate 2 refine Lk U ‹_› ?_
 refine Lq (oF U ‹_› U) rfl<|Ld<|Ap U rfl<|Ae<|Ao ?_
 refine Lq (A0 (a:=3) (b:=1) U u_3 U U (by first|assumption|omega|(simp only[LL];omega))) U ?_
 refine qm rfl<|Ld<|Dp<|Es<|Lq (o2 u_3 U U) rfl<|Ld<|Ab<|Ai U U ?_
 refine Ae<|Ab<|Af<|Es<|qm rfl<|Lq (Do (k:=4) U u_108 Fg Bt U U (by decide) U) U ?_
 iterate 2 refine qa U ?_
 refine Ld<|Es ?_
 iterate 2 refine qm U ?_
 refine Lq (AX U u_9 U U U U) rfl<|qm U ?_
 iterate 2 refine Lk U ‹_› ?_
 refine Lq (oF U ‹_› U) rfl<|Ld<|Ap U rfl<|Ae<|Ao ?_
 refine Lq (A0 (a:=4) (b:=1) U u_3 U U (by first|assumption|omega|(simp only[LL];omega))) U ?_
 refine qm rfl<|Ld<|Dp<|Es<|Lq (o2 u_3 U U) rfl<|Ld<|Ab<|Ai U U ?_
 refine Ae<|Ab<|Af<|Es<|qm rfl<|Lq (Do (k:=5) U u_108 Fg Bt U U (by decide) U) U ?_
 iterate 2 refine qa U ?_
 refine Ld<|Es ?_
 iterate 2 refine qm U ?_
 refine Lq (AX U u_9 U U U U) rfl<|qm U ?_
 iterate 2 refine Lk U ‹_› ?_
 refine Lq (oF U ‹_› U) rfl<|Ld<|Ap U rfl<|Ae<|Ao ?_
 refine Lq (A0 (a:=5) (b:=1) U u_3 U U (by first|assumption|omega|(simp only[LL];omega))) U ?_
 refine qm rfl<|Ld<|Dp<|Es<|Lq (o2 u_3 U U) rfl<|Ld<|Ab<|Ai U U ?_
 refine Ae<|Ab<|Af<|Es<|qm rfl<|Lq (Do (k:=6) U u_108 Fg Bt U U (by decide) U) U ?_
 iterate 2 refine qa U ?_
 refine Ld<|Es ?_
 iterate 2 refine qm U ?_
 refine Lq (AX U u_9 U U U U) rfl<|qm U ?_
 iterate 2 refine Lk U ‹_› ?_
 refine Lq (oF U ‹_› U) rfl<|Ld<|Ap U rfl<|Ae<|Ao ?_
 refine Lq (A0 (a:=6) (b:=1) U u_3 U U (by first|assumption|omega|(simp only[LL];omega))) U ?_
 refine qm rfl<|Ld<|Dp<|Es<|Lq (o2 u_3 U U) rfl<|Ld<|Ab<|Ap U U ?_
 refine A9<|Bq rfl<|Es<|qa rfl<|Ld ?_
 refine Aa (Er U ?_)
 show AV.int .i64 0=_
 unfold opS
 simp only[wordsL,Qk,not_or]at h
 rw[if_neg h.2.1,if_neg h.2.2.1,if_neg h.2.2.2.1,if_neg h.2.2.2.2.1,if_neg h.2.2.2.2.2.1,if_neg h.2.2.2.2.2.2.1]
noncomputable def R8:=addC R7 170 (fun w:List UInt8=>[.str w]) (fun w=> .int .i64 (opS w))
theorem hit_170 {w:List UInt8}:R8 170 [.str w]=some (.int .i64 (opS w)):=
 A2 (f:=170) (enc:=fun w:List UInt8=>[.str w]) (res:=fun w=> .int .i64 (opS w)) (by intro a b h;cases h;rfl) w
def kindS (w:List UInt8):Option Int:=if w=[99,111,110]then some 0 else if w=[102,117,110]then some 1 else if opS w=0 then none else some 2
theorem kindOf_px {K:FuncId→List AV→Option AV} (hit_170:∀w:List UInt8,K 170 [.str w]=some (.int .i64 (opS w))) (Bu:K 135 [.bool true]=some (.tuple [])) (Bc:K 135 [.bool false]=none)
 (w:List UInt8) (hK:K 138 [.str w]=none) (s:St):PureX (EK K) 138 [.str w] s (fun v=>∃n,kindS w=some n∧v= .int .i64 n) (fun v=>v=bad∧kindS w=none):=by
 refine PureX.gen (fn:=Tryz.f138) hK (by kernel_rfl) U U U U ?_
 focus
  refine Es<|qa rfl<|Ld<|Ab<|Es<|qm rfl<|Ld<|Af ?_
  refine Es<|Lq (AX U u_9 U U U U) rfl<|qa rfl<|Ld ?_
  refine Ec U (fun g1=>?_) (fun g1=>?_)
  have h1:=bT g1
  refine Es<|qa rfl<|Ld ?_
  rotate_left
  have h1:=bF g1
  refine Es<|Lq (AX U u_9 U U U U) rfl<|qa rfl<|Ld ?_
  refine Ec U (fun g2=>?_) (fun g2=>?_)
  have h2:=bT g2
  refine Es<|qa rfl<|Ld ?_
  rotate_left
  have h2:=bF g2
  refine Ae<|Es<|qm U ?_
  refine Lo (Ad U U (by kernel_rfl) U (Ac (hit_170 _))) rfl<|Lq (o2 BB U U) U ?_
  refine Bo (k:=10) U (fun g3=>?_) (fun g3=>?_)
  have h3:=nT g3
  refine Lo (Ad U U (by kernel_rfl) U (Ac (Bu))) rfl<|Ld<|Es<|qa rfl<|Ld ?_
  rotate_left
  have h3:=nF g3
  refine Ay U U (by kernel_rfl) U U U U (BQ Bc ?_)
  rotate_left
 ·exact Aa ⟨.inl U,rfl,rfl,_,Aj U U,rfl,0,by rw[h1];rfl,rfl⟩
 ·exact Aa ⟨.inl U,rfl,rfl,_,Aj U U,rfl,1,by rw[h2];rfl,rfl⟩
 ·refine Aa ⟨.inl U,rfl,rfl,_,Aj U U,rfl,2,?_,rfl⟩
  unfold kindS
  rw[if_neg h1,if_neg h2,if_neg h3]
 ·refine⟨rfl,rfl,rfl,?_⟩
  unfold kindS
  rw[if_neg h1,if_neg h2,if_pos h3]
abbrev KindT:= {p:List UInt8×Int//kindS p.1=some p.2}
noncomputable def R9:=addC R8 138 (fun p:KindT=>[.str p.1.1]) (fun p=> .int .i64 p.1.2)
theorem hit_138 {w:List UInt8} {n:Int} (h:kindS w=some n):R9 138 [.str w]=some (.int .i64 n):=
 A2 (f:=138) (enc:=fun p:KindT=>[.str p.1.1]) (res:=fun p=> .int .i64 p.1.2) (by rintro⟨⟨a,b⟩,h1⟩ ⟨⟨c,d⟩,h2⟩ h;cases h;rw[h1]at h2;cases h2;rfl) ⟨(w,n),h⟩
theorem kindOf_to (p:KindT):CallTo (EK R8) 138 [.str p.1.1] S0 (.int .i64 p.1.2):=
 (kindOf_px (K:=R8) (fun _=>hit_170) Bu Bc p.1.1 rfl S0).value (fun u ⟨n,h1,h2⟩=>by rw[p.2]at h1;cases h1;exact h2) fun u hu=>by rw[p.2]at hu;cases hu.2
theorem none_169 {w:List UInt8} (h:¬NumP w):R6 169 [.str w]=none:=addC_none fun⟨a,_,h2⟩ he=>by cases he;exact h h2
theorem none_138 {w:List UInt8} (h:kindS w=none):R9 138 [.str w]=none:=addC_none fun⟨⟨a,b⟩,h2⟩ he=>by cases he;rw[h]at h2;cases h2
theorem Fb {w:List UInt8} {s:St} {R RP:AV→St→Prop} (h1:¬NumP w) (hw:w.length≤50000) (h:RP bad s):RunsX (EK R9) 169 [.str w] s R RP:=
 (number_px (K:=R9) (fun _ h=>hit_209 h) Bu Bc w (none_169 h1) hw s).pan (fun u ⟨n,h2,_⟩=>by rw[numS_none h1]at h2;cases h2) (fun u h=>h.1) h
theorem pan_138 {w:List UInt8} {s:St} {R RP:AV→St→Prop} (h1:kindS w=none) (h:RP bad s):RunsX (EK R9) 138 [.str w] s R RP:=
 (kindOf_px (K:=R9) (fun _=>hit_170) Bu Bc w (none_138 h1) s).pan (fun u ⟨n,h2,_⟩=>by rw[h1]at h2;cases h2) (fun u h=>h.1) h
def RdAt (s:St) (rb:Nat) (q:List AV) (ws:List (List UInt8)):Prop:=s.heap.get rb=some (.cells (q++[strsV ws]) 184 false)∧q.length=4∧rb<s.next
theorem idx_strs {w:List UInt8} {ws:List (List UInt8)}:idxSliceV (0+1) 0 (strsV (w::ws))=some (.iptr ((w::ws).map .str)):=by
 unfold strsV
 rfl
theorem slice_strs {s:St} {w:List UInt8} {ws:List (List UInt8)}:sliceSlV s 1 (some (.int .i64 1)) none none (strsV (w::ws))=some (strsV ws):=by
 have hb:boundsA 0 (ws.length+1) (some (.int .i64 ((1:Nat):Int)))=some 1:=AL (by omega)
 have hc:cut ((w::ws).map AV.str) (1*1) ((ws.length+1-1)*1)=some (ws.map .str):=by
  rw[cut_eq (by simp;omega),Nat.add_sub_cancel,List.map_cons]
  show some ((ws.map AV.str).take _)=_
  rw[List.take_of_length_le (by simp)]
 show((boundsA 0 (ws.length+1) (some (.int .i64 ((1:Nat):Int)))).bind fun l=>(cut ((w::ws).map AV.str) (l*1) ((ws.length+1-l)*1)).bind fun q=>some (AV.islice q (ws.length+1-l) 1 true))=_
 rw[hb]
 show((cut ((w::ws).map AV.str) (1*1) ((ws.length+1-1)*1)).bind _)=_
 rw[hc];rfl
theorem Dq {ws:List (List UInt8)}:lenSl (strsV ws)=some (.int .i64 (ws.length:Nat)):=rfl
theorem next_run {s:St} {rb:Nat} {q:List AV} {w:List UInt8} {ws:List (List UInt8)} (h:RdAt s rb q (w::ws)) (hn:ws.length≤100000) {R RP:AV→St→Prop}
 (hR:∀s',Chg s s' (fun c=>c=rb)→RdAt s' rb q ws→(s.bound≤s.next→Loggd s s')→R (.str w) s'):RunsX (EK R9) 137 [.ptr rb 0] s R RP:=by
 obtain⟨hg,hq,hb⟩:=h
 obtain⟨a,b,c,d,rfl⟩:∃a b c d,q=[a,b,c,d]:=by
  match q,hq with
  | [a,b,c,d],_=>exact⟨a,b,c,d,rfl⟩
 refine RunsX.gen (fn:=Tryz.f137) U (by kernel_rfl) U U U U ?_
 have hg1:s.enter.heap.get rb=some (.cells [a,b,c,d,strsV (w::ws)] 184 false):=hg
 have hl:=Dq (ws:=w::ws)
 have hlen:(w::ws).length=ws.length+1:=rfl
 have hix:=idx_strs (w:=w) (ws:=ws)
 have hsl:=slice_strs (s:=s.enter) (w:=w) (ws:=ws)
 focus
  refine Es<|qa rfl<|Ld<|Es<|qm rfl<|Lq (AF U U U) rfl<|Lq (of DS U) rfl<|Lo (At U U (An ag_106 EN ‹_› U)) U ?_
  refine Lq (ol AI U) rfl<|Lq (o2 u_3 U U) U ?_
  refine Bo (k:=9) U (fun g1=>?_) (fun g1=>?_)
  have h1:=dT g1
  refine Lo (Ad U U (by kernel_rfl) U (Ac (Bu))) rfl<|Ld<|Es<|qm rfl<|Lq (AF U U U) rfl<|Lq (of DS U) rfl<|Lo (At U U (An ag_106 EN ‹_› U)) rfl<|Lq (Ag (k:=0) U AI Bt U U ‹_›) U ?_
  refine Lq (As U U Fg Bt) rfl<|qa rfl<|Ld<|Es ?_
  iterate 2 refine qm U ?_
  refine Lq (AF U U U) rfl<|Lq (of DS U) rfl<|Lo (At U U (An ag_106 EN ‹_› U)) rfl<|Lo (Bv U AI Bt U U U ‹_›) rfl<|Lq (AF U U U) rfl<|Lq (of DS U) rfl<|Ak (Ar U EN U U (Aq ‹_› U U U)) U rfl<|Ld ?_
  refine Es<|qm rfl<|qa rfl<|Ld ?_
  rotate_left
  have h1:=dF g1
  exact absurd h1 (by omega)
 refine Aa (BP ⟨.inl U,_,rfl,_,Aj U U,_,Fq U (put_logged (.inr hb)),?_⟩)
 exact hR _ (Chg.back Chg.put) ⟨by
  show(s.enter.put rb _).heap.get rb=_
  rw[Bl,if_pos rfl];rfl,rfl,hb⟩ (Loggd.back Loggd.put)
theorem next_none {s:St} {rb:Nat} {q:List AV} (h:RdAt s rb q []) {R RP:AV→St→Prop} (hp:RP bad s):RunsX (EK R9) 137 [.ptr rb 0] s R RP:=by
 obtain⟨hg,hq,hb⟩:=h
 obtain⟨a,b,c,d,rfl⟩:∃a b c d,q=[a,b,c,d]:=by
  match q,hq with
  | [a,b,c,d],_=>exact⟨a,b,c,d,rfl⟩
 refine RunsX.gen (fn:=Tryz.f137) U (by kernel_rfl) U U U U ?_
 have hg1:s.enter.heap.get rb=some (.cells [a,b,c,d,strsV []] 184 false):=hg
 have hl:=Dq (ws:=[])
 refine Es<|qa rfl<|Ld<|Es<|qm rfl<|Lq (AF U U U) rfl<|Lq (of DS U) rfl<|Lo (At U U (An ag_106 EN ‹_› U)) U ?_
 refine Lq (ol AI U) rfl<|Lq (o2 u_3 U U) U ?_
 refine Ay U U (by kernel_rfl) U U U U (BQ Bc ?_)
 exact⟨rfl,hp⟩
theorem logged_of {s s1:St} {rb:Nat} {q q':List AV} {ws ws':List (List UInt8)} (l1:s.enter.bound≤s.enter.next→Loggd s.enter s1) (h0:RdAt s.enter rb q ws) (r1:RdAt s1 rb q' ws') (hne:ws.length≠ws'.length:=by exact Nat.succ_ne_self _):s1.log≠ []:=by
 intro hl
 have hl2:=(l1 (Qj _)).same rb h0.2.2 (by rw[hl];exact List.not_mem_nil)
 have h1:=r1.1
 rw[hl2,h0.1]at h1
 simp only[Option.some.injEq,AObj.cells.injEq]at h1
 have h2:=(List.append_inj h1.1 (h0.2.1.trans r1.2.1.symm)).2
 unfold strsV at h2
 simp only[List.cons.injEq,AV.islice.injEq]at h2
 exact hne h2.1.2.1
def letterB (b:UInt8):Bool:=(decide (97≤(b.toNat:Int))&&decide ((b.toNat:Int)≤122))||(decide (65≤(b.toNat:Int))&&decide ((b.toNat:Int)≤90))
def NameP (w:List UInt8):Prop:=w≠ []∧∀i,i<w.length→letterB (w.getD i 0)=true
theorem name_run {s:St} {rb:Nat} {q:List AV} {w:List UInt8} {ws:List (List UInt8)} (h:RdAt s rb q (w::ws)) (hn:ws.length≤100000) (hw:w.length≤50000) {R RP:AV→St→Prop}
 (hR:NameP w→∀s',Chg s s' (fun c=>c=rb)→RdAt s' rb q ws→(s.bound≤s.next→Loggd s s')→R (.str w) s') (hP:¬NameP w→∀s',Chg s s' (fun c=>c=rb)→RdAt s' rb q ws→(s.bound≤s.next→Loggd s s')→RP bad s'):RunsX (EK R9) 168 [.ptr rb 0] s R RP:=by
 refine RunsX.gen (fn:=Tryz.f168) U (by kernel_rfl) U U U U ?_
 have h0:RdAt s.enter rb q (w::ws):=h
 refine Es<|qa rfl<|Ld<|Es<|qm U ?_
 refine Ay U U (by kernel_rfl) U U U U (next_run h0 hn fun s1 c1 h1 l1=>?_)
 have r1:RdAt s1 rb q ws:=by assumption
 focus
  refine qa rfl<|Ld<|Es<|qm rfl<|Lq (AX U u_9 U U U U) U ?_
  refine Bo (k:=8) U (fun g1=>?_) (fun g1=>?_)
  have h1:=bnT g1
  refine Lo (Ad U U (by kernel_rfl) U (Ac (Bu))) rfl<|Ld<|Ab<|Es<|qm rfl<|Lq (Aw U U U U u_9 U) rfl<|qm rfl<|Ld ?_
  refine Af ?_
  rotate_left
  have h1:=bnF g1
  refine Ay U U (by kernel_rfl) U U U U (BQ Bc ?_)
  rotate_left
 rotate_left
 ·exact⟨rfl,hP (fun h=>h.1 ‹_›) _ (Chg.back c1) r1 fun hb=>Loggd.back (l1 (Qj _)) hb⟩
 have hne:w≠ []:=by assumption
 refine A5 (fun i:Nat=>([(12,.int .i64 (i:Nat)),(11,.int .i64 (w.length:Nat)),(3,.str w)],s1)) (fun i=>w.length-i)
  (fun i=>i≤w.length∧∀j,j<i→letterB (w.getD j 0)=true) 0 ⟨Qn _,fun j hj=>absurd hj (Nat.not_lt_zero _)⟩ rfl (by(refine Am.Av ?_;repeat (first|exact trivial|refine⟨rfl,?_⟩))) ?_
 rintro i ⟨hi,hd⟩
 dsimp only at hi hd⊢
 by_cases h:i<w.length
 ·have yes:letterB (w.getD i 0)=true→i+1≤w.length∧∀j,j<i+1→letterB (w.getD j 0)=true:=fun hx=>⟨h,fun j hj=>by
   rcases Nat.lt_or_ge j i with hj|hj
   ·exact hd j hj
   ·obtain rfl:j=i:=by omega
    exact hx⟩
  have no:letterB (w.getD i 0)=false→¬NameP w:=fun hx hp=>by
   have:=hp.2 i h
   rw[hx]at this;cases this
  focus
   refine Es<|Lq (o2 u_3 U U) rfl<|Ld<|Ab ?_
   refine Ec U (fun g2=>?_) (fun g2=>?_)
   have h2:=dT g2
   refine Ae<|Ab<|Af<|Es<|qm rfl<|qa rfl<|Ld<|Ao ?_
   iterate 2 refine qm U ?_
   refine Lq (A7 U u_9 U U (by first|assumption|omega|(simp only[LL];omega))) U ?_
   refine Lq (o2 u_5 U U) rfl<|qm U ?_
   refine Lb U (fun g3=>?_) (fun g3=>?_)
   have h3:=dT g3
   iterate 2 refine Lh U ‹_› (om U) ?_
   refine Lh U ‹_› (A7 U u_9 U U (by first|assumption|omega|(simp only[LL];omega))) ?_
   refine Lh U ‹_› (o2 u_5 U U)<|Lq (oT U ‹_› U) rfl<|qm U ?_
   refine Lb U (fun g4=>?_) (fun g4=>?_)
   have h4:=dT g4
   iterate 5 refine Lk U ‹_› ?_
   iterate 4 refine DL U U U U U U ?_
   refine Lk U ‹_›<|Lq (oT U ‹_› U) U ?_
   refine Lo (Ad U U (by kernel_rfl) U (Ac (Bu))) rfl<|Ld<|Ao ?_
   refine Lq (A0 (b:=1) U u_3 U U (by first|assumption|omega|(simp only[LL];omega))) U ?_
   refine qm rfl<|Ld ?_
   rotate_left
   have h4:=dF g4
   iterate 2 refine Lh U ‹_› (om U) ?_
   refine Lh U ‹_› (A7 U u_9 U U (by first|assumption|omega|(simp only[LL];omega))) ?_
   refine Lh U ‹_› (o2 u_5 U U)<|Lh U ‹_› (om U) ?_
   refine Lb U (fun g5=>?_) (fun g5=>?_)
   have h5:=dT g5
   iterate 2 refine Lh U ‹_› (om U) ?_
   refine Lh U ‹_› (A7 U u_9 U U (by first|assumption|omega|(simp only[LL];omega))) ?_
   refine Lh U ‹_› (o2 u_5 U U)<|Lh U ‹_› (oT U ‹_› U)<|Lq (oF U ‹_› U) U ?_
   refine Bo (k:=36) U (fun g6=>?_) (fun g6=>?_)
   have h6:=dT g6
   exact absurd h6 (by omega)
   have h6:=dF g6
   refine Ay U U (by kernel_rfl) U U U U (BQ Bc ?_)
   rotate_left
   have h5:=dF g5
   exact absurd h5 (by omega)
   have h3:=dF g3
   iterate 4 refine Lk U ‹_› ?_
   refine Lq (oF U ‹_› U) rfl<|qm U ?_
   iterate 2 refine Lh U U (om U) ?_
   refine Lh U U (A7 U u_9 U U (by first|assumption|omega|(simp only[LL];omega))) ?_
   refine Lh U U (o2 u_5 U U)<|Lh U U (om U) ?_
   refine Lb U (fun g7=>?_) (fun g7=>?_)
   have h7:=dT g7
   iterate 2 refine Lh U ‹_› (om U) ?_
   refine Lh U ‹_› (A7 U u_9 U U (by first|assumption|omega|(simp only[LL];omega))) ?_
   refine Lh U ‹_› (o2 u_5 U U)<|Lh U U (oT U ‹_› U)<|Lq (oF U U U) U ?_
   refine Bo (k:=36) U (fun g8=>?_) (fun g8=>?_)
   have h8:=dT g8
   refine Lo (Ad U U (by kernel_rfl) U (Ac (Bu))) rfl<|Ld<|Ao ?_
   refine Lq (A0 (b:=1) U u_3 U U (by first|assumption|omega|(simp only[LL];omega))) U ?_
   refine qm rfl<|Ld ?_
   rotate_left
   have h8:=dF g8
   refine Ay U U (by kernel_rfl) U U U U (BQ Bc ?_)
   rotate_left
   have h7:=dF g7
   iterate 4 refine Lk U ‹_› ?_
   refine Lh U U (oF U ‹_› U)<|Lq (oF U U U) U ?_
   refine Ay U U (by kernel_rfl) U U U U (BQ Bc ?_)
   rotate_left
   have h2:=dF g2
   exact absurd h2 (by omega)
  all_goals first
   |exact⟨i+1,yes (by unfold letterB;first|(rw[g3,g4];rfl)|(rw[g3,g4,g5,g6];rfl)|(rw[g3,g4,g5];rfl)|(rw[g3,g7,g8];rfl)|(rw[g3,g7];rfl)),by show w.length-(i+1)<w.length-i;omega,rfl,rfl,by(refine Am.Av ?_;repeat (first|exact trivial|refine⟨rfl,?_⟩))⟩
   |exact⟨rfl,hP (no (by unfold letterB;first|(rw[g3,g4];rfl)|(rw[g3,g4,g5,g6];rfl)|(rw[g3,g4,g5];rfl)|(rw[g3,g7,g8];rfl)|(rw[g3,g7];rfl))) _ (Chg.back c1) r1 fun hb=>Loggd.back (l1 (Qj _)) hb⟩
 ·obtain rfl:i=w.length:=by omega
  focus
   refine Es<|Lq (o2 u_3 U U) rfl<|Ld<|Ab ?_
   refine Ec U (fun g2=>?_) (fun g2=>?_)
   have h2:=dT g2
   exact absurd h2 (by omega)
   have h2:=dF g2
   refine A9<|Bq rfl<|Es<|qm rfl<|qa rfl<|Ld ?_
   rotate_left
  refine Aa (BP ⟨.inl U,_,rfl,_,Aj U U,_,Fq U (logged_of l1 h0 r1),?_⟩)
  exact hR ⟨hne,hd⟩ _ (Chg.back c1) r1 fun hb=>Loggd.back (l1 (Qj _)) hb
theorem F4 {s:St} {rb:Nat} {q:List AV} {ws:List (List UInt8)} (h:RdAt s rb q ws) (hn:ws.length≤50001) {R RP:AV→St→Prop}
 (hR:∀w r,ws=w::r→∀s',Chg s s' (fun c=>c=rb)→RdAt s' rb q r→(s.bound≤s.next→Loggd s s')→R (.str w) s') (hP:ws=[]→RP bad s):RunsX (EK R9) 137 [.ptr rb 0] s R RP:=by
 cases ws with
 |nil=>exact next_none h (hP rfl)
 |cons w r=>exact next_run h (by rw[List.length_cons]at hn;omega) (hR w r rfl)
theorem name_none {s:St} {rb:Nat} {q:List AV} (h:RdAt s rb q []) {R RP:AV→St→Prop} (hp:RP bad s):RunsX (EK R9) 168 [.ptr rb 0] s R RP:=by
 refine RunsX.gen (fn:=Tryz.f168) U (by kernel_rfl) U U U U ?_
 have h0:RdAt s.enter rb q []:=h
 refine Es<|qa rfl<|Ld<|Es<|qm U ?_
 refine Ay U U (by kernel_rfl) U U U U (next_none h0 ?_)
 exact⟨rfl,hp⟩
theorem name_any {s:St} {rb:Nat} {q:List AV} {ws:List (List UInt8)} (h:RdAt s rb q ws) (hn:ws.length≤50001) (hw:∀w∈ws,w.length≤50000) {R RP:AV→St→Prop}
 (hR:∀w r,ws=w::r→NameP w→∀s',Chg s s' (fun c=>c=rb)→RdAt s' rb q r→(s.bound≤s.next→Loggd s s')→R (.str w) s') (hP:(¬∃w r,ws=w::r∧NameP w)→∀s',Chg s s' (fun c=>c=rb)→(s.bound≤s.next→Loggd s s')→(∃ws',RdAt s' rb q ws')→RP bad s'):RunsX (EK R9) 168 [.ptr rb 0] s R RP:=by
 cases ws with
 |nil=>exact name_none h (hP (fun⟨_,_,h,_⟩=>by cases h) s Chg.refl (fun _=>Loggd.refl) ⟨_,h⟩)
 |cons w r=>exact name_run h (by rw[List.length_cons]at hn;omega) (hw w (Qh ..)) (hR w r rfl) (fun hx s' c1 r1 l1=>hP (fun⟨_,_,h,h2⟩=>by cases h;exact hx h2) s' c1 l1 ⟨r,r1⟩)
theorem zs_closed:∀l:List Int,(l.flatMap encZ).all (closedV 40)=true
 | []=>rfl
 |_::l=>zs_closed l
theorem frz_zs {s:St} {m n:Nat}:∀(l:List Int) (ks:List Nat),frzV.many (frzV s m (n+1)) (l.flatMap encZ) ks=some (l.flatMap encZ,ks)
 | [],_=>rfl
 |a::l,ks=>by
  show((frzV.many (frzV s m (n+1)) (l.flatMap encZ) ks).bind _)=_
  rw[frz_zs l ks];rfl
theorem rest_run {s:St} {rb:Nat} {q:List AV} {ws:List (List UInt8)} (h:RdAt s rb q ws) (hn:ws.length≤50001) (hw:∀w∈ws,w.length≤50000) {R RP:AV→St→Prop}
 (hR:(∀w∈ws,NumP w)→∀s',Chg s s' (fun c=>c=rb)→RdAt s' rb q []→(s.bound≤s.next→Loggd s s')→R (lst encZ 1 (ws.map numV)) s') (hP:¬(∀w∈ws,NumP w)→∀s',Chg s s' (fun c=>c=rb)→(s.bound≤s.next→Loggd s s')→RP bad s'):RunsX (EK R9) 172 [.ptr rb 0] s R RP:=by
 refine RunsX.gen (fn:=Tryz.f172) U (by kernel_rfl) U U U U ?_
 have h0:RdAt s.enter rb q ws:=h
 refine Es<|qa rfl<|Ld<|Es<|qa rfl<|Ld<|Ab<|Af ?_
 refine A5 (fun x:Nat×AV×St=>([(3,x.2.1),(0,.ptr rb 0)],x.2.2)) (fun x=>ws.length-x.1)
  (fun x=>x.1≤ws.length∧Chg s.enter x.2.2 (fun c=>c=rb)∧Loggd s.enter x.2.2∧RdAt x.2.2 rb q (ws.drop x.1)∧Grown x.2.2 3 1 x.2.1 (((ws.take x.1).map numV).flatMap encZ) x.1∧(∀c,ownB c x.2.1=true→s.next≤c)∧∀w∈ws.take x.1,NumP w)
  (0,.nilslice,s.enter) ⟨Qn _,Chg.refl,Loggd.refl,h0,Grown.nil _ _ _,(fun c hc=>by cases hc),fun w hw=>by cases hw⟩ rfl (by(refine Am.Av ?_;repeat (first|exact trivial|refine⟨rfl,?_⟩))) ?_
 rintro⟨i,v,st⟩ ⟨hi,hc,hlg,hr,hgr,hown,hnum⟩
 dsimp only at hi hc hlg hr hgr hown hnum⊢
 have hnx:=hc.next
 have hsn:s.enter.next=s.next:=rfl
 obtain⟨a,b,c,d,rfl⟩:∃a b c d,q=[a,b,c,d]:=by
  match q,h.2.1 with
  | [a,b,c,d],_=>exact⟨a,b,c,d,rfl⟩
 have hg1:st.heap.get rb=some (.cells [a,b,c,d,strsV (ws.drop i)] 184 false):=hr.1
 have hl:=Dq (ws:=ws.drop i)
 by_cases h:i<ws.length
 ·have hd:ws.drop i=ws[i]::ws.drop (i+1):=List.drop_eq_getElem_cons h
  have hlen:(ws.drop i).length=ws.length-i:=List.length_drop
  have hwi:=hw ws[i] (Ql _)
  focus
   refine Ab<|Es<|qm rfl<|Lq (AF U U U) rfl<|Lq (of DS U) rfl<|Lo (At U U (An ag_106 EN ‹_› U)) rfl<|Lq (ol AI U) rfl<|Lq (o2 u_3 U U) U ?_
   refine Ld ?_
   refine Ec U (fun g1=>?_) (fun g1=>?_)
   have h1:=dT g1
   refine Ae<|Af<|Ao ?_
   iterate 2 refine qm U ?_
   rotate_left
   have h1:=dF g1
   exact absurd h1 (by omega)
  rw[hd]at hr
  refine Ay U U (by kernel_rfl) U U U U (next_run hr (by rw[List.length_drop];omega) fun s1 c1 r1 l1=>?_)
  by_cases hN:NumP ws[i]
  ·refine Lo (Ad U U (by kernel_rfl) U (Ac (EC (by first|assumption|omega|(simp only[LL];omega)) (by first|assumption|omega|(simp only[LL];omega))))) U ?_
   refine Lo (BA U D6 Bf z_3 U U U) U ?_
   have hgr1:Grown s1 3 1 v (((ws.take i).map numV).flatMap encZ) i:=hgr.keep c1.next fun c hc=>c1.heap c (hgr.own hc) fun e=>by have:=hown c hc;have:=h0.2.2;omega
   refine RegL.growG hgr1 U (by decide) (AR (by omega) (by decide)) (AR (by omega) (by decide)) U U U U D6 Bf by_3 z_3 (by kernel_rfl) (by kernel_rfl) U U U U U fun v2 s2 g2 o2 c2 l2=>?_
   refine qa rfl<|Ld ?_
   have hc1:Chg s.enter s1 (fun c=>c=rb):=hc.trans c1 (fun _ h=>h) (fun _ h=> .inl h) (Qj _)
   have hnx1:=hc1.next
   have hr2:RdAt s2 rb [a,b,c,d] (ws.drop (i+1)):=⟨(c2.heap rb r1.2.2 fun e=>by have:=hown rb e;have:=h0.2.2;omega).trans r1.1,rfl,Nat.lt_of_lt_of_le r1.2.2 c2.next⟩
   have et:ws.take (i+1)=ws.take i++[ws[i]]:=List.take_succ_eq_append_getElem h
   refine⟨(i+1,v2,s2),⟨h,hc1.trans c2 (fun _ h=>h) (fun c h=> .inr (hown c h)) (Qj _),(hlg.trans (l1 (by rw[hc.bound];exact hnx))).trans (l2 (by rw[hc1.bound];exact hnx1)),hr2,?_,fun c hc=>by have:=o2 c hc;omega,fun w hw'=>?_⟩,by show ws.length-(i+1)<ws.length-i;omega,rfl,rfl,by(refine Am.Av ?_;repeat (first|exact trivial|refine⟨rfl,?_⟩))⟩
   ·show Grown s2 3 1 v2 (((ws.take (i+1)).map numV).flatMap encZ) (i+1)
    rw[et,List.map_append,List.flatMap_append]
    exact g2
   ·rw[et,List.mem_append]at hw'
    rcases hw' with h1|h1
    ·exact hnum w h1
    ·rw[Qo.1 h1];exact hN
  ·refine Ay U U (by kernel_rfl) U U U U (Fb (by first|assumption|omega|(simp only[LL];omega)) (by first|assumption|omega|(simp only[LL];omega)) ?_)
   exact⟨rfl,hP (fun hall=>hN (hall _ (Ql _))) _ (Chg.back (hc.trans c1 (fun _ h=>h) (fun _ h=> .inl h) (Qj _))) fun hb=>Loggd.back (hlg.trans (l1 (by rw[hc.bound];exact hnx))) hb⟩
 ·obtain rfl:i=ws.length:=by omega
  have hlen:(ws.drop ws.length).length=0:=by rw[List.drop_length];rfl
  focus
   refine Ab<|Es<|qm rfl<|Lq (AF U U U) rfl<|Lq (of DS U) rfl<|Lo (At U U (An ag_106 EN ‹_› U)) rfl<|Lq (ol AI U) rfl<|Lq (o2 u_3 U U) U ?_
   refine Ld ?_
   refine Ec U (fun g1=>?_) (fun g1=>?_)
   have h1:=dT g1
   exact absurd h1 (by omega)
   have h1:=dF g1
   refine A9<|Bq rfl<|Es<|qm rfl<|qa rfl<|Ld ?_
   rotate_left
  rw[List.take_length]at hgr hnum
  rw[List.drop_length]at hr
  cases ws with
  |nil=>
   obtain⟨rfl,_⟩:=hgr.zero
   refine Aa (BP ⟨.inl U,_,rfl,_,Aj U U,?_⟩)
   by_cases hl0:st.log=[]
   ·refine⟨.same .nilslice,?_,hR hnum _ Chg.refl h0 fun _=>Loggd.refl⟩
    unfold leave
    show some (leaveQ s .nilslice st st.log)=_
    rw[hl0];rfl
   ·exact⟨_,leave_two (ks:=[]) U hl0 U (fun b hb=>by cases hb),hR hnum _ (Chg.back hc) hr fun hb=>Loggd.back hlg hb⟩
  |cons w ws=>
   obtain⟨b2,hfz,hob,hb2⟩:=hgr.fz (Nat.succ_ne_zero _) 39 (frz_zs _ _) (zs_closed _)
   have hb3:=hown b2 hob
   have hbd:st.bound=s.next:=hc.bound
   refine Aa (BP ⟨.inl U,_,rfl,_,Aj U U,_,leave_two U (logged_of (fun _=>hlg) h0 hr (Nat.succ_ne_zero _)) hfz (fun b hb=>by rw[Qo.1 hb,hbd];exact hb3),?_⟩)
   have hR2:=hR hnum (s.back (kill st [b2])) (Chg.back (Chg.kill hc (fun b hb=>by rw[Qo.1 hb];exact hb3) (Qj _))) ⟨(kill_off (fun hm=>by have:=Qo.1 hm;have:=h0.2.2;omega)).trans hr.1,rfl,by show rb<(kill st [b2]).next;rw[kill_next];exact hr.2.2⟩ fun hb=>Loggd.back hlg.kill hb
   have:lst encZ 1 ((w::ws).map numV)= .islice (((w::ws).map numV).flatMap encZ) (w::ws).length 1 true:=by
    show recs encZ 1 (numV w::ws.map numV)=_
    unfold recs
    rw[List.length_cons,List.length_map];rfl
   rw[this]at hR2
   exact hR2
def AltP (w:List UInt8):Prop:=∃n,idxS 58 w=some n∧NumP (w.take n)∧NumP (w.drop (n+1))
def altV (w:List UInt8):AltT:=match idxS 58 w with
 |some n=>(numV (w.take n),numV (w.drop (n+1)))
 |none=>(0,0)
theorem as_closed:∀l:List AltT,(l.flatMap encA).all (closedV 40)=true
 | []=>rfl
 |_::l=>as_closed l
theorem frz_as {s:St} {m n:Nat}:∀(l:List AltT) (ks:List Nat),frzV.many (frzV s m (n+1)) (l.flatMap encA) ks=some (l.flatMap encA,ks)
 | [],_=>rfl
 |a::l,ks=>by
  show((((frzV.many (frzV s m (n+1)) (l.flatMap encA) ks).bind _)).bind _)=_
  rw[frz_as l ks];rfl
theorem alts_run {s:St} {rb:Nat} {q:List AV} {ws:List (List UInt8)} (h:RdAt s rb q ws) (hn:ws.length≤50001) (hw:∀w∈ws,w.length≤50000) {R RP:AV→St→Prop}
 (hR:(∀w∈ws,AltP w)→∀s',Chg s s' (fun c=>c=rb)→RdAt s' rb q []→(s.bound≤s.next→Loggd s s')→R (lst encA 2 (ws.map altV)) s') (hP:¬(∀w∈ws,AltP w)→∀s',Chg s s' (fun c=>c=rb)→(s.bound≤s.next→Loggd s s')→RP bad s'):RunsX (EK R9) 171 [.ptr rb 0] s R RP:=by
 refine RunsX.gen (fn:=Tryz.f171) U (by kernel_rfl) U U U U ?_
 have h0:RdAt s.enter rb q ws:=h
 refine Es<|qa rfl<|Ld<|Es<|qa rfl<|Ld<|Ab<|Af ?_
 refine A5 (fun x:Nat×AV×St=>([(3,x.2.1),(0,.ptr rb 0)],x.2.2)) (fun x=>ws.length-x.1)
  (fun x=>x.1≤ws.length∧Chg s.enter x.2.2 (fun c=>c=rb)∧Loggd s.enter x.2.2∧RdAt x.2.2 rb q (ws.drop x.1)∧Grown x.2.2 60 2 x.2.1 (((ws.take x.1).map altV).flatMap encA) x.1∧(∀c,ownB c x.2.1=true→s.next≤c)∧∀w∈ws.take x.1,AltP w)
  (0,.nilslice,s.enter) ⟨Qn _,Chg.refl,Loggd.refl,h0,Grown.nil _ _ _,(fun c hc=>by cases hc),fun w hw=>by cases hw⟩ rfl (by(refine Am.Av ?_;repeat (first|exact trivial|refine⟨rfl,?_⟩))) ?_
 rintro⟨i,v,st⟩ ⟨hi,hc,hlg,hr,hgr,hown,hnum⟩
 dsimp only at hi hc hlg hr hgr hown hnum⊢
 have hnx:=hc.next
 have hsn:s.enter.next=s.next:=rfl
 obtain⟨a,b,c,d,rfl⟩:∃a b c d,q=[a,b,c,d]:=by
  match q,h.2.1 with
  | [a,b,c,d],_=>exact⟨a,b,c,d,rfl⟩
 have hg1:st.heap.get rb=some (.cells [a,b,c,d,strsV (ws.drop i)] 184 false):=hr.1
 have hl:=Dq (ws:=ws.drop i)
 by_cases h:i<ws.length
 ·have hd:ws.drop i=ws[i]::ws.drop (i+1):=List.drop_eq_getElem_cons h
  have hlen:(ws.drop i).length=ws.length-i:=List.length_drop
  have hwi:=hw ws[i] (Ql _)
  focus
   refine Ab<|Es<|qm rfl<|Lq (AF U U U) rfl<|Lq (of DS U) rfl<|Lo (At U U (An ag_106 EN ‹_› U)) rfl<|Lq (ol AI U) rfl<|Lq (o2 u_3 U U) U ?_
   refine Ld ?_
   refine Ec U (fun g1=>?_) (fun g1=>?_)
   have h1:=dT g1
   refine Ae<|Af<|Es<|qm U ?_
   rotate_left
   have h1:=dF g1
   exact absurd h1 (by omega)
  rw[hd]at hr
  refine Ay U U (by kernel_rfl) U U U U (next_run hr (by rw[List.length_drop];omega) fun s1 c1 r1 l1=>?_)
  have no:¬AltP ws[i]→RP bad (s.back s1):=fun hN=>hP (fun hall=>hN (hall _ (Ql _))) _ (Chg.back (hc.trans c1 (fun _ h=>h) (fun _ h=> .inl h) (Qj _))) fun hb=>Loggd.back (hlg.trans (l1 (by rw[hc.bound];exact hnx))) hb
  cases hx:idxS 58 ws[i]with
  |none=>
   have DR:R9 134 [.str ws[i],.str [58]]=some (.tuple [.str ws[i],.str [],.bool false]):=by
    have:=DR (c:=58) hwi
    unfold cutV at this
    rw[hx]at this
    exact this
   refine Lo (Ad U U (by kernel_rfl) U (Ac (DR))) rfl<|qm U ?_
   iterate 3 refine Lq (oe U) U ?_
   iterate 3 refine qa U ?_
   refine Ld<|Es<|qm U ?_
   refine Ay U U (by kernel_rfl) U U U U (BQ Bc ?_)
   exact⟨rfl,no fun⟨n,h1,_⟩=>by rw[hx]at h1;cases h1⟩
  |some n=>
  have hnl:=F8 hx
  have DR:R9 134 [.str ws[i],.str [58]]=some (.tuple [.str (ws[i].take n),.str (ws[i].drop (n+1)),.bool true]):=by
   have:=DR (c:=58) hwi
   unfold cutV at this
   rw[hx]at this
   exact this
  have hw1:(ws[i].take n).length≤50000:=Nat.le_trans (List.length_take_le _ _) (by omega)
  have hw2:(ws[i].drop (n+1)).length≤50000:=by rw[List.length_drop];omega
  by_cases hN1:NumP (ws[i].take n)
  rotate_left
  ·refine Lo (Ad U U (by kernel_rfl) U (Ac (DR))) U ?_
   refine qm U ?_
   iterate 3 refine Lq (oe U) U ?_
   iterate 3 refine qa U ?_
   refine Ld<|Es<|qm U ?_
   refine Lo (Ad U U (by kernel_rfl) U (Ac (Bu))) rfl<|Ld<|Ao ?_
   iterate 2 refine qm U ?_
   refine Ay U U (by kernel_rfl) U U U U (Fb (by first|assumption|omega|(simp only[LL];omega)) (by first|assumption|omega|(simp only[LL];omega)) ?_)
   exact⟨rfl,no fun⟨m,h1,h2,_⟩=>by rw[hx]at h1;cases h1;exact hN1 h2⟩
  by_cases hN2:NumP (ws[i].drop (n+1))
  ·have hN:AltP ws[i]:=⟨n,hx,hN1,hN2⟩
   have hav:altV ws[i]=(numV (ws[i].take n),numV (ws[i].drop (n+1))):=by unfold altV;rw[hx]
   refine Lo (Ad U U (by kernel_rfl) U (Ac (DR))) rfl<|qm U ?_
   iterate 3 refine Lq (oe U) U ?_
   iterate 3 refine qa U ?_
   refine Ld<|Es<|qm U ?_
   refine Lo (Ad U U (by kernel_rfl) U (Ac (Bu))) rfl<|Ld<|Ao ?_
   iterate 2 refine qm U ?_
   refine Lo (Ad U U (by kernel_rfl) U (Ac (EC (by first|assumption|omega|(simp only[LL];omega)) (by first|assumption|omega|(simp only[LL];omega))))) U ?_
   refine qm U ?_
   refine Lo (Ad U U (by kernel_rfl) U (Ac (EC (by first|assumption|omega|(simp only[LL];omega)) (by first|assumption|omega|(simp only[LL];omega))))) U ?_
   refine Lq (AJ U pl_60 U U) rfl<|Lo (BA U u_56 sz_60 z_60 U U U) U ?_
   have hgr1:Grown s1 60 2 v (((ws.take i).map altV).flatMap encA) i:=hgr.keep c1.next fun c hc=>c1.heap c (hgr.own hc) fun e=>by have:=hown c hc;have:=h0.2.2;omega
   refine RegL.growG hgr1 U (by decide) (AR (by omega) (by decide)) (AR (by omega) (by decide)) U U U U u_56 sz_60 by_60 z_60 (by kernel_rfl) (by kernel_rfl) U U U U U fun v2 s2 g2 o2 c2 l2=>?_
   refine qa rfl<|Ld ?_
   have hc1:Chg s.enter s1 (fun c=>c=rb):=hc.trans c1 (fun _ h=>h) (fun _ h=> .inl h) (Qj _)
   have hnx1:=hc1.next
   have hr2:RdAt s2 rb [a,b,c,d] (ws.drop (i+1)):=⟨(c2.heap rb r1.2.2 fun e=>by have:=hown rb e;have:=h0.2.2;omega).trans r1.1,rfl,Nat.lt_of_lt_of_le r1.2.2 c2.next⟩
   have et:ws.take (i+1)=ws.take i++[ws[i]]:=List.take_succ_eq_append_getElem h
   refine⟨(i+1,v2,s2),⟨h,hc1.trans c2 (fun _ h=>h) (fun c h=> .inr (hown c h)) (Qj _),(hlg.trans (l1 (by rw[hc.bound];exact hnx))).trans (l2 (by rw[hc1.bound];exact hnx1)),hr2,?_,fun c hc=>by have:=o2 c hc;omega,fun w hw'=>?_⟩,by show ws.length-(i+1)<ws.length-i;omega,rfl,rfl,by(refine Am.Av ?_;repeat (first|exact trivial|refine⟨rfl,?_⟩))⟩
   ·show Grown s2 60 2 v2 (((ws.take (i+1)).map altV).flatMap encA) (i+1)
    rw[et,List.map_append,List.flatMap_append]
    rw[List.map_cons,hav]
    exact g2
   ·rw[et,List.mem_append]at hw'
    rcases hw' with h1|h1
    ·exact hnum w h1
    ·rw[Qo.1 h1];exact hN
  ·refine Lo (Ad U U (by kernel_rfl) U (Ac (DR))) U ?_
   refine qm U ?_
   iterate 3 refine Lq (oe U) U ?_
   iterate 3 refine qa U ?_
   refine Ld<|Es<|qm U ?_
   refine Lo (Ad U U (by kernel_rfl) U (Ac (Bu))) rfl<|Ld<|Ao ?_
   iterate 2 refine qm U ?_
   refine Lo (Ad U U (by kernel_rfl) U (Ac (EC (by first|assumption|omega|(simp only[LL];omega)) (by first|assumption|omega|(simp only[LL];omega))))) U ?_
   refine qm U ?_
   refine Ay U U (by kernel_rfl) U U U U (Fb (by first|assumption|omega|(simp only[LL];omega)) (by first|assumption|omega|(simp only[LL];omega)) ?_)
   exact⟨rfl,no fun⟨m,h1,_,h2⟩=>by rw[hx]at h1;cases h1;exact hN2 h2⟩
 ·obtain rfl:i=ws.length:=by omega
  have hlen:(ws.drop ws.length).length=0:=by rw[List.drop_length];rfl
  focus
   refine Ab<|Es<|qm rfl<|Lq (AF U U U) rfl<|Lq (of DS U) rfl<|Lo (At U U (An ag_106 EN ‹_› U)) rfl<|Lq (ol AI U) rfl<|Lq (o2 u_3 U U) U ?_
   refine Ld ?_
   refine Ec U (fun g1=>?_) (fun g1=>?_)
   have h1:=dT g1
   exact absurd h1 (by omega)
   have h1:=dF g1
   refine A9<|Bq rfl<|Es<|qm rfl<|qa rfl<|Ld ?_
   rotate_left
  rw[List.take_length]at hgr hnum
  rw[List.drop_length]at hr
  cases ws with
  |nil=>
   obtain⟨rfl,_⟩:=hgr.zero
   refine Aa (BP ⟨.inl U,_,rfl,_,Aj U U,?_⟩)
   by_cases hl0:st.log=[]
   ·refine⟨.same .nilslice,?_,hR hnum _ Chg.refl h0 fun _=>Loggd.refl⟩
    unfold leave
    show some (leaveQ s .nilslice st st.log)=_
    rw[hl0];rfl
   ·exact⟨_,leave_two (ks:=[]) U hl0 U (fun b hb=>by cases hb),hR hnum _ (Chg.back hc) hr fun hb=>Loggd.back hlg hb⟩
  |cons w ws=>
   obtain⟨b2,hfz,hob,hb2⟩:=hgr.fz (Nat.succ_ne_zero _) 39 (frz_as _ _) (as_closed _)
   have hb3:=hown b2 hob
   have hbd:st.bound=s.next:=hc.bound
   refine Aa (BP ⟨.inl U,_,rfl,_,Aj U U,_,leave_two U (logged_of (fun _=>hlg) h0 hr (Nat.succ_ne_zero _)) hfz (fun b hb=>by rw[Qo.1 hb,hbd];exact hb3),?_⟩)
   have hR2:=hR hnum (s.back (kill st [b2])) (Chg.back (Chg.kill hc (fun b hb=>by rw[Qo.1 hb];exact hb3) (Qj _))) ⟨(kill_off (fun hm=>by have:=Qo.1 hm;have:=h0.2.2;omega)).trans hr.1,rfl,by show rb<(kill st [b2]).next;rw[kill_next];exact hr.2.2⟩ fun hb=>Loggd.back hlg.kill hb
   have:lst encA 2 ((w::ws).map altV)= .islice (((w::ws).map altV).flatMap encA) (w::ws).length 2 true:=by
    show recs encA 2 (altV w::ws.map altV)=_
    unfold recs
    rw[List.length_cons,List.length_map];rfl
   rw[this]at hR2
   exact hR2
end Go.Proofs.YtpihdbhocgcbpaaGreatDoor.Rd
