/- Code: what is as defined; data of arguments. -/
import Derived.Test.YtpihdbhocgcbpaaGreatDoorCdA
import Derived.Test.YtpihdbhocgcbpaaGreatDoorAmG
set_option linter.unusedSectionVars false
set_option linter.unusedVariables false
set_option linter.unusedSimpArgs false
open Go Am
namespace Go.Proofs.YtpihdbhocgcbpaaGreatDoor
noncomputable def K9:=WA K8 60 (fun p:u6=>[.O (CJ p.1.1),.int .i64 (p.1.2:Nat)]) (fun p=> .bool (YO p.1.1 p.1.2 p.x))
variable {b:Bool} {c:Cj} {g:FuncId} {n r:Int} {p:Int->Bool} {ls:List (List AV)} {cap l x:List AV} {Cy cons:List Cw} {args:List Int} {b0 b1 i k:Nat} {s st:St} {α:Type} {e t u:TypeId}
theorem hit_60 (h:r_ c) (hk:k<c.a.length):K9 60 [.O (CJ c),.int .i64 (k:Nat)]=some (.bool (YO c k c.a[k])):=
 Ak (enc:=fun p:u6=>[.O (CJ p.1.1),.int .i64 (p.1.2:Nat)]) (fun p q h=>by rw[Hj h]) ⟨(c,k),h,hk⟩
theorem all9 (h:Wh Tryz.prog 10 [] (.bool true)):C6 Tryz.prog K9:=Aw Au (all8 h) (fun p:u6=>ins_to p.1.1 p.1.2 p.2.1 p.2.2) (fun _=>rfl) (fun _=>rfl)
def c8 (c:Cj) (i:Nat):Bool:=X1 (c.d.getD i 0) 0 (c.a.length-1)
def ko (c:Cj) (i:Nat):Bool:=YO c i (Y6 c i)
def aD (c:Cj):Bool:=Zy c.b c.c&& !(decide (1000<(c.a.length:Int))|| !decide ((c.d.length:Int)=c.c.length))
def X5 (c:Cj):Bool:=aD c&&((List.range c.d.length).all (c8 c)&&(List.range c.a.length).all (ko c))
theorem code_to (c:Cj) (hf:r_ c):Co (EK K9) 24 [.O (CJ c)] S0 (.bool (X5 c)):=by
 refine As U ?_;have Xo:aD c=false->X5 c=false:=fun h=>by unfold X5;rw[h];rfl
 have qp:=hf.i;have qM:=hf.j;have dC:=hf.g;have gK:=hf.d;focus
  refine Eh U<|Sq<|Es<|Ls 2 U ?_;refine Lo (kc U (hit_59 (by omega) (by omega))) U ?_;refine Lv 2 U ?_;refine Bn U (fun h1=>?_) (fun h1=>?_);refine Lw U<|Tt U<|Ew U ?_;refine Se (Er U ?_);refine Aa ?_;rotate_left;refine Ls 6 U ?_;refine Bb U (fun g2=>?_) (fun g2=>?_);have h2:=dT g2;refine Lw U<|Tt U<|Ew U ?_;refine Se (Er U ?_);refine Aa ?_;rotate_left;have h2:=dF g2;refine Lx U ?_;refine Cb U (fun g3=>?_) (fun g3=>?_);have h3:=nT g3;refine Ew U ?_;refine A9 (Er U ?_);refine Aa ?_;rotate_left;have h3:=nF g3;refine Cu.skip<|B0<|Ew U<|Cu.block ?_;rotate_left
 .rw[Xo (by unfold aD;rw[h1];rfl)]
 .rw[Xo (by unfold aD;rw[g2];simp)]
 .rw[Xo (by unfold aD;rw[decide_eq_false h3];simp)]
 have ny:aD c=true:=by unfold aD;rw[h1,g2,decide_eq_true h3];rfl
 refine Ai (fun i:Nat=>([(3,.int .i64 (i:Nat)),(1,.J 0 0)],Xc 1 0 [] [(0,some (.J (CJ c) 28 false))])) (fun i=>c.d.length-i) (fun i=>i<=c.d.length/\(List.range i).all (c8 c)=true) 0 ⟨Qo _,rfl⟩ U (Ab (by repeat' constructor)) ?_;rintro i ⟨hi,hs⟩;dsimp only at hi hs|-;by_cases h:i<c.d.length
 .have hp:=Af AD h;have Y0:c8 c i=X1 c.d[i] 0 (c.a.length-1):=by unfold c8;rw[Ao h]
  focus
   refine Sq<|Eh U ?_;refine Cd U (fun h4=>?_) (fun h4=>?_);refine Sk<|Sq<|Sb<|Ad (by kernel_rfl)<|Nv 1 U<|Aj U OE Iy U U U (by kernel_rfl) (.inl U) U U<|Nv 1 U<|Nq (kv U hp) U<|Nv 2 U<|Aj U tU tT U U U (by kernel_rfl) (.inl U) U U<|Nv 1 U<|Nq (ks U (by omega)) U ?_;refine Na (kC U (Du)) (.inl U) U<|Nw U ?_;refine Cn U (fun h5=>?_) (fun h5=>?_);refine Ew U ?_;refine Se (Er U ?_);refine Aa ?_;rotate_left;refine Sk<|Sr<|qm U ?_;refine Lq (ka (b:=1) U (by omega)) U ?_;refine Lw U ?_;rotate_left;exact absurd h4 (by omega)
  .unfold X5;rw[Kz h (Y0.trans h5),Bool.false_and,Bool.and_false]
  .exact⟨i+1,⟨h,D0 hs (Y0.trans h5)⟩,by show c.d.length-(i+1)<c.d.length-i;omega,U,U,Ab (by repeat' constructor)⟩
 .focus
   refine Sq<|Eh U ?_;refine Cd U (fun h4=>?_) (fun h4=>?_);exact absurd h4 (by omega);refine Sx<|A0 U<|Sq<|Ew U<|Sb ?_;rotate_left
  obtain rfl:i=c.d.length:=by omega
  refine Ai (fun i:Nat=>([(4,.int .i64 (i:Nat)),(1,.J 0 0)],Xc 1 0 [] [(0,some (.J (CJ c) 28 false))])) (fun i=>c.a.length-i) (fun i=>i<=c.a.length/\(List.range i).all (ko c)=true) 0 ⟨Qo _,rfl⟩ U (Ab (by repeat' constructor)) ?_;rintro j ⟨hj,jm⟩;dsimp only at hj jm|-;by_cases h':j<c.a.length
  .have Y0:ko c j=YO c j c.a[j]:=by unfold ko;rw[B2 h']
   focus
    refine Sq<|Eh U ?_;refine Cd U (fun h5=>?_) (fun h5=>?_);refine Sk<|Sq<|Sb<|Es<|Ls 2 U ?_;refine Lo (kc U (hit_60 (by omega) (by omega))) U ?_;refine Lw U ?_;refine Cn U (fun h6=>?_) (fun h6=>?_);refine Ew U ?_;refine Se (Er U ?_);refine Aa ?_;rotate_left;refine Sk<|Sr<|qm U ?_;refine Lq (ka (b:=1) U (by omega)) U ?_;refine Lw U ?_;rotate_left;exact absurd h5 (by omega)
   .unfold X5;rw[Kz h' (Y0.trans h6),Bool.and_false,Bool.and_false]
   .exact⟨j+1,⟨h',D0 jm (Y0.trans h6)⟩,by show c.a.length-(j+1)<c.a.length-j;omega,U,U,Ab (by repeat' constructor)⟩
  .focus
    refine Sq<|Eh U ?_;refine Cd U (fun h5=>?_) (fun h5=>?_);exact absurd h5 (by omega);refine Sx<|A0 U<|Ew U ?_;refine Se (Er U ?_);refine Aa ?_;rotate_left
   obtain rfl:j=c.a.length:=by omega
   unfold X5;rw[hs,jm,ny];rfl
abbrev qf:= {c:Cj//r_ c}
theorem Rv {p q:qf} (h:([.O (CJ p.1)]:List AV)=[.O (CJ q.1)]):p=q:=by
 obtain⟨a,_⟩:=p;obtain⟨b,_⟩:=q;obtain rfl:=Hi (List.cons.inj h).1;rfl
noncomputable def K10a:=WA K9 24 (fun p:qf=>[.O (CJ p.1)]) (fun p=> .bool (X5 p.1))
theorem DU (h:r_ c):K10a 24 [.O (CJ c)]=some (.bool (X5 c)):=
 Ak (enc:=fun p:qf=>[.O (CJ p.1)]) (fun p q h=>by rw[Rv h]) ⟨c,h⟩
theorem Ug (c:Cj) (hf:r_ c):Co (EK K10a) 14 [.O (CJ c)] S0 (.int .i64 (if X5 c then 0 else 2)):=by
 refine As U ?_;focus
  refine Eh U<|Sq<|Es<|Ls 1 U ?_;refine Lo (kc U (DU (by omega))) U ?_;refine Lw U ?_;refine Cn U (fun h1=>?_) (fun h1=>?_);refine Ew U ?_;refine Se (Er U ?_);rotate_left;refine Sk<|Ew U ?_;refine Se (Er U ?_);rotate_left
 .rw[h1];rfl
 .rw[h1];rfl
noncomputable def K10:=WA K10a 14 (fun p:qf=>[.O (CJ p.1)]) (fun p=> .int .i64 (if X5 p.1 then 0 else 2))
theorem all10 (h:Wh Tryz.prog 10 [] (.bool true)):C6 Tryz.prog K10:=
 Aw Au (Aw Au (all9 h) (fun p:qf=>code_to p.1 p.2) (fun _=>rfl) (fun _=>rfl)) (fun p:qf=>Ug p.1 p.2) (fun _=>rfl) (fun _=>rfl)
def u7 (x:X8):Bool:= !decide (x.a=0)
def tV (x:X8):Bool:=decide (0<(x.b.length:Int))
def sJ (x:X8):Bool:=decide (0<(x.d.length:Int))
def kH (x:X8):Bool:= !Y4 x
def yd (x:X8):Bool:=decide (x.op=1)&&(!sJ x&& !kH x)
def u9 (x:X8):Bool:=decide (x.op=2)&&(!u7 x&&(!tV x&& !kH x))
def sN (x:X8):Bool:=decide (x.op=3)&&(!u7 x&&(!tV x&&(!sJ x&& !kH x)))
def sO (x:X8):Bool:=decide (x.op=4)&&(!u7 x&&(!tV x&&(!sJ x&& !kH x)))
def uA (x:X8):Bool:=decide (x.op=5)&&(!u7 x&&(!tV x&& !sJ x))
def uB (x:X8):Bool:=decide (x.op=6)&&(!tV x&&(!sJ x&& !kH x))
inductive ShT where
 |Y (reg:Int) (alts:List WL)
 |Z (to:List Int)
 |mv
 |kt
 |O (op n:Int) (args:List Int)
 |J (reg:Int)
 |no
def shA:ShT->AV
 | .Y r l=> .a_ 114 (.O [.int .i64 r,Cq Y9 2 l])
 | .Z l=> .a_ 117 (.O [Cq CN 1 l])
 | .mv=> .a_ 166 (.O [])
 | .kt=> .a_ 167 (.O [])
 | .O o n l=> .a_ 119 (.O [.int .i64 o,.int .i64 n,Cq CN 1 l])
 | .J r=> .a_ 121 (.O [.int .i64 r])
 | .no=> .CS
def CO (x:X8):ShT:=
 if yd x then .Y x.a x.b else if u9 x then .Z x.d else if sN x then .mv else if sO x then .kt else if uA x then .O x.c x.n x.args else if uB x then .J x.a else .no
theorem P3 {l:List α}:decide (0<(l.length:Int))= !decide ((l.length:Int)=0):=by
 cases l with
 |nil=>rfl
 |cons a l=>simp;omega
theorem TG (x:X8):Co (EK K10) 51 [.O (Wj x)] S0 (shA (CO x)):=by
 refine As U<|Eh U ?_;refine Cu.cut [(6,.bool (kH x)),(5,.bool (sJ x)),(4,.bool (tV x)),(3,.bool (u7 x)),(2,.CS),(1,.J 0 0)] (Xc 1 0 [] [(0,some (.J (Wj x) 58 false))]) ?_ ?_
 .focus
   refine AK (by kernel_rfl)<|Nv 1 U<|Aj U LJ D9 U U U (by kernel_rfl) (.inl U) U U<|Nv 2 U<|Aj U ag_56 sz_56 U U U (by kernel_rfl) (.inl U) U U<|Nv 3 U<|Aj U OE Iy U U U (by kernel_rfl) (.inl U) U U<|Nv 3 U<|Aj U ag_37 sz_37 U U U (by kernel_rfl) (.inl U) U U<|Nv 2 U ?_;refine Db U (fun g1=>?_) (fun g1=>?_);have h1:=nT g1;refine Nw U ?_;rotate_left;have h1:=nF g1;refine Nv 1 U<|Aj U LJ D9 U U U (by kernel_rfl) (gG U) U U<|Nv 3 U ?_;refine Db U (fun g2=>?_) (fun g2=>?_);have h2:=nT g2;refine Nw U ?_;rotate_left;have h2:=nF g2;refine Nv 1 U<|Aj U OE Iy U U U (by kernel_rfl) (gG U) U U<|Nw U ?_;rotate_left
  .refine⟨U,U,U,?_⟩;have e:kH x=true:=by unfold kH Y4;rw[decide_eq_false h1];rfl
   rw[e]
   (refine Am.Ab ?_;repeat (first|exact trivial|refine⟨rfl,?_⟩))
  .refine⟨U,U,U,?_⟩;have e:kH x=true:=by unfold kH Y4;rw[decide_eq_true h1,decide_eq_false h2];rfl
   rw[e]
   (refine Am.Ab ?_;repeat (first|exact trivial|refine⟨rfl,?_⟩))
  .refine⟨U,U,U,?_⟩;have e:kH x=decide (0<(x.args.length:Int)):=by unfold kH Y4;rw[decide_eq_true h1,decide_eq_true h2,P3];rfl
   rw[e]
   (refine Am.Ab ?_;repeat (first|exact trivial|refine⟨rfl,?_⟩))
 refine Sq<|Sb ?_;refine Cu.cut [(32,.bool (yd x)),(6,.bool (kH x)),(5,.bool (sJ x)),(4,.bool (tV x)),(3,.bool (u7 x)),(2,.CS),(1,.J 0 0)] (Xc 1 0 [] [(0,some (.J (Wj x) 58 false))]) ?_ ?_
 .focus
   refine Sr<|Ls 4 U ?_;refine Bb U (fun g1=>?_) (fun g1=>?_);have h1:=dT g1;refine Lv 4 U ?_;refine A6 U U U U (fun g2=>?_) (fun g2=>?_);have h2:=HF g2;refine Lw U ?_;rotate_left;have h2:=HG g2;refine Lw U ?_;rotate_left;have h1:=dF g1;refine Lw U ?_;rotate_left
  .refine⟨U,U,U,?_⟩;have e:yd x=(!kH x):=by unfold yd;rw[g1,g2];rfl
   rw[e]
   (refine Am.Ab ?_;repeat (first|exact trivial|refine⟨rfl,?_⟩))
  .refine⟨U,U,U,?_⟩;have e:yd x=(false):=by unfold yd;rw[g1,g2];rfl
   rw[e]
   (refine Am.Ab ?_;repeat (first|exact trivial|refine⟨rfl,?_⟩))
  .refine⟨U,U,U,?_⟩;have e:yd x=(false):=by unfold yd;rw[g1];rfl
   rw[e]
   (refine Am.Ab ?_;repeat (first|exact trivial|refine⟨rfl,?_⟩))
 refine Cb U (fun g1=>?_) (fun g1=>?_)
 .refine Eh U ?_;refine A9 (Er U ?_);unfold CO;rw[g1];rfl
 skip
 refine Cu.cut [(50,.bool (u9 x)),(6,.bool (kH x)),(5,.bool (sJ x)),(4,.bool (tV x)),(3,.bool (u7 x)),(2,.CS),(1,.J 0 0)] (Xc 1 0 [] [(0,some (.J (Wj x) 58 false))]) ?_ ?_
 .focus
   refine Do<|Ls 4 U ?_;refine A6 U U U U (fun g2=>?_) (fun g2=>?_);have h2:=dT g2;refine Lv 4 U ?_;refine A6 U U U U (fun g3=>?_) (fun g3=>?_);have h3:=HF g3;refine Lv 4 U ?_;refine A6 U U U U (fun g4=>?_) (fun g4=>?_);have h4:=HF g4;refine Lw U ?_;rotate_left;have h4:=HG g4;refine Lw U ?_;rotate_left;have h3:=HG g3;refine Lw U ?_;rotate_left;have h2:=dF g2;refine Lw U ?_;rotate_left
  .refine⟨U,U,U,?_⟩;have e:u9 x=(!kH x):=by unfold u9;rw[g2,g3,g4];rfl
   rw[e]
   (refine Am.Ab ?_;repeat (first|exact trivial|refine⟨rfl,?_⟩))
  .refine⟨U,U,U,?_⟩;have e:u9 x=(false):=by unfold u9;rw[g2,g3,g4];rfl
   rw[e]
   (refine Am.Ab ?_;repeat (first|exact trivial|refine⟨rfl,?_⟩))
  .refine⟨U,U,U,?_⟩;have e:u9 x=(false):=by unfold u9;rw[g2,g3];rfl
   rw[e]
   (refine Am.Ab ?_;repeat (first|exact trivial|refine⟨rfl,?_⟩))
  .refine⟨U,U,U,?_⟩;have e:u9 x=(false):=by unfold u9;rw[g2];rfl
   rw[e]
   (refine Am.Ab ?_;repeat (first|exact trivial|refine⟨rfl,?_⟩))
 refine Cb U (fun g2=>?_) (fun g2=>?_)
 .refine Eh U ?_;refine A9 (Er U ?_);unfold CO;rw[g1,g2];rfl
 skip
 refine Cu.cut [(70,.bool (sN x)),(6,.bool (kH x)),(5,.bool (sJ x)),(4,.bool (tV x)),(3,.bool (u7 x)),(2,.CS),(1,.J 0 0)] (Xc 1 0 [] [(0,some (.J (Wj x) 58 false))]) ?_ ?_
 .focus
   refine Do<|Ls 4 U ?_;refine A6 U U U U (fun g3=>?_) (fun g3=>?_);have h3:=dT g3;refine Lv 4 U ?_;refine A6 U U U U (fun g4=>?_) (fun g4=>?_);have h4:=HF g4;refine Lv 4 U ?_;refine A6 U U U U (fun g5=>?_) (fun g5=>?_);have h5:=HF g5;refine Lv 4 U ?_;refine A6 U U U U (fun g6=>?_) (fun g6=>?_);have h6:=HF g6;refine Lw U ?_;rotate_left;have h6:=HG g6;refine Lw U ?_;rotate_left;have h5:=HG g5;refine Lw U ?_;rotate_left;have h4:=HG g4;refine Lw U ?_;rotate_left;have h3:=dF g3;refine Lw U ?_;rotate_left
  .refine⟨U,U,U,?_⟩;have e:sN x=(!kH x):=by unfold sN;rw[g3,g4,g5,g6];rfl
   rw[e]
   (refine Am.Ab ?_;repeat (first|exact trivial|refine⟨rfl,?_⟩))
  .refine⟨U,U,U,?_⟩;have e:sN x=(false):=by unfold sN;rw[g3,g4,g5,g6];rfl
   rw[e]
   (refine Am.Ab ?_;repeat (first|exact trivial|refine⟨rfl,?_⟩))
  .refine⟨U,U,U,?_⟩;have e:sN x=(false):=by unfold sN;rw[g3,g4,g5];rfl
   rw[e]
   (refine Am.Ab ?_;repeat (first|exact trivial|refine⟨rfl,?_⟩))
  .refine⟨U,U,U,?_⟩;have e:sN x=(false):=by unfold sN;rw[g3,g4];rfl
   rw[e]
   (refine Am.Ab ?_;repeat (first|exact trivial|refine⟨rfl,?_⟩))
  .refine⟨U,U,U,?_⟩;have e:sN x=(false):=by unfold sN;rw[g3];rfl
   rw[e]
   (refine Am.Ab ?_;repeat (first|exact trivial|refine⟨rfl,?_⟩))
 refine Cb U (fun g3=>?_) (fun g3=>?_)
 .refine Ew U ?_;refine A9 (Er U ?_);unfold CO;rw[g1,g2,g3];rfl
 skip
 refine Cu.cut [(92,.bool (sO x)),(6,.bool (kH x)),(5,.bool (sJ x)),(4,.bool (tV x)),(3,.bool (u7 x)),(2,.CS),(1,.J 0 0)] (Xc 1 0 [] [(0,some (.J (Wj x) 58 false))]) ?_ ?_
 .focus
   refine Do<|Ls 4 U ?_;refine A6 U U U U (fun g4=>?_) (fun g4=>?_);have h4:=dT g4;refine Lv 4 U ?_;refine A6 U U U U (fun g5=>?_) (fun g5=>?_);have h5:=HF g5;refine Lv 4 U ?_;refine A6 U U U U (fun g6=>?_) (fun g6=>?_);have h6:=HF g6;refine Lv 4 U ?_;refine A6 U U U U (fun g7=>?_) (fun g7=>?_);have h7:=HF g7;refine Lw U ?_;rotate_left;have h7:=HG g7;refine Lw U ?_;rotate_left;have h6:=HG g6;refine Lw U ?_;rotate_left;have h5:=HG g5;refine Lw U ?_;rotate_left;have h4:=dF g4;refine Lw U ?_;rotate_left
  .refine⟨U,U,U,?_⟩;have e:sO x=(!kH x):=by unfold sO;rw[g4,g5,g6,g7];rfl
   rw[e]
   (refine Am.Ab ?_;repeat (first|exact trivial|refine⟨rfl,?_⟩))
  .refine⟨U,U,U,?_⟩;have e:sO x=(false):=by unfold sO;rw[g4,g5,g6,g7];rfl
   rw[e]
   (refine Am.Ab ?_;repeat (first|exact trivial|refine⟨rfl,?_⟩))
  .refine⟨U,U,U,?_⟩;have e:sO x=(false):=by unfold sO;rw[g4,g5,g6];rfl
   rw[e]
   (refine Am.Ab ?_;repeat (first|exact trivial|refine⟨rfl,?_⟩))
  .refine⟨U,U,U,?_⟩;have e:sO x=(false):=by unfold sO;rw[g4,g5];rfl
   rw[e]
   (refine Am.Ab ?_;repeat (first|exact trivial|refine⟨rfl,?_⟩))
  .refine⟨U,U,U,?_⟩;have e:sO x=(false):=by unfold sO;rw[g4];rfl
   rw[e]
   (refine Am.Ab ?_;repeat (first|exact trivial|refine⟨rfl,?_⟩))
 refine Cb U (fun g4=>?_) (fun g4=>?_)
 .refine Ew U ?_;refine A9 (Er U ?_);unfold CO;rw[g1,g2,g3,g4];rfl
 skip
 refine Cu.cut [(114,.bool (uA x)),(6,.bool (kH x)),(5,.bool (sJ x)),(4,.bool (tV x)),(3,.bool (u7 x)),(2,.CS),(1,.J 0 0)] (Xc 1 0 [] [(0,some (.J (Wj x) 58 false))]) ?_ ?_
 .focus
   refine Do<|Ls 4 U ?_;refine A6 U U U U (fun g5=>?_) (fun g5=>?_);have h5:=dT g5;refine Lv 4 U ?_;refine A6 U U U U (fun g6=>?_) (fun g6=>?_);have h6:=HF g6;refine Lv 4 U ?_;refine A6 U U U U (fun g7=>?_) (fun g7=>?_);have h7:=HF g7;refine Lw U ?_;rotate_left;have h7:=HG g7;refine Lw U ?_;rotate_left;have h6:=HG g6;refine Lw U ?_;rotate_left;have h5:=dF g5;refine Lw U ?_;rotate_left
  .refine⟨U,U,U,?_⟩;have e:uA x=(!sJ x):=by unfold uA;rw[g5,g6,g7];rfl
   rw[e]
   (refine Am.Ab ?_;repeat (first|exact trivial|refine⟨rfl,?_⟩))
  .refine⟨U,U,U,?_⟩;have e:uA x=(false):=by unfold uA;rw[g5,g6,g7];rfl
   rw[e]
   (refine Am.Ab ?_;repeat (first|exact trivial|refine⟨rfl,?_⟩))
  .refine⟨U,U,U,?_⟩;have e:uA x=(false):=by unfold uA;rw[g5,g6];rfl
   rw[e]
   (refine Am.Ab ?_;repeat (first|exact trivial|refine⟨rfl,?_⟩))
  .refine⟨U,U,U,?_⟩;have e:uA x=(false):=by unfold uA;rw[g5];rfl
   rw[e]
   (refine Am.Ab ?_;repeat (first|exact trivial|refine⟨rfl,?_⟩))
 refine Cb U (fun g5=>?_) (fun g5=>?_)
 .refine Eh U ?_;refine A9 (Er U ?_);unfold CO;rw[g1,g2,g3,g4,g5];rfl
 skip
 refine Cu.cut [(138,.bool (uB x)),(6,.bool (kH x)),(5,.bool (sJ x)),(4,.bool (tV x)),(3,.bool (u7 x)),(2,.CS),(1,.J 0 0)] (Xc 1 0 [] [(0,some (.J (Wj x) 58 false))]) ?_ ?_
 .focus
   refine Do<|Ls 4 U ?_;refine A6 U U U U (fun g6=>?_) (fun g6=>?_);have h6:=dT g6;refine Lv 4 U ?_;refine A6 U U U U (fun g7=>?_) (fun g7=>?_);have h7:=HF g7;refine Lv 4 U ?_;refine A6 U U U U (fun g8=>?_) (fun g8=>?_);have h8:=HF g8;refine Lw U ?_;rotate_left;have h8:=HG g8;refine Lw U ?_;rotate_left;have h7:=HG g7;refine Lw U ?_;rotate_left;have h6:=dF g6;refine Lw U ?_;rotate_left
  .refine⟨U,U,U,?_⟩;have e:uB x=(!kH x):=by unfold uB;rw[g6,g7,g8];rfl
   rw[e]
   (refine Am.Ab ?_;repeat (first|exact trivial|refine⟨rfl,?_⟩))
  .refine⟨U,U,U,?_⟩;have e:uB x=(false):=by unfold uB;rw[g6,g7,g8];rfl
   rw[e]
   (refine Am.Ab ?_;repeat (first|exact trivial|refine⟨rfl,?_⟩))
  .refine⟨U,U,U,?_⟩;have e:uB x=(false):=by unfold uB;rw[g6,g7];rfl
   rw[e]
   (refine Am.Ab ?_;repeat (first|exact trivial|refine⟨rfl,?_⟩))
  .refine⟨U,U,U,?_⟩;have e:uB x=(false):=by unfold uB;rw[g6];rfl
   rw[e]
   (refine Am.Ab ?_;repeat (first|exact trivial|refine⟨rfl,?_⟩))
 refine Cb U (fun g6=>?_) (fun g6=>?_)
 .refine Eh U ?_;refine Se (Er U ?_);unfold CO;rw[g1,g2,g3,g4,g5,g6];rfl
 refine Sk<|Ew U ?_;refine Se (Er U ?_);unfold CO;rw[g1,g2,g3,g4,g5,g6];rfl
section
variable {K : FuncId -> List AV -> Option AV} {m : Nat}
def ye (p:Int->Bool) (l:List Int):Int:=if rM (fun x=> !p x) l<l.length then((rM (fun x=> !p x) l:Nat):Int)else-1
theorem yf {l:List Int}:decide (0<=ye p l)=l.any p:=by
 rw[T3];unfold ye;by_cases h:rM (fun x=> !p x) l<l.length
 .rw[if_pos h,decide_eq_true h,decide_eq_true (by omega)]
 .rw[if_neg h,decide_eq_false h];rfl
theorem Mz (hK:K 120=fun _=>none) (hb:CV (jL m K) g=true)
 (Y8:∀s',s'.b=st.b->s'.a=st.a->∀r,Co (jL m K) g (.int .i64 r::cap) s' (.bool (p r))) (l:List Int) (hn:l.length<=4000):
 Co (jL m K) 120 [Cq CN 1 l,.an (.func g) [] cap] st (.int .i64 (ye p l)):=by
 refine Co.flat (fn:=Tryz.f120) (by show K 120 _=none;rw[hK]) (by kernel_rfl) U U U U (fun _ _=>rfl) (fun _=>rfl) ?_;have hle:=twA_le (fun x=> !p x) l;refine Ew U<|Sq<|Ew U<|Sb ?_;refine Ai (fun i:Nat=>([(8,.int .i64 (i:Nat)),(7,.int .i64 (l.length:Nat)),(1,.an (.func g) [] cap),(0,Cq CN 1 l)],st.u)) (fun i=>l.length-i) (fun i=>i<=rM (fun x=> !p x) l) 0 (Qo _) U (Ab (by repeat' constructor)) ?_;intro i hi;dsimp only at hi|-;by_cases h:i<l.length
 .have hp:=Af AD h;have hs:=QE (p:=fun x=> !p x) hi (Qi h);focus
   refine Ew U<|Sq ?_;refine Cd U (fun h1=>?_) (fun h1=>?_);refine Sk<|Sq<|Sb<|Ew U<|Es<|Lv 3 U<|Lq (kv U hp) U<|Lv 1 U ?_;rotate_left;exact absurd h1 (by omega)
  refine Lo (Eb U U U hb U (Y8 st.u U U l[i])) U ?_;focus
   refine Ld ?_;refine Cb U (fun g2=>?_) (fun g2=>?_);refine Ew U ?_;rotate_left;refine Sk<|Sr ?_;refine Lq (ka (b:=1) U (by omega)) U ?_;refine Lw U ?_;rotate_left
  .refine Se ⟨.inl U,U,U,_,Ac U U,?_⟩;have e:i=rM (fun x=> !p x) l:=by
    rw[g2]at hs;have:=mt hs.2 (by simp);omega
   unfold ye;rw[<-e,if_pos h];rfl
  .refine⟨i+1,?_,by show l.length-(i+1)<l.length-i;omega,U,U,Ab (by repeat' constructor)⟩;rw[g2]at hs;have:=hs.1 rfl;omega
 .focus
   refine Ew U<|Sq ?_;refine Cd U (fun h1=>?_) (fun h1=>?_);exact absurd h1 (by omega);refine Sx<|A0 U<|Ew U ?_;rotate_left
  refine Se ⟨.inl U,U,U,_,Ac U U,?_⟩;unfold ye;rw[if_neg (by omega)];rfl
theorem En (hK:K 120=fun _=>none) (hK2:K 70=fun _=>none) :
 Co (jL m K) 70 [.Ca,.an (.func g) [] cap] st (.bool false):=by
 refine Co.flat (fn:=Tryz.f70) (by show K 70 _=none;rw[hK2]) (by kernel_rfl) U U U U (fun _ _=>rfl) (fun _=>rfl) ?_;have hi:Co (jL m K) 120 [.Ca,.an (.func g) [] cap] st.u (.int .i64 (-1)):=by
  refine Co.flat (fn:=Tryz.f120) (by show K 120 _=none;rw[hK]) (by kernel_rfl) U U U U (fun _ _=>rfl) (fun _=>rfl) ?_;refine Ew U<|Sq<|Ew U<|Sb<|A2<|Ew U<|Sq<|Tf U<|Sx<|A0 U<|Ew U ?_;exact Se ⟨.inl U,U,U,_,Ac U U,U⟩
 refine Ew U<|Es<|Lv 2 U<|Lo (A7 U U (by kernel_rfl) U hi) U<|Lw U ?_;exact Se ⟨.inl U,U,U,_,Ac U U,U⟩
theorem DW (hK:K 120=fun _=>none) (hK2:K 70=fun _=>none) (hb:CV (jL m K) g=true)
 (Y8:∀s',s'.b=st.b->s'.a=st.a->∀r,Co (jL m K) g (.int .i64 r::cap) s' (.bool (p r))) (l:List Int) (hn:l.length<=4000):
 Co (jL m K) 70 [Cq CN 1 l,.an (.func g) [] cap] st (.bool (l.any p)):=by
 refine Co.flat (fn:=Tryz.f70) (by show K 70 _=none;rw[hK2]) (by kernel_rfl) U U U U (fun _ _=>rfl) (fun _=>rfl) ?_;have hi:=Mz hK (st:=st.u) hb (fun s' h1 h2 r=>Y8 s' h1 h2 r) l hn;refine Ew U<|Es<|Lv 2 U<|Lo (A7 U U (by kernel_rfl) U hi) U<|Lw U ?_;refine Se ⟨.inl U,U,U,_,Ac U U,?_⟩;rw[<-yf];rfl
end
noncomputable def K11:=WA K10 51 (fun x:X8=>[.O (Wj x)]) (fun x=>shA (CO x))
theorem Br {x:X8}:K11 51 [.O (Wj x)]=some (shA (CO x)):=
 Ak (enc:=fun x:X8=>[.O (Wj x)]) (fun a b h=>by rw[ME _ _ (AV.O.inj (List.cons.inj h).1)]) x
theorem RT (s:ShT):Cr 40 (shA s)=true:=by cases s<;>rfl
theorem all11 (h:Wh Tryz.prog 10 [] (.bool true)):C6 Tryz.prog K11:=Aw Au (all10 h) (fun x=>TG x) (fun _=>rfl) (fun _=>RT _)
def qg (op n:Int) (args:List Int):AV:= .O [.int .i64 op,.int .i64 n,Cq CN 1 args]
theorem U1 {t:Int} (ht:t=6\/t=7\/9<=t/\t<=15):XJ cons Cy t n k=(decide (n=0)&&decide ((k:Int)=2)):=by
 unfold XJ;rw[if_neg (by omega),if_neg (by omega),if_neg (by omega),if_neg (by omega),if_pos ht]
theorem yh {t:Int} (ht:t=6\/t=7\/9<=t/\t<=15) (hn:n=0):decide ((k:Int)=2)=XJ cons Cy t n k:=by rw[U1 ht,decide_eq_true hn];rfl
theorem yi {t:Int} (ht:t=6\/t=7\/9<=t/\t<=15) (hn:¬n=0):false=XJ cons Cy t n k:=by rw[U1 ht,decide_eq_false hn];rfl
theorem mv_none {t:Int} (ht:¬(t=2\/t=3\/t=4\/t=5\/t=6\/t=7\/9<=t/\t<=15)):false=XJ cons Cy t n k:=by
 unfold XJ;rw[if_neg (by omega),if_neg (by omega),if_neg (by omega),if_neg (by omega),if_neg (by omega)]
theorem yj (cons Cy:List Cw) (op n:Int) (args:List Int) (hc:cons.length<=4000) (hf:Cy.length<=4000):Co (EK K11) 81 [.O [Cq Ok 2 cons,Cq Ok 2 Cy],qg op n args] S0 (.bool (XJ cons Cy op n args.length)):=by
 refine As U ?_;focus
  iterate 2 refine Eh U ?_
  refine Sq<|Eh U<|Sb<|Ew U ?_;refine Cd U (fun h1=>?_) (fun h1=>?_);refine Es<|Ls 2 U ?_;refine Lo (kc U (Ff)) U<|qm U ?_;refine Bb U (fun g2=>?_) (fun g2=>?_);refine Lw U ?_;refine Se (Er U ?_);refine Aa ?_;rotate_left;refine Lw U ?_;refine Se (Er U ?_);refine Aa ?_;rotate_left;refine Ew U ?_;refine Cd U (fun h3=>?_) (fun h3=>?_);refine Es<|Ls 5 U<|Lq (ks U (by omega)) U ?_;refine Lo (kc U (Ff)) U<|qm U ?_;refine Bb U (fun g4=>?_) (fun g4=>?_);refine Ls 5 U ?_;rotate_left;refine Lw U ?_;refine Se (Er U ?_);refine Aa ?_;rotate_left;refine Ew U ?_;refine Cd U (fun h5=>?_) (fun h5=>?_);refine Es<|Ls 5 U<|Lq (ks U (by omega)) U ?_;refine Lo (kc U (Ff)) U<|qm U ?_;refine Bb U (fun g6=>?_) (fun g6=>?_);refine Ls 5 U ?_;rotate_left;refine Lw U ?_;refine Se (Er U ?_);refine Aa ?_;rotate_left;refine Ew U ?_;refine Cd U (fun h7=>?_) (fun h7=>?_);refine Es<|Ls 5 U<|Lq (ks U (by omega)) U ?_
  refine Lo (kc U (Ff)) U<|qm U ?_;refine Bb U (fun g8=>?_) (fun g8=>?_);refine Ls 5 U ?_;rotate_left;refine Lw U ?_;refine Se (Er U ?_);refine Aa ?_;rotate_left;refine Sq<|Ew U ?_;refine Cd U (fun h9=>?_) (fun h9=>?_);refine Sk<|Tt U<|Es<|Ls 4 U ?_;refine Bd U (fun h10=>?_) (fun h10=>?_);refine Lw U ?_;refine Se (Er U ?_);refine Aa ?_;rotate_left;refine Lw U ?_;refine Se (Er U ?_);refine Aa ?_;rotate_left;refine Ew U ?_;refine Cd U (fun h11=>?_) (fun h11=>?_);refine Sk<|Tt U<|Es<|Ls 4 U ?_;refine Bd U (fun h12=>?_) (fun h12=>?_);refine Lw U ?_;refine Se (Er U ?_);refine Aa ?_;rotate_left;refine Lw U ?_;refine Se (Er U ?_);refine Aa ?_;rotate_left;refine Ew U ?_;refine Cd U (fun h13=>?_) (fun h13=>?_);refine Sk<|Tt U<|Es<|Ls 4 U ?_;refine Bd U (fun h14=>?_) (fun h14=>?_);refine Lw U ?_;refine Se (Er U ?_);refine Aa ?_;rotate_left;refine Lw U ?_;refine Se (Er U ?_);refine Aa ?_
  rotate_left;refine Ew U ?_;refine Cd U (fun h15=>?_) (fun h15=>?_);refine Sk<|Tt U<|Es<|Ls 4 U ?_;refine Bd U (fun h16=>?_) (fun h16=>?_);refine Lw U ?_;refine Se (Er U ?_);refine Aa ?_;rotate_left;refine Lw U ?_;refine Se (Er U ?_);refine Aa ?_;rotate_left;refine Ew U ?_;refine Cd U (fun h17=>?_) (fun h17=>?_);refine Sk<|Tt U<|Es<|Ls 4 U ?_;refine Bd U (fun h18=>?_) (fun h18=>?_);refine Lw U ?_;refine Se (Er U ?_);refine Aa ?_;rotate_left;refine Lw U ?_;refine Se (Er U ?_);refine Aa ?_;rotate_left;refine Ew U ?_;refine Cd U (fun h19=>?_) (fun h19=>?_);refine Sk<|Tt U<|Es<|Ls 4 U ?_;refine Bd U (fun rj=>?_) (fun rj=>?_);refine Lw U ?_;refine Se (Er U ?_);refine Aa ?_;rotate_left;refine Lw U ?_;refine Se (Er U ?_);refine Aa ?_;rotate_left;refine Ew U ?_;refine Cd U (fun h21=>?_) (fun h21=>?_);refine Sk<|Tt U<|Es<|Ls 4 U ?_;refine Bd U (fun h22=>?_) (fun h22=>?_);refine Lw U ?_
  refine Se (Er U ?_);refine Aa ?_;rotate_left;refine Lw U ?_;refine Se (Er U ?_);refine Aa ?_;rotate_left;refine Ew U ?_;refine Cd U (fun h23=>?_) (fun h23=>?_);refine Sk<|Tt U<|Es<|Ls 4 U ?_;refine Bd U (fun h24=>?_) (fun h24=>?_);refine Lw U ?_;refine Se (Er U ?_);refine Aa ?_;rotate_left;refine Lw U ?_;refine Se (Er U ?_);refine Aa ?_;rotate_left;refine Sr<|Lw U ?_;refine Cd U (fun h25=>?_) (fun h25=>?_);refine Es<|Ls 4 U ?_;refine Bd U (fun h26=>?_) (fun h26=>?_);refine Lw U ?_;refine Se (Er U ?_);refine Aa ?_;rotate_left;refine Lw U ?_;refine Se (Er U ?_);refine Aa ?_;rotate_left;refine Sk<|Ew U ?_;refine Se (Er U ?_);refine Aa ?_;rotate_left
 .simp only[XJ,h1,if_true,g2,Bool.and_true]
 .simp only[XJ,h1,if_true,g2,Bool.and_false]
 .obtain⟨hz,C5⟩:=VW.1 g4;have hp:=Af Av (l:=cons) (i:=n.toNat) (by omega);refine Lh U U (AW U ra Nf U U (by first|assumption|omega) hp)<|Lw U ?_;refine Se (Er U ?_);refine Aa ?_;simp only[XJ,h3,g4,g_,Ao (l:=cons) (i:=n.toNat) (d:=([],0)) (by omega)];rfl
 .simp only[XJ,h3,g4];rfl
 .obtain⟨hz,C5⟩:=VW.1 g6;have hp:=Af Av (l:=Cy) (i:=n.toNat) (by omega);refine Lh U U (AW U ra Nf U U (by first|assumption|omega) hp)<|Lw U ?_;refine Se (Er U ?_);refine Aa ?_;simp only[XJ,h5,g6,g_,Ao (l:=Cy) (i:=n.toNat) (d:=([],0)) (by omega)];rfl
 .simp only[XJ,h5,g6];rfl
 .obtain⟨hz,C5⟩:=VW.1 g8;have hp:=Af Av (l:=Cy) (i:=n.toNat) (by omega);refine Lh U U (AW U ra Nf U U (by first|assumption|omega) hp)<|Lw U ?_;refine Se (Er U ?_);refine Aa ?_;simp only[XJ,h7,g8,g_,Ao (l:=Cy) (i:=n.toNat) (d:=([],0)) (by omega)];rfl
 .simp only[XJ,h7,g8];rfl
 all_goals first|exact yh (by omega) ‹_›|exact yi (by omega) ‹_›|exact mv_none (by omega)
abbrev MakT:= {p:List Cw×List Cw×Int×Int×List Int//p.1.length<=4000/\p.2.1.length<=4000}
noncomputable def K12:=WA K11 81 (fun p:MakT=>[.O [Cq Ok 2 p.1.1,Cq Ok 2 p.1.2.1],qg p.1.2.2.1 p.1.2.2.2.1 p.1.2.2.2.2]) (fun p=> .bool (XJ p.1.1 p.1.2.1 p.1.2.2.1 p.1.2.2.2.1 p.1.2.2.2.2.length))
theorem hit_81 {op:Int} (h1:cons.length<=4000) (h2:Cy.length<=4000):K12 81 [.O [Cq Ok 2 cons,Cq Ok 2 Cy],qg op n args]=some (.bool (XJ cons Cy op n args.length)):=
 Ak (f:=81) (enc:=fun p:MakT=>[.O [Cq Ok 2 p.1.1,Cq Ok 2 p.1.2.1],qg p.1.2.2.1 p.1.2.2.2.1 p.1.2.2.2.2]) (res:=fun p=> .bool (XJ p.1.1 p.1.2.1 p.1.2.2.1 p.1.2.2.2.1 p.1.2.2.2.2.length)) (by
  rintro⟨⟨a,b,c,d,e⟩,_⟩ ⟨⟨a',b',c',d',e'⟩,_⟩ h;simp only[List.cons.injEq,and_true,AV.O.injEq,qg,AV.int.injEq,true_and]at h;obtain⟨⟨h1,h2⟩,rfl,rfl,h5⟩:=h;obtain rfl:=AT Dc Av h1;obtain rfl:=AT Dc Av h2;obtain rfl:=AT FV AD h5;rfl) ⟨(cons,Cy,op,n,args),h1,h2⟩
theorem all12 (h:Wh Tryz.prog 10 [] (.bool true)):C6 Tryz.prog K12:=Aw Au (all11 h) (fun p:MakT=>yj p.1.1 p.1.2.1 p.1.2.2.1 p.1.2.2.2.1 p.1.2.2.2.2 p.2.1 p.2.2) (fun _=>rfl) (fun _=>rfl)
theorem yk (r:Int) (l:List WL):Co (EK K12) 341 [.O [.int .i64 r,Cq Y9 2 l]] S0 (Cq CN 1 [r]):=by
 refine As U<|Eh U<|Es<|Ls 2 U<|Lo (Bo 2 U I1 D9 qZ U U U U) U<|Lw U ?_;refine Se (Er U ?_);rfl
noncomputable def K12a:=WA K12 341 (fun p:Int×List WL=>[.O [.int .i64 p.1,Cq Y9 2 p.2]]) (fun p=>Cq CN 1 [p.1])
theorem US {l:List WL}:K12a 341 [.O [.int .i64 r,Cq Y9 2 l]]=some (Cq CN 1 [r]):=
 Ak (by
  rintro⟨a,b⟩ ⟨c,d⟩ h;simp only[List.cons.injEq,and_true,AV.O.injEq,AV.int.injEq,true_and]at h;obtain⟨rfl,_⟩:=h;rfl) (r,l)
theorem yl (r:Int):Co (EK K12a) 344 [.O [.int .i64 r]] S0 (Cq CN 1 [r]):=by
 refine As U<|Eh U<|Es<|Ls 2 U<|Lo (Bo 2 U I1 D9 qZ U U U U) U<|Lw U ?_;refine Se (Er U ?_);rfl
noncomputable def rO:=WA K12a 344 (fun r:Int=>[.O [.int .i64 r]]) (fun r=>Cq CN 1 [r])
theorem UR:rO 344 [.O [.int .i64 r]]=some (Cq CN 1 [r]):=
 Ak (by
  intro a b h;simp only[List.cons.injEq,and_true,AV.O.injEq,AV.int.injEq,true_and]at h;rw[h]) r
theorem all13 (h:Wh Tryz.prog 10 [] (.bool true)):C6 Tryz.prog rO:=
 Aw Au (Aw Au (all12 h) (fun p:Int×List WL=>yk p.1 p.2) (fun _=>rfl) (fun _=>rfl)) (fun r=>yl r) (fun _=>rfl) (fun _=>rfl)
theorem Kc (l:List α) (d:α) (f:α->Bool):l.all f=(List.range l.length).all fun i=>f (l.getD i d):=by
 rw[Bool.eq_iff_iff,List.all_eq_true,List.all_eq_true];constructor
 .intro h i hi;rw[Ao (List.mem_range.1 hi)];exact h _ (Ql _)
 .intro h x hx;obtain⟨i,hi,rfl⟩:=List.mem_iff_getElem.1 hx;have:=h i (List.mem_range.2 hi);rwa[Ao hi]at this
theorem bad_to (r:Int) (s:St):Co (EK rO) 78 [.int .i64 r] s (.bool (!X1 r 0 59)):=by
 refine Co.flat (fn:=Tryz.f78) U (by kernel_rfl) U U U U (fun _ _=>rfl) (fun _=>rfl)<|Ew U<|Es<|qm U ?_;refine Lo (kc U (Ff)) U<|Lw U ?_;exact Se ⟨.inl U,U,U,_,Ac U U,U⟩
def tgt (c:Cj) (k:Nat) (n:Int):Bool:=X1 n ((k+1:Nat):Int) ((c.a.length-1:Nat):Int)
theorem IP (hk:k<c.a.length) (hn:c.a.length<=4000) (h0:s.b.g b0=some (.J (CJ c) 28 false)) (h1:s.b.g b1=some (.J [.int .i64 (k:Nat)] 3 false)) (n:Int):
 Co (EK rO) 79 [.int .i64 n,.J b1 0,.J b0 0] s (.bool (tgt c k n)):=by
 refine Co.flat (fn:=Tryz.f79) U (by kernel_rfl) U U U U (fun _ _=>rfl) (fun _=>rfl) ?_;have h0':s.u.b.g b0=some (.J (CJ c) 28 false):=h0;have h1':s.u.b.g b1=some (.J [.int .i64 (k:Nat)] 3 false):=h1;refine Ew U<|Es<|qm U<|Lo (kl U h1' U) U ?_;refine Lq (ka (b:=1) U (by omega)) U ?_;refine Lv 1 U<|Lo (kl U h0' U) U<|Lv 1 U<|Lq (Bj (b:=1) U ey U U (by omega)) U ?_;refine Lo (kc U (Ff)) U<|Lw U ?_;exact Se ⟨.inl U,U,U,_,Ac U U,U⟩
theorem Pd (hk:k<c.a.length) (hn:c.a.length<=4000) {b2:Nat} (h0:s.b.g b0=some (.J (CJ c) 28 false)) (h1:s.b.g b1=some (.J [.int .i64 (k:Nat)] 3 false))
 (h2:s.b.g b2=some (.J [.an (.func 79) [] [.J b1 0,.J b0 0]] 146 false)) (n:Int):
 Co (EK rO) 80 [.int .i64 n,.J b2 0] s (.bool (!tgt c k n)):=by
 refine Co.flat (fn:=Tryz.f80) U (by kernel_rfl) U U U U (fun _ _=>rfl) (fun _=>rfl) ?_;have h2':s.u.b.g b2=some (.J [.an (.func 79) [] [.J b1 0,.J b0 0]] 146 false):=h2;have ht:=IP hk hn (s:=s.u) h0 h1 n;refine Ew U<|Es<|Lo (kl U h2' U) U<|qm U<|Lo (Eb U U U (by kernel_rfl) U ht) U<|Lw U ?_;exact Se ⟨.inl U,U,U,_,Ac U U,U⟩
theorem TX (l:List Int):(l.any fun r=> !X1 r 0 59)= !eA l:=by
 unfold eA;rw[<-List.not_all_eq_any_not]
 congr 1
 exact Kc l 0 (fun r=>X1 r 0 59)
theorem TS {l:List Int} (hn:l.length<=4000):Co (EK rO) 70 [Cq CN 1 l,.an (.func 78) [] []] s (.bool (!eA l)):=by
 rw[<-TX];exact DW U U (by kernel_rfl) (fun s' _ _ r=>bad_to r s') l hn
def nz (c:Cj) (k:Nat):ShT->Bool
 | .Y r l=>X1 r 0 59&&gO c.b.length c.a.length k l
 | .Z l=>Yv c.a.length k l
 | .mv=>true
 | .kt=>true
 | .O o n l=>eA l&&XJ c.b c.c o n l.length
 | .J r=>X1 r 0 59
 | .no=>false
theorem tg_eq (x:X8):(!sJ x)=decide ((x.d.length:Int)=0):=by unfold sJ;rw[P3,Bool.not_not]
theorem cs_eq (x:X8):(!tV x)=decide ((x.b.length:Int)=0):=by unfold tV;rw[P3,Bool.not_not]
theorem rg_eq (x:X8):(!u7 x)=decide (x.a=0):=by unfold u7;rw[Bool.not_not]
theorem nd_eq (x:X8):(!kH x)=Y4 x:=by unfold kH;rw[Bool.not_not]
theorem AY (c:Cj) (k:Nat) (x:X8):YO c k x=nz c k (CO x):=by
 unfold CO;unfold yd u9 sN sO uA uB;simp only[tg_eq,cs_eq,rg_eq,nd_eq];by_cases h1:x.op=1
 .rw[Io h1];simp only[h1];cases Y4 x<;>cases decide ((x.d.length:Int)=0)<;>rfl
 by_cases h2:x.op=2
 .rw[Oc h2];simp only[h2];cases Y4 x<;>cases decide ((x.b.length:Int)=0)<;>cases decide (x.a=0)<;>rfl
 by_cases h3:x.op=3
 .rw[UJ (.inl h3)];simp only[h3];cases Y4 x<;>cases decide ((x.b.length:Int)=0)<;>cases decide (x.a=0)<;>cases decide ((x.d.length:Int)=0)<;>rfl
 by_cases h4:x.op=4
 .rw[UJ (.inr h4)];simp only[h4];cases Y4 x<;>cases decide ((x.b.length:Int)=0)<;>cases decide (x.a=0)<;>cases decide ((x.d.length:Int)=0)<;>rfl
 by_cases h5:x.op=5
 .rw[UI h5];simp only[h5];cases decide ((x.b.length:Int)=0)<;>cases decide (x.a=0)<;>cases decide ((x.d.length:Int)=0)<;>rfl
 by_cases h6:x.op=6
 .rw[Ob h6];simp only[h6];cases Y4 x<;>cases decide ((x.b.length:Int)=0)<;>cases decide ((x.d.length:Int)=0)<;>first|rfl|(cases X1 x.a 0 59<;>rfl)
 rw[Ri (by omega)];simp only[h1,h2,h3,h4,h5,h6,decide_false,Bool.false_and];rfl
theorem GI (r:Int):eA [r]=X1 r 0 59:=by
 show((List.range 1).all _)=_;simp[List.range_succ]
theorem Pr:Co (EK rO) 70 [.Ca,.an (.func 78) [] []] s (.bool false):=En rfl rfl
theorem Pn {x:X8} {l:List WL} (h:CO x= .Y r l):l=x.b:=by
 unfold CO at h;repeat (split at h;first|(cases h;rfl)|cases h|skip)
 all_goals cases h
theorem KM {x:X8} {l:List Int} (h:CO x= .Z l):l=x.d:=by
 unfold CO at h;repeat (split at h;first|(cases h;rfl)|cases h|skip)
 all_goals cases h
theorem Gu {x:X8} {o:Int} {l:List Int} (h:CO x= .O o n l):l=x.args:=by
 unfold CO at h;repeat (split at h;first|(cases h;rfl)|cases h|skip)
 all_goals cases h
theorem P8 (c:Cj) (k:Nat) (hf:r_ c) (hk:k<c.a.length) (r:Int) (l:List WL) (hs:CO c.a[k]= .Y r l):Co (EK rO) 38 [.O (CJ c),.int .i64 (k:Nat)] S0 (.bool (YO c k c.a[k])):=by
 refine As U ?_;have Z4:=Af A8 hk;have ha:=hf.args _ (Ql hk);have fp:=hf.b;have pR:=hf.e;have uY:=hf.d;have oG:=hf.f _ (Ql hk);have fq:=hf.a _ (Ql hk);generalize hx:c.a[k]=x at*;refine Eh U<|Es<|Ls 3 U<|Lq (kv U Z4) U<|Lv 1 U ?_;refine Lo (kc U (Br)) U<|Lw U<|Sq ?_;rw[hs];obtain rfl:=Pn hs;have fi:=AY c k x;rw[hs]at fi;generalize x.b=l at*;focus
  refine Es<|qm U<|Lq (D7 (neg:=false) U JB U U U) U<|Lv 2 U ?_;refine Lg U U (BX U U U U DR (by kernel_rfl) U (Co.XF (US))) ?_;refine Lg U U (A7 U U (by kernel_rfl) U (TS (by first|assumption|omega|(simp only[LL];omega)))) ?_;refine Lw U ?_;refine Ec U (fun g1=>?_) (fun g1=>?_);have h1:=HF g1;refine Ew U ?_;refine Se (Er U ?_);refine Aa ?_;rotate_left;have h1:=HG g1;refine Sk<|Eh U<|Sq<|Ew U<|Sb<|Ew U<|Tt U ?_;iterate 2 refine Eh U ?_
  refine Sb ?_;rotate_left
 .rw[fi,nz,<-GI,h1];rfl
 refine Ai (fun y:Nat×St=>([(33,.int .i64 (y.1:Nat)),(32,.int .i64 (l.length:Nat)),(31,Cq Y9 2 l),(7,.J 3 0),(6,.J 2 0),(4,.bool false),(2,.J 0 0)],y.2)) (fun y=>l.length-y.1)
  (fun y=>y.1<=l.length/\(List.range y.1).all (aS c.b.length c.a.length k l)=true/\(y.2.b.g 0=some (.J (CJ c) 28 false)/\y.2.b.g 1=some (.J [.int .i64 (k:Nat)] 3 false)/\y.2.b.g 2=some (.J [.an (.func 79) [] [.J 1 0,.J 0 0]] 146 false)/\y.2.b.g 3=some (.J [.int .i64 r,Cq Y9 2 l] 114 false))/\4<=y.2.a/\y.2.c=0/\y.2.d=[])
  (0,Xc 4 0 [] [(3,some (.J [.int .i64 r,Cq Y9 2 l] 114 false)),(3,some (.J [.int .i64 0,.Ca] 114 false)),(2,some (.J [.an (.func 79) [] [.J 1 0,.J 0 0]] 146 false)),(2,some (.J [.C7] 146 false)),(1,some (.J [.int .i64 (k:Nat)] 3 false)),(0,some (.J (CJ c) 28 false))]) ⟨Qo _,rfl,⟨AM 0,AM 1,AM 2,AM 3⟩,Qj _,rfl,rfl⟩ rfl (Ab (by repeat' constructor)) ?_
 rintro⟨i,st⟩ ⟨hi,Zc,⟨bD,Yw,iu,hg3⟩,hn,hb,Yc⟩;dsimp only at hi Zc bD Yw iu hg3 hn hb Yc|-;by_cases h:i<l.length
 .have hp:=Af BE h;have ng:=Af BE (l:=l) (i:=i-1) (by omega);have Y0:aS c.b.length c.a.length k l i=((X1 l[i].1 0 (c.b.length-1)&& !(decide (0<(i:Int))&&decide (l[i].1<=l[i-1].1)))&&tgt c k l[i].2):=by
   unfold aS;rw[Ao h,Ao (by omega)];rfl
  have Xo:aS c.b.length c.a.length k l i=false->false=gO c.b.length c.a.length k l:=fun hf=>(Kz h hf).symm;obtain⟨qw,ct,hc3,q8,yb,uZ,hc7⟩:=AU (st:=st) (z:=[.int .i64 0,.int .i64 0]) (cs:=Y9 l[i]) (T:=60);have CU:=(uZ (by omega)).trans Yc;have YH:=yb.trans hb;have n8:=(q8 0 (by omega)).trans bD;have hg1':=(q8 1 (by omega)).trans Yw;have hg2':=(q8 2 (by omega)).trans iu;have hg3':=(q8 3 (by omega)).trans hg3;have nv:aS c.b.length c.a.length k l i=false->false=YO c k x:=fun hf=>by rw[fi,nz,<-Xo hf,Bool.and_false]
  focus
   refine Ew U<|Sq ?_;refine Ec U (fun g2=>?_) (fun g2=>?_);have h2:=dT g2;refine Sk<|Sq<|Sb<|Es<|qm U<|Lq (kv U hp) U<|Lv 1 U<|Lo (kz U) U<|qa U<|Ln (kw U qw U) U<|Ld<|Ad (by kernel_rfl)<|Nv 1 U<|Nm U ct U (.inl U) U<|Nv 2 U<|Nm U n8 U (.inl U) U ?_;refine Nv 1 U<|Nq (ks U (by omega)) U ?_;refine Na (kC U (Ff)) (.inl U) U<|Nv 2 U ?_;refine Kk U U U U (fun g3=>?_) (fun g3=>?_);have h3:=HF g3;iterate 3 refine Nk U g3 ?_
   refine Nv 10 U<|Nk U g3<|Nq (oT U g3 U) U<|Nw U<|Tt U<|Ew U ?_;refine Se ⟨.inl U,U,CU,YH,_,_,_,(Ac U U),U,U,?_⟩;refine Aa ?_;rotate_left;have h3:=HG g3;iterate 3 refine Ng U g3 (kq U) ?_
   refine Kk U U U U (fun g4=>?_) (fun g4=>?_);have h4:=dT g4;refine Ng U g4 (kq U)<|Nm U ct U (AF U U U U g4) U<|Ng U g4 (kq U)<|Nm U hg3' U (AF U U U U g4) U<|Ng U g4 (kq U)<|Ng U g4 (Bj (b:=1) U ey U U (by omega))<|Ng U g4 (kv U ng) ?_;iterate 3 refine Ng U g4 (kq U) ?_
   refine Ng U g3 (oT U g4 U)<|Nq (oF U g3 U) U<|Nv 1 U ?_;refine Kk U U U U (fun g5=>?_) (fun g5=>?_);have h5:=dT g5;iterate 5 refine Nk U g5 ?_
   refine Nq (oT U g5 U) U<|Cz.done<|Tt U<|Ew U ?_;refine Se ⟨.inl U,U,CU,YH,_,_,_,(Ac U U),U,U,?_⟩;refine Aa ?_;rotate_left;have h5:=dF g5;refine Nm U hg2' U (AF U U U U g5) U<|Ng U g5 (kq U)<|Nm U ct U (AF U U U U g5) U ?_;rotate_left;have h4:=dF g4;iterate 10 refine Nk U g4 ?_
   refine Ng U g3 (oF U g4 U)<|Nq (oF U g3 U) U<|Nv 1 U<|Nm U hg2' U (gG U) U<|Nv 1 U<|Nm U ct U (gG U) U ?_;rotate_left;have h2:=dF g2;exact absurd h2 (by omega)
  .exact nv (by rw[Y0,h3];rfl)
  .exact nv (by rw[Y0,h3,g4,g5];rfl)
  .refine Cz.look (by kernel_rfl) (fun _ _=>rfl) (Eb U U U (by kernel_rfl) U (IP (s:=St.B _ _) hk uY n8 hg1' l[i].2)) U (AF U U U U g5) U U ?_;focus
    refine Ng U g5 (kq U)<|Nq (oF U g5 U) U<|Cz.done ?_;refine Ec U (fun g6=>?_) (fun g6=>?_);have h6:=HF g6;refine Ew U ?_;refine Se ⟨.inl U,U,CU,YH,_,_,_,(Ac U U),U,U,?_⟩;refine Aa ?_;rotate_left;have h6:=HG g6;refine Sk<|Sr ?_;refine Lq (ka (b:=1) U (by omega)) U ?_;refine Lw U ?_;rotate_left
   .exact nv (by rw[Y0,h6,Bool.and_false])
   .exact⟨(i+1,_),⟨h,D0 Zc (by rw[Y0,h3,g4,g5,h6];rfl),⟨n8,hg1',hg2',hg3'⟩,Nat.le_succ_of_le hn,YH,CU⟩,by show l.length-(i+1)<l.length-i;omega,U,U,Ab (by repeat' constructor)⟩
  .refine Cz.look (by kernel_rfl) (fun _ _=>rfl) (Eb U U U (by kernel_rfl) U (IP (s:=St.B _ _) hk uY n8 hg1' l[i].2)) U (gG U) U U ?_;focus
    refine Nw U ?_;refine Ec U (fun g5=>?_) (fun g5=>?_);have h5:=HF g5;refine Ew U ?_;refine Se ⟨.inl U,U,CU,YH,_,_,_,(Ac U U),U,U,?_⟩;refine Aa ?_;rotate_left;have h5:=HG g5;refine Sk<|Sr ?_;refine Lq (ka (b:=1) U (by omega)) U ?_;refine Lw U ?_;rotate_left
   .exact nv (by rw[Y0,h5,Bool.and_false])
   .exact⟨(i+1,_),⟨h,D0 Zc (by rw[Y0,h3,g4,h5];rfl),⟨n8,hg1',hg2',hg3'⟩,Nat.le_succ_of_le hn,YH,CU⟩,by show l.length-(i+1)<l.length-i;omega,U,U,Ab (by repeat' constructor)⟩
 .focus
   refine Ew U<|Sq ?_;refine Ec U (fun g2=>?_) (fun g2=>?_);have h2:=dT g2;exact absurd h2 (by omega);have h2:=dF g2;refine Sx<|A0 U<|Ew U ?_;refine Se ⟨.inl U,U,Yc,hb,_,_,_,(Ac U U),U,U,?_⟩;refine Aa ?_;rotate_left
  obtain rfl:i=l.length:=by omega
  rw[fi,nz,<-GI,h1];exact Zc.symm
theorem SG (c:Cj) (k:Nat) (hf:r_ c) (hk:k<c.a.length) (l:List Int) (hs:CO c.a[k]= .Z l):Co (EK rO) 38 [.O (CJ c),.int .i64 (k:Nat)] S0 (.bool (YO c k c.a[k])):=by
 refine As U ?_;have Z4:=Af A8 hk;have ha:=hf.args _ (Ql hk);have fp:=hf.b;have pR:=hf.e;have uY:=hf.d;have oG:=hf.f _ (Ql hk);have fq:=hf.a _ (Ql hk);generalize hx:c.a[k]=x at*;refine Eh U<|Es<|Ls 3 U<|Lq (kv U Z4) U<|Lv 1 U ?_;refine Lo (kc U (Br)) U<|Lw U<|Sq ?_;rw[hs];obtain rfl:=KM hs;have fi:=AY c k x;rw[hs]at fi;generalize x.d=l at*;focus
  refine Es<|qm U<|Lq (D7 (neg:=false) U JB U U U) U<|Lv 2 U<|Fa U U U U U<|Fb (fn:=Tryz.f342) (by kernel_rfl) DQ (by kernel_rfl) U U U U U U U U U U U U U<|Eh U<|Ew U ?_;refine Se (AC (cH.same U (Ac U U) U U U U ?_));refine Lg U U (A7 U U (by kernel_rfl) U (Pr))<|Lw U<|Tf U<|Sk<|Eh U<|Sq<|Ew U<|Sb<|Ew U<|Tf U<|Ew U<|Tt U<|Eh U<|Es<|Ls 5 U ?_;refine Lb U (fun g1=>?_) (fun g1=>?_);have h1:=dT g1;refine Lh U g1 (kq U)<|Lg U g1 (kh U)<|Lh U g1 (kq U) ?_;rotate_left;have h1:=dF g1;iterate 5 refine Lk U g1 ?_
  refine Lq (oF U g1 U) U<|Lw U ?_;refine Se (Er U ?_);refine Aa ?_;rotate_left
 .refine Fa U U U U g1 ?_;refine Lo (A7 U U (by kernel_rfl) U (DW U U (p:=fun r=> !tgt c k r) (by kernel_rfl) (fun s' h1 h2 r=>Pd hk uY (by rw[h1];exact AM 0) (by rw[h1];exact AM 1) (by rw[h1];exact AM 2) r) l oG)) U ?_;refine Lh U g1 (kq U)<|Lq (oT U g1 U) U<|Lw U ?_;refine Se (Er U ?_);refine Aa ?_;rw[fi,nz,Yv,g1,Bool.and_true,<-List.not_all_eq_any_not,Bool.not_not];exact Kc l 0 (tgt c k)
 .rw[fi,nz,Yv,g1,Bool.and_false]
theorem PA (c:Cj) (k:Nat) (hf:r_ c) (hk:k<c.a.length) (hs:CO c.a[k]= .mv):Co (EK rO) 38 [.O (CJ c),.int .i64 (k:Nat)] S0 (.bool (YO c k c.a[k])):=by
 refine As U ?_;have Z4:=Af A8 hk;have ha:=hf.args _ (Ql hk);have fp:=hf.b;have pR:=hf.e;have uY:=hf.d;have oG:=hf.f _ (Ql hk);have fq:=hf.a _ (Ql hk);generalize hx:c.a[k]=x at*;refine Eh U<|Es<|Ls 3 U<|Lq (kv U Z4) U<|Lv 1 U ?_;refine Lo (kc U (Br)) U<|Lw U<|Sq ?_;rw[hs];have fi:=AY c k x;rw[hs]at fi;refine Es<|qm U<|Lq (D7 (neg:=false) U JB U U U) U<|Lv 2 U<|Fa U U U U U<|Fb (fn:=Tryz.f345) (by kernel_rfl) DN (by kernel_rfl) U U U U U U U U U U U U U<|Eh U<|Ew U ?_;refine Se (AC (cH.same U (Ac U U) U U U U ?_));refine Lg U U (A7 U U (by kernel_rfl) U (Pr))<|Lw U<|Tf U<|Sk<|Eh U<|Sq<|Ew U<|Sb<|Ew U<|Tf U<|Ew U<|Tf U<|Ew U<|Tf U<|Sk<|Ew U ?_;refine Se (Er U ?_);refine Aa ?_;exact fi.symm
theorem P9 (c:Cj) (k:Nat) (hf:r_ c) (hk:k<c.a.length) (hs:CO c.a[k]= .kt):Co (EK rO) 38 [.O (CJ c),.int .i64 (k:Nat)] S0 (.bool (YO c k c.a[k])):=by
 refine As U ?_;have Z4:=Af A8 hk;have ha:=hf.args _ (Ql hk);have fp:=hf.b;have pR:=hf.e;have uY:=hf.d;have oG:=hf.f _ (Ql hk);have fq:=hf.a _ (Ql hk);generalize hx:c.a[k]=x at*;refine Eh U<|Es<|Ls 3 U<|Lq (kv U Z4) U<|Lv 1 U ?_;refine Lo (kc U (Br)) U<|Lw U<|Sq ?_;rw[hs];have fi:=AY c k x;rw[hs]at fi;refine Es<|qm U<|Lq (D7 (neg:=false) U JB U U U) U<|Lv 2 U<|Fa U U U U U<|Fb (fn:=Tryz.f346) (by kernel_rfl) DM (by kernel_rfl) U U U U U U U U U U U U U<|Eh U<|Ew U ?_;refine Se (AC (cH.same U (Ac U U) U U U U ?_));refine Lg U U (A7 U U (by kernel_rfl) U (Pr))<|Lw U<|Tf U<|Sk<|Eh U<|Sq<|Ew U<|Sb<|Ew U<|Tf U<|Ew U<|Tf U<|Ew U<|Tf U<|Sk<|Ew U ?_;refine Se (Er U ?_);refine Aa ?_;exact fi.symm
theorem P7 (c:Cj) (k:Nat) (hf:r_ c) (hk:k<c.a.length) (o n:Int) (l:List Int) (hs:CO c.a[k]= .O o n l):Co (EK rO) 38 [.O (CJ c),.int .i64 (k:Nat)] S0 (.bool (YO c k c.a[k])):=by
 refine As U ?_;have Z4:=Af A8 hk;have ha:=hf.args _ (Ql hk);have fp:=hf.b;have pR:=hf.e;have uY:=hf.d;have oG:=hf.f _ (Ql hk);have fq:=hf.a _ (Ql hk);generalize hx:c.a[k]=x at*;refine Eh U<|Es<|Ls 3 U<|Lq (kv U Z4) U<|Lv 1 U ?_;refine Lo (kc U (Br)) U<|Lw U<|Sq ?_;rw[hs];obtain rfl:=Gu hs;have fi:=AY c k x;rw[hs]at fi;generalize x.args=l at*;focus
  refine Es<|qm U<|Lq (D7 (neg:=false) U JB U U U) U<|Lv 2 U<|Fa U U U U U<|Fb (fn:=Tryz.f343) (by kernel_rfl) DP (by kernel_rfl) U U U U U U U U U U U U U ?_;iterate 2 refine Eh U ?_
  refine Se (AC (cH.same U (Ac U U) U U U U ?_));refine Lg U U (A7 U U (by kernel_rfl) U (TS (by omega))) ?_;refine Lw U ?_;refine Cn U (fun h1=>?_) (fun h1=>?_);refine Ew U ?_;refine Se (Er U ?_);refine Aa ?_;rotate_left;refine Sk<|Eh U<|Sq<|Ew U<|Sb<|Ew U<|Tf U<|Ew U<|Tf U<|Ew U<|Tt U<|Eh U<|Es<|Ls 3 U ?_;refine Lo (kc U (hit_81 (by omega) (by omega))) U ?_;refine Lw U ?_;refine Se (Er U ?_);refine Aa ?_;rotate_left
 .rw[fi,nz,h1];rfl
 .rw[fi,nz,h1];rfl
theorem Oa (c:Cj) (k:Nat) (hf:r_ c) (hk:k<c.a.length) (r:Int) (hs:CO c.a[k]= .J r):Co (EK rO) 38 [.O (CJ c),.int .i64 (k:Nat)] S0 (.bool (YO c k c.a[k])):=by
 refine As U ?_;have Z4:=Af A8 hk;have ha:=hf.args _ (Ql hk);have fp:=hf.b;have pR:=hf.e;have uY:=hf.d;have oG:=hf.f _ (Ql hk);have fq:=hf.a _ (Ql hk);generalize hx:c.a[k]=x at*;refine Eh U<|Es<|Ls 3 U<|Lq (kv U Z4) U<|Lv 1 U ?_;refine Lo (kc U (Br)) U<|Lw U<|Sq ?_;rw[hs];have fi:=AY c k x;rw[hs]at fi;focus
  refine Es<|qm U<|Lq (D7 (neg:=false) U JB U U U) U<|Lv 2 U ?_;refine Lg U U (BX U U U U DO (by kernel_rfl) U (Co.XF (UR))) ?_;refine Lg U U (A7 U U (by kernel_rfl) U (TS (by first|assumption|omega|(simp only[LL];omega)))) ?_;refine Lw U ?_;refine Cn U (fun h1=>?_) (fun h1=>?_);refine Ew U ?_;refine Se (Er U ?_);refine Aa ?_;rotate_left;refine Sk<|Eh U<|Sq<|Ew U<|Sb<|Ew U<|Tf U<|Ew U<|Tf U<|Ew U<|Tf U<|Sk<|Ew U ?_;refine Se (Er U ?_);refine Aa ?_;rotate_left
 .rw[fi,nz,<-GI,h1]
 .rw[fi,nz,<-GI,h1]
theorem yn (c:Cj) (k:Nat) (hf:r_ c) (hk:k<c.a.length) (hs:CO c.a[k]= .no):Co (EK rO) 38 [.O (CJ c),.int .i64 (k:Nat)] S0 (.bool (YO c k c.a[k])):=by
 refine As U ?_;have Z4:=Af A8 hk;have ha:=hf.args _ (Ql hk);have fp:=hf.b;have pR:=hf.e;have uY:=hf.d;have oG:=hf.f _ (Ql hk);have fq:=hf.a _ (Ql hk);generalize hx:c.a[k]=x at*;refine Eh U<|Es<|Ls 3 U<|Lq (kv U Z4) U<|Lv 1 U ?_;refine Lo (kc U (Br)) U<|Lw U<|Sq ?_;rw[hs];have fi:=AY c k x;rw[hs]at fi;refine Es<|qm U<|Lq (D7 (neg:=false) U JB U U U) U<|Lw U<|Tt U<|Ew U ?_;refine Se (Er U ?_);refine Aa ?_;exact fi.symm
theorem K3 (c:Cj) (k:Nat) (hf:r_ c) (hk:k<c.a.length):Co (EK rO) 38 [.O (CJ c),.int .i64 (k:Nat)] S0 (.bool (YO c k c.a[k])):=by
 rcases hs:CO c.a[k]with⟨r,l⟩|l|_|_|⟨o,n,l⟩|r|_
 .exact P8 c k hf hk r l hs
 .exact SG c k hf hk l hs
 .exact PA c k hf hk hs
 .exact P9 c k hf hk hs
 .exact P7 c k hf hk o n l hs
 .exact Oa c k hf hk r hs
 .exact yn c k hf hk hs
noncomputable def K14:=WA rO 38 (fun p:u6=>[.O (CJ p.1.1),.int .i64 (p.1.2:Nat)]) (fun p=> .bool (YO p.1.1 p.1.2 p.x))
theorem hit_38 (h:r_ c) (hk:k<c.a.length):K14 38 [.O (CJ c),.int .i64 (k:Nat)]=some (.bool (YO c k c.a[k])):=
 Ak (enc:=fun p:u6=>[.O (CJ p.1.1),.int .i64 (p.1.2:Nat)]) (fun p q h=>by rw[Hj h]) ⟨(c,k),h,hk⟩
theorem all14 (h:Wh Tryz.prog 10 [] (.bool true)):C6 Tryz.prog K14:=Aw Au (all13 h) (fun p:u6=>K3 p.1.1 p.1.2 p.2.1 p.2.2) (fun _=>rfl) (fun _=>rfl)
theorem err0 (h:(if b=true then(0:Int)else 2)=0):b=true:=by cases b with
 |true=>rfl
 |false=>cases h
theorem err2 (h:¬(if b=true then(0:Int)else 2)=0):b=false:=by cases b with
 |true=>exact absurd rfl h
 |false=>rfl
theorem yp (c:Cj) (hf:r_ c):Co (EK K14) 13 [.O (CJ c)] S0 (.int .i64 (if X5 c then 0 else 2)):=by
 refine As U ?_;have Xo:aD c=false->X5 c=false:=fun h=>by unfold X5;rw[h];rfl
 have qp:=hf.i;have qM:=hf.j;have dC:=hf.g;have gK:=hf.d;focus
  refine Eh U<|Sq<|Es<|Ls 2 U ?_;refine Lo (kc U (Rj (by omega) (by omega))) U ?_;refine Lv 2 U ?_;refine Be U (fun h1=>?_) (fun h1=>?_);refine Lw U<|Tt U<|Ew U ?_;refine Se (Er U ?_);rotate_left;refine Ls 6 U ?_;refine Bb U (fun g2=>?_) (fun g2=>?_);have h2:=dT g2;refine Lw U<|Tt U<|Ew U ?_;refine Se (Er U ?_);rotate_left;have h2:=dF g2;refine Lx U ?_;refine Cb U (fun g3=>?_) (fun g3=>?_);have h3:=nT g3;refine Ew U ?_;refine A9 (Er U ?_);rotate_left;have h3:=nF g3;refine Cu.skip<|B0<|Eh U<|Cu.block ?_;rotate_left
 .rw[Xo (by unfold aD;rw[err2 h1];rfl)];rfl
 .rw[Xo (by unfold aD;rw[g2];simp)];rfl
 .rw[Xo (by unfold aD;rw[decide_eq_false h3];simp)];rfl
 have ny:aD c=true:=by unfold aD;rw[err0 h1,g2,decide_eq_true h3];rfl
 refine Ai (fun i:Nat=>([(29,.int .i64 (i:Nat)),(28,.int .i64 (c.d.length:Nat)),(27,Cq CN 1 c.d),(2,.int .i64 0),(1,.J 0 0)],Xc 1 0 [] [(0,some (.J (CJ c) 28 false))])) (fun i=>c.d.length-i) (fun i=>i<=c.d.length/\(List.range i).all (c8 c)=true) 0 ⟨Qo _,rfl⟩ U (Ab (by repeat' constructor)) ?_;rintro i ⟨hi,hs⟩;dsimp only at hi hs|-;by_cases h:i<c.d.length
 .have hp:=Af AD h;have Y0:c8 c i=X1 c.d[i] 0 (c.a.length-1):=by unfold c8;rw[Ao h]
  focus
   refine Ew U<|Sq ?_;refine Cd U (fun h4=>?_) (fun h4=>?_);refine Sk<|Sq<|Sb<|Es<|Lq (kv U hp) U<|Lw U<|Es<|Ls 4 U<|Lq (ks U (by omega)) U ?_;refine Lo (kc U (Ff)) U<|Lw U ?_;refine Cn U (fun h5=>?_) (fun h5=>?_);refine Ew U ?_;refine Se (Er U ?_);rotate_left;refine Sk<|Sr ?_;refine Lq (ka (b:=1) U (by omega)) U ?_;refine Lw U ?_;rotate_left;exact absurd h4 (by omega)
  .have:X5 c=false:=by unfold X5;rw[Kz h (Y0.trans h5),Bool.false_and,Bool.and_false]
   rw[this];rfl
  .exact⟨i+1,⟨h,D0 hs (Y0.trans h5)⟩,by show c.d.length-(i+1)<c.d.length-i;omega,U,U,Ab (by repeat' constructor)⟩
 .focus
   refine Ew U<|Sq ?_;refine Cd U (fun h4=>?_) (fun h4=>?_);exact absurd h4 (by omega);refine Sx<|A0 U<|Sq<|Eh U<|Sb ?_;rotate_left
  obtain rfl:i=c.d.length:=by omega
  refine Ai (fun i:Nat=>([(44,.int .i64 (i:Nat)),(43,.int .i64 (c.a.length:Nat)),(2,.int .i64 0),(1,.J 0 0)],Xc 1 0 [] [(0,some (.J (CJ c) 28 false))])) (fun i=>c.a.length-i) (fun i=>i<=c.a.length/\(List.range i).all (ko c)=true) 0 ⟨Qo _,rfl⟩ U (Ab (by repeat' constructor)) ?_;rintro j ⟨hj,jm⟩;dsimp only at hj jm|-;by_cases h':j<c.a.length
  .have Y0:ko c j=YO c j c.a[j]:=by unfold ko;rw[B2 h']
   focus
    refine Ew U<|Sq ?_;refine Cd U (fun h5=>?_) (fun h5=>?_);refine Sk<|Sq<|Sb<|Ew U<|Es<|Ls 2 U ?_;refine Lo (kc U (hit_38 (by omega) (by omega))) U ?_;refine Lw U ?_;refine Cn U (fun h6=>?_) (fun h6=>?_);refine Ew U ?_;refine Se (Er U ?_);rotate_left;refine Sk<|Sr ?_;refine Lq (ka (b:=1) U (by omega)) U ?_;refine Lw U ?_;rotate_left;exact absurd h5 (by omega)
   .have:X5 c=false:=by unfold X5;rw[Kz h' (Y0.trans h6),Bool.and_false,Bool.and_false]
    rw[this];rfl
   .exact⟨j+1,⟨h',D0 jm (Y0.trans h6)⟩,by show c.a.length-(j+1)<c.a.length-j;omega,U,U,Ab (by repeat' constructor)⟩
  .focus
    refine Ew U<|Sq ?_;refine Cd U (fun h5=>?_) (fun h5=>?_);exact absurd h5 (by omega);refine Sx<|A0 U<|Ew U ?_;refine Se (Er U ?_);rotate_left
   obtain rfl:j=c.a.length:=by omega
   have:X5 c=true:=by unfold X5;rw[hs,jm,ny];rfl
   rw[this];rfl
noncomputable def U_:=WA K14 13 (fun p:qf=>[.O (CJ p.1)]) (fun p=> .int .i64 (if X5 p.1 then 0 else 2))
theorem D3 (h:r_ c):U_ 13 [.O (CJ c)]=some (.int .i64 (if X5 c then 0 else 2)):=
 Ak (enc:=fun p:qf=>[.O (CJ p.1)]) (fun p q h=>by rw[Rv h]) ⟨c,h⟩
theorem yq (h:Wh Tryz.prog 10 [] (.bool true)):C6 Tryz.prog U_:=Aw Au (all14 h) (fun p:qf=>yp p.1 p.2) (fun _=>rfl) (fun _=>rfl)
section
variable {P : Program}
theorem Em {k:IntKind} (h:Am.r9 P t l) (hu:P.underlying t=some (.int k)):∃n,l=[.int k n]:=by
 cases h with
 |bool h=>rw[hu]at h;cases h
 |int h=>rw[hu]at h;cases h;exact⟨_,rfl⟩
 |J h=>rw[hu]at h;cases h
 |O h=>rw[hu]at h;cases h
 |Y h=>rw[hu]at h;cases h
theorem yr (h:Am.r9 P t l) (hu:P.underlying t=some .string):∃w,l=[.aG w]:=by
 cases h with
 |bool h=>rw[hu]at h;cases h
 |int h=>rw[hu]at h;cases h
 |J h=>exact⟨_,rfl⟩
 |O h=>rw[hu]at h;cases h
 |Y h=>rw[hu]at h;cases h
theorem data_sl (h:Am.r9 P t l) (hu:P.underlying t=some (.slice e)):∃ls:List (List AV),l=[.Ck ls.flatten ls.length (P.cellsOf e) true]/\∀x∈ls,Am.r9 P e x:=by
 cases h with
 |bool h=>rw[hu]at h;cases h
 |int h=>rw[hu]at h;cases h
 |J h=>rw[hu]at h;cases h
 |O h hn hl hd=>rw[hu]at h;cases h;exact⟨_,rfl,hd⟩
 |Y h=>rw[hu]at h;cases h
theorem JR {fs:Array Field} (h:Am.r9 P t l) (hu:P.underlying t=some (.struct fs)):∃ls:List (List AV),l=ls.flatten/\ls.length=fs.toList.length/\∀(i:Nat) f x,fs.toList[i]?=some f->ls[i]?=some x->Am.r9 P f.type x:=by
 cases h with
 |bool h=>rw[hu]at h;cases h
 |int h=>rw[hu]at h;cases h
 |J h=>rw[hu]at h;cases h
 |O h=>rw[hu]at h;cases h
 |Y h hl hd=>rw[hu]at h;cases h;exact⟨_,rfl,hl,hd⟩
theorem Ra {α:Type} {enc:α->List AV}:∀ {ls:List (List AV)},(∀l∈ls,∃a,l=enc a)->∃xs:List α,ls=xs.map enc
 | [],_=>⟨[],rfl⟩
 |l::ls,h=>by
  obtain⟨a,rfl⟩:=h l (Qh ..);obtain⟨xs,rfl⟩:=Ra (ls:=ls) fun x hx=>h x (Qg _ hx);exact⟨a::xs,U⟩
theorem Ho {enc:α->List AV} (h:Am.r9 P t l) (hu:P.underlying t=some (.slice e)) (hk:P.cellsOf e=k) (hd:∀x,Am.r9 P e x->∃a,x=enc a):∃xs:List α,l=[Cq enc k xs]:=by
 obtain⟨ls,rfl,hm⟩:=data_sl h hu;obtain⟨xs,rfl⟩:=Ra fun x hx=>hd x (hm x hx);refine⟨xs,?_⟩;unfold Cq;rw[hk,Qn,List.flatMap_def]
end
noncomputable def x_ (t:TypeId):Array Field:=match Tryz.prog.underlying t with
 |some (.struct fs)=>fs
 |_=> #[]
noncomputable def ftype (t:TypeId) (i:Nat):Option TypeId:=((x_ t).toList[i]?).map Field.type
theorem AJ (hd:∀(i:Nat) f x,(x_ t).toList[i]?=some f->ls[i]?=some x->Am.r9 Tryz.prog f.type x) (h:ftype t i=some u) (hx:ls[i]?=some x):Am.r9 Tryz.prog u x:=by
 unfold ftype at h;obtain⟨f,hf,rfl⟩:=Option.map_eq_some_iff.1 h;exact hd i f x hf hx
theorem data_Z (h:Am.r9 Tryz.prog 3 x):∃n,x=CN n:=Em h (by kernel_rfl)
theorem data_A (h:Am.r9 Tryz.prog 60 x):∃p,x=Y9 p:=by
 obtain⟨ls,rfl,hl,hd⟩:=JR (fs:=x_ 60) h (by kernel_rfl);have hl:ls.length=2:=hl.trans (by kernel_rfl)
 match ls,hl,hd with
 | [a,b],_,hd=>
  obtain⟨m,rfl⟩:=Em (k:= .i64) (AJ hd (i:=0) (u:=3) (by kernel_rfl) rfl) (by kernel_rfl);obtain⟨n,rfl⟩:=Em (k:= .i64) (AJ hd (i:=1) (u:=3) (by kernel_rfl) rfl) (by kernel_rfl);exact⟨(m,n),U⟩
theorem data_N (h:Am.r9 Tryz.prog 54 x):∃p,x=Ok p:=by
 obtain⟨ls,rfl,hl,hd⟩:=JR (fs:=x_ 54) h (by kernel_rfl);have hl:ls.length=2:=hl.trans (by kernel_rfl)
 match ls,hl,hd with
 | [a,b],_,hd=>
  obtain⟨w,rfl⟩:=yr (AJ hd (i:=0) (u:=9) (by kernel_rfl) rfl) (by kernel_rfl);obtain⟨n,rfl⟩:=Em (k:= .i64) (AJ hd (i:=1) (u:=3) (by kernel_rfl) rfl) (by kernel_rfl);exact⟨(w,n),U⟩
theorem MI (h:Am.r9 Tryz.prog 26 x):∃l,x=[Cq CN 1 l]:=Ho h (e:=3) (by kernel_rfl) (by kernel_rfl) fun _=>data_Z
theorem data_As (h:Am.r9 Tryz.prog 56 x):∃l,x=[Cq Y9 2 l]:=Ho h (e:=60) (by kernel_rfl) (by kernel_rfl) fun _=>data_A
theorem Vz (h:Am.r9 Tryz.prog 22 x):∃l,x=[Cq Ok 2 l]:=Ho h (e:=54) (by kernel_rfl) (by kernel_rfl) fun _=>data_N
theorem data_I (h:Am.r9 Tryz.prog 58 x):∃p,x=Wj p:=by
 obtain⟨ls,rfl,hl,hd⟩:=JR (fs:=x_ 58) h (by kernel_rfl);have hl:ls.length=7:=hl.trans (by kernel_rfl)
 match ls,hl,hd with
 | [a,b,c,d,e,f,g],_,hd=>
  obtain⟨op,rfl⟩:=Em (k:= .i64) (AJ hd (i:=0) (u:=55) (by kernel_rfl) rfl) (by kernel_rfl);obtain⟨a,rfl⟩:=Em (k:= .i64) (AJ hd (i:=1) (u:=3) (by kernel_rfl) rfl) (by kernel_rfl);obtain⟨alts,rfl⟩:=data_As (AJ hd (i:=2) (u:=56) (by kernel_rfl) rfl);obtain⟨to,rfl⟩:=MI (AJ hd (i:=3) (u:=26) (by kernel_rfl) rfl);obtain⟨term,rfl⟩:=Em (k:= .i64) (AJ hd (i:=4) (u:=37) (by kernel_rfl) rfl) (by kernel_rfl);obtain⟨n,rfl⟩:=Em (k:= .i64) (AJ hd (i:=5) (u:=3) (by kernel_rfl) rfl) (by kernel_rfl);obtain⟨args,rfl⟩:=MI (AJ hd (i:=6) (u:=26) (by kernel_rfl) rfl);exact⟨⟨op,a,alts,to,term,n,args⟩,U⟩
theorem data_Is (h:Am.r9 Tryz.prog 25 x):∃l,x=[Cq Wj 7 l]:=Ho h (e:=58) (by kernel_rfl) (by kernel_rfl) fun _=>data_I
theorem data_C (h:Am.r9 Tryz.prog 28 x):∃c,x=CJ c:=by
 obtain⟨ls,rfl,hl,hd⟩:=JR (fs:=x_ 28) h (by kernel_rfl);have hl:ls.length=3:=hl.trans (by kernel_rfl)
 match ls,hl,hd with
 | [a,b,c],_,hd=>
  obtain⟨ls2,rfl,gK,nd⟩:=JR (fs:=x_ 24) (AJ hd (i:=0) (u:=24) (by kernel_rfl) rfl) (by kernel_rfl);have gK:ls2.length=2:=gK.trans (by kernel_rfl);obtain⟨ins,rfl⟩:=data_Is (AJ hd (i:=1) (u:=25) (by kernel_rfl) rfl);obtain⟨Cs,rfl⟩:=MI (AJ hd (i:=2) (u:=26) (by kernel_rfl) rfl)
  match ls2,gK,nd with
  | [a,b],_,nd=>
   obtain⟨cons,rfl⟩:=Vz (AJ nd (i:=0) (u:=22) (by kernel_rfl) rfl);obtain⟨Cy,rfl⟩:=Vz (AJ nd (i:=1) (u:=22) (by kernel_rfl) rfl);exact⟨⟨cons,Cy,ins,Cs⟩,U⟩
end Go.Proofs.YtpihdbhocgcbpaaGreatDoor
