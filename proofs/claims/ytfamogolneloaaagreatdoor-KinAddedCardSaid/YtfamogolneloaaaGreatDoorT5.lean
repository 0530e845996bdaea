/- Part 5 of the proof. -/
import Derived.Test.YtfamogolneloaaaGreatDoorT4
set_option maxRecDepth 100000
set_option linter.all false
namespace Go.L
open Go Go.Conc
variable {ro oA aC:Nat→Option Obj} {P:Program} {Φ:Value→Cells→Prop} {f g:FuncId} {R:Ending→St→Prop} {todo uK:List Nat} {El:(Nat→Option Obj)→Nat→List Value→Cells→Prop} {κ α ι:Type} {T:Goroutine→St→Prop} {vs ca args l z fi:List Value} {n sz i bG bl bd off r id dep N q:Nat} {b:ByteArray} {o o1:Option JS} {k AS:List Item} {e rest:Env} {p:Oper} {s s':St} {ats:Array TypeId} {tm:Array Value} {cs:List Frame} {fn:Func} {X:Cx} {C:Class} {main ag:Bool} {fz:Nat×Nat} {E t U:TypeId} {as body:Code} {x y:Operand} {hi:Int} {lo:Option Int} {fr:Cells}
section
variable {X:Cx} {o:Option JS}
def Pp(n:Nat)(p:Oper)(e:Env):Option (BinOp×TypeId×Value×Value):=match p.op with
 | .binOp op T x y _=>match bA n e x with
  |some v=>match bA n e y with
   |some w=>some (op,T,v,w)
   |none=>none
  |none=>none
 |_=>none
theorem uJ{op:BinOp}{T:TypeId}{v w:Value}(h:Pp n p e=some (op,T,v,w)):∃x y T',p.op= .binOp op T x y T'∧bA n e x=some v∧bA n e y=some w:=by
 unfold Pp at h
 split at h<;>try (cases h;done)
 rename_i az
 split at h<;>try (cases h;done)
 rename_i hx
 split at h<;>try (cases h;done)
 rename_i hy
 cases h
 exact⟨_,_,_,az,hx,hy⟩
theorem jsa{a:ByteArray}(T:TypeId)(hb:(a.size:Int)+b.size≤9223372036854775807)(hj:J X (kP (.string (a++b)) o))(hv:dR X.n (Pp X.n) o=some (.add,T,.string a,.string b):=by kernel_rfl):J X o:=by
 refine TZ hv (fun s p e _ hf=>?_) hj
 obtain⟨x,y,T',az,hx,hy⟩:=uJ hf
 rcases p with ⟨dst,op,ty,pos,dk,g⟩
 dsimp only at az;subst az
 exact fun s0 ops i tz rest hw s' hs todo Q hk=>auB X.hC tz hw (bp hx) (bp hy) hb hk
theorem jrm{k:IntKind}{a b:Int}(T:TypeId)(hb:b≠0)(hj:J X (kP (.int k (a.tmod b)) o))(hv:dR X.n (Pp X.n) o=some (.rem,T,.int k a,.int k b):=by kernel_rfl):J X o:=by
 refine TZ hv (fun s p e _ hf=>?_) hj
 obtain⟨x,y,T',az,hx,hy⟩:=uJ hf
 rcases p with ⟨dst,op,ty,pos,dk,g⟩
 dsimp only at az;subst az
 exact fun s0 ops i tz rest hw s' hs todo Q hk=>aDb X.hC tz hw (bp hx) (bp hy) hb hk
theorem jsr{k k':IntKind}{a b:Int}(T:TypeId)(hb:0≤b)(hj:J X (kP (.int k (aV k a b)) o))(hv:dR X.n (Pp X.n) o=some (.shr,T,.int k a,.int k' b):=by kernel_rfl):J X o:=by
 refine TZ hv (fun s p e _ hf=>?_) hj
 obtain⟨x,y,T',az,hx,hy⟩:=uJ hf
 rcases p with ⟨dst,op,ty,pos,dk,g⟩
 dsimp only at az;subst az
 exact fun s0 ops i tz rest hw s' hs todo Q hk=>aC9 X.hC tz hw (bp hx) (bp hy) hb hk
theorem jsh{k k':IntKind}{a b:Int}(T:TypeId)(hb:0≤b)(hj:J X (kP (.int k (dM k a b)) o))(hv:dR X.n (Pp X.n) o=some (.shl,T,.int k a,.int k' b):=by kernel_rfl):J X o:=by
 refine TZ hv (fun s p e _ hf=>?_) hj
 obtain⟨x,y,T',az,hx,hy⟩:=uJ hf
 rcases p with ⟨dst,op,ty,pos,dk,g⟩
 dsimp only at az;subst az
 exact fun s0 ops i tz rest hw s' hs todo Q hk=>aDa X.hC tz hw (bp hx) (bp hy) hb hk
theorem jeq{T:TypeId}{m:List Value}{r:Bool}(hg:jR X.P T)(he:EqV X.P T (.agg ⟨l⟩) (.agg ⟨m⟩) r)(hj:J X (kP (.bool r) o))(hv:dR X.n (Pp X.n) o=some (.eql,T,.agg ⟨l⟩,.agg ⟨m⟩):=by kernel_rfl):J X o:=by
 refine TZ hv (fun s p e _ hf=>?_) hj
 obtain⟨x,y,T',az,hx,hy⟩:=uJ hf
 rcases p with ⟨dst,op,ty,pos,dk,g⟩
 dsimp only at az;subst az
 exact fun s0 ops i tz rest hw s' hs todo Q hk=>am4 X.hC tz hw (bp hx) (bp hy) hg he hk
theorem TY{T:TypeId}{m:List Value}{r:Bool}(hg:jR X.P T)(he:EqV X.P T (.agg ⟨l⟩) (.agg ⟨m⟩) r)(hj:J X (kP (.bool !r) o))(hv:dR X.n (Pp X.n) o=some (.neq,T,.agg ⟨l⟩,.agg ⟨m⟩):=by kernel_rfl):J X o:=by
 refine TZ hv (fun s p e _ hf=>?_) hj
 obtain⟨x,y,T',az,hx,hy⟩:=uJ hf
 rcases p with ⟨dst,op,ty,pos,dk,g⟩
 dsimp only at az;subst az
 exact fun s0 ops i tz rest hw s' hs todo Q hk=>afB X.hC tz hw (bp hx) (bp hy) hg he hk
def HP(P:Program)(T:TypeId):Bool:=match bh P T with
 |some ⟨.slice _,_,_,_⟩=>true
 |_=>false
theorem HO{T:TypeId}(h:HP P T=true):∃E sz bG z ag,TF P T (.slice E) sz bG z ag:=by
 unfold HP at h
 split at h<;>try (cases h;done)
 rename_i dX
 obtain⟨bG,tf⟩:=av dX
 exact⟨_,_,_,_,_,tf⟩
theorem jsn{a:Option Addr}{l c:Nat}(T:TypeId)(hj:J X (kP (.bool a.isNone) o))(hv:dR X.n (Pp X.n) o=some (.eql,T,.slice a l c,.slice none 0 0):=by kernel_rfl)(hT:HP X.P T=true:=by kernel_rfl):J X o:=by
 refine TZ hv (fun s p e _ hf=>?_) hj
 obtain⟨x,y,T',az,hx,hy⟩:=uJ hf
 obtain⟨E,sz,bG,z,ag,tf⟩:=HO hT
 rcases p with ⟨dst,op,ty,pos,dk,g⟩
 dsimp only at az;subst az
 exact fun s0 ops i tz rest hw s' hs todo Q hk=>amZ X.hC tz hw tf (bp hx) (bp hy) hk
def Ft(n:Nat)(e:Env):Option Operand→Option (Option Int)
 |none=>some none
 |some x=>match bA n e x with
  |some (.int _ a)=>some (some a)
  |_=>none
def aes(P:Program)(n:Nat)(p:Oper)(e:Env):Option (ByteArray×Option Int×Option Int):=match p.op with
 | .slice T x y z none=>match bh P T with
  |some ⟨.string,_,_,_⟩=>match bA n e x with
   |some (.string b)=>match Ft n e y with
    |some lo=>match Ft n e z with
     |some hi=>some (b,lo,hi)
     |none=>none
    |none=>none
   |_=>none
  |_=>none
 |_=>none
def ams(P:Program)(n:Nat)(p:Oper)(e:Env):Option (Value×Option Int×Option Int×Nat):=match p.op with
 | .slice T x y z none=>match bh P T with
  |some ⟨.slice E,_,_,_⟩=>match bh P E with
   |some te=>match bA n e x with
    |some v=>match Ft n e y with
     |some lo=>match Ft n e z with
      |some hi=>some (v,lo,hi,te.size)
      |none=>none
     |none=>none
    |none=>none
   |none=>none
  |_=>none
 |_=>none
theorem nY{x:Option Operand}{a:Int}(h:Ft n e x=some (some a)):∃y k,x=some y∧bA n e y=some (.int k a):=by
 unfold Ft at h
 split at h
 ·cases h
 split at h<;>try (cases h;done)
 rename_i hx
 cases h
 exact⟨_,_,rfl,hx⟩
theorem Dd{x:Option Operand}(h:Ft n e x=some none):x=none:=by
 unfold Ft at h
 split at h
 ·rfl
 split at h<;>cases h
theorem Nx{hi:Option Int}(h:aes P n p e=some (b,lo,hi)):∃T x y z sz bG zz ag,p.op= .slice T x y z none∧TF P T .string sz bG zz ag∧bA n e x=some (.string b)∧Ft n e y=some lo∧Ft n e z=some hi:=by
 unfold aes at h
 split at h<;>try (cases h;done)
 rename_i az
 split at h<;>try (cases h;done)
 rename_i dX
 obtain⟨bG,tf⟩:=av dX
 split at h<;>try (cases h;done)
 rename_i hx
 split at h<;>try (cases h;done)
 rename_i hy
 split at h<;>try (cases h;done)
 rename_i hz
 cases h
 exact⟨_,_,_,_,_,_,_,_,az,tf,hx,hy,hz⟩
theorem XT{v:Value}{hi:Option Int}{k:Nat}(h:ams P n p e=some (v,lo,hi,k)):∃T x y z E sz bG zz ag d Ce z2 ag2,p.op= .slice T x y z none∧TF P T (.slice E) sz bG zz ag∧TF P E d k Ce z2 ag2∧bA n e x=some v∧Ft n e y=some lo∧Ft n e z=some hi:=by
 unfold ams at h
 split at h<;>try (cases h;done)
 rename_i az
 split at h<;>try (cases h;done)
 rename_i dX
 obtain⟨bG,tf⟩:=av dX
 split at h<;>try (cases h;done)
 rename_i te uw
 obtain⟨Ce,ri⟩:=av uw
 split at h<;>try (cases h;done)
 rename_i hx
 split at h<;>try (cases h;done)
 rename_i hy
 split at h<;>try (cases h;done)
 rename_i hz
 cases h
 exact⟨_,_,_,_,_,_,_,_,_,_,_,_,_,az,tf,ri,hx,hy,hz⟩
theorem jtB{lo:Int}(hl:0≤lo∧lo≤hi∧hi≤b.size)(hj:J X (kP (.string (b.extract lo.toNat hi.toNat)) o))(hv:dR X.n (aes X.P X.n) o=some (b,some lo,some hi):=by kernel_rfl):J X o:=by
 refine TZ hv (fun s p e _ hf=>?_) hj
 obtain⟨T,x,y,z,sz,bG,zz,ag,az,tf,hx,hy,hz⟩:=Nx hf
 obtain⟨y,k,rfl,HQ⟩:=nY hy
 obtain⟨z,k',rfl,hz1⟩:=nY hz
 rcases p with ⟨dst,op,ty,pos,dk,g⟩
 dsimp only at az;subst az
 exact fun s0 ops i tz rest hw s' hs todo Q hk=>Vj X.hC tz hw tf (bp hx) (bp HQ) (bp hz1) hl hk
theorem jtH(hl:0≤hi∧hi≤b.size)(hj:J X (kP (.string (b.extract 0 hi.toNat)) o))(hv:dR X.n (aes X.P X.n) o=some (b,none,some hi):=by kernel_rfl):J X o:=by
 refine TZ hv (fun s p e _ hf=>?_) hj
 obtain⟨T,x,y,z,sz,bG,zz,ag,az,tf,hx,hy,hz⟩:=Nx hf
 have hy:=Dd hy;subst hy
 obtain⟨z,k',rfl,hz1⟩:=nY hz
 rcases p with ⟨dst,op,ty,pos,dk,g⟩
 dsimp only at az;subst az
 exact fun s0 ops i tz rest hw s' hs todo Q hk=>Rw X.hC tz hw tf (bp hx) (bp hz1) hl hk
theorem jtL{lo:Int}(hl:0≤lo∧lo≤b.size)(hj:J X (kP (.string (b.extract lo.toNat b.size)) o))(hv:dR X.n (aes X.P X.n) o=some (b,some lo,none):=by kernel_rfl):J X o:=by
 refine TZ hv (fun s p e _ hf=>?_) hj
 obtain⟨T,x,y,z,sz,bG,zz,ag,az,tf,hx,hy,hz⟩:=Nx hf
 have hz:=Dd hz;subst hz
 obtain⟨y,k,rfl,HQ⟩:=nY hy
 rcases p with ⟨dst,op,ty,pos,dk,g⟩
 dsimp only at az;subst az
 exact fun s0 ops i tz rest hw s' hs todo Q hk=>Rv X.hC tz hw tf (bp hx) (bp HQ) hl hk
theorem jcH{v:Value}{enc:α→List Value}{ps:List α}(hs:a8 X.ro v sz enc ps)(hl:0≤hi∧hi≤ps.length)(hj:∀v',a8 X.ro v' sz enc (ps.take hi.toNat)→J X (kP v' o))(hv:dR X.n (ams X.P X.n) o=some (v,none,some hi,sz):=by kernel_rfl):J X o:=by
 obtain⟨a,b,off,cap,rfl,h2,h3,h4⟩:=id hs
 have hp:=a8.part hs (l:=0) (h:=hi.toNat) (by omega) (by omega)
 rw[List.drop_zero] at hp
 refine TZ hv (fun s p e _ hf=>?_) (hj _ hp)
 obtain⟨T,x,y,z,E,s1,bG,zz,ag,d,Ce,z2,ag2,az,tf,ri,hx,hy,hz⟩:=XT hf
 have hy:=Dd hy;subst hy
 obtain⟨z,k',rfl,hz1⟩:=nY hz
 rcases p with ⟨dst,op,ty,pos,dk,g⟩
 dsimp only at az;subst az
 intro s0 ops i tz rest hw s' nE todo Q hk
 refine bW X.hC tz hw (by simp) ?_
 have hb:0≤hi∧hi≤(cap:Int):=by omega
 have gh:(0:Int)≤0∧(0:Int)≤(hi.toNat:Int):=by omega
 rw[←ba] at hk
 simp only[execOp,Option.map_some,Option.map_none,Instr.sliceAt,Instr.slice,aG (bp (rest:=rest) hx),aG (bp (rest:=rest) hz1),aa,bk tf,Instr.sliceBounds,Instr.sliceBound,asIntOf,af,hb,gh,and_self,if_true,cE ri]
 exact hk
theorem jcB{v:Value}{enc:α→List Value}{ps:List α}{lo:Int}(hs:a8 X.ro v sz enc ps)(hl:0≤lo∧lo≤hi∧hi≤ps.length)(hj:∀v',a8 X.ro v' sz enc ((ps.take hi.toNat).drop lo.toNat)→J X (kP v' o))(hv:dR X.n (ams X.P X.n) o=some (v,some lo,some hi,sz):=by kernel_rfl):J X o:=by
 obtain⟨a,b,off,cap,rfl,h2,h3,h4⟩:=id hs
 have hp:=a8.part hs (l:=lo.toNat) (h:=hi.toNat) (by omega) (by omega)
 refine TZ hv (fun s p e _ hf=>?_) (hj _ hp)
 obtain⟨T,x,y,z,E,s1,bG,zz,ag,d,Ce,z2,ag2,az,tf,ri,hx,hy,hz⟩:=XT hf
 obtain⟨y,k,rfl,HQ⟩:=nY hy
 obtain⟨z,k',rfl,hz1⟩:=nY hz
 rcases p with ⟨dst,op,ty,pos,dk,g⟩
 dsimp only at az;subst az
 intro s0 ops i tz rest hw s' nE todo Q hk
 refine bW X.hC tz hw (by simp) ?_
 have hb:0≤hi∧hi≤(cap:Int):=by omega
 have gh:0≤lo∧lo≤(hi.toNat:Int):=by omega
 rw[←ba] at hk
 simp only[execOp,Option.map_some,Option.map_none,Instr.sliceAt,Instr.slice,aG (bp (rest:=rest) hx),aG (bp (rest:=rest) HQ),aG (bp (rest:=rest) hz1),aa,bk tf,Instr.sliceBounds,Instr.sliceBound,asIntOf,af,hb,gh,and_self,if_true,cE ri]
 exact hk
def lnV(P:Program)(n:Nat)(p:Oper)(e:Env):Option Value:=match p.op with
 | .call ⟨.builtin .len,⟨[x]⟩,⟨[T]⟩⟩=>bif HP P T then bA n e x else none
 |_=>none
theorem Fy{v:Value}{T2:TypeId}{enc:α→List Value}{ps:List α}{L:Cells}(lq:aw v sz T2 enc ps L)(hj:J X (kP (.int .i64 ps.length) o))(hv:dR X.n (lnV X.P X.n) o=some v:=by kernel_rfl):J X o:=by
 refine TZ hv (fun s p e _ hf=>?_) hj
 unfold lnV at hf
 split at hf<;>try (cases hf;done)
 rename_i x T az
 cases hT:HP X.P T with
 |false=>rw[hT] at hf;cases hf
 |true=>
  rw[hT] at hf;simp only[cond_true] at hf
  obtain⟨E,s1,bG,z,ag,tf⟩:=HO hT
  rcases p with ⟨dst,op,ty,pos,dk,g⟩
  dsimp only at az;subst az
  exact fun s0 ops i tz rest hw s' hs todo Q hk=>afC X.hC tz hw tf (bp hf) lq hk
def abj(ps:List Nat)(v:Value)(L':Cells):Option JS→Option JS:=nG ps v L'
theorem Yr{ops:Array Oper}{k:List KI}{w:List Sg}{kn:Kn}{ps:List Nat}{v:Value}{L':Cells}(ho:ops[i]?=some p):abj ps v L' (some ⟨.ops ops (i::todo) k,e,w,kn⟩)=some ⟨.ops ops todo k,upd p.dst v e,.l L'::dO ps 0 w,kn⟩:=by
 unfold abj
 simp only[oE ho]
def amo(P:Program)(n:Nat)(p:Oper)(e:Env):Option (Addr×List Value×Nat):=match p.op with
 | .store T x y=>match bh P T with
  |some ti=>match bA n e x with
   |some (.pointer (some a))=>match bA n e y with
    |some v=>some (a,eA v,ti.size)
    |none=>none
   |_=>none
  |none=>none
 |_=>none
theorem XQ{a:Addr}(h:amo P n p e=some (a,l,sz)):∃T x y d bG z ag v,p.op= .store T x y∧TF P T d sz bG z ag∧bA n e x=some (.pointer (some a))∧bA n e y=some v∧v.cells=⟨l⟩:=by
 unfold amo at h
 split at h<;>try (cases h;done)
 rename_i az
 split at h<;>try (cases h;done)
 rename_i ti dX
 obtain⟨bG,tf⟩:=av dX
 split at h<;>try (cases h;done)
 rename_i hx
 split at h<;>try (cases h;done)
 rename_i hy
 cases h
 exact⟨_,_,_,_,_,_,_,_,az,tf,hx,hy,by rw[mJ]⟩
theorem R6{v:Value}{enc:α→List Value}{ps:List α}{L:Cells}{b k:Nat}{a:α}(i f:Nat)(c:List Value)(e:α)(lq:aw v sz E enc ps L)(hb:PB v b)(hk:ps[k]?=some a) (he:enc e=dK (enc a) f c) (h1:c.all single=true) (hf:f+c.length≤sz) (hj:∀L',aw v sz E enc (ps.set k e) L'→J X (abj [i] undef L' o)) (hv:fq X.n (amo X.P X.n) o=some (⟨b,k*sz+f,none⟩,c,c.length):=by kernel_rfl) (h2:eg [i] o=some L:=by kernel_rfl):J X o:=by
 obtain⟨ops,i0,todo,kk,ev,w,kn,p,rfl,ho,hw,hc⟩:=dJ hv
 obtain⟨T,x,y,d,bG,z,ag,u,az,tf,hx,hy,hu⟩:=XQ hc
 intro bZ
 rcases p with ⟨dst,op,ty,pos,dk,g⟩
 dsimp only at az;subst az
 refine wz X.hC (bM h2)<|aC6 X.hC ho hw tf hx hy hu rfl (List.all_eq_true.1 h1) lq hb hk he hf fun L' hL'=>?_
 have:=hj L' hL'
 rw[Yr ho] at this
 have:=this bZ
 simp only[JP,gG] at this
 exact this
def apV(P:Program)(n:Nat)(p:Oper)(e:Env):Option (Value×Value×TypeId×Nat):=match p.op with
 | .call ⟨.builtin .append,⟨[x,y]⟩,⟨[T,U]⟩⟩=>match bh P T with
  |some ⟨.slice E,_,_,_⟩=>bif HP P U then (match bh P E with
   |some te=>match P.info? E with
    |some ie=>bif Nat.beq te.zero.length te.size&&Nat.ble ie.bytes 65536 then (match bA n e x with
     |some v=>match bA n e y with
      |some w=>some (v,w,E,te.size)
      |none=>none
     |none=>none) else none
    |none=>none
   |none=>none) else none
  |_=>none
 |_=>none
theorem ayV{v w:Value}(h:apV P n p e=some (v,w,E,sz)):∃x y T U s1 b1 z1 a1 E2 s2 b2 z2 a2 d bG z ag,p.op= .call ⟨.builtin .append,#[x,y],#[T,U]⟩∧TF P T (.slice E) s1 b1 z1 a1∧TF P U (.slice E2) s2 b2 z2 a2∧TF P E d sz bG z ag∧z.length=sz∧bG≤65536∧bA n e x=some v∧bA n e y=some w:=by
 unfold apV at h
 split at h<;>try (cases h;done)
 rename_i x y T U az
 split at h<;>try (cases h;done)
 rename_i E' _ _ _ dX
 obtain⟨b1,tf1⟩:=av dX
 cases hU:HP P U with
 |false=>rw[hU] at h;cases h
 |true=>
  rw[hU] at h;simp only[cond_true] at h
  obtain⟨E2,s2,b2,z2,a2,ri⟩:=HO hU
  split at h<;>try (cases h;done)
  rename_i te uw
  obtain⟨b3,tf3⟩:=av uw
  split at h<;>try (cases h;done)
  rename_i ie hie
  cases hb:(Nat.beq te.zero.length te.size&&Nat.ble ie.bytes 65536) with
  |false=>rw[hb] at h;cases h
  |true=>
   rw[hb] at h;simp only[cond_true] at h
   split at h<;>try (cases h;done)
   rename_i hx
   split at h<;>try (cases h;done)
   rename_i hy
   simp only[Option.some.injEq,Prod.mk.injEq] at h
   obtain⟨rfl,rfl,rfl,rfl⟩:=h
   simp only[Bool.and_eq_true,Nat.ble_eq] at hb
   obtain⟨i2,g1,_,g3,_⟩:=tf3.info
   rw[hie] at g1;cases g1
   exact⟨x,y,T,U,_,b1,_,_,E2,s2,b2,z2,a2,_,b3,_,_,az,tf1,ri,tf3,Nat.eq_of_beq_eq_true hb.1,by omega,hx,hy⟩
theorem gL{v w:Value}{enc:α→List Value}{ps qs:List α}{L:Cells}(is lp:List Nat)(B:Cells)(lq:aw v sz E enc ps L)(Mz:∀s:St,Ext ⟨X.ro,[]⟩ s→(∀x∈B,s.has x.1 x.2)→Sl s w sz enc qs)(hq:∀p∈qs,∀c∈enc p,single c=true)(hb:ps.length+qs.length≤1048576)(hj:∀v' L',aw v' sz E enc (ps++qs) L'→J X (abj is v' L' o))
 (hv:fq X.n (apV X.P X.n) o=some (v,w,E,sz):=by kernel_rfl)(h2:eg is o=some L:=by kernel_rfl)(h3:eg lp o=some B:=by kernel_rfl):J X o:=by
 obtain⟨ops,i0,todo,kk,ev,w0,kn,p,rfl,ho,hw,hc⟩:=dJ hv
 obtain⟨x,y,T,U,s1,b1,z1,a1,E2,s2,b2,z2,a2,d,bG,z,ag,az,tf1,ri,tf3,hz,hby,hx,hy⟩:=ayV hc
 intro bZ
 rcases p with ⟨dst,op,ty,pos,dk,g⟩
 dsimp only at az;subst az
 have hp:=bM h2
 refine wz X.hC hp<|oap X.hC ho hw tf1 ri tf3 hz hx hy lq (Mz _ O2 fun u hu=>?_) hq ⟨hb,hby⟩ fun v' L' hL'=>?_
 ·rcases Tm (X:=X) h3 u hu with h|h
  ·exact .inl h
  exact .inr (hp.mem_iff.1 h)
 have:=hj v' L' hL'
 rw[Yr ho] at this
 have:=this bZ
 simp only[JP,gG] at this
 exact this
theorem aOZ{w:Value}(enc:α→List Value){qs:List α}(lp:List Nat)(B:Cells)(Mz:∀s:St,Ext ⟨X.ro,[]⟩ s→(∀x∈B,s.has x.1 x.2)→Sl s w sz enc qs)(hq:∀p∈qs,∀c∈enc p,single c=true)(hb:qs.length≤1048576)(hj:∀v' L',aw v' sz E enc qs L'→J X (abj [] v' L' o))
 (hv:fq X.n (apV X.P X.n) o=some (.slice none 0 0,w,E,sz):=by kernel_rfl)(h3:eg lp o=some B:=by kernel_rfl)(h2:eg [] o=some []:=by kernel_rfl):J X o:=
 gL (ps:=[]) [] lp B (aw.nil sz E enc) Mz hq (by simpa using hb) (fun v' L' h=>hj v' L' h) hv h2 h3
end
attribute [irreducible] abj
section
variable {X:Cx} {o:Option JS}
def nxV(n:Nat)(p:Oper)(e:Env):Option Nat:=match p.op with
 | .next x true=>match bA n e x with
  |some (.pointer (some ⟨r,0,none⟩))=>some r
  |_=>none
 |_=>none
theorem afI(h:nxV n p e=some r):∃x,p.op= .next x true∧bA n e x=some (.pointer (some ⟨r,0,none⟩)):=by
 unfold nxV at h
 split at h<;>try (cases h;done)
 rename_i az
 split at h<;>try (cases h;done)
 rename_i hx
 cases h
 exact⟨_,az,hx⟩
def UT(i:Nat)(v:Value)(b:Nat)(ob:Obj):Option JS→Option JS
 |some ⟨.ops ops (j::todo) k,e,w,kn⟩=>match ops[j]? with
  |some p=>some ⟨.ops ops todo k,upd p.dst v e,.b b ob::dO [i] 0 w,kn⟩
  |none=>none
 |_=>none
theorem jnA{p:Nat}{c:UInt8}(r i:Nat)(hp:b.data.toList[p]?=some c) (ha:c.toNat <128) (hj:J X (UT i (.tuple ⟨[.bool true,.int .i64 p,.int .i32 c.toNat]⟩) r (.stringIter b (p+1)) o))
 (hv:fq X.n (nxV X.n) o=some r:=by kernel_rfl) (hB:eg [i] o=some [(r,.stringIter b p)]:=by kernel_rfl):J X o:=by
 obtain⟨ops,i0,todo,kk,ev,w0,kn,q,rfl,ho,hw,hc⟩:=dJ hv
 obtain⟨x,az,hx⟩:=afI hc
 intro bZ
 rcases q with ⟨dst,op,ty,pos,dk,g⟩
 dsimp only at az;subst az
 refine wz X.hC (bM hB) (am3 X.hC ho hw hx hp ha ?_)
 simp only[UT,ho] at hj
 have:=hj bZ
 simp only[JP,jh] at this
 exact this
theorem jnZ{p:Nat}(r i:Nat)(hp:b.data.toList[p]?=none) (hj:J X (UT i (.tuple ⟨[.bool false]⟩) r (.stringIter b p) o))
 (hv:fq X.n (nxV X.n) o=some r:=by kernel_rfl) (hB:eg [i] o=some [(r,.stringIter b p)]:=by kernel_rfl):J X o:=by
 obtain⟨ops,i0,todo,kk,ev,w0,kn,q,rfl,ho,hw,hc⟩:=dJ hv
 obtain⟨x,az,hx⟩:=afI hc
 intro bZ
 rcases q with ⟨dst,op,ty,pos,dk,g⟩
 dsimp only at az;subst az
 refine wz X.hC (bM hB) (am2 X.hC ho hw hx hp ?_)
 simp only[UT,ho] at hj
 have:=hj bZ
 simp only[JP,jh] at this
 exact this
theorem jcG{own:Cells}{Φ:Value→(Nat→Option Obj)→Cells→Prop}(ps:List Nat)(hf:FnG X.P f vs X.ro own Φ)(hj:∀v aC Y,Sub X.ro aC→Φ v aC Y→J (X.at aC) (nG ps v Y o))(h1:fq X.n (y9 X.P X.n) o=some (f,vs):=by kernel_rfl)(h2:eg ps o=some own:=by kernel_rfl):J X o:=by
 obtain⟨ops,i,todo,k,e,w,kn,p,rfl,ho,hw,hc⟩:=dJ h1
 obtain⟨ff,x,xs,at_,fi,ca,ws,az,hx,su,rfl⟩:=qX hc
 intro bZ
 rcases p with ⟨dst,op,ty,pos,dk,g⟩
 dsimp only at az;subst az
 have hp:=bM h2
 refine uk (fi:=⟨fi⟩) (ca:=⟨ca⟩) (ws:=fi++ws++ca) X.hC ho hw hx ff su (TG fi ws ca) (Fn.weaken X.hC (FnG.use (s:=⟨X.ro,den w⟩) hp hf)) (fun v' s' hr=>?_) (fun ch s' hr=>by obtain⟨_,_,_,e,_⟩:=hr;cases e) (fun s' hr=>by obtain⟨_,_,_,e,_⟩:=hr;cases e)
 obtain⟨v,aC,Y,hv,hs,qB,hle⟩:=hr
 cases hv
 have:=hj _ aC Y hs qB
 rw[oE ho] at this
 have:=this (bZ.up hs)
 simp only[JP,gG,JA] at this
 exact this.more X.hC hle
def ajT(n:Nat)(p:Oper)(e:Env):Option (FuncId×List Value):=match p.op with
 | .call ⟨.value (.func f),xs,_⟩=>match yF n e xs.toList with
  |some vs=>some (f,vs)
  |none=>none
 |_=>none
theorem O3(h:ajT n p e=some (f,vs)):∃xs at_,p.op= .call ⟨.value (.func f),xs,at_⟩∧yF n e xs.toList=some vs:=by
 unfold ajT at h
 split at h<;>try (cases h;done)
 rename_i az
 split at h<;>try (cases h;done)
 rename_i hx
 cases h
 exact⟨_,_,az,hx⟩
theorem jib{a:ByteArray}{b:Int}(ef:EF X.P f Extern.BytealgIndexByte.indexByte)(hj:J X (kP (.int .i64 (R7 a b.toNat.toUInt8)) o))(hv:dR X.n (ajT X.n) o=some (f,[.string a,.int .u8 b]):=by kernel_rfl):J X o:=by
 refine jGS hv (fun s p e _ hf=>?_) hj
 obtain⟨xs,at_,az,hx⟩:=O3 hf
 rcases p with ⟨dst,op,ty,pos,dk,g⟩
 dsimp only at az;subst az
 exact⟨fun ops i tz rest hw s' hs todo Q hk=>afD X.hC tz hw ef (xW hx) hk,fun hk=>by cases hk⟩
theorem aOP{v:Value}(ef:EF X.P f Extern.AbiNoEscape.same)(hj:J X (kP v o))(hv:dR X.n (ajT X.n) o=some (f,[v]):=by kernel_rfl):J X o:=by
 refine jGS hv (fun s p e _ hf=>?_) hj
 obtain⟨xs,at_,az,hx⟩:=O3 hf
 rcases p with ⟨dst,op,ty,pos,dk,g⟩
 dsimp only at az;subst az
 exact⟨fun ops i tz rest hw s' hs todo Q hk=>am1 X.hC tz hw ef (xW hx) hk,fun hk=>by cases hk⟩
def mmV(n:Nat)(p:Oper)(e:Env):Option (Bool×Value×Value):=match p.op with
 | .call ⟨.builtin .min,⟨[x,y]⟩,⟨[_,_]⟩⟩=>match bA n e x with
  |some v=>match bA n e y with
   |some w=>some (true,v,w)
   |none=>none
  |none=>none
 | .call ⟨.builtin .max,⟨[x,y]⟩,⟨[_,_]⟩⟩=>match bA n e x with
  |some v=>match bA n e y with
   |some w=>some (false,v,w)
   |none=>none
  |none=>none
 |_=>none
theorem jmn{k:IntKind}{a b:Int}(hj:J X (kP (.int k (min a b)) o))(hv:dR X.n (mmV X.n) o=some (true,.int k a,.int k b):=by kernel_rfl):J X o:=by
 refine TZ hv (fun s p e _ hf=>?_) hj
 unfold mmV at hf
 split at hf<;>try (cases hf;done)
 ·rename_i az
  split at hf<;>try (cases hf;done)
  rename_i hx
  split at hf<;>try (cases hf;done)
  rename_i hy
  cases hf
  rcases p with ⟨dst,op,ty,pos,dk,g⟩
  dsimp only at az;subst az
  exact fun s0 ops i tz rest hw s' hs todo Q hk=>auE X.hC tz hw (bp hx) (bp hy) hk
 split at hf<;>try (cases hf;done)
 split at hf<;>cases hf
theorem jmx{k:IntKind}{a b:Int}(hj:J X (kP (.int k (max a b)) o))(hv:dR X.n (mmV X.n) o=some (false,.int k a,.int k b):=by kernel_rfl):J X o:=by
 refine TZ hv (fun s p e _ hf=>?_) hj
 unfold mmV at hf
 split at hf<;>try (cases hf;done)
 ·split at hf<;>try (cases hf;done)
  split at hf<;>cases hf
 rename_i az
 split at hf<;>try (cases hf;done)
 rename_i hx
 split at hf<;>try (cases hf;done)
 rename_i hy
 cases hf
 rcases p with ⟨dst,op,ty,pos,dk,g⟩
 dsimp only at az;subst az
 exact fun s0 ops i tz rest hw s' hs todo Q hk=>auF X.hC tz hw (bp hx) (bp hy) hk
theorem PS(i b off:Nat)(c l:List Value)(t:TypeId)(h1:∀v∈l,single v=true)(hb:Nat.ble (off+l.length) c.length=true)(hj:J X (UT i undef b (.cells ⟨dK c off l⟩ t (0,0)) o))(hv:fq X.n (amo X.P X.n) o=some (⟨b,off,none⟩,l,l.length):=by kernel_rfl)(h2:eg [i] o=some [(b,.cells ⟨c⟩ t (0,0))]:=by kernel_rfl):J X o:=by
 obtain⟨ops,i0,todo,kk,ev,w,kn,p,rfl,ho,hw,hc⟩:=dJ hv
 obtain⟨T,x,y,d,bG,z,ag,u,az,tf,hx,hy,hu⟩:=XQ hc
 intro bZ
 rcases p with ⟨dst,op,ty,pos,dk,g⟩
 dsimp only at az;subst az
 refine wz X.hC (bM h2)<|ost X.hC ho hw tf hx hy hu rfl h1 (Nat.le_of_ble_eq_true hb) ?_
 simp only[UT,ho] at hj
 have:=hj bZ
 simp only[JP,jh] at this
 exact this
def aiV(P:Program)(n:Nat)(p:Oper)(e:Env):Option (List Value×Int×Nat×Nat×Bool):=match p.op with
 | .index T x y=>match bh P T with
  |some ⟨.array len E,_,_,_⟩=>match bh P E with
   |some te=>match bA n e x with
    |some (.agg ⟨l⟩)=>match bA n e y with
     |some (.int _ ix)=>some (l,ix,len,te.size,te.agg)
     |_=>none
    |_=>none
   |none=>none
  |_=>none
 |_=>none
theorem jai{v:Value}(ix:Int)(len sz:Nat)(ag:Bool)(hi:0≤ix∧ix <len)(hp:Hn ag l (ix.toNat*sz) sz=some v)(hj:J X (kP v o))(hv:dR X.n (aiV X.P X.n) o=some (l,ix,len,sz,ag):=by kernel_rfl):J X o:=by
 refine TZ hv (fun s p e _ hf=>?_) hj
 unfold aiV at hf
 split at hf<;>try (cases hf;done)
 rename_i az
 split at hf<;>try (cases hf;done)
 rename_i dX
 split at hf<;>try (cases hf;done)
 rename_i te uw
 split at hf<;>try (cases hf;done)
 rename_i hx
 split at hf<;>try (cases hf;done)
 rename_i hy
 cases hf
 obtain⟨b1,tf⟩:=av dX
 obtain⟨b2,ri⟩:=av uw
 rcases p with ⟨dst,op,ty,pos,dk,g⟩
 dsimp only at az;subst az
 exact fun s0 ops i tz rest hw s' hs todo Q hk=>afE X.hC tz hw tf ri (bp hx) (bp hy) hi hp hk
def tF(m:Nat)(e:Env):Option JS→Option JS
 |some ⟨.ops ops todo k,_,w,kn⟩=>some ⟨.ops ops (todo.drop m) k,e,w,kn⟩
 |_=>none
theorem jj(m:Nat)(e:Env)(hj:∀rest,J X (tF m (e++rest) o))(h:(∀o',tF 0 [] o'=tF m [] o→rF (nJ e) o'=some e→J X o')→J X o)(hd:lkE (nJ e) e=some e:=by kernel_rfl):J X o:=by
 refine h fun o' h1 h2=>?_
 cases o' with
 |none=>simp[rF] at h2
 |some s'=>
  rcases s' with ⟨p',e',w',kn'⟩
  cases o with
  |none=>exact(hj []).elim
  |some s=>
   rcases s with ⟨p,e0,w,kn⟩
   cases p' with
   |ops bbn ad6 k'=>
    cases p with
    |ops ops todo k=>
     simp only[tF,Option.some.injEq,JS.mk.injEq,Pos.ops.injEq,List.drop_zero,true_and] at h1
     obtain⟨⟨rfl,rfl,rfl⟩,rfl,rfl⟩:=h1
     rw[tw] at h2
     obtain⟨r,hr⟩:=gv (n:=X.n) (D:=X.D) (lh h2) (lh hd)
     intro bZ
     have:=hj r bZ
     show ae _ _ _ _ _ _ (A X.n e' X.D) _
     rw[hr]
     exact this
    |_=>simp[tF] at h1
   |_=>cases p<;>simp[tF] at h1<;>exact(hj []).elim
end
attribute [irreducible] tF UT
section
variable {X:Cx} {o:Option JS}
def auW(i:Nat)(rest:Env)(todo:List Nat):Option JS→Option JS
 |some ⟨.IW ops base Pl _ k,_,w,kn⟩=>some ⟨.ops ops (i::todo) k,cF ops base i Pl++rest,w,kn⟩
 |_=>none
def LK(X:Cx)(i:Nat)(o:Option JS)(rest:Env)(todo:List Nat):Prop:=match o with
 |some ⟨.IW ops base Pl Sl k,_,w,kn⟩=>∀v s',(∀j u,(j,u)∈pending ops i Sl→th ops X.n base Pl j=false→(∀B,(j,B)∈kn.nd→Ext ⟨X.ro,[]⟩ s'→(∀x∈B,s'.has x.1 x.2)→eZ X.C X.fn X.aA ops X.n X.D j u (cF ops base j Pl) s')→eZ X.C X.fn X.aA ops X.n X.D j u (cF ops base j Pl) ⟨X.ro,den w⟩→eZ X.C X.fn X.aA ops X.n X.D j u (cF ops base j Pl) s')→
  (PF X kn.nd ops base ((i,v)::Pl) (pending ops i Sl)→tL X.C X.fn X.aA ops X.n X.D base ((i,v)::Pl) (pending ops i Sl) (KQ X k) s')→ae X.C X.fn X.aA ops todo (KQ X k) (A X.n (upd (aR ops i) v (cF ops base i Pl++rest)) X.D) s'
 |_=>True
def YD(is:List Nat):Option JS→Bool
 |some ⟨.IW ops _ Pl Sl _,_,_,_⟩=>fN ops&&((is.all fun i=>Nat.blt i ops.size&& !bn i (ak Pl))&&(nodupB (ak Pl)&&(py ops (ak Pl)&&(fO (ak Sl) (ak Pl)&&(afx ops (ak Pl) is&& !is.isEmpty)))))
 |_=>false
def akZ(X:Cx)(o:Option JS):List Nat→Prop
 | []=>True
 |i::is=>(∀rest todo,LK X i o rest todo→J X (auW i rest todo o))∧akZ X o is
theorem Gm(is:List Nat)(h:akZ X o is)(hb:YD is o=true:=by kernel_rfl):J X o:=by
 unfold YD at hb
 split at hb<;>try (cases hb;done)
 rename_i ops base Pl Sl k e w kn
 simp only[Bool.and_eq_true,Bool.not_eq_true'] at hb
 obtain⟨h1,h2,h3,h4,h5,h6,h7⟩:=hb
 intro bZ hpf
 refine acJ is h1 h2 h3 h4 h5 h6 ?_ h7
 clear h6 h7
 induction is with
 |nil=>trivial
 |cons i is ih=>
  simp only[List.all_cons,Bool.and_eq_true,Bool.not_eq_true'] at h2
  refine⟨fun rest todo hk=>h.1 rest todo (fun v s' hp ha=>?_) bZ,ih h.2 h2.2⟩
  have jM:∀x,x∈pending ops i Sl→x∈Sl:=fun x hx=>(List.mem_filter.1 hx).1
  refine hk v s' (fun j u JM bX=>?_) (ha ⟨fun j u JM hpb s0=>?_,fun j u B JM hB s0 HW uB=>?_⟩)
  ·cases hpb:th ops X.n base Pl j with
   |true=>exact hpf.1 j u (jM _ JM) hpb s'
   |false=>exact hp j u JM hpb (fun B hB hx hb=>hpf.2 j u B (jM _ JM) hB s' hx hb) bX
  ·have PY:j∈ak Sl:=aP.2 ⟨u,jM _ JM⟩
   have q9:i∉bB ops j:=fun hd=>by
    have h8:=bQ.1 h5 j PY
    have h9:=bQ.1 (List.all_eq_true.1 h4 j h8) i hd
    rw[aJ.2 h9] at h2;exact absurd h2.1.2 (by simp)
   rw[db q9]
   exact hpf.1 j u (jM _ JM) (by simp only[th,db q9] at hpb;exact hpb) s0
  have PY:j∈ak Sl:=aP.2 ⟨u,jM _ JM⟩
  have q9:i∉bB ops j:=fun hd=>by
   have h8:=bQ.1 h5 j PY
   have h9:=bQ.1 (List.all_eq_true.1 h4 j h8) i hd
   rw[aJ.2 h9] at h2;exact absurd h2.1.2 (by simp)
  rw[db q9]
  exact hpf.2 j u B (jM _ JM) hB s0 HW uB
theorem aS(i:Nat)(h:∀rest todo,LK X i o rest todo→J X (auW i rest todo o))(hb:YD [i] o=true:=by kernel_rfl):J X o:=Gm [i] ⟨h,trivial⟩ hb
def W5(i:Nat):Option JS→Option JS→Option JS
 |some ⟨.IW ops base Pl Sl k,e,_,kn⟩,some ⟨.ops _ _ _,e',w',kn'⟩=>some ⟨.IW ops base ((i,match aR ops i with
  |some d=>(iq e' d).getD undef
  |none=>undef)::Pl) (pending ops i Sl) k,e,w',⟨kn'.c,kn.nd⟩⟩
 |_,_=>none
def bkL(i:Nat)(rest:Env)(todo:List Nat):Option JS→Option JS→Option JS
 |some ⟨.IW ops base Pl _ k,_,_,_⟩,some ⟨_,e',w',kn'⟩=>some ⟨.ops ops todo k,upd (aR ops i) (match aR ops i with
  |some d=>(iq e' d).getD undef
  |none=>undef) (cF ops base i Pl++rest),w',kn'⟩
 |_,_=>none
theorem WX(h:bkL i rest todo o o1=o1)(h1:o1≠none):∃ops base Pl Sl k e w kn v w' kn',o=some ⟨.IW ops base Pl Sl k,e,w,kn⟩∧o1=some ⟨.ops ops todo k,upd (aR ops i) v (cF ops base i Pl++rest),w',kn'⟩:=by
 unfold bkL at h
 split at h
 ·simp only[Option.some.injEq,JS.mk.injEq] at h
  obtain⟨rfl,h,_⟩:=h
  exact⟨_,_,_,_,_,_,_,_,_,_,_,rfl,by rw[h]⟩
 exact(h1 h.symm).elim
def rwO:Option JS→List Sg
 |some s=>s.rw
 |none=>[]
theorem ep(hK:LK X i o rest todo)(is:List Nat)(hj:J X (W5 i o o1))(hc:bkL i rest todo o o1=o1:=by kernel_rfl)(h2:rB is o1=some (rwO o):=by kernel_rfl):J X o1:=by
 by_cases ek:o1=none
 ·subst ek
  cases o with
  |none=>exact hj
  |some s=>rcases s with ⟨p,e,w,kn⟩;cases p<;>exact hj
 obtain⟨kQ,base,Pl,Sl,k,e,w,kn,v,w',kn',rfl,rfl⟩:=WX hc ek
 intro bZ
 have hp:=mh h2
 have hv:(match aR kQ i with
  |some d=>(iq (upd (aR kQ i) v (cF kQ base i Pl++rest)) d).getD undef
  |none=>undef)=v∨aR kQ i=none:=by
  cases hd:aR kQ i with
  |none=>exact .inr rfl
  |some d=>left;simp[upd,iq]
 have hj:=hj bZ
 simp only[W5,JP] at hj
 have key:=hK (match aR kQ i with
  |some d=>(iq (upd (aR kQ i) v (cF kQ base i Pl++rest)) d).getD undef
  |none=>undef) ⟨X.ro,den w'⟩ (fun j u _ _ _ hs=>hs.ext fun b ob hb=>?_) hj
 ·show ae _ _ _ _ _ _ _ _
  rcases hv with hv|hv
  ·rw[hv] at key;exact key
  rw[hv] at key ⊢;exact key
 rcases hb with hb|hb
 ·exact .inl hb
 exact .inr (hp.mem_iff.2 (List.mem_append_left _ hb))
def afh(i:Nat):Option JS→Bool
 |some ⟨.IW ops _ _ Sl _,_,_,_⟩=>(pending ops i Sl).isEmpty
 |_=>false
theorem gA(hK:LK X i o rest todo)(hj:J X (W5 i o o1))(hc:bkL i rest todo o o1=o1:=by kernel_rfl)(h2:afh i o=true:=by kernel_rfl):J X o1:=by
 by_cases ek:o1=none
 ·subst ek
  cases o with
  |none=>exact hj
  |some s=>rcases s with ⟨p,e,w,kn⟩;cases p<;>exact hj
 obtain⟨kQ,base,Pl,Sl,k,e,w,kn,v,w',kn',rfl,rfl⟩:=WX hc ek
 intro bZ
 have hv:(match aR kQ i with
  |some d=>(iq (upd (aR kQ i) v (cF kQ base i Pl++rest)) d).getD undef
  |none=>undef)=v∨aR kQ i=none:=by
  cases hd:aR kQ i with
  |none=>exact .inr rfl
  |some d=>left;simp[upd,iq]
 have hj:=hj bZ
 simp only[W5,JP] at hj
 have hpe:pending kQ i Sl=[]:=by simpa [afh] using h2
 have key:=hK (match aR kQ i with
  |some d=>(iq (upd (aR kQ i) v (cF kQ base i Pl++rest)) d).getD undef
  |none=>undef) ⟨X.ro,den w'⟩ (fun j u JM=>by rw[hpe] at JM;cases JM) hj
 show ae _ _ _ _ _ _ _ _
 rcases hv with hv|hv
 ·rw[hv] at key;exact key
 rw[hv] at key ⊢;exact key
def ndG:List (Nat×Cells)→Nat→Option Cells
 | [],_=>none
 | (i,B)::l,j=>bif Nat.beq i j then some B else ndG l j
theorem Ys{j:Nat}{B:Cells}:∀ {l:List (Nat×Cells)},ndG l j=some B→(j,B)∈l
 | (i,C)::l,h=>by
  simp only[ndG] at h
  cases hb:Nat.beq i j with
  |true=>
   rw[hb] at h;simp only[cond_true,Option.some.injEq] at h;subst h
   have:=Nat.eq_of_beq_eq_true hb;subst this
   exact List.mem_cons_self
  |false=>rw[hb] at h;simp only[cond_false] at h;exact List.mem_cons_of_mem _ (Ys h)
structure Rk where
 a:List Value
 b:List Value
 c:List (Option Cells)
 d:List (Option Cells)
def aHD(ps:List Nat)(w:List Sg):Option Cells:=bif Hs ps then (match Rb ps w with
 |some x=>some (den x)
 |none=>none) else none
def rkL(P:Program)(n:Nat)(ops:Array Oper)(base:Env)(Pl:List (Nat×Value))(nd:List (Nat×Cells))(w:List Sg)(kn:Cells):List (List Nat)→List (Nat×Value)→Option Rk
 |_,[]=>some ⟨[],[],[],[]⟩
 |hs,(j,u)::r=>bif th ops n base Pl j then rkL P n ops base Pl nd w kn hs r else (match hs with
  |h::hs=>match ndG nd j with
   |some B=>match rkL P n ops base Pl nd w kn hs r with
    |some ⟨a,b,c,d⟩=>some ⟨a,b,aHD h w::c,some B::d⟩
    |none=>none
   |none=>match ops[j]? with
    |some p=>match wV ops n (cF ops base j Pl) p.guard with
     |some true=>match p.op with
      | .load T x=>match bA n (cF ops base j Pl) x with
       |some (.pointer (some ⟨b,off,none⟩))=>match Cc w kn (h.headD 0) with
        |some (b',l)=>match ldv P T l off with
         |some v=>match rkL P n ops base Pl nd w kn hs r with
          |some ⟨a1,b1,c,d⟩=>some ⟨v:: .int .i64 b'::a1,u:: .int .i64 b::b1,c,d⟩
          |none=>none
         |none=>none
        |none=>none
       |_=>none
      |_=>none
     |_=>none
    |none=>none
  | []=>none)
theorem NC{ops:Array Oper}{base:Env}{Pl:List (Nat×Value)}{nd:List (Nat×Cells)}{w:List Sg}{kn:Cells}(bZ:Knows X.ro kn):∀ {l:List (Nat×Value)} {hs:List (List Nat)} {k:Rk},rkL X.P X.n ops base Pl nd w kn hs l=some k→k.a=k.b→k.c=k.d→∀j u,(j,u)∈l→th ops X.n base Pl j=false→
 (∀B,(j,B)∈nd→Ext ⟨X.ro,[]⟩ ⟨X.ro,den w⟩→(∀x∈B,(⟨X.ro,den w⟩:St).has x.1 x.2)→eZ X.C X.fn X.aA ops X.n X.D j u (cF ops base j Pl) ⟨X.ro,den w⟩)→eZ X.C X.fn X.aA ops X.n X.D j u (cF ops base j Pl) ⟨X.ro,den w⟩
 | [],_,_,_,_,_,j,u,h,_,_=>by cases h
 | (j0,u0)::r,hs,k,h,Cw,hcd,j,u,hm,hpj,mG=>by
  simp only[rkL] at h
  cases hpb:th ops X.n base Pl j0 with
  |true=>
   rw[hpb] at h;simp only[cond_true] at h
   rcases List.mem_cons.1 hm with h1|h1
   ·cases h1;rw[hpb] at hpj;cases hpj
   exact NC bZ h Cw hcd j u h1 hpj mG
  |false=>
   rw[hpb] at h;simp only[cond_false] at h
   split at h<;>try (cases h;done)
   rename_i h0 bL
   split at h
   ·rename_i B hB
    split at h<;>try (cases h;done)
    rename_i a b c d hr
    cases h
    simp only[List.cons.injEq] at hcd
    rcases List.mem_cons.1 hm with h1|h1
    ·cases h1
     refine mG B (Ys hB) O2 fun x hx=> .inr ?_
     have hw:=hcd.1
     unfold aHD at hw
     cases ho:Hs h0 with
     |false=>rw[ho] at hw;cases hw
     |true=>
      rw[ho] at hw;simp only[cond_true] at hw
      split at hw<;>try (cases hw;done)
      rename_i y hy
      simp only[Option.some.injEq] at hw;subst hw
      exact(xN hy ho).mem_iff.2 (List.mem_append_left _ hx)
    exact NC bZ hr Cw hcd.2 j u h1 hpj mG
   split at h<;>try (cases h;done)
   rename_i p hp
   have FL:aR ops j0=p.dst:=by simp only[aR,hp,Option.bind_some]
   split at h<;>try (cases h;done)
   rename_i hg
   split at h<;>try (cases h;done)
   rename_i T x az
   split at h<;>try (cases h;done)
   rename_i b0 off hx
   split at h<;>try (cases h;done)
   rename_i b' l hc
   split at h<;>try (cases h;done)
   rename_i v hv
   split at h<;>try (cases h;done)
   rename_i a1 b1 c d hr
   cases h
   simp only[List.cons.injEq,Value.int.injEq,true_and] at Cw
   obtain⟨rfl,hb,Cw⟩:=Cw
   have hb:b'=b0:=by omega
   subst hb
   rcases List.mem_cons.1 hm with h1|h1
   ·cases h1
    obtain⟨t,fz,hh⟩:=AG (X:=X) bZ hc
    intro s1 hx1 rest todo Q hk
    rw[FL] at hk
    exact mi X.hC hp rest (n7 hg rest) (by rw[az];rfl) (agh az hx hh hv) hx1 hk
   exact NC bZ hr Cw hcd j u h1 hpj mG
def rkO(P:Program)(n i:Nat)(hs:List (List Nat)):Option JS→Option JS→Option Rk
 |some ⟨.IW ops base Pl Sl _,_,_,kn⟩,some s1=>rkL P n ops base Pl kn.nd s1.rw s1.kn.c hs (pending ops i Sl)
 |_,_=>none
def rkA:Option Rk→Option (List Value×List (Option Cells))
 |some k=>some (k.a,k.c)
 |none=>some ([],[])
def rkB:Option Rk→Option (List Value×List (Option Cells))
 |some k=>some (k.b,k.d)
 |none=>none
theorem fR(hK:LK X i o rest todo)(hs:List (List Nat))(hj:J X (W5 i o o1))(hc:bkL i rest todo o o1=o1:=by kernel_rfl)(h2:rkA (rkO X.P X.n i hs o o1)=rkB (rkO X.P X.n i hs o o1):=by kernel_rfl):J X o1:=by
 by_cases ek:o1=none
 ·subst ek
  cases o with
  |none=>exact hj
  |some s=>rcases s with ⟨p,e,w,kn⟩;cases p<;>exact hj
 obtain⟨kQ,base,Pl,Sl,k,e,w,kn,v,w',kn',rfl,rfl⟩:=WX hc ek
 intro bZ
 have hv:(match aR kQ i with
  |some d=>(iq (upd (aR kQ i) v (cF kQ base i Pl++rest)) d).getD undef
  |none=>undef)=v∨aR kQ i=none:=by
  cases hd:aR kQ i with
  |none=>exact .inr rfl
  |some d=>left;simp[upd,iq]
 have hj:=hj bZ
 simp only[W5,JP] at hj
 have bX:∀j u,(j,u)∈pending kQ i Sl→th kQ X.n base Pl j=false→(∀B,(j,B)∈kn.nd→Ext ⟨X.ro,[]⟩ ⟨X.ro,den w'⟩→(∀x∈B,(⟨X.ro,den w'⟩:St).has x.1 x.2)→eZ X.C X.fn X.aA kQ X.n X.D j u (cF kQ base j Pl) ⟨X.ro,den w'⟩)→eZ X.C X.fn X.aA kQ X.n X.D j u (cF kQ base j Pl) ⟨X.ro,den w'⟩:=by
  simp only[rkO] at h2
  cases hr:rkL X.P X.n kQ base Pl kn.nd w' kn'.c hs (pending kQ i Sl) with
  |none=>rw[hr] at h2;cases h2
  |some x=>
   rw[hr] at h2
   simp only[rkA,rkB,Option.some.injEq,Prod.mk.injEq] at h2
   exact NC bZ hr h2.1 h2.2
 have key:=hK (match aR kQ i with
  |some d=>(iq (upd (aR kQ i) v (cF kQ base i Pl++rest)) d).getD undef
  |none=>undef) ⟨X.ro,den w'⟩ (fun j u JM hpb hn _=>bX j u JM hpb hn) hj
 show ae _ _ _ _ _ _ _ _
 rcases hv with hv|hv
 ·rw[hv] at key;exact key
 rw[hv] at key ⊢;exact key
end
attribute [irreducible] rkO rkA rkB auW YD W5 bkL rwO afh
abbrev RY(ro:Nat→Option Obj)(Φ:Value→Cells→Prop):Ending→St→Prop:=fun en s'=>∃v X,en= .returned v∧(⟨ro,X⟩:St).le s'∧Φ v X
theorem Round.mono{l:Nat}{bd:Code}{R':Ending→St→Prop}(h:Round C l f tm as bd s R)(hr:∀e s,R e s→R' e s):Round C l f tm as bd s R':=
 fun main T hT c cs k1 k2=>h main T hT c cs (fun v s' hv=>k1 v s' (hr _ _ hv)) (fun ch s' hv=>k2 ch s' (hr _ _ hv))
theorem Round.weaken{C':Class}(hc:∀main T,C' main T→C main T){l:Nat}{bd:Code}(h:Round C l f tm as bd s R):Round C' l f tm as bd s R:=
 fun main T hT=>h main T (hc main T hT)
theorem Round.frame{l:Nat}{bd:Code}{s1:St}{B:Cells}(hf:Round (CP P) l f tm as bd s1 R)(hB:∀x∈B,x∈fr)(hc:acV fr B ro s1 s):
 Round (CP P) l f tm as bd s (fun en s'=>∃zn,R en zn∧acV fr B ro zn s'):=
 fun main T hT c cs k1 k2=>hf main _ (BW hT hB ro) c cs (fun v zn hv _ s' tB=>k1 v s' ⟨zn,hv,tB⟩) (fun ch zn hv _ s' tB=>k2 ch s' ⟨zn,hv,tB⟩) rfl s hc
def adt(r:Loop)(vs:List Value):Array Value:=(r.params.zip ⟨vs⟩).foldl (fun tmps (x:Tmp×Value)=>tmps.setIfInBounds x.1 x.2) r.tmps
def YX(P:Program)(bl:Nat)(vs:List Value)(ro:Nat→Option Obj)(own:Cells)(Φ:Value→Cells→Prop):Prop:=
 ∃r,(bl,.loop r)∈own∧vs.length=r.params.size∧Round (CP P) bl r.fn (adt r vs) r.assign r.body ⟨ro,own⟩ (RY ro Φ)
theorem YX.use{own:Cells}(hy:YX P bl vs ro own Φ)(hs:Sub ro s.ro)(hp:s.rw.Perm (own++fr)){Q:Next→St→Prop}{E:Halt→St→Prop}
 (h:∀l f tm as bd,Round (CP P) l f tm as bd s (fun en s'=>∃v X,en= .returned v∧Φ v X∧(⟨s.ro,X++fr⟩:St).le s')→Q (.round l f tm as bd) s):bR P (Instr.yield bl ⟨vs⟩) s Q E:=by
 obtain⟨r,h1,h2,h3⟩:=hy
 simp only[Instr.yield,Instr.getLoop,aa]
 refine cO (o:= .loop r) (.inr (hp.mem_iff.2 (List.mem_append_left _ h1))) rfl rfl ?_
 have vw:¬(⟨vs⟩:Array Value).size≠r.params.size:=by simpa using h2
 simp only[af,if_neg vw]
 refine h _ _ _ _ _ (Round.mono (Round.frame (fr:=fr) (B:=[]) (ro:=s.ro) (s:=s) h3 (fun _ h=>(by cases h)) ⟨hp,fun b o hb=> .inl (hs b o hb),Sub.refl _⟩) fun en s' EN=>?_)
 obtain⟨zn,⟨v,X,rfl,⟨R,hR1,hR2⟩,qB⟩,hc⟩:=EN
 refine⟨v,X,rfl,qB,R,?_,fun b o hb=> .inl (hc.keep b o hb)⟩
 refine hc.rw.trans ((hR1.append_right fr).trans ?_)
 simp only[List.append_assoc]
 exact List.Perm.append_left _ List.perm_append_comm
section
variable {X:Cx} {o:Option JS}
def asD(n:Nat)(p:Oper)(e:Env):Option (Nat×List Value):=match p.op with
 | .call ⟨.value x,xs,_⟩=>match bA n e x with
  |some (.func (.yield bl) ⟨[]⟩ ⟨[]⟩)=>match yF n e xs.toList with
   |some vs=>some (bl,vs)
   |none=>none
  |_=>none
 |_=>none
theorem jyc{own:Cells}(ps:List Nat)(hy:YX X.P bl vs oA own Φ)(fJ:Sub oA X.ro)(hj:∀v Y,Φ v Y→J X (nG ps v Y o))(h1:fq X.n (asD X.n) o=some (bl,vs):=by kernel_rfl)(h2:eg ps o=some own:=by kernel_rfl):J X o:=by
 obtain⟨ops,i,todo,k,e,w,kn,p,rfl,ho,hw,hc⟩:=dJ h1
 intro bZ
 unfold asD at hc
 split at hc<;>try (cases hc;done)
 rename_i x xs at_ az
 split at hc<;>try (cases hc;done)
 rename_i bl' hx
 split at hc<;>try (cases hc;done)
 rename_i oI FH
 cases hc
 rcases p with ⟨dst,op,ty,pos,dk,g⟩
 dsimp only at az;subst az
 have hp:=bM h2
 refine bW X.hC ho hw (by simp) ?_
 have Ud:xs.map (ev X.n e)=⟨vs⟩:=sD FH
 simp only[execOp,resolve,aG hx,Deferred.ofValue,af,Ud]
 have hiv:(invoke (.fn (.yield bl) ⟨[]⟩) (⟨[]⟩++⟨vs⟩):Sem Next)=Instr.yield bl ⟨vs⟩:=by simp[invoke]
 rw[hiv]
 refine YX.use hy fJ hp fun l f tm as bd hR=>?_
 show Round X.C l f tm as bd _ _
 refine Round.mono (Round.weaken X.hC hR) fun en s' EN=>?_
 obtain⟨v,Y,rfl,qB,hle⟩:=EN
 have:=hj v Y qB
 rw[oE ho] at this
 have:=this bZ
 simp only[JP,gG] at this
 have:=this.more X.hC hle
 show ae _ _ _ _ _ _ _ _
 rw[ba]
 exact this
end
attribute [irreducible] asD
def mk:List Nat→Cells
 | []=>[]
 |b::r=>(b,.deferred (some []))::mk r
def af1(P:Program)(fn:Func)(R:Ending→St→Prop):Post
 | .normal,a,s| .ret,a,s=>∃uK rest,a.defers=uK.map eF∧s.rw.Perm (mk uK++rest)∧bR P (results fn a.tmps) ⟨s.ro,rest⟩ (fun v s'=>∃s0,s0.le s'∧R (.returned v) s0) (fun _ _=>False)
 |_,_,_=>False
section
variable {P:Program} {C:Class}
theorem A9(hC:∀main T,C main T→Closed P main T)(hT:C main T){rest:Cells}:∀(uK:List Nat) (fr:Frame) (s:St),fr.mode= .returning→fr.defers=uK.map eF→s.rw.Perm (mk uK++rest)→T (G {fr with defers:=[]} cs) ⟨s.ro,rest⟩→T (G fr cs) s
 | [],fr,s,_,hd,hp,h=>by
  have:fr={fr with defers:=[]}:=by rcases fr with ⟨a,b,c,d,e,f,g⟩;simp only[List.map_nil] at hd;subst hd;rfl
  rw[this]
  exact(hC main T hT).mono _ ⟨s.ro,rest⟩ _ ⟨[],by simpa [mk] using hp,fun b o hb=> .inl hb⟩ h
 |b::r,fr,s,hm,hd,hp,h=>by
  obtain⟨L,Rr,hs⟩:=List.append_of_mem (hp.mem_iff.2 (List.mem_append_left _ List.mem_cons_self))
  refine unwind_mark hC hT (.inl hm) (ds:=r.map eF) (by simpa using hd) hs ?_
  have T6:(L++Rr).Perm (mk r++rest):=by
   rw[hs] at hp
   exact(List.perm_middle.symm.trans hp).cons_inv
  refine(hC main T hT).mono _ ⟨s.ro,L++Rr⟩ _ ⟨[(b,.deferred none)],?_,fun b o hb=> .inl hb⟩ (A9 hC hT r _ _ hm rfl T6 h)
  exact List.perm_middle.trans (List.perm_append_singleton _ _).symm
theorem MS(hC:∀main T,C main T→Closed P main T){c:Code}{args:Array Value} 
 (hf:P.funcs[f]?=some fn) (hb:fn.body=some c) (h:Wp C f none c (af1 P fn R) ⟨args++Array.replicate (fn.ntmps-args.size) undef,[]⟩ s):Fn C P f args s R:=by
 intro main T hT cl cs k1 k2
 let b:Frame:={(default:Frame) with fn:=f,kind:= .normal,roundOf:=none}
 have iG:Frame.enter P f args .normal=aK b ⟨args++Array.replicate (fn.ntmps-args.size) undef,[]⟩ [.code c]:=by
  simp[Frame.enter,aK,hf,hb,b]
 rw[iG]
 refine h main T hT b [] (cl::cs) rfl (by simp[b]) rfl fun e a' s' q=>?_
 have sA:∀(todo:List Item),(∃uK rest,a'.defers=uK.map eF∧s'.rw.Perm (mk uK++rest)∧bR P (results fn a'.tmps) ⟨s'.ro,rest⟩ (fun v s'=>∃s0,s0.le s'∧R (.returned v) s0) (fun _ _=>False))→T (G {aK b a' todo with mode:= .returning} (cl::cs)) s':=by
  intro todo ⟨uK,rest,hd,hp,hr⟩
  exact A9 hC hT uK _ _ rfl hd hp (sY hC hT hf rfl rfl rfl rfl hr k1)
 cases e with
 |normal=>
  exact(hC main T hT).go rfl rfl (g':=G {aK b a' [] with mode:= .returning} (cl::cs)) (fun w=>by simp[G,stepG,stepG.exec,aK,b]) (sA _ q)
 |ret=>
  exact fun todo=>(hC main T hT).go rfl rfl (g':=G {aK b a' (.code .ret::todo) with mode:= .returning} (cl::cs)) (fun w=>by simp[G,stepG,stepG.exec,aK,b]) (sA _ q)
 |panic ch=>exact q.elim
 |exit id=>exact q.elim
 |goto l=>exact q.elim
 |outgrown=>exact q.elim
end
def XM(P:Program)(hm:P.follows .mixedOrders=true)(f:FuncId)(ro:Nat→Option Obj)(R:Ending→St→Prop):Cx:=⟨P,CP P,fe,hm,f,none,(qT P f).ntmps,[],ro,af1 P (qT P f) R⟩
theorem agP(hm:P.follows .mixedOrders=true){L:Cells}(own:List Sg)(kn:Cells)(hk:Knows ro kn)(h:J (XM P hm f ro (RX ro Φ)) (j8 P f args own kn))(hL:den own=L:=by rfl):dQ P f args ro L Φ:=by
 subst hL
 unfold j8 at h
 split at h<;>try exact h.elim
 rename_i fn hf
 split at h<;>try exact h.elim
 rename_i c hc
 cases hl:Nat.ble args.length fn.ntmps with
 |false=>rw[hl] at h;exact h.elim
 |true=>
  rw[hl] at h
  have u3:qT P f=fn:=by simp only[qT,hf]
  have:=h hk
  simp only[JP,XM,KQ,u3] at this
  refine MS fe hf hc ?_
  have he:=lv args fn.ntmps (Nat.le_of_ble_eq_true hl)
  rw[←he] at this
  exact this
structure QM(X:Cx)(R:Ending→St→Prop)(uK:List Nat):Prop where
 q:X.Q=af1 X.P (qT X.P X.fn) R
 d:X.D=uK.map eF
def Cx.dm(X:Cx)(bd:Nat):Cx:={X with D:=eF bd::X.D}
theorem qm0{hm:P.follows .mixedOrders=true}:QM (XM P hm f ro R) R []:=⟨rfl,rfl⟩
theorem QM.a(h:QM X R uK):QM (X.at ro) R uK:=⟨h.q,h.d⟩
theorem QM.m(h:QM X R uK):QM (X.dm bd) R (bd::uK):=⟨h.q,by simp[Cx.dm,h.d]⟩
theorem QM.w{aHU:List Nat}(h:QM X R uK):QM (X.wd (aHU.map eF)) R aHU:=⟨h.q,rfl⟩
def DY(pm:List Nat):Option JS→Option JS
 |some ⟨p,e,w,kn⟩=>some ⟨p,e,dO pm 0 w,kn⟩
 |none=>none
section
variable {X:Cx} {o:Option JS}
theorem jrM(hq:QM X (RX oA Φ) uK)(v:Value)(pm hs ps:List Nat)(Y:Cells)(fJ:Sub oA X.ro)(hR:Φ v Y)(h0:eg pm o=some (mk uK):=by kernel_rfl)(h1:rn (iO X.P X.n X.fn hs (DY pm o))=some v:=by kernel_rfl)(h2:P2 (iO X.P X.n X.fn hs (DY pm o))=P1 (iO X.P X.n X.fn hs (DY pm o)):=by kernel_rfl)(h3:eg ps (DY pm o)=some Y:=by kernel_rfl)(h4:Az o=true:=by kernel_rfl):J X o:=by
 obtain⟨ex,e,w,kn,rfl,hex⟩:=tE h4
 simp only[DY,iO] at h1 h2 h3
 cases hr:CY X.P X.n e (dO pm 0 w) kn.c hs (qT X.P X.fn).results.toList with
 |none=>simp only[hr,rn] at h1;cases h1
 |some x=>
  rcases x with ⟨vs,q⟩
  simp only[hr,rn,Option.some.injEq,P2,P1] at h1 h2
  intro bZ
  have sA:=tW bZ hr (mI h2)
  have hp:=bM h3
  have Gp:=QW (s0:=⟨oA,Y⟩) (R:=RX oA Φ) hex sA h1 (ee hp fJ) ⟨v,Y,rfl,rfl,hR⟩
  have ht:bR X.P (results (qT X.P X.fn) (A X.n e X.D).tmps) ⟨X.ro,den (dO pm 0 w)⟩ (fun v s'=>∃s0,s0.le s'∧RX oA Φ (.returned v) s0) (fun _ _=>False):=by
   rcases hex with rfl|rfl<;>exact Gp.2
  show X.Q ex (A X.n e X.D) ⟨X.ro,den w⟩
  rw[hq.q]
  have hm:∃uK rest,(A X.n e X.D).defers=uK.map eF∧(den w).Perm (mk uK++rest)∧bR X.P (results (qT X.P X.fn) (A X.n e X.D).tmps) ⟨X.ro,rest⟩ (fun v s'=>∃s0,s0.le s'∧RX oA Φ (.returned v) s0) (fun _ _=>False):=⟨uK,_,hq.d,bM h0,ht⟩
  rcases hex with rfl|rfl<;>exact hm
end
attribute [irreducible] DY
def upQ(Q:Post):Post:=fun e a s=>∃s0,s0.le s∧Q e a s0
theorem kB.more(hT:Closed P main T){b:Frame}(hl:s.le s'):∀ {e:Exit} {a:Act},kB T b k cs e a s→kB T b k cs e a s'
 | .normal,_,h=>hT.mono _ _ _ hl h
 | .exit id,a,h=>by
  simp only[kB] at h ⊢
  cases hk:exitTo id k with
  |some k'=>rw[hk] at h;exact hT.mono _ _ _ hl h
  |none=>rw[hk] at h;exact fun todo ht=>hT.mono _ _ _ hl (h todo ht)
 | .ret,_,h=>fun todo=>hT.mono _ _ _ hl (h todo)
 | .panic _,_,h=>fun todo=>hT.mono _ _ _ hl (h todo)
 | .goto _,_,h=>h.elim
 | .outgrown,_,h=>h.elim
theorem aAH(hC:∀main T,C main T→Closed P main T){fn:FuncId}{aA:Option Nat}{c:Code}{Q:Post}{a:Act}(h:Wp C fn aA c (upQ Q) a s):Wp C fn aA c Q a s:=
 fun main T hT b k cs h1 h2 h3 h4=>h main T hT b k cs h1 h2 h3 fun _ _ _ ⟨_,hl,hq⟩=>kB.more (hC _ _ hT) hl (h4 _ _ _ hq)
def ItX(P:Program)(g:FuncId)(fi ca:List Value)(ro:Nat→Option Obj)(own:Cells)(N:Nat)(El:(Nat→Option Obj)→Nat→List Value→Cells→Prop)(Ψ:Cells→Prop):Prop:=
 ∀(bl:Nat) (aF:Nat→Option Obj) (Inv:Nat→Cells→Prop) (Stop:Cells→Prop),Sub ro aF→
  (∀k vs LL B kU,k <N→El kU k vs LL→Inv k B→Sub aF kU→YX P bl vs kU (LL++B) (fun r B'=>(r= .bool true∧Inv (k+1) B')∨(r= .bool false∧Stop B')))→
  ∀B,Inv 0 B→dQ P g (fi++[.func (.yield bl) #[] #[]]++ca) aF (own++B) (fun _ Y=>∃Z B',Y=Z++B'∧Ψ Z∧(Inv N B'∨Stop B'))
theorem Round.more(hC:∀main T,C main T→Closed P main T){l:Nat}{bd:Code}(hl:s.le s')(h:Round C l f tm as bd s R):Round C l f tm as bd s' R:=
 fun main T hT c cs k1 k2=>(hC _ _ hT).mono _ _ _ hl (h main T hT c cs k1 k2)
def rfV(P:Program)(n:Nat):Option JS→Option (FuncId×List Value×List Value×Nat)
 |some ⟨.code (.rangeFunc x ps _ _) _,e,_,_⟩=>match bA n e x with
  |some (.func (.func g) ⟨fi⟩ ⟨ca⟩)=>bif CC P g then some (g,fi,ca,ps.size) else none
  |_=>none
 |_=>none
def lpO(X:Cx)(bd:Nat):Option JS→Loop
 |some ⟨.code (.rangeFunc _ ps a b) _,e,_,_⟩=>iR X.fn (A X.n e X.D).tmps ps a b bd
 |_=>iR X.fn #[] #[] .ret .ret bd
def aHQ:Option JS→Code
 |some ⟨.code (.rangeFunc _ _ _ b) _,_,_,_⟩=>b
 |_=> .ret
def QO:List Tmp→List Value→Env→Env
 |t::ts,v::vs,e=>QO ts vs (upd (some t) v e)
 |_,_,e=>e
theorem QN{D:List Deferred}:∀(ts:List Tmp) (vs:List Value) (e:Env),(ts.zip vs).foldl (fun(tm:Array Value) (x:Tmp×Value)=>tm.setIfInBounds x.1 x.2) (A n e D).tmps=(A n (QO ts vs e) D).tmps
 | [],_,_=>rfl
 |_::_,[],_=>rfl
 |t::ts,v::vs,e=>by
  have:=ba n e D (some t) v
  simp only[Act.put] at this
  simp only[List.zip_cons_cons,List.foldl_cons,QO]
  rw[←QN ts vs,←this]
def rdO(X:Cx)(bl bd:Nat)(vs:List Value)(w:List Sg)(o:Option JS):Option JS:=match o with
 |some ⟨.code (.rangeFunc _ ps a _) _,e,_,kn⟩=>some ⟨.code a [],QO ps.toList vs e,.b bl (.loop (lpO X bd o))::w,⟨kn.c,[]⟩⟩
 |_=>none
def afO(jump:Option Code)(bd:Nat)(Z:Cells)(wi:List Sg)(is:List Nat):Option JS→Option JS
 |some ⟨.code _ k,e,w,kn⟩=>match jump with
  |none=>some ⟨Q9 k,e,.b bd (.deferred (some [])):: .l Z::(wi++dO is 0 w),⟨kn.c,[]⟩⟩
  |some .ret=>some ⟨.fin .ret,e,.b bd (.deferred (some [])):: .l Z::(wi++dO is 0 w),⟨kn.c,[]⟩⟩
  |some (.exit id)=>match B2 id k with
   |some p=>some ⟨p,e,.b bd (.deferred (some [])):: .l Z::(wi++dO is 0 w),⟨kn.c,[]⟩⟩
   |none=>none
  |_=>none
 |_=>none
def asE(bl:Nat)(Lp:Loop)(wf:ι→List Sg)(Inv:Nat→ι→Prop)(Sp:Code→ι→Prop)(k:Nat):Value→Cells→Prop:=fun r B=>
 (r= .bool true∧∃j,Inv (k+1) j∧B=(bl,.loop Lp)::den (wf j))∨(r= .bool false∧∃jump j,Sp jump j∧B=(bl,.loop {Lp with state:= .done,pending:=some jump})::den (wf j))
def Cx.rd(X:Cx)(bl:Nat)(ro:Nat→Option Obj)(Φ:Value→Cells→Prop)(body:Code):Cx:=⟨X.P,CP X.P,fe,X.hm,X.fn,some bl,X.n,[],ro,Jn (CP X.P) (RY ro Φ) bl X.fn body⟩
def Cx.re(X:Cx)(bl:Nat)(ro:Nat→Option Obj)(Φ:Value→Cells→Prop):Cx:=⟨X.P,CP X.P,fe,X.hm,X.fn,some bl,X.n,[],ro,CX (RY ro Φ) bl⟩
theorem Nc:∀(k:List KI),KQ (X.dm bd) k=KQ X k
 | []=>rfl
 | .seq _::k=>by simp only[KQ,Nc k];rfl
 | .block _::k=>by simp only[KQ,Nc k]
 | .next _::k=>by simp only[KQ,Nc k]
theorem LQ(Z W R:List α)(x y:α):((Z++x::W)++y::R).Perm (x::y::(Z++(W++R))):=by
 refine List.perm_middle.trans ?_
 rw[List.append_assoc,List.cons_append]
 exact(List.Perm.cons y List.perm_middle).trans (List.Perm.swap _ _ _)
section
variable {X:Cx} {o:Option JS}
theorem jrf{np:Nat}{Ψ:Cells→Prop}(ow:List Sg)(hit:ItX X.P g fi ca X.ro (den ow) N El Ψ)(Zq:∀ro k vs LL,El ro k vs LL→vs.length=np)
 (wf:ι→List Sg)(Inv:Nat→ι→Prop)(Sp:Code→ι→Prop)(i0:ι)(h0:Inv 0 i0)(is:List Nat)
 (hb:∀bl bd k vs LL i kU,k <N→El kU k vs LL→Inv k i→Sub X.ro kU→J (X.rd bl kU (asE bl (lpO X bd o) wf Inv Sp k) (aHQ o)) (rdO X bl bd vs (wf i++[.l LL]) o))
 (hN:∀bd i Z,Inv N i→Ψ Z→J (X.dm bd) (afO none bd Z (wf i) is o))(hS:∀bd i Z jump,Sp jump i→Ψ Z→J (X.dm bd) (afO (some jump) bd Z (wf i) is o))
 (h1:rfV X.P X.n o=some (g,fi,ca,np):=by kernel_rfl)(h2:rB is o=some (ow++wf i0):=by kernel_rfl)(hf:(X.P.funcs[X.fn]?).isSome=true:=by kernel_rfl) (hr:X.aA=none:=by rfl):J X o:=by
 unfold rfV at h1
 split at h1<;>try (cases h1;done)
 rename_i x params assign body k e w kn
 split at h1<;>try (cases h1;done)
 rename_i g' WB AH hx
 cases Ii:CC X.P g' with
 |false=>rw[Ii] at h1;cases h1
 |true=>
  rw[Ii] at h1
  simp only[cond_true,Option.some.injEq,Prod.mk.injEq] at h1
  obtain⟨rfl,rfl,rfl,hnp⟩:=h1
  have ff:=lH Ii
  intro bZ
  have hp:=mh h2
  rw[ma] at hp
  obtain⟨fn',u3⟩:=Option.isSome_iff_exists.1 hf
  show Wp X.C X.fn X.aA (.rangeFunc x params assign body) (KQ X k) (A X.n e X.D) ⟨X.ro,den w⟩
  rw[hr]
  refine aAH X.hC (A6 X.hC (fi:=⟨WB⟩) (ca:=⟨AH⟩) (by rw[eI];exact aG hx) ff fun bd bl _ _=>?_)
  rw[TG]
  have hy:=hit bl X.ro (fun k B=>∃i,Inv k i∧B=(bl,.loop (iR X.fn (A X.n e X.D).tmps params assign body bd))::den (wf i))
   (fun B=>∃jump i,Sp jump i∧B=(bl,.loop {iR X.fn (A X.n e X.D).tmps params assign body bd with state:= .done,pending:=some jump})::den (wf i)) (Sub.refl _) (fun k vs LL B kU hk hv hi hs=>?_) _ ⟨i0,h0,rfl⟩
  rotate_left
  ·obtain⟨i,hi,rfl⟩:=hi
   refine⟨iR X.fn (A X.n e X.D).tmps params assign body bd,List.mem_append_right _ List.mem_cons_self,(Zq _ _ _ _ hv).trans hnp.symm,Round.more fe (s:=⟨kU,((bl,.loop (iR X.fn (A X.n e X.D).tmps params assign body bd))::den (wf i))++LL⟩) ⟨[],by rw[List.append_nil];exact List.perm_append_comm,fun b o hb=> .inl hb⟩ (Et fe u3 ?_)⟩
   have:=hb bl bd k vs LL i kU hk hv hi hs fun y hy=>hs _ _ (bZ y hy)
   have OF:den (.b bl (.loop (iR X.fn (A X.n e X.D).tmps params assign body bd))::(wf i++[.l LL]))=((bl,.loop (iR X.fn (A X.n e X.D).tmps params assign body bd))::den (wf i))++LL:=by rw[jh,ma];rfl
   rw[←OF]
   have hyt:adt (iR X.fn (A X.n e X.D).tmps params assign body bd) vs=(A X.n (QO params.toList vs e) X.D).tmps:=by
    rw[←QN]
    simp only[adt,iR]
    rw[←Array.foldl_toList,Array.toList_zip]
   rw[hyt]
   exact this
  refine Fn.weaken X.hC (Fn.mono (Fn.frame (fr:=(bd,.deferred (some []))::den (dO is 0 w)) (B:=[]) (ro:=X.ro) hy (fun _ h=>(by cases h)) ⟨?_,fun b o hb=> .inl hb,Sub.refl _⟩) fun en s' EN=>?_)
  ·refine List.Perm.trans (.cons _ (.cons _ ?_)) (LQ _ _ _ _ _).symm
   rw[←List.append_assoc]
   exact hp
  obtain⟨zn,⟨v,Y,rfl,rfl,Z,B',rfl,hΨ,hI⟩,hc⟩:=EN
  have hc1:s'.rw.Perm ((Z++B')++(bd,.deferred (some []))::den (dO is 0 w)):=hc.rw
  have key:∀(r0:Loop) (i:ι),B'=(bl,.loop r0)::den (wf i)→∃L Rr,s'.rw=L++(bl,.loop r0)::Rr∧∀r1,(⟨X.ro,den (.b bd (.deferred (some [])):: .l Z::(wf i++dO is 0 w))⟩:St).le ⟨s'.ro,L++(bl,.loop r1)::Rr⟩:=by
   intro r0 i hB
   subst hB
   have hc2:=hc1.trans (LQ _ _ _ _ _)
   obtain⟨L,Rr,hs⟩:=List.append_of_mem (hc2.mem_iff.2 List.mem_cons_self)
   refine⟨L,Rr,hs,fun r1=>ee (J:=[(bl,.loop r1)]) ?_ hc.keep⟩
   rw[hs] at hc2
   have hc3:=(List.perm_middle.symm.trans hc2).cons_inv
   rw[jh,gG,ma]
   exact List.perm_middle.trans ((List.Perm.cons _ hc3).trans (List.perm_append_singleton _ _).symm)
  rcases hI with ⟨i,hi,hB⟩| ⟨jump,i,hi,hB⟩
  ·obtain⟨L,Rr,hs,hle⟩:=key _ i hB
   refine⟨L,_,Rr,hs,by simp[iR],?_⟩
   refine⟨_,hle _,?_⟩
   have:=hN bd i Z hi hΨ bZ
   rw[←Nc (bd:=bd)]
   exact tZ (X:=X.dm bd) (kn:=⟨kn.c,[]⟩) this
  obtain⟨L,Rr,hs,hle⟩:=key _ i hB
  refine⟨L,_,Rr,hs,by simp,?_⟩
  have:=hS bd i Z jump hi hΨ
  cases jump with
  |ret=>
   refine⟨_,hle _,?_⟩
   rw[←Nc (bd:=bd)]
   exact Br (X:=X.dm bd) (this bZ) k
  |exit id=>
   simp only[afO] at this
   cases hk:B2 id k with
   |none=>rw[hk] at this;exact this.elim
   |some p=>
    rw[hk] at this
    refine⟨_,hle _,?_⟩
    rw[←Nc (bd:=bd)]
    exact xd (X:=X.dm bd) (kn:=⟨kn.c,[]⟩) hk (this bZ)
  |_=>exact this.elim
end
theorem aDA:(lpO X bd o).state= .ready∧(lpO X bd o).pending=none:=by
 unfold lpO
 split<;>exact⟨rfl,rfl⟩
attribute [irreducible] rfV lpO aHQ rdO afO
def bgO(body:Code):Option JS→Option (JS×Nat)
 |some ⟨.fin .normal,e,.b b (.loop r)::w,kn⟩=>match r.state with
  | .ready=>some (⟨.code body [],e,.b b (.loop {r with state:= .busy})::w,kn⟩,b)
  |_=>none
 |_=>none
def FN:Option (JS×Nat)→Option JS
 |some (s,_)=>some s
 |none=>none
def UP:Option (JS×Nat)→Option Nat
 |some (_,b)=>some b
 |none=>none
def R5:Option JS→Option (Option Code)
 |some ⟨.fin .normal,_,_,_⟩=>some none
 |some ⟨.fin .ret,_,_,_⟩=>some (some .ret)
 |some ⟨.fin (.exit id),_,_,_⟩=>some (some (.exit id))
 |_=>none
structure QY(X:Cx)(bl:Nat)(ro:Nat→Option Obj)(Φ:Value→Cells→Prop):Prop where
 q:X.Q=CX (RY ro Φ) bl
theorem qy0:QY (X.re bl ro Φ) bl ro Φ:=⟨rfl⟩
section
variable {X:Cx} {o:Option JS} {bl:Nat} {ro:Nat→Option Obj}
theorem jbg(h:J (X.re bl ro Φ) (FN (bgO body o)))(h1:UP (bgO body o)=some bl:=by kernel_rfl):J (X.rd bl ro Φ body) o:=by
 unfold bgO at h h1
 split at h<;>try exact h.elim
 rename_i e b r w kn
 split at h<;>try exact h.elim
 rename_i bX
 simp only[bX,UP,Option.some.injEq] at h1
 subst h1
 simp only[FN] at h
 intro bZ
 have hw:=h bZ
 simp only[JP,Cx.rd,Jn,Ef]
 refine⟨[],r,den w,by rw[jh];rfl,bX,?_⟩
 simp only[JP,jh] at hw
 exact hw
theorem jyR{Lp:Loop}{jump:Option Code}{Y:Cells}(hq:QY X bl ro Φ)(fJ:Sub ro X.ro)(ps:List Nat)(qB:Φ (.bool jump.isNone) ((bl,.loop {Lp with state:=if jump.isNone then .ready else .done,pending:=jump})::Y))(h1:eg ps o=some ((bl,.loop {Lp with state:= .busy})::Y):=by kernel_rfl)(h2:R5 o=some jump:=by kernel_rfl):J X o:=by
 have main:∀s w kn e,o=some ⟨s,e,w,kn⟩→WJ (RY ro Φ) bl jump ⟨X.ro,den w⟩:=by
  intro s w kn e ho
  subst ho
  have hp:=bM h1
  obtain⟨L,Rr,hs⟩:=List.append_of_mem (hp.mem_iff.2 (List.mem_append_left _ List.mem_cons_self))
  refine⟨L,_,Rr,hs,_,_,rfl,?_,qB⟩
  have nE:den w=L++(bl,.loop {Lp with state:= .busy})::Rr:=hs
  have hp':(den w).Perm (((bl,.loop {Lp with state:= .busy})::Y)++den (dO ps 0 w)):=hp
  rw[nE] at hp'
  have T6:=(List.perm_middle.symm.trans hp').cons_inv
  exact ee (J:=den (dO ps 0 w)) (List.perm_middle.trans (.cons _ T6)) fJ
 unfold R5 at h2
 split at h2<;>try (cases h2;done)
 ·rename_i e w kn;cases h2;intro _;show X.Q .normal _ _;rw[hq.q];exact main _ _ _ _ rfl
 ·rename_i e w kn;cases h2;intro _;show X.Q .ret _ _;rw[hq.q];exact main _ _ _ _ rfl
 rename_i id e w kn;cases h2;intro _;show X.Q (.exit id) _ _;rw[hq.q];exact main _ _ _ _ rfl
theorem jyn{Lp:Loop}{wf:ι→List Sg}{Inv:Nat→ι→Prop}{Sp:Code→ι→Prop}{k:Nat}(hq:QY X bl ro (asE bl Lp wf Inv Sp k))(fJ:Sub ro X.ro)(j:ι)(h:Inv (k+1) j)(ps:List Nat)(hl:Lp.state= .ready∧Lp.pending=none:=by exact aDA)(h1:eg ps o=some ((bl,.loop {Lp with state:= .busy})::den (wf j)):=by kernel_rfl)(h2:R5 o=some none:=by kernel_rfl):J X o:=
 jyR hq fJ ps (.inl ⟨rfl,j,h,by rcases Lp with ⟨a,b,c,d,e,f,g,i⟩;obtain⟨h1,h2⟩:=hl;dsimp only at h1 h2;subst h1 h2;rfl⟩) h1 h2
theorem jys{Lp:Loop}{wf:ι→List Sg}{Inv:Nat→ι→Prop}{Sp:Code→ι→Prop}{k:Nat}(hq:QY X bl ro (asE bl Lp wf Inv Sp k))(fJ:Sub ro X.ro)(jump:Code)(j:ι)(h:Sp jump j)(ps:List Nat)(h1:eg ps o=some ((bl,.loop {Lp with state:= .busy})::den (wf j)):=by kernel_rfl)(h2:R5 o=some (some jump):=by kernel_rfl):J X o:=
 jyR hq fJ ps (.inr ⟨rfl,jump,j,h,rfl⟩) h1 h2
end
attribute [irreducible] bgO FN UP R5
def sI[DecidableEq κ](k:κ):List (κ×Value)→Nat→Option (Nat×Value)
 | [],_=>none
 |x::l,i=>if k=x.1 then some (i,x.2) else sI k l (i+1)
def lkM[DecidableEq κ](k:κ)(F:List (κ×Value)):Option Value:=(sI k F 0).map (·.2)
def tU(k:κ)(v:Value):List (κ×Value)→Nat→List (κ×Value)
 | [],_=>[]
 |_::l,0=>(k,v)::l
 |x::l,i+1=>x::tU k v l i
def mN[DecidableEq κ](k:κ)(v:Value)(F:List (κ×Value)):List (κ×Value):=match sI k F 0 with
 |some (i,_)=>tU k v F i
 |none=>F++[(k,v)]
structure TS(P:Program)(T:TypeId){κ:Type}[DecidableEq κ](kv:κ→Value):Prop where
 chk:∀(b:Bool) (k:κ) {α:Type} {K:Unit→Sem α} {s:St} {Q:α→St→Prop} {E:Halt→St→Prop},bR P (K ()) s Q E→bR P (Instr.checkKey b 10000 T (kv k) >>= K) s Q E
 find:∀(k:κ) (es:List MapEntry) (F:List (κ×Value)),es.map (fun e=>(e.key,e.val))=F.map (fun x=>(kv x.1,x.2))→∀ {α:Type} {K:Option (Nat×Value)→Sem α} {s:St} {Q:α→St→Prop} {E:Halt→St→Prop},bR P (K (sI k F 0)) s Q E→bR P (Instr.findKey T (kv k) es >>= K) s Q E
 stay:∀k,Instr.sameBits 10000 (kv k) (kv k)=true
theorem qS[DecidableEq κ]{k:κ}:∀ {F:List (κ×Value)} {i j:Nat} {v:Value},sI k F i=some (j,v)→i≤j∧F[j-i]?=some (k,v)
 | [],_,_,_,h=>by cases h
 |x::l,i,j,v,h=>by
  simp only[sI] at h
  split at h
  ·rename_i hk
   cases h
   exact⟨Nat.le_refl _,by simp[hk]⟩
  obtain⟨h1,h2⟩:=qS h
  refine⟨by omega,?_⟩
  rw[show j-i=(j-(i+1))+1 by omega,List.getElem?_cons_succ];exact h2
theorem Ps(a b:ByteArray):(a==b)=decide (a=b):=by
 have h:(a==b)=(a.data==b.data):=by cases a;cases b;rfl
 rw[h,Bool.eq_iff_iff]
 cases a;cases b
 simp
theorem EU(a:ByteArray):∀(es:List MapEntry) (F:List (ByteArray×Value)) (i:Nat),es.map (fun e=>(e.key,e.val))=F.map (fun x=>(Value.string x.1,x.2))→Instr.findNow .string (.string a) es i=some (sI a F i)
 | [],[],_,_=>rfl
 | [],_::_,_,h=>by simp at h
 |_::_,[],_,h=>by simp at h
 |e::es,x::F,i,h=>by
  simp only[List.map_cons,List.cons.injEq,Prod.mk.injEq] at h
  obtain⟨⟨h1,h2⟩,h3⟩:=h
  simp only[Instr.findNow,h1,Instr.sameNow,sI,Ps]
  by_cases hk:a=x.1
  ·simp[hk,h2]
  simp only[hk,decide_false,if_false]
  exact EU a es F (i+1) h3
def CkD(P:Program)(dep:Nat)(T:TypeId)(v:Value):Prop:=∀(b:Bool) {α:Type} {K:Unit→Sem α} {s:St} {Q:α→St→Prop} {E:Halt→St→Prop},bR P (Instr.checkKey b dep T v >>= K) s Q E=bR P (K ()) s Q E
theorem aHH{T:TypeId}(tf:TF P T .string sz bG z ag)(a:ByteArray):CkD P (dep+1) T (.string a):=by
 intro b α K s Q E
 simp only[Instr.checkKey,aa,bk tf,af]
theorem au5{T:TypeId}(tf:TF P T .string sz bG z ag):TS P T (fun(a:ByteArray)=>Value.string a) where
 chk b k α K s Q E h:=by rw[aHH (dep:=9999) tf k b];exact h
 find k es F he α K s Q E h:=by
  simp only[Instr.findKey,aa,bk tf,EU k es F 0 he,af]
  exact h
 stay k:=by simp[Instr.sameBits,Ps]
def agS(P:Program)(T:TypeId):Bool:=match bh P T with
 |some ⟨.string,_,_,_⟩=>true
 |_=>false
theorem YK{T:TypeId}(h:agS P T=true):TS P T (fun(a:ByteArray)=>Value.string a):=by
 unfold agS at h
 split at h
 ·rename_i dX
  obtain⟨bG,tf⟩:=av dX
  exact au5 tf
 cases h
theorem ItX.up{own:Cells}{Ψ:Cells→Prop}(h:ItX P g fi ca ro own N El Ψ)(hs:Sub ro aC):ItX P g fi ca aC own N El Ψ:=
 fun bl aF Inv Stop h1=>h bl aF Inv Stop (hs.trans h1)
def YOK(P:Program)(bl:Nat)(ro:Nat→Option Obj)(N:Nat)(El:(Nat→Option Obj)→Nat→List Value→Cells→Prop)(Inv:Nat→Cells→Prop)(Stop:Cells→Prop):Prop:=
 ∀k vs LL B kU,k <N→El kU k vs LL→Inv k B→Sub ro kU→YX P bl vs kU (LL++B) (fun r B'=>(r= .bool true∧Inv (k+1) B')∨(r= .bool false∧Stop B'))
theorem YOK.up{Inv:Nat→Cells→Prop}{Stop:Cells→Prop}(h:YOK P bl ro N El Inv Stop)(hs:Sub ro aC):YOK P bl aC N El Inv Stop:=
 fun k vs LL B kU h1 h2 h3 h4=>h k vs LL B kU h1 h2 h3 (hs.trans h4)
def Part(L:List α)(p:Nat)(m:List α):Prop:=∃a b,L=a++m++b∧a.length=p
theorem Part.get{L m:List α}{p:Nat}{x:α}(h:Part L p m)(hx:m[i]?=some x):p+i <L.length∧L[p+i]?=some x:=by
 obtain⟨a,b,rfl,rfl⟩:=h
 have hi:=(List.getElem?_eq_some_iff.1 hx).1
 have:(a++m++b)[a.length+i]?=some x:=by
  rw[List.append_assoc,List.getElem?_append_right (by omega),List.getElem?_append_left (by omega),show a.length+i-a.length=i by omega];exact hx
 exact⟨(List.getElem?_eq_some_iff.1 this).1,this⟩
theorem Part.flat{β:Type}{L:List β}{p:Nat}{G:α→List β}{l a b:List α}{s:α}(h:Part L p (l.flatMap G))(hl:l=a++[s]++b):Part L (p+(a.flatMap G).length) (G s):=by
 obtain⟨u,v,rfl,rfl⟩:=h
 subst hl
 exact⟨u++a.flatMap G,b.flatMap G++v,by simp[List.flatMap_append],by simp⟩
theorem QA{T:TypeId}[DecidableEq κ]{kv:κ→Value}(he:∀a b,EqD P 10000 T (kv a) (kv b) (decide (a=b)))(k:κ):∀(es:List MapEntry) (F:List (κ×Value)) (i:Nat),es.map (fun e=>(e.key,e.val))=F.map (fun x=>(kv x.1,x.2))→∀ {α:Type} {K:Option (Nat×Value)→Sem α} {s:St} {Q:α→St→Prop} {E:Halt→St→Prop},bR P (K (sI k F i)) s Q E→bR P (Instr.findAsking T (kv k) es i >>= K) s Q E
 | [],[],_,_,_,_,_,_,_,h=>h
 | [],_::_,_,h,_,_,_,_,_,_=>by simp at h
 |_::_,[],_,h,_,_,_,_,_,_=>by simp at h
 |e::es,x::F,i,h,α,K,s,Q,E,hK=>by
  simp only[List.map_cons,List.cons.injEq,Prod.mk.injEq] at h
  obtain⟨⟨h1,h2⟩,h3⟩:=h
  simp only[Instr.findAsking,aa,h1,Op.equal]
  rw[show Op.maxDepth=10000 from rfl,he k x.1]
  simp only[sI] at hK
  by_cases hk:k=x.1
  ·rw[if_pos hk] at hK
   simp only[hk,decide_true,if_true,af,h2]
   exact hK
  rw[if_neg hk] at hK
  simp only[hk,decide_false,Bool.false_eq_true,if_false]
  exact QA he k es F (i+1) h3 hK
theorem I6{T:TypeId}{k:IntKind}(tf:TF P T (.int k) sz bG z ag)(a:Int):CkD P (dep+1) T (.int k a):=by
 intro b α K s Q E
 simp only[Instr.checkKey,aa,bk tf,af]
inductive Cq(P:Program)(dep:Nat)(l:List Value):List Field→Prop
 |nil:Cq P dep l []
 |cons {f:Field} {fs:List Field} {v:Value} (hn:f.name≠ "_") (hv:Jy P f.type l f.offset v) (he:CkD P dep f.type v) (ht:Cq P dep l fs):Cq P dep l (f::fs)
theorem Tu{T:TypeId}{fields:Array Field}(tf:TF P T (.struct fields) sz bG z true)(hf:Cq P dep l fields.toList):CkD P (dep+1) T (.agg ⟨l⟩):=by
 intro b α K s Q E
 simp only[Instr.checkKey,aa,bk tf]
 rw[←Array.forIn_toList]
 generalize fields.toList=fl at hf
 clear tf
 induction hf with
 |nil=>simp only[List.forIn_nil,af,aa]
 | @cons f fs v hn hv he ht ih=>
  simp only[List.forIn_cons,hn,ne_eq,not_false_eq_true,if_true,aa]
  rw[hv]
  simp only[aa]
  rw[he]
  simp only[af]
  exact ih
theorem agq{T:TypeId}[DecidableEq κ]{kv:κ→Value}{d:TypeDesc}(tf:TF P T d sz bG z ag)(hl:∀k,∃l,kv k= .agg l)(hc:∀k,CkD P 10000 T (kv k))(he:∀a b,EqD P 10000 T (kv a) (kv b) (decide (a=b)))(hs:∀k,Instr.sameBits 10000 (kv k) (kv k)=true):TS P T kv where
 chk b k α K s Q E h:=by rw[hc k b];exact h
 find k es F hm α K s Q E h:=by
  simp only[Instr.findKey,aa,bk tf]
  cases es with
  |nil=>
   cases F with
   |nil=>exact h
   |cons x F=>simp at hm
  |cons e es=>
   have:Instr.findNow d (kv k) (e::es) 0=none:=by
    cases F with
    |nil=>simp at hm
    |cons x F=>
     simp only[List.map_cons,List.cons.injEq,Prod.mk.injEq] at hm
     obtain⟨l,yR⟩:=hl k
     obtain⟨l2,pF⟩:=hl x.1
     simp only[Instr.findNow,hm.1.1,yR,pF]
     cases d<;>rfl
   rw[this]
   exact QA he k _ F 0 hm h
 stay:=hs
def tK(kv:κ→Value)(F:List (κ×Value))(es:Array MapEntry)(ck:Nat):Prop:=
 es.toList.map (fun e=>(e.key,e.val))=F.map (fun x=>(kv x.1,x.2))∧(es.toList.map (·.born)).Nodup∧∀e∈es.toList,e.born <ck
def kK(r:Nat)(kv:κ→Value)(F:List (κ×Value))(L:Cells):Prop:=∃es ck,L=[(r,.map es ck)]∧tK kv F es ck
def ak6(s:St)(r:Nat)(kv:κ→Value)(F:List (κ×Value)):Prop:=∃es ck,s.has r (.map es ck)∧tK kv F es ck
theorem kK.has{kv:κ→Value}{F:List (κ×Value)}{L:Cells}(h:kK r kv F L)(hs:∀x∈L,s.has x.1 x.2):ak6 s r kv F:=by
 obtain⟨es,ck,rfl,hm⟩:=h
 exact⟨es,ck,hs _ List.mem_cons_self,hm⟩
theorem ak6.ext{kv:κ→Value}{F:List (κ×Value)}(h:ak6 s r kv F)(hs:Ext s s'):ak6 s' r kv F:=by
 obtain⟨es,ck,h1,h2⟩:=h
 exact⟨es,ck,hs _ _ h1,h2⟩
theorem kK.nil(r:Nat)(kv:κ→Value):kK r kv [] [(r,.map #[] 0)]:=⟨#[],0,rfl,rfl,List.nodup_nil,fun _ h=>(by cases h)⟩
section
variable {X:Cx} {o:Option JS}
def RS[DecidableEq κ](z:Value)(ok:Bool)(k:κ)(F:List (κ×Value)):Value:=match lkM k F with
 |some v=>bif ok then .tuple ⟨[v,.bool true]⟩ else v
 |none=>bif ok then .tuple ⟨[z,.bool false]⟩ else z
def luV(P:Program)(n:Nat)(p:Oper)(e:Env):Option (TypeId×Value×Value×Value×Bool):=match p.op with
 | .lookup T x y ok=>match bh P T with
  |some ⟨.map K E,_,_,_⟩=>match bh P E with
   |some te=>match bA n e x with
    |some m=>match bA n e y with
     |some k=>some (K,m,k,P7 te.zero te.agg,ok)
     |none=>none
    |none=>none
   |none=>none
  |_=>none
 |_=>none
theorem jlu[DecidableEq κ]{kv:κ→Value}{F:List (κ×Value)}{K:TypeId}(k:κ)(z:Value)(ok:Bool)(ps:List Nat)(B:Cells)(hk:TS X.P K kv)(hm:∀s:St,Ext ⟨X.ro,[]⟩ s→(∀x∈B,s.has x.1 x.2)→ak6 s r kv F)(hj:J X (NS B (RS z ok k F) o))
 (hv:dR X.n (luV X.P X.n) o=some (K,.map (some r),kv k,z,ok):=by kernel_rfl)(hB:eg ps o=some B:=by kernel_rfl):J X o:=by
 refine jGN hv hB (fun s p e ho hh hf=>?_) hj
 subst ho
 unfold luV at hf
 split at hf<;>try (cases hf;done)
 rename_i T x y ok' az
 split at hf<;>try (cases hf;done)
 rename_i K' E' _ _ _ dX
 split at hf<;>try (cases hf;done)
 rename_i te uw
 split at hf<;>try (cases hf;done)
 rename_i m hx
 split at hf<;>try (cases hf;done)
 rename_i k' hy
 simp only[Option.some.injEq,Prod.mk.injEq] at hf
 obtain⟨rfl,rfl,rfl,rfl,rfl⟩:=hf
 obtain⟨bG,tf⟩:=av dX
 obtain⟨Ce,ri⟩:=av uw
 refine⟨by rw[az];rfl,fun s0 HW uB ops i ho rest hwt s' hs todo Q ky=>mi X.hC ho rest hwt (by rw[az];rfl) ?_ hs ky⟩
 intro s1 bL f hf K2 E2 hK
 obtain⟨es,ck,jY,Dz⟩:=(hm s0 HW uB).ext bL
 simp only[execOp,az,hf _ _ hx,hf _ _ hy,Instr.lookup,aa,bk tf]
 refine cO jY rfl rfl ?_
 simp only[af,aa]
 refine hk.chk _ _ ?_
 simp only[aa]
 refine hk.find k _ F Dz.1 ?_
 simp only[RS,lkM] at hK
 cases yD:sI k F 0 with
 |none=>
  rw[yD] at hK
  simp only[aa,kN ri,af]
  cases ok'<;>exact hK
 |some u=>
  obtain⟨i,v⟩:=u
  rw[yD] at hK
  simp only[af]
  cases ok'<;>exact hK
def auO(p:Oper):Option Unit:=match p.op with
 | .makeMap _ none=>some ()
 |_=>none
theorem jmk(kv:κ→Value)(hj:∀r L,kK r kv [] L→J X (nG [] (.map (some r)) L o))(hv:fq X.n (fun p _=>auO p) o=some ():=by kernel_rfl):J X o:=by
 obtain⟨ops,i,todo,k,e,w,kn,p,rfl,ho,hw,hc⟩:=dJ hv
 intro bZ
 unfold auO at hc
 split at hc<;>try (cases hc;done)
 rename_i T az
 rcases p with ⟨dst,op,ty,pos,dk,g⟩
 dsimp only at az;subst az
 refine bW X.hC ho hw (by simp) ?_
 simp only[execOp,Instr.makeMap,Option.map_none,aa,oK,af]
 intro b hb
 have:=hj b _ (kK.nil b kv)
 rw[oE ho] at this
 have:=this bZ
 simp only[JP,gG,xY] at this
 show ae _ _ _ _ _ _ _ _
 rw[ba]
 exact this
def muV(P:Program)(n:Nat)(p:Oper)(e:Env):Option (TypeId×Value×Value×Value):=match p.op with
 | .mapUpdate T x y z| .insert T x y z=>match bh P T with
  |some ⟨.map K _,_,_,_⟩=>match bA n e x with
   |some m=>match bA n e y with
    |some k=>match bA n e z with
     |some v=>some (K,m,k,v)
     |none=>none
    |none=>none
   |none=>none
  |_=>none
 |_=>none
theorem Gd(k:κ)(v:Value):∀(F:List (κ×Value)) (i:Nat),tU k v F i=F.set i (k,v)
 | [],_=>rfl
 |_::_,0=>rfl
 |x::l,i+1=>by simp only[tU,Gd k v l i,List.set_cons_succ]
theorem HB{kv:κ→Value}{k:κ}{v:Value}:∀(es:List MapEntry) (F:List (κ×Value)) (i:Nat),es.map (fun e=>(e.key,e.val))=F.map (fun x=>(kv x.1,x.2))→(es.modify i fun e=>{e with key:=kv k,val:=v}).map (fun e=>(e.key,e.val))=(tU k v F i).map (fun x=>(kv x.1,x.2))
 | [],[],_,_=>by simp[tU]
 | [],_::_,_,h=>by simp at h
 |_::_,[],_,h=>by simp at h
 |e::es,x::F,0,h=>by
  simp only[List.map_cons,List.cons.injEq] at h
  simp[tU,h.2]
 |e::es,x::F,i+1,h=>by
  simp only[List.map_cons,List.cons.injEq] at h
  simp[tU,h.1,HB es F i h.2]
theorem xq{kx v:Value}:∀(es:List MapEntry) (i:Nat),(es.modify i fun e=>{e with key:=kx,val:=v}).map (·.born)=es.map (·.born)
 | [],i=>by simp
 |e::es,0=>by simp
 |e::es,i+1=>by simp[xq es i]
theorem jmu[DecidableEq κ]{kv:κ→Value}{F:List (κ×Value)}{K:TypeId}{L:Cells}(i:Nat)(k:κ)(v:Value)(hk:TS X.P K kv)(hm:kK r kv F L)(hj:∀L',kK r kv (mN k v F) L'→J X (nG [i] undef L' o))
 (hv:fq X.n (muV X.P X.n) o=some (K,.map (some r),kv k,v):=by kernel_rfl)(hB:eg [i] o=some L:=by kernel_rfl):J X o:=by
 obtain⟨ops,i0,todo,kk,e,w,kn,p,rfl,ho,hw,hc⟩:=dJ hv
 intro bZ
 rcases p with ⟨dst,op,ty,pos,dk,g⟩
 have main:∀T x y z,(op= .mapUpdate T x y z∨op= .insert T x y z)→muV X.P X.n ⟨dst,.mapUpdate T x y z,ty,pos,dk,g⟩ e=some (K,.map (some r),kv k,v)→ae X.C X.fn X.aA ops (i0::todo) (KQ X kk) (A X.n e X.D) ⟨X.ro,den w⟩:=by
  intro T x y z heq hc
  simp only[muV] at hc
  split at hc<;>try (cases hc;done)
  rename_i K' E' _ _ _ dX
  split at hc<;>try (cases hc;done)
  rename_i m hx
  split at hc<;>try (cases hc;done)
  rename_i k' hy
  split at hc<;>try (cases hc;done)
  rename_i v' hz
  simp only[Option.some.injEq,Prod.mk.injEq] at hc
  obtain⟨rfl,rfl,rfl,rfl⟩:=hc
  obtain⟨bG,tf⟩:=av dX
  have hp:=bM hB
  obtain⟨es,ck,rfl,Dz⟩:=hm
  obtain⟨L1,R1,bL⟩:=List.append_of_mem (hp.mem_iff.2 (List.mem_append_left _ List.mem_cons_self))
  have hle:∀L',kK r kv (mN k v' F) [(r,L')]→ae X.C X.fn X.aA ops todo (KQ X kk) (A X.n (upd dst undef e) X.D) ⟨X.ro,L1++(r,L')::R1⟩:=by
   intro L' hL
   have:=hj _ hL
   rw[oE ho] at this
   have:=this bZ
   simp only[JP,gG] at this
   refine this.more X.hC (ee (J:=[]) ?_ (Sub.refl _))
   have hp':(den w).Perm ([(r,.map es ck)]++den (dO [i] 0 w)):=hp
   have aPW:den w=L1++(r,.map es ck)::R1:=bL
   rw[aPW] at hp'
   have T6:=(List.perm_middle.symm.trans hp').cons_inv
   rw[List.append_nil]
   exact List.perm_middle.trans (List.Perm.cons _ T6)
  have jY:(⟨X.ro,den w⟩:St).has r (.map es ck):= .inr (by show _∈den w;rw[show den w=_ from bL];exact fF)
  refine bW X.hC ho hw (by rcases heq with rfl|rfl<;>simp) ?_
  have hex:∀f:Operand→Value,execOp f ⟨dst,op,ty,pos,dk,g⟩=(do Instr.mapUpdate T (f x) (f y) (f z);pure .skip:Sem Next):=by
   intro f;rcases heq with rfl|rfl<;>simp only[execOp]
  rw[hex,aG hx,aG hy,aG hz]
  simp only[Instr.mapUpdate,aa,bk tf]
  refine cO jY rfl rfl ?_
  simp only[aa]
  refine hk.chk _ _ ?_
  simp only[aa]
  refine hk.find k _ F Dz.1 ?_
  have fin:∀ob,kK r kv (mN k v' F) [(r,ob)]→upon X.C X.P X.aA dst (A X.n e X.D) (fun a' s'=>ae X.C X.fn X.aA ops todo (KQ X kk) a' s') (KQ X kk) .skip ⟨X.ro,L1++(r,ob)::R1⟩:=by
   intro ob hL
   show ae _ _ _ _ _ _ _ _
   have:=hle ob hL
   rw[←ba] at this
   exact this
  cases yD:sI k F 0 with
  |some u=>
   obtain⟨j,u⟩:=u
   have Uc:=qS yD
   simp only[Nat.sub_zero] at Uc
   have aQU:((es[j]?).map (·.key)).getD (kv k)=kv k:=by
    have h1:(es.toList.map (fun e=>(e.key,e.val)))[j]?=some (kv k,u):=by rw[Dz.1];simp[Uc.2]
    simp only[List.getElem?_map,Array.getElem?_toList] at h1
    cases he:es[j]? with
    |none=>rfl
    |some e1=>rw[he] at h1;simp at h1;simp[h1.1]
   simp only[aa,Instr.keyThatStays,aQU,hk.stay,if_true,af]
   refine eJ rfl bL rfl<|fin _ ⟨_,_,rfl,?_,?_,?_⟩
   ·simp only[Array.toList_modify,mN,yD]
    exact HB _ _ _ Dz.1
   ·simp only[Array.toList_modify,xq];exact Dz.2.1
   intro e1 h1
   have:e1.born∈((es.toList.modify j fun e=>{e with key:=kv k,val:=v'}).map (·.born)):=List.mem_map_of_mem (by simpa using h1)
   rw[xq] at this
   obtain⟨e2,h3,h4⟩:=List.mem_map.1 this
   rw[←h4];exact Dz.2.2 e2 h3
  |none=>
   refine eJ rfl bL rfl<|fin _ ⟨_,_,rfl,?_,?_,?_⟩
   ·simp only[Array.toList_push,List.map_append,mN,yD,Dz.1];rfl
   ·simp only[Array.toList_push,List.map_append,List.map_cons,List.map_nil]
    refine List.nodup_append.2 ⟨Dz.2.1,by simp,?_⟩
    intro a ha b hb
    obtain⟨e2,h3,rfl⟩:=List.mem_map.1 ha
    have:=Dz.2.2 e2 h3
    simp only[List.mem_singleton] at hb
    omega
   intro e1 h1
   simp only[Array.toList_push,List.mem_append,List.mem_singleton] at h1
   rcases h1 with h1|rfl
   ·have:=Dz.2.2 e1 h1;omega
   exact Nat.lt_succ_self _
 have hc2:=hc
 unfold muV at hc
 split at hc<;>try (cases hc;done)
 ·rename_i T x y z az
  dsimp only at az
  exact main T x y z (.inl az) (by rw[←hc2,az])
 rename_i T x y z az
 dsimp only at az
 refine main T x y z (.inr az) ?_
 rw[←hc2,az];rfl
end
attribute [irreducible] luV auO muV
section
variable {X:Cx} {o:Option JS}
def M9(P:Program)(n:Nat)(p:Oper)(e:Env):Option (FuncId×List Value):=match p.op with
 | .call ⟨.invoke x name,xs,_⟩=>match bA n e x with
  |some (.iface t v)=>match bC P (method (P.types.size+Made.depth) t v name) with
   |some (f,r)=>match yF n e xs.toList with
    |some vs=>bif CC P f then some (f,r::vs) else none
    |none=>none
   |none=>none
  |_=>none
 |_=>none
theorem akB(h:M9 P n p e=some (f,vs)):FF P f∧∃x name xs at_ t v r ws,p.op= .call ⟨.invoke x name,xs,at_⟩∧bA n e x=some (.iface t v)∧bC P (method (P.types.size+Made.depth) t v name)=some (f,r)∧yF n e xs.toList=some ws∧vs=r::ws:=by
 unfold M9 at h
 split at h<;>try (cases h;done)
 rename_i x name xs at_ az
 split at h<;>try (cases h;done)
 rename_i t v hx
 split at h<;>try (cases h;done)
 rename_i f0 r hm
 split at h<;>try (cases h;done)
 rename_i ws su
 cases hb:CC P f0 with
 |false=>rw[hb] at h;cases h
 |true=>
  rw[hb] at h
  simp only[cond_true,Option.some.injEq,Prod.mk.injEq] at h
  obtain⟨rfl,rfl⟩:=h
  exact⟨lH hb,x,name,xs,at_,t,v,r,ws,az,hx,hm,su,rfl⟩
theorem jpI{V:Value}(hf:∀aF,Sub X.ro aF→dv X.P f vs aF V)(hj:J X (NS [] V o))(h1:dR X.n (M9 X.P X.n) o=some (f,vs):=by kernel_rfl)(h3:eg [] o=some []:=by kernel_rfl):J X o:=by
 refine jGN h1 h3 (fun s p e ho hh hc=>?_) hj
 obtain⟨ff,x,name,xs,at_,t,v,r,ws,az,hx,hm,su,rfl⟩:=akB hc
 rcases p with ⟨dst,op,ty,pos,dk,g⟩
 dsimp only at az;subst az
 refine⟨rfl,fun s0 HW uB ops i tz rest hw s' hs todo Q hk=>?_⟩
 refine bW X.hC tz hw (by simp) ?_
 have e1:=aG (bp (rest:=rest) hx)
 have e2:xs.map (ev X.n (e++rest))=⟨ws⟩:=sD (xW su)
 simp only[execOp,resolve,e1,e2,af]
 have hex:((#[Value.iface t v]++(⟨ws⟩:Array Value)).extract 1 (#[Value.iface t v]++(⟨ws⟩:Array Value)).size)=⟨ws⟩:=by simp
 have h0:(#[Value.iface t v]++(⟨ws⟩:Array Value))[0]?=some (.iface t v):=by simp
 simp only[invoke,h0,hex,callMethod,aa,e9]
 refine aZ hm ?_
 have nn:(#[r]++⟨ws⟩:Array Value)=⟨r::ws⟩:=by simp
 rw[nn]
 refine kO ff ?_
 have hu:=(dv.use (s:=⟨X.ro,[]⟩) (sz:=s') (fun b o hb=>hs _ _ (HW _ _ hb)) (fun aF h1=>hf aF fun b ob hb=>h1 b ob (.inl hb))).weaken X.hC
 refine Fn.mono hu fun en s1 EN=>?_
 obtain⟨rfl,hle⟩:=EN
 show ae _ _ _ _ _ _ _ _
 rw[ba]
 exact hk.more X.hC hle
theorem jS{β:Type}{f:Oper→Env→Option β}{r:β}(ps:List Nat)(B:Cells)(hv:fq X.n f o=some r)(hB:eg ps o=some B)
 (hy:∀p e,f p e=some r→(∀c,p.op≠ .defer c)∧∀(R:Cells) (Q:Next→St→Prop) (E:Halt→St→Prop),(∀v L',Φ v L'→Q (.value v) ⟨X.ro,L'++R⟩)→bR X.P (execOp (ev X.n e) p) ⟨X.ro,B++R⟩ Q E)
 (hj:∀v L',Φ v L'→J X (nG ps v L' o)):J X o:=by
 obtain⟨ops,i,todo,k,e,w,kn,p,rfl,ho,hw,hc⟩:=dJ hv
 intro bZ
 have hp:=bM hB
 obtain⟨hd,ht⟩:=hy p e hc
 have:ae X.C X.fn X.aA ops (i::todo) (KQ X k) (A X.n e X.D) ⟨X.ro,B++den (dO ps 0 w)⟩:=by
  refine bW X.hC ho hw hd<|ht _ _ _ fun v L' qB=>?_
  have:=hj v L' qB
  rw[oE ho] at this
  have:=this bZ
  simp only[JP,gG] at this
  show ae _ _ _ _ _ _ _ _
  rw[ba]
  exact this
 have hle:(⟨X.ro,B++den (dO ps 0 w)⟩:St).le ⟨X.ro,den w⟩:=⟨[],by rw[List.append_nil];exact hp,fun b o hb=> .inl hb⟩
 exact this.more X.hC hle
end
attribute [irreducible] M9
section
variable {X:Cx} {o:Option JS}
def iaA(P:Program)(n:Nat)(p:Oper)(e:Env):Option (Nat×Nat×Int×Nat×Nat):=match p.op with
 | .indexAddr T x y=>match bh P T with
  |some ⟨.array len E,_,_,_⟩=>match bh P E with
   |some te=>match bA n e x with
    |some (.pointer (some ⟨b,off,none⟩))=>match bA n e y with
     |some (.int _ ix)=>some (b,off,ix,len,te.size)
     |_=>none
    |_=>none
   |none=>none
  |_=>none
 |_=>none
theorem HN{b len:Nat}(ix:Int)(hi:0≤ix∧ix <len)(hj:J X (kP (.pointer (some ⟨b,off+ix.toNat*sz,none⟩)) o))(hv:dR X.n (iaA X.P X.n) o=some (b,off,ix,len,sz):=by kernel_rfl):J X o:=by
 refine jG hv (fun s p e ho hh hf=>?_) hj
 unfold iaA at hf
 split at hf<;>try (cases hf;done)
 rename_i T x y az
 split at hf<;>try (cases hf;done)
 rename_i aDF E _ _ _ dX
 split at hf<;>try (cases hf;done)
 rename_i te uw
 split at hf<;>try (cases hf;done)
 rename_i b' auA hx
 split at hf<;>try (cases hf;done)
 rename_i ik ix' hy
 simp only[Option.some.injEq,Prod.mk.injEq] at hf
 obtain⟨rfl,rfl,rfl,rfl,rfl⟩:=hf
 obtain⟨bG,tf⟩:=av dX
 obtain⟨Ce,ri⟩:=av uw
 have key:∀s,Yields X.P X.n e p s (.pointer (some ⟨b',auA+ix'.toNat*te.size,none⟩)):=by
  intro s s' nE f hf K E hK
  simp only[execOp,az,Instr.indexAt,Instr.sureAddr,hf _ _ hx,hf _ _ hy,asIntOf,aa,af,bk tf,hi,and_self,if_true,cE ri,dZ]
  exact hK
 exact⟨by rw[az];rfl,fun _=>key _,fun _=>key⟩
def saV(P:Program)(n:Nat)(p:Oper)(e:Env):Option (Nat×Nat×Int×Nat):=match p.op with
 | .slice T x none (some z) none=>match bh P T with
  |some ⟨.array len E,_,_,_⟩=>match bh P E with
   |some _=>match bA n e x with
    |some (.pointer (some ⟨b,off,none⟩))=>match bA n e z with
     |some (.int _ ix)=>some (b,off,ix,len)
     |_=>none
    |_=>none
   |none=>none
  |_=>none
 |_=>none
theorem jah{b len:Nat}(hi:Int)(hl:0≤hi∧hi≤len)(hj:J X (kP (.slice (some ⟨b,off,none⟩) hi.toNat len) o))(hv:dR X.n (saV X.P X.n) o=some (b,off,hi,len):=by kernel_rfl):J X o:=by
 refine jG hv (fun s p e ho hh hf=>?_) hj
 unfold saV at hf
 split at hf<;>try (cases hf;done)
 rename_i T x z az
 split at hf<;>try (cases hf;done)
 rename_i aDF E _ _ _ dX
 split at hf<;>try (cases hf;done)
 rename_i te uw
 split at hf<;>try (cases hf;done)
 rename_i b' auA hx
 split at hf<;>try (cases hf;done)
 rename_i ik ix' hy
 simp only[Option.some.injEq,Prod.mk.injEq] at hf
 obtain⟨rfl,rfl,rfl,rfl⟩:=hf
 obtain⟨bG,tf⟩:=av dX
 obtain⟨Ce,ri⟩:=av uw
 have key:∀s,Yields X.P X.n e p s (.slice (some ⟨b',auA,none⟩) ix'.toNat aDF):=by
  intro s s' nE f hf K E hK
  simp only[execOp,az,Option.map_some,Option.map_none,Instr.sliceAt,Instr.sliceBounds,Instr.sliceBound,Instr.sureAddr,hf _ _ hx,hf _ _ hy,asIntOf,aa,af,bk tf,Option.isSome_none,Bool.false_eq_true,if_false,hl,and_self,if_true,cE ri,Nat.zero_mul,dZ,Nat.add_zero,ite_self,Nat.sub_zero]
  exact hK
 exact⟨by rw[az];rfl,fun _=>key _,fun _=>key⟩
end
theorem oN{b:Nat}{v:Value}(h:s.has b (.cells ⟨l⟩ t fz))(hv:nth l off=some v):cb s b off 1 [v]:=
 ⟨_,_,_,h,by rw[sj] at hv;simp[jB (show off+1≤l.length by have:=(List.getElem?_eq_some_iff.1 hv).1;omega),List.drop_eq_getElem_cons (List.getElem?_eq_some_iff.1 hv).1,(List.getElem?_eq_some_iff.1 hv).2]⟩
theorem aeW{b o m:Nat}{v:Value}(h:cb s b o m l)(hv:nth l off=some v):cb s b (o+off) 1 [v]:=
 h.part off 1 (by rw[sj] at hv;simp[jB (show off+1≤l.length by have:=(List.getElem?_eq_some_iff.1 hv).1;omega),List.drop_eq_getElem_cons (List.getElem?_eq_some_iff.1 hv).1,(List.getElem?_eq_some_iff.1 hv).2])
open Go.ConcR (KK wgBlock WgAt stA smA rd wr)
def TT(T:Goroutine→St→Prop)(b:Frame)(AS:List Item)(cs:List Frame)(n:Nat)(D:List Deferred)(ro:Nat→Option Obj)(o:Option JS):Prop:=
 ∀e w kn,o=some ⟨.fin .normal,e,w,kn⟩→Knows ro kn.c→T (G (aK b (A n e D) AS) cs) ⟨ro,den w⟩
def CT(hm:P.follows .mixedOrders=true)(hT:Closed P main T)(b:Frame)(AS:List Item)(cs:List Frame)(n:Nat)(D:List Deferred)(ro:Nat→Option Obj):Cx:=
 ⟨P,fun m T'=>m=main∧T'=T,by rintro _ _ ⟨rfl,rfl⟩;exact hT,hm,b.fn,none,n,D,ro,kB T b AS cs⟩
def Wz:Option JS→Bool
 |some ⟨.fin .normal,_,_,_⟩=>true
 |_=>false
def opO(ops:Array Oper)(todo:List Nat):Option JS→Option JS
 |some ⟨.fin .normal,e,w,kn⟩=>some ⟨.ops ops todo [],e,w,⟨kn.c,[]⟩⟩
 |_=>none
def cdO(c:Code):Option JS→Option JS
 |some ⟨.fin .normal,e,w,kn⟩=>some ⟨.code c [],e,w,⟨kn.c,[]⟩⟩
 |_=>none
def stO(dst:Option Tmp)(v:Value):Option JS→Option JS
 |some ⟨p,e,w,kn⟩=>some ⟨p,upd dst v e,w,kn⟩
 |none=>none
def nwO(dst:Option Tmp)(v:Value)(q:Nat)(ob:Obj):Option JS→Option JS
 |some ⟨p,e,w,kn⟩=>some ⟨p,upd dst v e,.b q ob::w,kn⟩
 |none=>none
def adO(L:Cells):Option JS→Option JS
 |some ⟨p,e,w,kn⟩=>some ⟨p,e,.l L::w,kn⟩
 |none=>none
def evO(n:Nat)(x:Operand):Option JS→Option Value
 |some ⟨_,e,_,_⟩=>bA n e x
 |none=>none
def aT2(n:Nat)(xs:List Operand):Option JS→Option (List Value)
 |some ⟨_,e,_,_⟩=>yF n e xs
 |none=>none
def vaO(P:Program)(n:Nat)(a:Oper):Option JS→Option Value
 |some ⟨_,e,_,_⟩=>adP P n e a
 |none=>none
theorem acg(h:Wz o=true):∃e w kn,o=some ⟨.fin .normal,e,w,kn⟩:=by
 unfold Wz at h
 split at h
 ·exact⟨_,_,_,rfl⟩
 cases h
def fr0(f:FuncId)(k:CallKind):Frame:={(default:Frame) with fn:=f,kind:=k,roundOf:=none}
section
variable {P:Program} {main:Bool} {T:Goroutine→St→Prop} {b:Frame} {AS:List Item} {cs:List Frame} {n:Nat} {D:List Deferred} {ro:Nat→Option Obj} {o:Option JS} {ops:Array Oper}
theorem ael(h:TT T b AS cs n D ro o)(hQ:X.Q=kB T b AS cs)(hn:X.n=n)(hD:X.D=D)(BL:X.ro=ro)(h1:Wz o=true):J X o:=by
 subst hn hD BL
 obtain⟨e,w,kn,rfl⟩:=acg h1
 intro bZ
 show X.Q .normal _ _
 rw[hQ]
 exact h _ _ _ rfl bZ
theorem yq{hm:P.follows .mixedOrders=true}{hT:Closed P main T}(h:TT T b AS cs n D ro o)(h1:Wz o=true:=by kernel_rfl):J (CT hm hT b AS cs n D ro) o:=ael h rfl rfl rfl rfl h1
theorem aBF{hm:P.follows .mixedOrders=true}{hT:Closed P main T}(h:TT T b AS cs n D ro o)(h1:Wz o=true:=by kernel_rfl):J ((CT hm hT b AS cs n D oA).at ro) o:=ael h rfl rfl rfl rfl h1
theorem aBE{hm:P.follows .mixedOrders=true}{hT:Closed P main T}(h:TT T b AS cs n (eF bd::D) ro o)(h1:Wz o=true:=by kernel_rfl):J ((CT hm hT b AS cs n D ro).dm bd) o:=ael h rfl rfl rfl rfl h1
theorem vZ(hm:P.follows .mixedOrders=true)(hT:Closed P main T)(hj:J (CT hm hT b AS cs n D ro) (opO ops todo o))(hk:b.kind≠ .early:=by decide)(hr:b.roundOf=none:=by rfl):TT T b (.inRegion ops todo::AS) cs n D ro o:=by
 rintro e w kn rfl bZ
 exact hj bZ main T ⟨rfl,rfl⟩ b AS cs rfl hk hr fun e a s q=>q
theorem aBG(hm:P.follows .mixedOrders=true)(hT:Closed P main T){c:Code}(hj:J (CT hm hT b AS cs n D ro) (cdO c o))(hk:b.kind≠ .early:=by decide)(hr:b.roundOf=none:=by rfl):TT T b (.code c::AS) cs n D ro o:=by
 rintro e w kn rfl bZ
 exact hj bZ main T ⟨rfl,rfl⟩ b AS cs rfl hk hr fun e a s q=>q
theorem tSt(hT:Closed P main T)(ef:Env)(wf:List Sg)(ps:List Nat)(h:∀rest,TT T b AS cs n D ro (some ⟨.fin .normal,ef++rest,wf,⟨[],[]⟩⟩))(h1:rF (nJ ef) o=some ef:=by kernel_rfl)(h2:rB ps o=some wf:=by kernel_rfl)(h3:lkE (nJ ef) ef=some ef:=by kernel_rfl):TT T b AS cs n D ro o:=by
 rintro e w kn rfl bZ
 obtain⟨rest,he⟩:=gv (n:=n) (D:=D) (lh (by rw[tw] at h1;exact h1)) (lh h3)
 rw[he]
 exact hT.mono _ ⟨ro,den wf⟩ _ (ee (mh h2) (Sub.refl _)) (h rest _ _ _ rfl fun _ h=>(by cases h))
section
variable {k:List Item} {rest l:List Code} (hT:Closed P main T)
include hT
theorem ql(hl:gR l= .region id ops false::rest)(h:∀l',gR l'=rest→TT T b (.inRegion ops (List.range ops.size)::(l'.map .code++k)) cs n D ro o):TT T b (l.map .code++k) cs n D ro o:=
 fun e w kn ho bZ=>dV hT hl fun l' An=>h l' An e w kn ho bZ
theorem XL{c:Operand}{x y:Code}{t q:Bool}(hl:gR l= .cond c x y::rest)(hq:q=t)(h:∀l',gR l'=rest→TT T b (.code (if t then x else y)::(l'.map .code++k)) cs n D ro o)(hc:evO n c o=some (.bool q):=by kernel_rfl):TT T b (l.map .code++k) cs n D ro o:=by
 subst hq
 rintro e w kn rfl bZ
 exact BA hT hl (by rw[eI];exact aG hc) fun l' An=>h l' An e w kn rfl bZ
theorem Nw{c:Code}(hl:gR l= .block id c::rest)(h:∀l',gR l'=rest→TT T b ([c].map .code++(.inBlock id::(l'.map .code++k))) cs n D ro o):TT T b (l.map .code++k) cs n D ro o:=
 fun e w kn ho bZ=>wA hT hl fun l' An=>h l' An e w kn ho bZ
theorem aqw{c:Code}(hl:gR l= .loop c::rest)(h:∀l',gR l'=rest→TT T b ([c].map .code++(.inLoop c::(l'.map .code++k))) cs n D ro o):TT T b (l.map .code++k) cs n D ro o:=
 fun e w kn ho bZ=>N1 hT hl fun l' An=>h l' An e w kn ho bZ
theorem aqx{c:Code}(hl:gR l=c::rest)(h:∀l',gR l'=rest→TT T b (.code c::(l'.map .code++k)) cs n D ro o):TT T b (l.map .code++k) cs n D ro o:=
 fun e w kn ho bZ=>od hT hl fun l' An=>h l' An e w kn ho bZ
theorem aqu(h:TT T b k cs n D ro o):TT T b (.code .skip::k) cs n D ro o:=fun e w kn ho bZ=>Pa hT (h e w kn ho bZ)
theorem aqy{k':List Item}(hk:exitTo id k=some k')(h:TT T b k' cs n D ro o):TT T b (.code (.exit id)::k) cs n D ro o:=fun e w kn ho bZ=>Pb hT hk (h e w kn ho bZ)
theorem aqz(h:TT T b k cs n D ro o):TT T b (.inBlock id::k) cs n D ro o:=fun e w kn ho bZ=>DX hT (h e w kn ho bZ)
theorem XK(h:TT T b k cs n D ro o):TT T b (.inRegion ops []::k) cs n D ro o:=fun e w kn ho bZ=>iH hT (h e w kn ho bZ)
theorem aem{c:Code}(h:TT T b ([c].map .code++(.inLoop c::k)) cs n D ro o):TT T b (.inLoop c::k) cs n D ro o:=fun e w kn ho bZ=>AN hT (h e w kn ho bZ)
theorem aBA{a:Oper}{f:Nat→Value}{ob:Obj}(ho:ops[i]?=some a) (hg:a.guard=none) (tA:∀e q,Vm P (execOp (ev n e) a) q=some (ob,f q)) (hk:b.kind≠ .early) (hr:b.roundOf=none)
 (h:∀q,TT T b (.inRegion ops todo::k) cs n D ro (nwO a.dst (f q) q ob o)):TT T b (.inRegion ops (i::todo)::k) cs n D ro o:=by
 rintro e w kn rfl bZ
 refine tk hT ho (dI _ _ hg) hk hr ?_
 rw[eI]
 refine Hw (f:=f) (fun q _=>⟨_,rfl,?_⟩) _ (tA e)
 rw[ba]
 have:=h q _ _ _ rfl bZ
 rw[jh] at this
 exact this
theorem aBx{a:Oper}(v:Value)(ho:ops[i]?=some a) (hg:a.guard=none) (hk:b.kind≠ .early) (hr:b.roundOf=none) (h:TT T b (.inRegion ops todo::k) cs n D ro (stO a.dst v o)) (hv:vaO P n a o=some v:=by kernel_rfl):TT T b (.inRegion ops (i::todo)::k) cs n D ro o:=by
 rintro e w kn rfl bZ
 refine tk hT ho (dI _ _ hg) hk hr ?_
 rw[eI]
 refine A8 hv _ (Ext.refl _) _ (fun _ _ h=>aG h) _ _ ⟨v,rfl,?_⟩
 rw[ba]
 exact h _ _ _ rfl bZ
theorem tLd{a:Oper}(v:Value)(ho:ops[i]?=some a) (hg:a.guard=none) (az:a.op= .load U x) (ht:(bh P U).map (·.agg)=some false) (hk:b.kind≠ .early) (hr:b.roundOf=none) (hb:∀e w kn,o=some ⟨.fin .normal,e,w,kn⟩→(⟨ro,den w⟩:St).has q (.cells ⟨[v]⟩ t fz))
 (h:TT T b (.inRegion ops todo::k) cs n D ro (stO a.dst v o)) (hx:evO n x o=some (.pointer (some ⟨q,0,none⟩)):=by kernel_rfl):TT T b (.inRegion ops (i::todo)::k) cs n D ro o:=by
 rintro e w kn rfl bZ
 refine tk hT ho (dI _ _ hg) hk hr ?_
 rw[eI]
 cases dX:bh P U with
 |none=>rw[dX] at ht;cases ht
 |some z=>
 rw[dX] at ht
 simp only[Option.map_some,Option.some.injEq] at ht
 obtain⟨bG,tf⟩:=av dX
 rw[ht] at tf
 simp only[execOp,az,Instr.loadAt,aG hx,Instr.sureAddr,loadVar,aa,af,kY tf,Bool.false_eq_true,if_false]
 refine vY ⟨[v],t,fz,hb _ _ _ rfl,rfl⟩ ⟨v,rfl,?_⟩
 rw[ba]
 exact h _ _ _ rfl bZ
theorem aMd{a:Oper}(v:Value)(ho:ops[i]?=some a) (hg:a.guard=none) (az:a.op= .load U x) (ht:(bh P U).map (·.agg)=some false) (hk:b.kind≠ .early) (hr:b.roundOf=none) (ps:List Nat) (t:TypeId)
 (h:TT T b (.inRegion ops todo::k) cs n D ro (stO a.dst v o)) (hx:evO n x o=some (.pointer (some ⟨q,0,none⟩)):=by kernel_rfl) (hd:eg ps o=some [(q,.cells ⟨[v]⟩ t (0,0))]:=by kernel_rfl):TT T b (.inRegion ops (i::todo)::k) cs n D ro o:=
 tLd hT v ho hg az ht hk hr (fz:=(0,0)) (t:=t) (q:=q) (fun e w kn he=>by
  subst he
  exact .inr ((bM hd).mem_iff.2 (List.mem_append_left _ (List.mem_singleton.2 rfl)))) h hx
end
theorem atx(hT:Closed P main T){a:Oper}{xs:Array Operand}(ho:ops[i]?=some a) (hg:a.guard=none) (az:a.op= .defer ⟨.value (.func f),xs,ats⟩) (hk:b.kind≠ .early) (hr:b.roundOf=none)
 (h:TT T b k cs n ({target:= .fn (.func f) ⟨[]⟩,args:=⟨vs⟩}::D) ro (stO a.dst undef o)) (hx:aT2 n xs.toList o=some vs:=by kernel_rfl):TT T b (.inRegion ops [i]::k) cs n D ro o:=by
 rintro e w kn rfl bZ
 have hC:∀m T',(fun m T'=>m=main∧T'=T:Class) m T'→Closed P m T':=by rintro _ _ ⟨rfl,rfl⟩;exact hT
 have key:ae (fun m T'=>m=main∧T'=T) b.fn none ops [i] (kB T b k cs) (A n e D) ⟨ro,den w⟩:=by
  refine N0 (P:=P) hC ho (dI _ _ hg) (.inl rfl) ?_
  rw[eI]
  have e1:ev n e (.func f)= .func (.func f) #[] #[]:=rfl
  have e2:xs.map (ev n e)=⟨vs⟩:=sD hx
  simp only[execOp,az,resolve,e1,Deferred.ofValue,af,e2]
  refine⟨rfl,?_⟩
  have hA:({A n e D with defers:={target:= .fn (.func f) ⟨[]⟩,args:=⟨vs⟩}::(A n e D).defers}:Act).put a.dst undef=A n (upd a.dst undef e) ({target:= .fn (.func f) ⟨[]⟩,args:=⟨vs⟩}::D):=by
   rw[←ba];rfl
  have he:(⟨[]⟩:Array Value)++(⟨vs⟩:Array Value)=⟨vs⟩:=by simp
  rw[he]
  have:=h _ _ _ rfl bZ
  rw[←hA] at this
  exact fun m T' hc b' k' JY h1 h2 h3 h4=>by
   obtain⟨rfl,rfl⟩:=hc
   exact iH hT (h4 .normal _ _ this)
 exact key main T ⟨rfl,rfl⟩ b k cs rfl hk hr fun e a s q=>q
end
attribute [irreducible] Wz opO cdO
structure ak0(L:Nat→Option Obj)(X:Cells)(ro aC:Nat→Option Obj):Prop where
 of:∀q o,L q=some o→(q,o)∈X
 on:∀q o,(q,o)∈X→L q=some o
 sub:Sub ro aC
 kn:Knows aC X
 nd:(X.map (·.1)).Nodup
 ap:∀q o,(q,o)∈X→ro q=none
def bkO(L:Cells):Option JS→Option JS
 |some ⟨p,e,w,_⟩=>some ⟨p,e,.l L::w,⟨[],[]⟩⟩
 |none=>none
def UX(ps:List Nat):Option JS→Option Cells
 |some ⟨_,_,w,_⟩=>some (den (dO ps 0 w))
 |none=>none
def YG:Option JS→Option JS
 |some ⟨p,e,_,kn⟩=>some ⟨p,e,[],⟨kn.c,[]⟩⟩
 |none=>none
theorem DZ:∀(w:List Sg) (k:Nat),dO [] k w=w
 | [],_=>rfl
 |x::w,k=>by
  simp only[dO,bn]
  rw[DZ w]
  rfl
theorem ak0.back{L:Nat→Option Obj}{X:Cells}{roK:Nat→Option Obj}{rwK:Cells}(h:ak0 L X ro aC)(hs:Sub aC roK):
 (∀w,aT ⟨roK,rwK⟩ w→(∀b o,L b=some o→w.heap[b]?=some o)→aT ⟨ro,X++rwK⟩ w)∧∀b,(⟨ro,X++rwK⟩:St).knows b→L b≠none∨(⟨roK,rwK⟩:St).knows b:=by
 refine⟨fun w hw hL=>⟨fun q o hq=>hw.ro q o (hs _ _ (h.sub _ _ hq)),fun q o hq=>?_,?_,fun q o hq=>?_⟩,fun q hq=>?_⟩
 ·rcases List.mem_append.1 hq with hq|hq
  ·exact hL q o (h.on q o hq)
  exact hw.rw q o hq
 ·show ((X++rwK).map (·.1)).Nodup
  rw[List.map_append,List.nodup_append]
  refine⟨h.nd,hw.nodup,fun q hq q' Gp e=>?_⟩
  subst e
  obtain⟨⟨q1,o1⟩,h1,rfl⟩:=List.mem_map.1 hq
  obtain⟨⟨q2,o2⟩,h2,e2⟩:=List.mem_map.1 Gp
  simp only at e2
  subst e2
  have h3:=hs _ _ (h.kn _ h1)
  have h4:=hw.apart _ _ h2
  dsimp only at h3 h4
  rw[h4] at h3
  cases h3
 ·show ro q=none
  rcases List.mem_append.1 hq with hq|hq
  ·exact h.ap q o hq
  have h2:roK q=none:=hw.apart q o hq
  cases hr:ro q with
  |none=>rfl
  |some o'=>rw[hs _ _ (h.sub _ _ hr)] at h2;cases h2
 rcases hq with hq| ⟨o,hq⟩
 ·have hq:ro q≠none:=hq
  cases hr:ro q with
  |none=>exact absurd hr hq
  |some o'=>exact .inr (.inl (by show roK q≠none;rw[hs _ _ (h.sub _ _ hr)];simp))
 rcases List.mem_append.1 hq with h'|h'
 ·exact .inl (by rw[h.on q o h'];simp)
 exact .inr (.inr ⟨o,h'⟩)
section
variable {ι:Type} {E:eo ι} {Q:Machine→Outcome→World→Trace→Prop} {b:Frame} {AS:List Item} {cs:List Frame} {n:Nat} {D:List Deferred} {ro:Nat→Option Obj} {o:Option JS} {ops:Array Oper} {L:Nat→Option Obj}
theorem atw{tm:Bool}(iw ic:Nat)(X:Cells)(iZ:Closed E.P true (TL E.P eQ (fun _=>none) (Calm E.os E.out) Q))
 (h:∀L aC,ak0 L X ro aC→E.Wg≠E.Ch→L E.Ch=none→TT (TM E L Q 0 false [] 0) b AS cs n D aC (YG o))
 (hW:eg [iw,ic] o=some [(E.Wg,wgBlock E.ty 0 0),(E.Ch,.chan 0 #[] false 0 0 tm)]:=by kernel_rfl)(hX:UX [iw,ic] o=some X:=by kernel_rfl):TT (TL E.P eQ (fun _=>none) (Calm E.os E.out) Q) b AS cs n D ro o:=by
 rintro e w kn rfl bZ
 refine Closed.kz iZ rfl fun⟨w0,Y3⟩=>?_
 have hp:=bM hW
 simp only[UX,Option.some.injEq] at hX
 have T6:=hp
 dsimp only at T6
 rw[hX] at T6
 have hm:∀x,x∈den w↔x=(E.Wg,wgBlock E.ty 0 0)∨x=(E.Ch,.chan 0 #[] false 0 0 tm)∨x∈X:=fun x=>by
  rw[T6.mem_iff]
  simp
 have mG:=(T6.map (·.1)).nodup_iff.1 Y3.nodup
 simp only[List.cons_append,List.nil_append,List.map_cons,List.nodup_cons,List.mem_cons,not_or] at mG
 obtain⟨⟨ek,hW1⟩,hC1,Sr⟩:=mG
 have AW:∀x∈X,x∈den w:=fun x hx=>(hm x).2 (.inr (.inr hx))
 have aGo:(E.Wg,wgBlock E.ty 0 0)∈den w:=(hm _).2 (.inl rfl)
 have ai7:(E.Ch,Obj.chan 0 #[] false 0 0 tm)∈den w:=(hm _).2 (.inr (.inl rfl))
 have OA:∀y∈X,y.1≠E.Wg∧y.1≠E.Ch:=fun y hy=>⟨fun e=>hW1 (e▸List.mem_map.2 ⟨_,hy,rfl⟩),fun e=>hC1 (e▸List.mem_map.2 ⟨_,hy,rfl⟩)⟩
 let L:Nat→Option Obj:=fun q=>(X.find? fun y=>y.1==q).map (·.2)
 have We:∀q o,L q=some o→(q,o)∈X:=fun q o hq=>by
  obtain⟨y,hy,rfl⟩:=Option.map_eq_some_iff.1 hq
  obtain⟨h1,h2⟩:=oX hy
  subst h2
  exact h1
 have aSV:∀q o,(q,o)∈X→L q=some o:=fun q o hq=>by
  show (X.find? fun y=>y.1==q).map (·.2)=some o
  rw[w9 Sr hq];rfl
 have Wh:L E.Ch=none:=by
  cases hq:L E.Ch with
  |none=>rfl
  |some o=>exact absurd rfl (OA _ (We _ _ hq)).2
 have nn:∀q o,(q,o)∈X→ro q=none:=fun q o hq=>Y3.apart q o (AW _ hq)
 have fJ:Sub ro (St.freeze ⟨ro,X⟩).ro:=fun q o hq=>St.n8 (s:=⟨ro,X⟩) hq fun q o hq=>nn q o hq
 have aib:∀q,(∃o,(q,o)∈den w)→(q=E.Wg∨q=E.Ch)→¬(St.freeze ⟨ro,X⟩).knows q:=by
  rintro q ⟨o,ho⟩ hq (hk| ⟨o',Gq⟩)
  ·simp only[St.freeze] at hk
   split at hk
   ·rename_i y hy
    obtain⟨h1,h2⟩:=oX hy
    have:=OA _ h1
    rcases hq with e|e
    ·exact this.1 (h2.trans e)
    exact this.2 (h2.trans e)
   exact hk (Y3.apart q o ho)
  cases Gq
 have aFo:ak0 L X ro (St.freeze ⟨ro,X⟩).ro:=⟨We,aSV,fJ,fun x hx=>St.tC (s:=⟨ro,X⟩) (by rcases x with ⟨q,o⟩;exact hx) Sr,Sr,nn⟩
 refine Qt (E:=E) (L:=L) (s':=St.freeze ⟨ro,X⟩) rfl ek aGo ⟨tm,ai7⟩ ?_ (aib _ ⟨_,aGo⟩ (.inl rfl)) (aib _ ⟨_,ai7⟩ (.inr rfl)) (fun q ⟨o,ho⟩=>by cases ho) (fun q o hq=>⟨.inr (AW _ (We _ _ hq)),OA _ (We _ _ hq)⟩) ?_
 ·refine⟨den w,by simp[St.freeze],fun q o hq=>?_⟩
  simp only[St.freeze] at hq
  split at hq
  ·rename_i y hy
   obtain⟨h1,h2⟩:=oX hy
   cases hq
   subst h2
   exact .inr (AW _ h1)
  exact .inl hq
 exact(h L _ aFo ek Wh _ _ _ rfl (bZ.up fJ)).1
theorem aMg{os:List ι}{a:Oper}{bs:List Nat}(h:TT (TM E L Q 1 false os 0) b k cs n D ro (stO a.dst (.tuple #[]) o))(ho:ops[0]?=some a) (hg:a.guard=none) (az:a.op= .call ⟨.value (.func f),#[x,.const (.int .i64 1)],ats⟩) (hf:FF E.P f) (hk:b.kind≠ .early) (hr:b.roundOf=none) (Kw:os.length <E.max)
 (aiF:Ja E.P E.ty os.length (Frame.enter E.P f #[.pointer (some ⟨E.Wg,0,none⟩),.int .i64 1] .normal)=some bs) (hbs:∀b∈bs,b=E.Wg) (hx:evO n x o=some (.pointer (some ⟨E.Wg,0,none⟩)):=by kernel_rfl):TT (TM E L Q 0 false os 0) b (.inRegion ops [0]::k) cs n D ro o:=by
 rintro e w kn rfl bZ
 have hT:Closed E.P true (TM E L Q 0 false os 0):=fA (E:=E) false os (fun e=>(by cases e))
 have Wd:Closed E.P true (TM E L Q 1 false os 0):=fA (E:=E) false os (fun e=>(by cases e))
 refine Ro (rest:=[]) hT ho hg hk hr az hf ?_
 have nK:(#[x,.const (.int .i64 1)]:Array Operand).map (A n e D).eval= #[.pointer (some ⟨E.Wg,0,none⟩),.int .i64 1]:=by
  rw[eI]
  simp only[List.map_toArray,List.map_cons,List.map_nil,aG hx]
  rfl
 rw[nK]
 refine⟨M8 (E:=E) aiF hbs Kw ?_,fun e=>(by cases e)⟩
 rw[fQ,ho]
 simp only[Option.bind_some]
 rw[ba]
 exact(iH Wd (h _ _ _ rfl bZ)).1
theorem tGo{os:List ι}(oo:ι){a:Oper}(L1:Cells)(ho:ops[i]?=some a) (hg:a.guard=none) (az:a.op= .go ⟨.value y,#[],ats⟩) (hk:b.kind≠ .early) (hr:b.roundOf=none)
 (h:∀aC,Sub ro aC→Knows aC L1→eY E.P false (E.KR oo) (born E.P {target:= .fn (.func f) ⟨ca⟩,args:= #[]}) ⟨aC,[]⟩∧TT (TM E L Q 0 false (os++[oo]) 0) b (.inRegion ops todo::k) cs n D aC (YG (stO a.dst undef o)))
 (hy:evO n y o=some (.func (.func f) ⟨[]⟩ ⟨ca⟩):=by kernel_rfl) (hL:UX [] o=some L1:=by kernel_rfl):TT (TM E L Q 1 false os 0) b (.inRegion ops (i::todo)::k) cs n D ro o:=by
 rintro e w kn rfl bZ
 have Wd:Closed E.P true (TM E L Q 1 false os 0):=fA (E:=E) false os (fun e=>(by cases e))
 refine Closed.kz Wd rfl fun pX=>?_
 obtain⟨w0,Y3⟩:=pX
 have mG:((den w).map (·.1)).Nodup:=Y3.nodup
 have nn:∀q o,(q,o)∈den w→ro q=none:=Y3.apart
 have fJ:Sub ro (St.freeze ⟨ro,den w⟩).ro:=fun q o hq=>St.n8 (s:=⟨ro,den w⟩) hq nn
 have awT:Knows (St.freeze ⟨ro,den w⟩).ro L1:=fun x hx=>St.tC (s:=⟨ro,den w⟩) (by rcases x with ⟨q,o⟩;simp only[UX,Option.some.injEq] at hL;rw[←hL,DZ] at hx;exact hx) mG
 obtain⟨h1,h2⟩:=h _ fJ awT
 have bX:=fun w'=>Gx (P:=E.P) (main:=true) (b:=b) (a:=A n e D) (k:=k) (cs:=cs) (rest:=todo) ho hg hk hr az (by rw[eI];exact aG hy) w'
 have:=h2 _ _ _ rfl (bZ.up fJ)
 rw[←ba] at this
 exact⟨TC.mono (St.DO ⟨ro,den w⟩) (La (E:=E) (o:=oo) (s:=St.freeze ⟨ro,den w⟩) rfl rfl (fun w' _=>bX w') h1 this.1),fun e=>(by cases e)⟩
theorem atA{os:List ι}{a:Oper}(L1:Cells)(ho:ops[i]?=some a) (hg:a.guard=none) (az:a.op= .go ⟨.value y,#[],ats⟩) (hk:b.kind≠ .early) (hr:b.roundOf=none)
 (h:∀aC,Sub ro aC→Knows aC L1→E.closes ⟨aC,[]⟩ (born E.P {target:= .fn (.func f) ⟨ca⟩,args:= #[]})∧TT (TM E L Q 0 true os 0) b (.inRegion ops todo::k) cs n D aC (YG (stO a.dst undef o)))
 (hy:evO n y o=some (.func (.func f) ⟨[]⟩ ⟨ca⟩):=by kernel_rfl) (hL:UX [] o=some L1:=by kernel_rfl):TT (TM E L Q 0 false os 0) b (.inRegion ops (i::todo)::k) cs n D ro o:=by
 rintro e w kn rfl bZ
 have Wd:Closed E.P true (TM E L Q 0 false os 0):=fA (E:=E) false os (fun e=>(by cases e))
 refine Closed.kz Wd rfl fun pX=>?_
 obtain⟨w0,Y3⟩:=pX
 have mG:((den w).map (·.1)).Nodup:=Y3.nodup
 have nn:∀q o,(q,o)∈den w→ro q=none:=Y3.apart
 have fJ:Sub ro (St.freeze ⟨ro,den w⟩).ro:=fun q o hq=>St.n8 (s:=⟨ro,den w⟩) hq nn
 have awT:Knows (St.freeze ⟨ro,den w⟩).ro L1:=fun x hx=>St.tC (s:=⟨ro,den w⟩) (by rcases x with ⟨q,o⟩;simp only[UX,Option.some.injEq] at hL;rw[←hL,DZ] at hx;exact hx) mG
 obtain⟨h1,h2⟩:=h _ fJ awT
 have bX:=fun w'=>Gx (P:=E.P) (main:=true) (b:=b) (a:=A n e D) (k:=k) (cs:=cs) (rest:=todo) ho hg hk hr az (by rw[eI];exact aG hy) w'
 have:=h2 _ _ _ rfl (bZ.up fJ)
 rw[←ba] at this
 exact⟨TC.mono (St.DO ⟨ro,den w⟩) (Lc (E:=E) (s:=St.freeze ⟨ro,den w⟩) rfl rfl (fun w' _=>bX w') h1 this.1),fun e=>(by cases e)⟩
theorem aqv{os:List ι}{a:Oper}{rc:Operand}{z:Value}{X:Cells}{aF:Nat→Option Obj}(hl:ak0 L X oA aF)(bL:Sub aF ro)(Wh:L E.Ch=none)(ho:ops[0]?=some a) (hg:a.guard=none) (T4:∀ρ,bC E.P (execOp ρ a)=some (.comm #[{chan:=ρ rc,send:=none,zero:=z}] true (.recv true))) (hk:b.kind≠ .early) (hr:b.roundOf=none)
 (MB:∀a' oo b' v Y,os=a'++oo::b'→E.Xi oo v Y→TT (TM E L Q 0 true (a'++b') 0) b (.inRegion ops todo::k) cs n D ro (adO Y (stO a.dst (.tuple #[v,.bool true]) o)))
 (qI:os=[]→TT (TL E.P eQ (fun _=>none) (Calm E.os E.out) Q) b (.inRegion ops todo::k) cs n D oA (bkO X (stO a.dst (.tuple #[z,.bool false]) o)))
 (hx:evO n rc o=some (.chan (some E.Ch)):=by kernel_rfl):TT (TM E L Q 0 true os 0) b (.inRegion ops (0::todo)::k) cs n D ro o:=by
 rintro e w kn rfl bZ
 have hT:Closed E.P true (TM E L Q 0 true os 0):=fA (E:=E) true os (fun _=>rfl)
 refine Closed.kz hT rfl fun pX=>?_
 have hvc:ev n e rc= .chan (some E.Ch):=aG hx
 have bX:∀w',stepG E.P true (G (aK b (A n e D) (.inRegion ops (0::todo)::k)) cs) w'= .comm (G (aK b (A n e D) (.inRegion ops (0::todo)::k)) cs) #[rcase E.Ch z] true (.recv true) w' #[]:=by
  intro w'
  have AX:=lu b (A n e D) (.inRegion ops (0::todo)::k)
  simp only[aK] at AX
  have hw:Region.wanted a (yielded ops (A n e D).tmps)=true:=dI _ _ hg
  have ky:(b.kind==CallKind.early)=false:=by simpa using hk
  have gP:stepG E.P true (G (aK b (A n e D) (.inRegion ops (0::todo)::k)) cs) w'=stepG.apply E.P true (aK b (A n e D) (.inRegion ops (0::todo)::k)) cs none (execOp (A n e D).eval a) w':=by
   simp only[G,stepG,stepG.exec,aK,ho,Option.map_some,Option.getD_some,hw,if_true,stepG.oper,Frame.oper?,AX]
   rw[hr]
  have bY:=tV (T4 (ev n e)) w' #[]
  rw[hvc] at bY
  rw[gP,eI]
  simp only[stepG.apply,if_true,bY,aK,ky,Bool.false_eq_true,if_false]
  simp[seen_none,GStep.after,G,rcase]
 have pW:∀v,Conc.served (G (aK b (A n e D) (.inRegion ops (0::todo)::k)) cs) v=G (aK b (A n (upd a.dst v e) D) (.inRegion ops todo::k)) cs:=by
  intro v
  have:=fQ b (A n e D) ops 0 todo k v
  rw[ho] at this
  simp only[Option.bind_some] at this
  rw[ba] at this
  simp only[Conc.served,G] at this ⊢
  rw[this]
 have uA:os=[]→∀pc (g:Goroutine),g.status= .running→(∀w',stepG E.P true g w'= .comm (G (aK b (A n e D) (.inRegion ops (0::todo)::k)) cs) #[rcase E.Ch z] true (.recv true) w' #[])→
  TL E.P (jT pc) L (JB E pc) Q g ⟨ro,den w⟩:=by
  intro tO pc g hg' av2
  obtain⟨hb1,gh⟩:=hl.back (rwK:=den w) bL
  refine XA (E:=E) (z:=z) (s':=⟨oA,X++den w⟩) Wh hg' (fun w' _=>av2 w') hb1 gh ?_
  rw[pW]
  have:=qI tO _ _ _ rfl fun x hx=>(by cases hx)
  rw[gG] at this
  exact this
 refine⟨XG (E:=E) (z:=z) rfl (fun w' _=>bX w') (fun a' oo b' v Y tO oR=>?_) fun tO pc=>⟨uA tO pc _ rfl bX,uA tO pc _ rfl fun w'=>bX w'⟩,fun _ tO pc=>uA tO pc _ rfl bX⟩
 rw[pW]
 have:=MB a' oo b' v Y tO oR _ _ _ rfl bZ
 rw[gG] at this
 exact this.1
theorem aBz{oo:ι}{a:Oper}{sc sv:Operand}{v:Value}{Y:Cells}(ys:List Nat)(ho:ops[i]?=some a) (hg:a.guard=none) (hse:∀ρ,execOp ρ a=Sem.pure (.comm #[{chan:=ρ sc,send:=some (ρ sv),zero:= .tuple #[]}] true .send)) (hk:b.kind≠ .early) (hr:b.roundOf=none)
 (hs:E.Xi oo v Y) (h:TT (eY E.P false E.JD) b (.inRegion ops todo::k) cs n D ro (DY ys (stO a.dst undef o)))
 (hx:evO n sc o=some (.chan (some E.Ch)):=by kernel_rfl) (hv:evO n sv o=some v:=by kernel_rfl) (hY:eg ys o=some Y:=by kernel_rfl):TT (eY E.P false (E.KR oo)) b (.inRegion ops (i::todo)::k) cs n D ro o:=by
 rintro e w kn rfl bZ
 refine eY.stop ?_
 have:=h e w kn
 refine⟨rfl,G (aK b (A n e D) (.inRegion ops (i::todo)::k)) cs,v,.tuple #[],Y,den (dO ys 0 w),bM hY,hs,fun w' pX=>?_,?_⟩
 ·have he:=lu b (A n e D) (.inRegion ops (i::todo)::k)
  simp only[aK] at he
  have axb:ev n e sc= .chan (some E.Ch):=aG hx
  have axa:ev n e sv=v:=aG hv
  have hw:Region.wanted a (yielded ops (A n e D).tmps)=true:=dI _ _ hg
  have ky:(b.kind==CallKind.early)=false:=by simpa using hk
  have aEv:=hse (ev n e)
  rw[axb,axa] at aEv
  have gP:stepG E.P false (G (aK b (A n e D) (.inRegion ops (i::todo)::k)) cs) w'=stepG.apply E.P true (aK b (A n e D) (.inRegion ops (i::todo)::k)) cs none (execOp (A n e D).eval a) w':=by
   simp only[G,stepG,stepG.exec,aK,ho,Option.map_some,Option.getD_some,hw,if_true,stepG.oper,Frame.oper?,he]
   rw[hr]
  rw[gP,eI,aEv]
  simp only[stepG.apply,if_true,Sem.runT,aK,ky,Bool.false_eq_true,if_false]
  simp[seen_none,GStep.after,G,scase]
 have pW:Conc.served (G (aK b (A n e D) (.inRegion ops (i::todo)::k)) cs) undef=G (aK b (A n (upd a.dst undef e) D) (.inRegion ops todo::k)) cs:=by
  have:=fQ b (A n e D) ops i todo k undef
  rw[ho] at this
  simp only[Option.bind_some] at this
  rw[ba] at this
  simp only[Conc.served,G] at this ⊢
  rw[this]
 rw[pW]
 exact h _ _ _ (by simp only[DY,stO]) bZ
theorem att{dn:Nat}{bs:List Nat}(hf:E.P.funcs[b.fn]?=some fn) (BM:fn.results= #[]) (As:CC E.P dn=true) (EO:x5 E.P E.ty E.max (Frame.enter E.P dn #[.pointer (some ⟨E.Wg,0,none⟩)] .deferred)=some bs) (hbs:∀b∈bs,b=E.Wg) (ps:List Nat) (hk:b.kind= .deferred) (hr:b.roundOf=none)
 (hd:eg ps o=some [(bd,.deferred (some []))]:=by kernel_rfl):TT (eY E.P false E.JD) b [] [cZ E.P] n [eF bd,{target:= .fn (.func dn) ⟨[]⟩,args:=⟨[.pointer (some ⟨E.Wg,0,none⟩)]⟩}] ro o:=by
 rintro e w kn rfl bZ
 have hT2:=ez E.P false E.JD
 refine hT2.go rfl rfl (g':=G {aK b (A n e [eF bd,{target:= .fn (.func dn) ⟨[]⟩,args:=⟨[.pointer (some ⟨E.Wg,0,none⟩)]⟩}]) [] with mode:= .returning} [cZ E.P]) (fun w=>by simp[G,stepG,stepG.exec,aK,hr]) ?_
 have hp:=bM hd
 obtain⟨Lw,Rr,hs⟩:=List.append_of_mem (hp.mem_iff.2 (List.mem_append_left _ (List.mem_singleton.2 rfl)))
 refine unwind_mark (C:=CA E.P) (fun _ _ h=>h) hT2 (.inl rfl) (fr:={aK b (A n e [eF bd,{target:= .fn (.func dn) ⟨[]⟩,args:=⟨[.pointer (some ⟨E.Wg,0,none⟩)]⟩}]) [] with mode:= .returning}) rfl hs<|j7 (C:=CA E.P) (fun _ _ h=>h) hT2 (.inl rfl) (lH As) (ds:=[]) rfl<|eY.stop ?_
 have hq:QuitsD E.P 2 0 (G {aK b (A n e []) [] with mode:= .returning} [cZ E.P]):=oB rfl rfl hk hf BM
 exact I9 (E:=E) (c:={aK b (A n e []) [] with mode:= .returning}) (.inl rfl) hq EO hbs
end
theorem aBH{S:Goroutine→St→Prop}{c:Code}(hf:P.funcs[f]?=some fn) (hb:fn.body=some c) (hn:fn.ntmps=n) (ff:CC P f=true) (hle:Nat.ble ca.length n=true)
 (h:TT (eY P false S) (fr0 f .deferred) ([c].map .code++[]) [cZ P] n [] ro (some ⟨.fin .normal,fU 0 ca,[],⟨[],[]⟩⟩)):eY P false S (born P {target:= .fn (.func f) ⟨ca⟩,args:= #[]}) ⟨ro,[]⟩:=by
 have hT:=ez P false S
 refine j7 (C:=CA P) (fun _ _ h=>h) hT (fr:={(default:Frame) with fn:=P.funcs.size,defers:=[{target:= .fn (.func f) ⟨ca⟩,args:= #[]}],mode:= .panicking [goexitEntry]}) (.inr ⟨_,rfl⟩) (lH ff) rfl ?_
 show eY P false S (G (Frame.enter P f (#[]++⟨ca⟩) .deferred) [cZ P]) ⟨ro,[]⟩
 have iG:Frame.enter P f (#[]++⟨ca⟩) .deferred=aK (fr0 f .deferred) (A n (fU 0 ca) []) [.code c]:=by
  rw[←lv ca n (Nat.le_of_ble_eq_true hle)]
  simp[Frame.enter,aK,hf,hb,hn,fr0]
 rw[iG]
 exact h _ _ _ rfl fun x hx=>(by cases hx)
theorem amn{E:eo ι}{x:Ng}(hx:x.OK E.P E.ty){bs:List Nat}(Sd:Ca E.P E.ty E.max (Frame.enter E.P x.wait #[.pointer (some ⟨E.Wg,0,none⟩)] .normal)=some bs)(hbs:∀b∈bs,b=E.Wg)
 {a:Oper}(hq:ro q=some (.cells ⟨[.chan (some E.Ch)]⟩ t fz))(ho0:x.q1[0]?=some a) (hg0:a.guard=none) (aQk:a.op= .load U y) (ht:(bh E.P U).map (·.agg)=some false)
 (hy:evO x.n y (some ⟨.fin .normal,fu x.o0.dst (.tuple #[]) (fU 0 [.pointer (some ⟨E.Wg,0,none⟩),.pointer (some ⟨q,0,none⟩)]),[],⟨[],[]⟩⟩)=some (.pointer (some ⟨q,0,none⟩)))
 (hc:evO x.n x.cx (stO a.dst (.chan (some E.Ch)) (some ⟨.fin .normal,fu x.o0.dst (.tuple #[]) (fU 0 [.pointer (some ⟨E.Wg,0,none⟩),.pointer (some ⟨q,0,none⟩)]),[],⟨[],[]⟩⟩))=some (.chan (some E.Ch))):
 E.closes ⟨ro,[]⟩ (born E.P {target:= .fn (.func x.f) ⟨[.pointer (some ⟨E.Wg,0,none⟩),.pointer (some ⟨q,0,none⟩)]⟩,args:= #[]}):=by
 obtain⟨fn,hf,BM,T7⟩:=hx.fn
 obtain⟨hbf,sB,rk⟩:=hx.bf
 have hk:x.b.kind≠ .early:=by rw[sB];simp
 have Sm:∀g g',g.status= .running→g'.status= .running→(∀w,stepG E.P false g w= .go g' w #[])→E.closes ⟨ro,[]⟩ g'→E.closes ⟨ro,[]⟩ g:=
  fun g g' hg _ bX ⟨q,hq⟩=>⟨q+1,hg,g',fun w _=>bX w,hq⟩
 refine Sm _ _ rfl rfl (Ji (lH hx.ff) _) ?_
 have Is:(#[]++(⟨[.pointer (some ⟨E.Wg,0,none⟩),.pointer (some ⟨q,0,none⟩)]⟩:Array Value))= #[.pointer (some ⟨E.Wg,0,none⟩),.pointer (some ⟨q,0,none⟩)]:=by simp
 rw[Is]
 refine Wu (iN:=[]) (cs:=[cZ E.P]) Sm (hx.enter _ _)<|I7 (E:=E) ?_ Sd hbs
 have hT:=ez E.P false E.KP
 show eY E.P false E.KP (G ((aK x.b (A x.n (fU 0 [.pointer (some ⟨E.Wg,0,none⟩),.pointer (some ⟨q,0,none⟩)]) []) (.inRegion x.q0 (0::[])::[.code x.rest])).finish (.tuple #[])) [cZ E.P]) ⟨ro,[]⟩
 rw[fQ,hx.op0,ba]
 simp only[Option.bind_some]
 rw[kL]
 refine iH hT ?_
 obtain⟨id,aho⟩:=hx.rest
 refine dV (l:=[x.rest]) (k:=[]) hT aho fun l2 pF=>?_
 have:=gE pF
 subst this
 rw[hx.size]
 have key:TT (eY E.P false E.KP) x.b (.inRegion x.q1 (0::[1])::[]) [cZ E.P] x.n [] ro (some ⟨.fin .normal,fu x.o0.dst (.tuple #[]) (fU 0 [.pointer (some ⟨E.Wg,0,none⟩),.pointer (some ⟨q,0,none⟩)]),[],⟨[],[]⟩⟩):=by
  refine tLd hT (.chan (some E.Ch)) ho0 hg0 aQk ht hk rk (q:=q) (t:=t) (fz:=fz) (fun _ _ _ _=> .inl hq) ?_ hy
  intro e w kn he bZ
  refine eY.stop ?_
  have hx2:ev x.n e x.cx= .chan (some E.Ch):=by
   rw[he] at hc
   exact aG hc
  obtain⟨ho,hg,ats,az⟩:=hx.op
  have hq:(E.P.funcs[x.b.fn]?).any (·.norace)=false:=by rw[hbf,hf];simpa using T7
  refine⟨rfl,?_,G (x.b.at (Act.put (A x.n e []) x.oc.dst (.tuple #[])) (.inRegion x.q1 []::[])) [cZ E.P],fun w s r tm hc=>?_,4,?_⟩
  ·simp[mayWake,G,aK,ho,az]
  ·rw[DV rk]
   have:=stepG_close (P:=E.P) (main:=false) (b:=x.b) (a:=A x.n e []) (kk:=[]) (cs:=[cZ E.P]) (rest:=[]) ho (dI x.oc _ hg) hk az (by rw[eI];exact hx2) hc hq
   exact this
  rw[←DV rk]
  refine .ctl (g':=G (aK x.b (Act.put (A x.n e []) x.oc.dst (.tuple #[])) []) [cZ E.P]) rfl (fun w=>by simp[G,stepG,stepG.exec,aK])<|.ctl (g':=G {aK x.b (Act.put (A x.n e []) x.oc.dst (.tuple #[])) [] with mode:= .returning} [cZ E.P]) rfl (fun w=>by simp[G,stepG,stepG.exec,aK,rk])<|oB rfl ?_ sB (by show E.P.funcs[x.b.fn]?=_;rw[hbf];exact hf) BM
  show (Act.put (A x.n e []) x.oc.dst (.tuple #[])).defers=[]
  rw[ba];rfl
 exact key _ _ _ rfl fun x hx=>(by cases hx)
theorem jpF{V:Value}(lp:List Nat)(B:Cells)(Ii:CC X.P f=true)(hf:∀aF,Sub X.ro aF→Knows aF B→dv X.P f vs aF V)(hj:J X (NS B V o))(h1:dR X.n (akA X.n) o=some (f,vs):=by kernel_rfl)(h3:eg lp o=some B:=by kernel_rfl):J X o:=by
 refine jGN h1 h3 (fun s p e ho hh hc=>?_) hj
 have hcb:y9 X.P X.n p e=some (f,vs):=by unfold y9;rw[hc];simp only[Ii,cond_true]
 obtain⟨ff,x,xs,at_,fi,ca,ws,az,hx,su,rfl⟩:=qX hcb
 rcases p with ⟨dst,op,ty,pos,dk,g⟩
 dsimp only at az;subst az
 refine⟨rfl,fun s0 HW uB ops i tz rest hw s' hs todo Q hk=>?_⟩
 have hez:Ext ⟨X.ro,B⟩ s':=fun b ob hb=>hs _ _ (hb.elim (fun h=>HW _ _ (.inl h)) fun h=>uB (b,ob) h)
 exact Rz X.hC tz hw (bp hx) ff (xW su) (TG fi ws ca) hez (fun aF h1=>hf aF (GY h1) fun y hy=>h1 _ _ (.inr hy)) hk
def bgI(body:Code)(i:Nat):Option JS→Option (JS×Nat)
 |some ⟨.fin .normal,e,w,kn⟩=>match zw w i with
  |some (.b b (.loop r))=>match r.state with
   | .ready=>some (⟨.code body [],e,UR w i (.b b (.loop {r with state:= .busy})),kn⟩,b)
   |_=>none
  |_=>none
 |_=>none
theorem jbI(i:Nat)(h:J (X.re bl ro Φ) (FN (bgI body i o)))(h1:UP (bgI body i o)=some bl:=by kernel_rfl):J (X.rd bl ro Φ body) o:=by
 unfold bgI at h h1
 split at h<;>try (simp only[FN] at h;exact h.elim)
 rename_i e w kn
 split at h<;>try (simp only[FN] at h;exact h.elim)
 rename_i b r hn
 split at h<;>try (simp only[FN] at h;exact h.elim)
 rename_i bX
 simp only[hn,bX,UP,Option.some.injEq] at h1
 subst h1
 simp only[FN] at h
 intro bZ
 have hw:=h bZ
 obtain⟨L,R,h2,h3⟩:=Bq hn
 simp only[JP,Cx.rd,Jn,Ef]
 refine⟨L,r,R,h2,bX,?_⟩
 simp only[JP,h3] at hw
 exact hw
theorem tGe{b:Frame}{D:List Deferred}(h:TT T b AS cs n D ro (geO o)):TT T b AS cs n D ro o:=by
 rintro e w kn rfl bZ
 have:=h e (.l []::w) kn (by simp only[geO]) bZ
 rw[gG] at this
 exact this
def aeN:Option JS→Option JS
 |some ⟨.fin .normal,e,w,kn⟩=>some ⟨.fin .ret,e,w,kn⟩
 |_=>none
theorem atr{c:Code}{L:Cells}(hf:P.funcs[f]?=some fn) (hb:fn.body=some c) (hn:fn.ntmps=n) (hle:Nat.ble args.length n=true)
 (h:TT T (fr0 f .normal) ([c].map .code++[]) cs n [] ro (some ⟨.fin .normal,fU 0 args,[.l L],⟨[],[]⟩⟩)):T (G (Frame.enter P f ⟨args⟩ .normal) cs) ⟨ro,L⟩:=by
 have iG:Frame.enter P f ⟨args⟩ .normal=aK (fr0 f .normal) (A n (fU 0 args) []) [.code c]:=by
  rw[←lv args n (Nat.le_of_ble_eq_true hle)]
  simp[Frame.enter,aK,hf,hb,hn,fr0]
 rw[iG]
 exact h _ _ _ rfl fun x hx=>(by cases hx)
theorem aMc(hm:P.follows .mixedOrders=true)(hT:Closed P main T){cl:Frame}{Pd:List Frame}(v:Value)(hs ps:List Nat)(Y:Cells)(hf:P.funcs[f]?=some fn)
 (hk:T (G (cl.finish v) Pd) ⟨ro,Y⟩) (h1:rn (iO P n f hs (aeN o))=some v:=by kernel_rfl) (h2:P2 (iO P n f hs (aeN o))=P1 (iO P n f hs (aeN o)):=by kernel_rfl) (h3:eg ps o=some Y:=by kernel_rfl):TT T (fr0 f .normal) (.code .ret::AS) (cl::Pd) n [] ro o:=by
 rintro e w kn rfl bZ
 simp only[aeN] at h1 h2
 simp only[iO] at h1 h2
 cases hr:CY P n e w kn.c hs (qT P f).results.toList with
 |none=>simp only[hr,rn] at h1;cases h1
 |some x=>
  rcases x with ⟨vs,q⟩
  simp only[hr,rn,Option.some.injEq,P2,P1] at h1 h2
  have sA:=tW (X:=⟨P,fun m T'=>m=main∧T'=T,by rintro _ _ ⟨rfl,rfl⟩;exact hT,hm,f,none,n,[],ro,fun _ _ _=>True⟩) bZ hr (mI h2)
  have hp:=bM h3
  have u3:qT P f=fn:=by simp only[qT,hf]
  have Gp:=QW (s0:=⟨ro,Y⟩) (R:=fun en s'=>∃v,en= .returned v∧T (G (cl.finish v) Pd) s') (.inl rfl) sA h1 (ee hp (Sub.refl _)) ⟨v,rfl,hk⟩
  rw[u3] at Gp
  refine hT.go rfl rfl (g':=G {aK (fr0 f .normal) (A n e []) (.code .ret::AS) with mode:= .returning} (cl::Pd)) (fun w=>by simp[G,stepG,stepG.exec,aK,fr0])<|sY (C:=CA P) (fun _ _ h=>h) (T:=T) hT hf (fr:={aK (fr0 f .normal) (A n e []) (.code .ret::AS) with mode:= .returning}) rfl rfl rfl rfl (R:=fun en s'=>∃v,en= .returned v∧T (G (cl.finish v) Pd) s') Gp.2 (fun v s' hv=>?_)
  obtain⟨v',hv',ht⟩:=hv
  cases hv'
  exact ht
attribute [irreducible] YG bkO bgI UX aeN
def CH(P:Program)(f:FuncId)(args:List Value)(ro:Nat→Option Obj)(own:Cells)(Φ:Value→Cells→Prop):Prop:=
 ∀fr,Fn (C0 P) P f ⟨args⟩ ⟨ro,own++fr⟩ (fun en s'=>∃v Y,en= .returned v∧(⟨ro,Y++fr⟩:St).le s'∧Φ v Y)
theorem CH.mono{own:Cells}{Φ':Value→Cells→Prop}(h:CH P f args ro own Φ)(hk:∀v X,Φ v X→Φ' v X):CH P f args ro own Φ':=
 fun fr=>Fn.mono (h fr) fun _ _ ⟨v,X,h1,h2,h3⟩=>⟨v,X,h1,h2,hk v X h3⟩
abbrev RC(ro:Nat→Option Obj)(fr:Cells)(Φ:Value→Cells→Prop):Ending→St→Prop:=fun en s'=>∃v Y,en= .returned v∧(⟨ro,Y++fr⟩:St).le s'∧Φ v Y
def XC(P:Program)(hm:P.follows .mixedOrders=true)(f:FuncId)(ro:Nat→Option Obj)(R:Ending→St→Prop):Cx:=⟨P,C0 P,x6,hm,f,none,(qT P f).ntmps,[],ro,rP P (qT P f) R⟩
theorem qC{hm:P.follows .mixedOrders=true}:QR (XC P hm f ro R) R:=⟨rfl,rfl⟩
theorem MQ(hC:∀main T,C main T→Closed P main T){c:Code}(hf:P.funcs[f]?=some fn) (hb:fn.body=some c) (hl:Nat.ble args.length fn.ntmps=true) (h:Wp C f none c (rP P fn R) (A fn.ntmps (fU 0 args) []) s):Fn C P f ⟨args⟩ s R:=by
 refine S6 hC hf hb ?_
 have he:=lv args fn.ntmps (Nat.le_of_ble_eq_true hl)
 rw[←he] at h
 exact h
theorem Ad(hm:P.follows .mixedOrders=true){L:Cells}(own:List Sg)(kn:Cells)(hk:Knows ro kn)(h:∀fr,J (XC P hm f ro (RC ro fr Φ)) (j8 P f args (own++[.l fr]) kn))(hL:den own=L:=by rfl):CH P f args ro L Φ:=by
 subst hL
 intro fr
 have h:=h fr
 unfold j8 at h
 split at h<;>try exact h.elim
 rename_i fn hf
 split at h<;>try exact h.elim
 rename_i c hc
 cases hl:Nat.ble args.length fn.ntmps with
 |false=>rw[hl] at h;exact h.elim
 |true=>
  rw[hl] at h
  have u3:qT P f=fn:=by simp only[qT,hf]
  have:=h hk
  simp only[JP,XC,KQ,u3] at this
  have hd:den (own++[.l fr])=den own++fr:=by rw[ma];rfl
  rw[hd] at this
  exact MQ x6 hf hc hl this
section
variable {X:Cx} {o:Option JS}
theorem JF{own:Cells}(ps:List Nat)(hC:∀main T,X.C main T→C0 X.P main T)(hf:CH X.P f vs X.ro own Φ)(hj:∀v Y,Φ v Y→J X (nG ps v Y o))(h1:fq X.n (y9 X.P X.n) o=some (f,vs):=by kernel_rfl)(h2:eg ps o=some own:=by kernel_rfl):J X o:=by
 obtain⟨ops,i,todo,k,e,w,kn,p,rfl,ho,hw,hc⟩:=dJ h1
 obtain⟨ff,x,xs,at_,fi,ca,ws,az,hx,su,rfl⟩:=qX hc
 intro bZ
 rcases p with ⟨dst,op,ty,pos,dk,g⟩
 dsimp only at az;subst az
 have hp:=bM h2
 have u3:Fn X.C X.P f ⟨fi++ws++ca⟩ ⟨X.ro,den w⟩ (fun en s'=>∃v Y,en= .returned v∧(⟨X.ro,Y++den (dO ps 0 w)⟩:St).le s'∧Φ v Y):=fun main T hT c cs k1 k2=>
  (X.hC main T hT).mono _ ⟨X.ro,own++den (dO ps 0 w)⟩ _ (ee (J:=[]) (by rw[List.append_nil];exact hp) (Sub.refl _)) (Fn.weaken hC (hf _) main T hT c cs k1 k2)
 refine uk (fi:=⟨fi⟩) (ca:=⟨ca⟩) (ws:=fi++ws++ca) X.hC ho hw hx ff su (TG fi ws ca) u3 (fun v' s' hr=>?_) (fun ch s' hr=>by obtain⟨_,_,e,_⟩:=hr;cases e) (fun s' hr=>by obtain⟨_,_,e,_⟩:=hr;cases e)
 obtain⟨v,Y,hv,hle,qB⟩:=hr
 cases hv
 have:=hj _ Y qB
 rw[oE ho] at this
 have:=this bZ
 simp only[JP,gG] at this
 exact this.more X.hC hle
theorem Fx(hq:QR X (RC oA fr Φ))(v:Value)(ps:List Nat)(Y:Cells)(fJ:Sub oA X.ro)(hR:Φ v Y)(h1:rn (iO X.P X.n X.fn [] o)=some v:=by kernel_rfl)(h2:P2 (iO X.P X.n X.fn [] o)=P1 (iO X.P X.n X.fn [] o):=by kernel_rfl)(h3:eg ps o=some (Y++fr):=by kernel_rfl)(h4:Az o=true:=by kernel_rfl):J X o:=
 aI hq v [] ps (Y++fr) fJ ⟨v,Y,rfl,St.le_refl _,hR⟩ h1 h2 h3 h4
end
noncomputable def G7(P:Program)(g:FuncId):Func:=match J9 P g with
 |some (gn,_,_)=>gn
 |none=>default
noncomputable def J8(P:Program)(g:FuncId):Tmp:=match J9 P g with
 |some (_,t,_)=>t
 |none=>0
noncomputable def recC(P:Program)(g:FuncId):Code:=match J9 P g with
 |some (_,_,c)=>c
 |none=> .skip
def at2(P:Program)(g:FuncId):Bool:=(J9 P g).isSome
theorem amE(h:at2 P g=true):J9 P g=some (G7 P g,J8 P g,recC P g):=by
 unfold at2 at h
 unfold G7 J8 recC
 cases hr:J9 P g with
 |none=>rw[hr] at h;cases h
 |some x=>rcases x with ⟨a,b,c⟩;rfl
noncomputable def XD(P:Program)(hm:P.follows .mixedOrders=true)(f:FuncId)(ro:Nat→Option Obj)(R:Ending→St→Prop)(g:FuncId):Cx:=⟨P,CP P,fe,hm,f,none,(qT P f).ntmps,[],ro,WL (CP P) P (qT P f) g (G7 P g) (J8 P g) (recC P g) R⟩
theorem aOL(hm:P.follows .mixedOrders=true){L:Cells}(g:FuncId)(own:List Sg)(kn:Cells)(hk:Knows ro kn)(h:J (XD P hm f ro (RX ro Φ) g) (j8 P f args own kn))(hL:den own=L:=by rfl)(ahp:at2 P g=true:=by kernel_rfl):dQ P f args ro L Φ:=by
 subst hL
 unfold j8 at h
 split at h<;>try exact h.elim
 rename_i fn hf
 split at h<;>try exact h.elim
 rename_i c hc
 cases hl:Nat.ble args.length fn.ntmps with
 |false=>rw[hl] at h;exact h.elim
 |true=>
  rw[hl] at h
  have u3:qT P f=fn:=by simp only[qT,hf]
  have:=h hk
  simp only[JP,XD,KQ,u3] at this
  exact IG fe hf hc rfl hl (amE ahp) this
def dfV(n:Nat)(p:Oper)(e:Env):Option (FuncId×List Value):=match p.op with
 | .defer ⟨.value x,⟨[]⟩,⟨[]⟩⟩=>match bA n e x with
  |some (.func (.func f) ⟨[]⟩ ⟨ca⟩)=>some (f,ca)
  |_=>none
 |_=>none
theorem ayz(h:dfV n p e=some (f,ca)):∃x,p.op= .defer ⟨.value x,#[],#[]⟩∧bA n e x=some (.func (.func f) ⟨[]⟩ ⟨ca⟩):=by
 unfold dfV at h
 split at h<;>try (cases h;done)
 rename_i x az
 split at h<;>try (cases h;done)
 rename_i hx
 cases h
 exact⟨x,az,hx⟩
def skO:Option JS→Option JS
 |some ⟨.ops ops (i::todo) k,e,w,kn⟩=>match ops[i]? with
  |some p=>some ⟨.ops ops todo k,upd p.dst undef e,w,kn⟩
  |none=>none
 |_=>none
def R9(t:Tmp)(rest:Code)(ca:List Value):Option JS→Option JS
 |some ⟨.fin _,_,w,kn⟩=>some ⟨.code rest [],upd (some t) .nilIface (fU 0 ca),w,⟨kn.c,[]⟩⟩
 |_=>none
def rwS:Option JS→Option (List Sg)
 |some s=>some s.rw
 |none=>none
section
variable {X:Cx} {o:Option JS}
theorem jdf(hj:J (X.wd ({target:= .fn (.func f) ⟨ca⟩,args:= #[]}::X.D)) (skO o))(h1:fq X.n (dfV X.n) o=some (f,ca):=by kernel_rfl)(hr:X.aA=none:=by rfl):J X o:=by
 obtain⟨ops,i,todo,k,e,w,kn,p,rfl,ho,hw,hc⟩:=dJ h1
 obtain⟨x,az,hx⟩:=ayz hc
 intro bZ
 rcases p with ⟨dst,op,ty,pos,dk,g⟩
 dsimp only at az;subst az
 simp only[skO,ho] at hj
 have:=hj bZ
 simp only[JP,TU] at this
 show ae X.C X.fn X.aA ops (i::todo) (KQ X k) (A X.n e X.D) ⟨X.ro,den w⟩
 rw[hr]
 have h2:(X.wd ({target:= .fn (.func f) ⟨ca⟩,args:= #[]}::X.D)).aA=none:=hr
 rw[h2] at this
 exact am5 X.hC ho hw hx this
structure QD(X:Cx)(g:FuncId)(R:Ending→St→Prop)(ca:List Value):Prop where
 q:X.Q=WL X.C X.P (qT X.P X.fn) g (G7 X.P g) (J8 X.P g) (recC X.P g) R
 d:X.D=[{target:= .fn (.func g) ⟨ca⟩,args:= #[]}]
theorem jrD(hq:QD X g R ca)(v:Value)(hs ps:List Nat)(Y:Cells)(k:Nat)(fJ:Sub oA X.ro)(hR:R (.returned v) ⟨oA,Y⟩)(hl:Nat.ble ca.length (G7 X.P g).ntmps=true:=by kernel_rfl)
 (h1:rn (iO X.P X.n X.fn hs o)=some v:=by kernel_rfl)(h2:P2 (iO X.P X.n X.fn hs o)=P1 (iO X.P X.n X.fn hs o):=by kernel_rfl)(h3:eg ps o=some Y:=by kernel_rfl)(h4:Az o=true:=by kernel_rfl)
 (h5:Az (res (adv X.P (G7 X.P g).ntmps k [] (R9 (J8 X.P g) (recC X.P g) ca o)))=true:=by kernel_rfl)(h6:rwS (res (adv X.P (G7 X.P g).ntmps k [] (R9 (J8 X.P g) (recC X.P g) ca o)))=rwS o:=by kernel_rfl)
 (h7:lhs (adv X.P (G7 X.P g).ntmps k [] (R9 (J8 X.P g) (recC X.P g) ca o))=rhs (adv X.P (G7 X.P g).ntmps k [] (R9 (J8 X.P g) (recC X.P g) ca o)):=by kernel_rfl):J X o:=by
 obtain⟨ex,e,w,kn,rfl,hex⟩:=tE h4
 simp only[iO] at h1 h2
 cases hr:CY X.P X.n e w kn.c hs (qT X.P X.fn).results.toList with
 |none=>simp only[hr,rn] at h1;cases h1
 |some x=>
  rcases x with ⟨vs,q⟩
  simp only[hr,rn,Option.some.injEq,P2,P1] at h1 h2
  intro bZ
  have sA:=tW bZ hr (mI h2)
  have hp:=bM h3
  have Gp:=QW (s0:=⟨oA,Y⟩) (R:=R) hex sA h1 (ee hp fJ) hR
  have ht:bR X.P (results (qT X.P X.fn) (A X.n e X.D).tmps) ⟨X.ro,den w⟩ (fun v s'=>∃s0,s0.le s'∧R (.returned v) s0) (fun _ _=>False):=by
   rcases hex with rfl|rfl<;>exact Gp.2
  show X.Q ex (A X.n e X.D) ⟨X.ro,den w⟩
  rw[hq.q]
  refine⟨hex.symm,ca,hl,hq.d,?_⟩
  let X2:Cx:=⟨X.P,X.C,X.hC,X.hm,g,none,(G7 X.P g).ntmps,[],X.ro,fun e2 a2 s2=>(e2= .normal∨e2= .ret)∧a2.defers=[]∧bR X.P (results (qT X.P X.fn) (A X.n e X.D).tmps) s2 (fun v s3=>∃s0,s0.le s3∧R (.returned v) s0) (fun _ _=>False)⟩
  have hj:J X2 (R9 (J8 X.P g) (recC X.P g) ca (some ⟨.fin ex,e,w,kn⟩)):=by
   refine jd k [] ?_ h7
   have h5':=h5
   have h6':=h6
   obtain⟨ex2,e2,w2,kn2,ux,aRi⟩:=tE h5'
   show J X2 (res (adv X.P (G7 X.P g).ntmps k [] (R9 (J8 X.P g) (recC X.P g) ca (some ⟨.fin ex,e,w,kn⟩))))
   rw[ux] at h6' ⊢
   simp only[rwS,Option.some.injEq] at h6'
   subst h6'
   exact fun _=>⟨aRi.symm,rfl,ht⟩
  simp only[R9] at hj
  exact hj bZ
end
attribute [irreducible] skO R9 rwS dfV
end Go.L
