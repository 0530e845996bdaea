/- Part 5 of the proof. -/
import Derived.Test.YthegconjacjohaaGreatDoorK4
set_option maxRecDepth 100000
set_option linter.all false
namespace Go.L
open Go Go.Conc
variable {ro pE aD:Nat→Option Obj} {P:Program} {Φ:Value→Cells→Prop} {f g:FuncId} {R:Ending→St→Prop} {todo uC:List Nat} {El:(Nat→Option Obj)→Nat→List Value→Cells→Prop} {κ α ι:Type} {T:Goroutine→St→Prop} {vs ca args l z fi:List Value} {n sz i bE bl bd off r id dep N q:Nat} {b:ByteArray} {o o1:Option JS} {k Ag:List Item} {e rest:Env} {p:Oper} {s s':St} {ats:Array TypeId} {tm:Array Value} {cs:List Frame} {fn:Func} {X:Cx} {C:Class} {main ag:Bool} {fz:Nat×Nat} {E t U:TypeId} {as body:Code} {x y:Operand} {hi:Int} {lo:Option Int} {fr:Cells}
section
variable {X:Cx} {o:Option JS}
def OD(n:Nat)(p:Oper)(e:Env):Option (BinOp×TypeId×Value×Value):=match p.op with
 | .binOp op T x y _=>match bp n e x with
  |some v=>match bp n e y with
   |some w=>some (op,T,v,w)
   |none=>none
  |none=>none
 |_=>none
theorem uB{op:BinOp}{T:TypeId}{v w:Value}(h:OD n p e=some (op,T,v,w)):∃x y T',p.op= .binOp op T x y T'∧bp n e x=some v∧bp n e y=some w:=by
 unfold OD at h
 split at h<;>try (cases h;done)
 rename_i az
 split at h<;>try (cases h;done)
 rename_i hx
 split at h<;>try (cases h;done)
 rename_i hy
 cases h
 exact⟨_,_,_,az,hx,hy⟩
theorem jsa{a:ByteArray}(T:TypeId)(hb:(a.size:Int)+b.size≤9223372036854775807)(hj:J X (jR (.string (a++b)) o))(hv:dC X.n (OD X.n) o=some (.add,T,.string a,.string b):=by kernel_rfl):J X o:=by
 refine Ru hv (fun s p e _ hf=>?_) hj
 obtain⟨x,y,T',az,hx,hy⟩:=uB hf
 rcases p with ⟨dst,op,ty,pos,cY,g⟩
 dsimp only at az;subst az
 exact fun s0 ops i sr rest hw s' hs todo Q hk=>au0 X.hC sr hw (aZ hx) (aZ hy) hb hk
theorem jrm{k:IntKind}{a b:Int}(T:TypeId)(hb:b≠0)(hj:J X (jR (.int k (a.tmod b)) o))(hv:dC X.n (OD X.n) o=some (.rem,T,.int k a,.int k b):=by kernel_rfl):J X o:=by
 refine Ru hv (fun s p e _ hf=>?_) hj
 obtain⟨x,y,T',az,hx,hy⟩:=uB hf
 rcases p with ⟨dst,op,ty,pos,cY,g⟩
 dsimp only at az;subst az
 exact fun s0 ops i sr rest hw s' hs todo Q hk=>aDO X.hC sr hw (aZ hx) (aZ hy) hb hk
theorem jsr{k k':IntKind}{a b:Int}(T:TypeId)(hb:0≤b)(hj:J X (jR (.int k (aT k a b)) o))(hv:dC X.n (OD X.n) o=some (.shr,T,.int k a,.int k' b):=by kernel_rfl):J X o:=by
 refine Ru hv (fun s p e _ hf=>?_) hj
 obtain⟨x,y,T',az,hx,hy⟩:=uB hf
 rcases p with ⟨dst,op,ty,pos,cY,g⟩
 dsimp only at az;subst az
 exact fun s0 ops i sr rest hw s' hs todo Q hk=>aDM X.hC sr hw (aZ hx) (aZ hy) hb hk
theorem jsh{k k':IntKind}{a b:Int}(T:TypeId)(hb:0≤b)(hj:J X (jR (.int k (dz k a b)) o))(hv:dC X.n (OD X.n) o=some (.shl,T,.int k a,.int k' b):=by kernel_rfl):J X o:=by
 refine Ru hv (fun s p e _ hf=>?_) hj
 obtain⟨x,y,T',az,hx,hy⟩:=uB hf
 rcases p with ⟨dst,op,ty,pos,cY,g⟩
 dsimp only at az;subst az
 exact fun s0 ops i sr rest hw s' hs todo Q hk=>aDN X.hC sr hw (aZ hx) (aZ hy) hb hk
theorem jeq{T:TypeId}{m:List Value}{r:Bool}(hg:oe X.P T)(he:EqV X.P T (.agg ⟨l⟩) (.agg ⟨m⟩) r)(hj:J X (jR (.bool r) o))(hv:dC X.n (OD X.n) o=some (.eql,T,.agg ⟨l⟩,.agg ⟨m⟩):=by kernel_rfl):J X o:=by
 refine Ru hv (fun s p e _ hf=>?_) hj
 obtain⟨x,y,T',az,hx,hy⟩:=uB hf
 rcases p with ⟨dst,op,ty,pos,cY,g⟩
 dsimp only at az;subst az
 exact fun s0 ops i sr rest hw s' hs todo Q hk=>anm X.hC sr hw (aZ hx) (aZ hy) hg he hk
theorem jne{T:TypeId}{m:List Value}{r:Bool}(hg:oe X.P T)(he:EqV X.P T (.agg ⟨l⟩) (.agg ⟨m⟩) r)(hj:J X (jR (.bool !r) o))(hv:dC X.n (OD X.n) o=some (.neq,T,.agg ⟨l⟩,.agg ⟨m⟩):=by kernel_rfl):J X o:=by
 refine Ru hv (fun s p e _ hf=>?_) hj
 obtain⟨x,y,T',az,hx,hy⟩:=uB hf
 rcases p with ⟨dst,op,ty,pos,cY,g⟩
 dsimp only at az;subst az
 exact fun s0 ops i sr rest hw s' hs todo Q hk=>afR X.hC sr hw (aZ hx) (aZ hy) hg he hk
def Hi(P:Program)(T:TypeId):Bool:=match ba P T with
 |some ⟨.slice _,_,_,_⟩=>true
 |_=>false
theorem Hh{T:TypeId}(h:Hi P T=true):∃E sz bE z ag,TF P T (.slice E) sz bE z ag:=by
 unfold Hi at h
 split at h<;>try (cases h;done)
 rename_i dM
 obtain⟨bE,tf⟩:=av dM
 exact⟨_,_,_,_,_,tf⟩
theorem jsn{a:Option Addr}{l c:Nat}(T:TypeId)(hj:J X (jR (.bool a.isNone) o))(hv:dC X.n (OD X.n) o=some (.eql,T,.slice a l c,.slice none 0 0):=by kernel_rfl)(hT:Hi X.P T=true:=by kernel_rfl):J X o:=by
 refine Ru hv (fun s p e _ hf=>?_) hj
 obtain⟨x,y,T',az,hx,hy⟩:=uB hf
 obtain⟨E,sz,bE,z,ag,tf⟩:=Hh hT
 rcases p with ⟨dst,op,ty,pos,cY,g⟩
 dsimp only at az;subst az
 exact fun s0 ops i sr rest hw s' hs todo Q hk=>anh X.hC sr hw tf (aZ hx) (aZ hy) hk
def EC(n:Nat)(e:Env):Option Operand→Option (Option Int)
 |none=>some none
 |some x=>match bp n e x with
  |some (.int _ a)=>some (some a)
  |_=>none
def aeA(P:Program)(n:Nat)(p:Oper)(e:Env):Option (ByteArray×Option Int×Option Int):=match p.op with
 | .slice T x y z none=>match ba P T with
  |some ⟨.string,_,_,_⟩=>match bp n e x with
   |some (.string b)=>match EC n e y with
    |some lo=>match EC n e z with
     |some hi=>some (b,lo,hi)
     |none=>none
    |none=>none
   |_=>none
  |_=>none
 |_=>none
def aeI(P:Program)(n:Nat)(p:Oper)(e:Env):Option (Value×Option Int×Option Int×Nat):=match p.op with
 | .slice T x y z none=>match ba P T with
  |some ⟨.slice E,_,_,_⟩=>match ba P E with
   |some te=>match bp n e x with
    |some v=>match EC n e y with
     |some lo=>match EC n e z with
      |some hi=>some (v,lo,hi,te.size)
      |none=>none
     |none=>none
    |none=>none
   |none=>none
  |_=>none
 |_=>none
theorem ma{x:Option Operand}{a:Int}(h:EC n e x=some (some a)):∃y k,x=some y∧bp n e y=some (.int k a):=by
 unfold EC at h
 split at h
 ·cases h
 split at h<;>try (cases h;done)
 rename_i hx
 cases h
 exact⟨_,_,rfl,hx⟩
theorem xw{x:Option Operand}(h:EC n e x=some none):x=none:=by
 unfold EC at h
 split at h
 ·rfl
 split at h<;>cases h
theorem MK{hi:Option Int}(h:aeA P n p e=some (b,lo,hi)):∃T x y z sz bE zz ag,p.op= .slice T x y z none∧TF P T .string sz bE zz ag∧bp n e x=some (.string b)∧EC n e y=some lo∧EC n e z=some hi:=by
 unfold aeA at h
 split at h<;>try (cases h;done)
 rename_i az
 split at h<;>try (cases h;done)
 rename_i dM
 obtain⟨bE,tf⟩:=av dM
 split at h<;>try (cases h;done)
 rename_i hx
 split at h<;>try (cases h;done)
 rename_i hy
 split at h<;>try (cases h;done)
 rename_i hz
 cases h
 exact⟨_,_,_,_,_,_,_,_,az,tf,hx,hy,hz⟩
theorem MN{v:Value}{hi:Option Int}{k:Nat}(h:aeI P n p e=some (v,lo,hi,k)):∃T x y z E sz bE zz ag d Ap z2 ag2,p.op= .slice T x y z none∧TF P T (.slice E) sz bE zz ag∧TF P E d k Ap z2 ag2∧bp n e x=some v∧EC n e y=some lo∧EC n e z=some hi:=by
 unfold aeI at h
 split at h<;>try (cases h;done)
 rename_i az
 split at h<;>try (cases h;done)
 rename_i dM
 obtain⟨bE,tf⟩:=av dM
 split at h<;>try (cases h;done)
 rename_i te uo
 obtain⟨Ap,p9⟩:=av uo
 split at h<;>try (cases h;done)
 rename_i hx
 split at h<;>try (cases h;done)
 rename_i hy
 split at h<;>try (cases h;done)
 rename_i hz
 cases h
 exact⟨_,_,_,_,_,_,_,_,_,_,_,_,_,az,tf,p9,hx,hy,hz⟩
theorem jtB{lo:Int}(hl:0≤lo∧lo≤hi∧hi≤b.size)(hj:J X (jR (.string (b.extract lo.toNat hi.toNat)) o))(hv:dC X.n (aeA X.P X.n) o=some (b,some lo,some hi):=by kernel_rfl):J X o:=by
 refine Ru hv (fun s p e _ hf=>?_) hj
 obtain⟨T,x,y,z,sz,bE,zz,ag,az,tf,hx,hy,hz⟩:=MK hf
 obtain⟨y,k,rfl,EJ⟩:=ma hy
 obtain⟨z,k',rfl,hz1⟩:=ma hz
 rcases p with ⟨dst,op,ty,pos,cY,g⟩
 dsimp only at az;subst az
 exact fun s0 ops i sr rest hw s' hs todo Q hk=>UU X.hC sr hw tf (aZ hx) (aZ EJ) (aZ hz1) hl hk
theorem jtH(hl:0≤hi∧hi≤b.size)(hj:J X (jR (.string (b.extract 0 hi.toNat)) o))(hv:dC X.n (aeA X.P X.n) o=some (b,none,some hi):=by kernel_rfl):J X o:=by
 refine Ru hv (fun s p e _ hf=>?_) hj
 obtain⟨T,x,y,z,sz,bE,zz,ag,az,tf,hx,hy,hz⟩:=MK hf
 have hy:=xw hy;subst hy
 obtain⟨z,k',rfl,hz1⟩:=ma hz
 rcases p with ⟨dst,op,ty,pos,cY,g⟩
 dsimp only at az;subst az
 exact fun s0 ops i sr rest hw s' hs todo Q hk=>QW X.hC sr hw tf (aZ hx) (aZ hz1) hl hk
theorem jtL{lo:Int}(hl:0≤lo∧lo≤b.size)(hj:J X (jR (.string (b.extract lo.toNat b.size)) o))(hv:dC X.n (aeA X.P X.n) o=some (b,some lo,none):=by kernel_rfl):J X o:=by
 refine Ru hv (fun s p e _ hf=>?_) hj
 obtain⟨T,x,y,z,sz,bE,zz,ag,az,tf,hx,hy,hz⟩:=MK hf
 have hz:=xw hz;subst hz
 obtain⟨y,k,rfl,EJ⟩:=ma hy
 rcases p with ⟨dst,op,ty,pos,cY,g⟩
 dsimp only at az;subst az
 exact fun s0 ops i sr rest hw s' hs todo Q hk=>QV X.hC sr hw tf (aZ hx) (aZ EJ) hl hk
theorem jcH{v:Value}{enc:α→List Value}{ps:List α}(hs:bB X.ro v sz enc ps)(hl:0≤hi∧hi≤ps.length)(hj:∀v',bB X.ro v' sz enc (ps.take hi.toNat)→J X (jR v' o))(hv:dC X.n (aeI X.P X.n) o=some (v,none,some hi,sz):=by kernel_rfl):J X o:=by
 obtain⟨a,b,off,cap,rfl,h2,h3,h4⟩:=id hs
 have hp:=bB.part hs (l:=0) (h:=hi.toNat) (by omega) (by omega)
 rw[List.drop_zero] at hp
 refine Ru hv (fun s p e _ hf=>?_) (hj _ hp)
 obtain⟨T,x,y,z,E,s1,bE,zz,ag,d,Ap,z2,ag2,az,tf,p9,hx,hy,hz⟩:=MN hf
 have hy:=xw hy;subst hy
 obtain⟨z,k',rfl,hz1⟩:=ma hz
 rcases p with ⟨dst,op,ty,pos,cY,g⟩
 dsimp only at az;subst az
 intro s0 ops i sr rest hw s' mT todo Q hk
 refine bR X.hC sr hw (by simp) ?_
 have hb:0≤hi∧hi≤(cap:Int):=by omega
 have fL:(0:Int)≤0∧(0:Int)≤(hi.toNat:Int):=by omega
 rw[←aX] at hk
 simp only[execOp,Option.map_some,Option.map_none,Instr.sliceAt,Instr.slice,aF (aZ (rest:=rest) hx),aF (aZ (rest:=rest) hz1),aa,a8 tf,Instr.sliceBounds,Instr.sliceBound,asIntOf,ae,hb,fL,and_self,if_true,cu p9]
 exact hk
theorem jcB{v:Value}{enc:α→List Value}{ps:List α}{lo:Int}(hs:bB X.ro v sz enc ps)(hl:0≤lo∧lo≤hi∧hi≤ps.length)(hj:∀v',bB X.ro v' sz enc ((ps.take hi.toNat).drop lo.toNat)→J X (jR v' o))(hv:dC X.n (aeI X.P X.n) o=some (v,some lo,some hi,sz):=by kernel_rfl):J X o:=by
 obtain⟨a,b,off,cap,rfl,h2,h3,h4⟩:=id hs
 have hp:=bB.part hs (l:=lo.toNat) (h:=hi.toNat) (by omega) (by omega)
 refine Ru hv (fun s p e _ hf=>?_) (hj _ hp)
 obtain⟨T,x,y,z,E,s1,bE,zz,ag,d,Ap,z2,ag2,az,tf,p9,hx,hy,hz⟩:=MN hf
 obtain⟨y,k,rfl,EJ⟩:=ma hy
 obtain⟨z,k',rfl,hz1⟩:=ma hz
 rcases p with ⟨dst,op,ty,pos,cY,g⟩
 dsimp only at az;subst az
 intro s0 ops i sr rest hw s' mT todo Q hk
 refine bR X.hC sr hw (by simp) ?_
 have hb:0≤hi∧hi≤(cap:Int):=by omega
 have fL:0≤lo∧lo≤(hi.toNat:Int):=by omega
 rw[←aX] at hk
 simp only[execOp,Option.map_some,Option.map_none,Instr.sliceAt,Instr.slice,aF (aZ (rest:=rest) hx),aF (aZ (rest:=rest) EJ),aF (aZ (rest:=rest) hz1),aa,a8 tf,Instr.sliceBounds,Instr.sliceBound,asIntOf,ae,hb,fL,and_self,if_true,cu p9]
 exact hk
def lnV(P:Program)(n:Nat)(p:Oper)(e:Env):Option Value:=match p.op with
 | .call ⟨.builtin .len,⟨[x]⟩,⟨[T]⟩⟩=>bif Hi P T then bp n e x else none
 |_=>none
theorem BQ{v:Value}{T2:TypeId}{enc:α→List Value}{ps:List α}{L:Cells}(kP:aw v sz T2 enc ps L)(hj:J X (jR (.int .i64 ps.length) o))(hv:dC X.n (lnV X.P X.n) o=some v:=by kernel_rfl):J X o:=by
 refine Ru hv (fun s p e _ hf=>?_) hj
 unfold lnV at hf
 split at hf<;>try (cases hf;done)
 rename_i x T az
 cases hT:Hi X.P T with
 |false=>rw[hT] at hf;cases hf
 |true=>
  rw[hT] at hf;simp only[cond_true] at hf
  obtain⟨E,s1,bE,z,ag,tf⟩:=Hh hT
  rcases p with ⟨dst,op,ty,pos,cY,g⟩
  dsimp only at az;subst az
  exact fun s0 ops i sr rest hw s' hs todo Q hk=>afS X.hC sr hw tf (aZ hf) kP hk
def abt(ps:List Nat)(v:Value)(L':Cells):Option JS→Option JS:=mZ ps v L'
theorem Ym{ops:Array Oper}{k:List KI}{w:List Sg}{kn:Kn}{ps:List Nat}{v:Value}{L':Cells}(ho:ops[i]?=some p):abt ps v L' (some ⟨.ops ops (i::todo) k,e,w,kn⟩)=some ⟨.ops ops todo k,upd p.dst v e,.l L'::dE ps 0 w,kn⟩:=by
 unfold abt
 simp only[od ho]
def amA(P:Program)(n:Nat)(p:Oper)(e:Env):Option (Addr×List Value×Nat):=match p.op with
 | .store T x y=>match ba P T with
  |some ti=>match bp n e x with
   |some (.pointer (some a))=>match bp n e y with
    |some v=>some (a,dR v,ti.size)
    |none=>none
   |_=>none
  |none=>none
 |_=>none
theorem XI{a:Addr}(h:amA P n p e=some (a,l,sz)):∃T x y d bE z ag v,p.op= .store T x y∧TF P T d sz bE z ag∧bp n e x=some (.pointer (some a))∧bp n e y=some v∧v.cells=⟨l⟩:=by
 unfold amA at h
 split at h<;>try (cases h;done)
 rename_i az
 split at h<;>try (cases h;done)
 rename_i ti dM
 obtain⟨bE,tf⟩:=av dM
 split at h<;>try (cases h;done)
 rename_i hx
 split at h<;>try (cases h;done)
 rename_i hy
 cases h
 exact⟨_,_,_,_,_,_,_,_,az,tf,hx,hy,by rw[mg]⟩
theorem Fp{v:Value}{enc:α→List Value}{ps:List α}{L:Cells}{b k:Nat}{a:α}(i f:Nat)(c:List Value)(e:α)(kP:aw v sz E enc ps L)(hb:OS v b)(hk:ps[k]?=some a) (he:enc e=dD (enc a) f c) (h1:c.all single=true) (hf:f+c.length≤sz) (hj:∀L',aw v sz E enc (ps.set k e) L'→J X (abt [i] undef L' o)) (hv:eT X.n (amA X.P X.n) o=some (⟨b,k*sz+f,none⟩,c,c.length):=by kernel_rfl) (h2:dN [i] o=some L:=by kernel_rfl):J X o:=by
 obtain⟨ops,i0,todo,kk,ev,w,kn,p,rfl,ho,hw,hc⟩:=dB hv
 obtain⟨T,x,y,d,bE,z,ag,u,az,tf,hx,hy,hu⟩:=XI hc
 intro bY
 rcases p with ⟨dst,op,ty,pos,cY,g⟩
 dsimp only at az;subst az
 refine we X.hC (bJ h2)<|aDI X.hC ho hw tf hx hy hu rfl (List.all_eq_true.1 h1) kP hb hk he hf fun L' hL'=>?_
 have:=hj L' hL'
 rw[Ym ho] at this
 have:=this bY
 simp only[JP,gq] at this
 exact this
def apV(P:Program)(n:Nat)(p:Oper)(e:Env):Option (Value×Value×TypeId×Nat):=match p.op with
 | .call ⟨.builtin .append,⟨[x,y]⟩,⟨[T,U]⟩⟩=>match ba P T with
  |some ⟨.slice E,_,_,_⟩=>bif Hi P U then (match ba P E with
   |some te=>match P.info? E with
    |some ie=>bif Nat.beq te.zero.length te.size&&Nat.ble ie.bytes 65536 then (match bp n e x with
     |some v=>match bp n e y with
      |some w=>some (v,w,E,te.size)
      |none=>none
     |none=>none) else none
    |none=>none
   |none=>none) else none
  |_=>none
 |_=>none
theorem azn{v w:Value}(h:apV P n p e=some (v,w,E,sz)):∃x y T U s1 b1 z1 a1 E2 s2 b2 z2 a2 d bE z ag,p.op= .call ⟨.builtin .append,#[x,y],#[T,U]⟩∧TF P T (.slice E) s1 b1 z1 a1∧TF P U (.slice E2) s2 b2 z2 a2∧TF P E d sz bE z ag∧z.length=sz∧bE≤65536∧bp n e x=some v∧bp n e y=some w:=by
 unfold apV at h
 split at h<;>try (cases h;done)
 rename_i x y T U az
 split at h<;>try (cases h;done)
 rename_i E' _ _ _ dM
 obtain⟨b1,tf1⟩:=av dM
 cases hU:Hi P U with
 |false=>rw[hU] at h;cases h
 |true=>
  rw[hU] at h;simp only[cond_true] at h
  obtain⟨E2,s2,b2,z2,a2,p9⟩:=Hh hU
  split at h<;>try (cases h;done)
  rename_i te uo
  obtain⟨b3,tf3⟩:=av uo
  split at h<;>try (cases h;done)
  rename_i ie hie
  cases hb:(Nat.beq te.zero.length te.size&&Nat.ble ie.bytes 65536) with
  |false=>rw[hb] at h;cases h
  |true=>
   rw[hb] at h;simp only[cond_true] at h
   split at h<;>try (cases h;done)
   rename_i hx
   split at h<;>try (cases h;done)
   rename_i hy
   simp only[Option.some.injEq,Prod.mk.injEq] at h
   obtain⟨rfl,rfl,rfl,rfl⟩:=h
   simp only[Bool.and_eq_true,Nat.ble_eq] at hb
   obtain⟨i2,g1,_,g3,_⟩:=tf3.info
   rw[hie] at g1;cases g1
   exact⟨x,y,T,U,_,b1,_,_,E2,s2,b2,z2,a2,_,b3,_,_,az,tf1,p9,tf3,Nat.eq_of_beq_eq_true hb.1,by omega,hx,hy⟩
theorem iK{v w:Value}{enc:α→List Value}{ps qs:List α}{L:Cells}(is lp:List Nat)(B:Cells)(kP:aw v sz E enc ps L)(Hq:∀s:St,Ext ⟨X.ro,[]⟩ s→(∀x∈B,s.has x.1 x.2)→Sl s w sz enc qs)(hq:∀p∈qs,∀c∈enc p,single c=true)(hb:ps.length+qs.length≤1048576)(hj:∀v' L',aw v' sz E enc (ps++qs) L'→J X (abt is v' L' o))
 (hv:eT X.n (apV X.P X.n) o=some (v,w,E,sz):=by kernel_rfl)(h2:dN is o=some L:=by kernel_rfl)(h3:dN lp o=some B:=by kernel_rfl):J X o:=by
 obtain⟨ops,i0,todo,kk,ev,w0,kn,p,rfl,ho,hw,hc⟩:=dB hv
 obtain⟨x,y,T,U,s1,b1,z1,a1,E2,s2,b2,z2,a2,d,bE,z,ag,az,tf1,p9,tf3,hz,hby,hx,hy⟩:=azn hc
 intro bY
 rcases p with ⟨dst,op,ty,pos,cY,g⟩
 dsimp only at az;subst az
 have hp:=bJ h2
 refine we X.hC hp<|oap X.hC ho hw tf1 p9 tf3 hz hx hy kP (Hq _ Og fun u hu=>?_) hq ⟨hb,hby⟩ fun v' L' hL'=>?_
 ·rcases SV (X:=X) h3 u hu with h|h
  ·exact .inl h
  exact .inr (hp.mem_iff.1 h)
 have:=hj v' L' hL'
 rw[Ym ho] at this
 have:=this bY
 simp only[JP,gq] at this
 exact this
theorem aPT{w:Value}(enc:α→List Value){qs:List α}(lp:List Nat)(B:Cells)(Hq:∀s:St,Ext ⟨X.ro,[]⟩ s→(∀x∈B,s.has x.1 x.2)→Sl s w sz enc qs)(hq:∀p∈qs,∀c∈enc p,single c=true)(hb:qs.length≤1048576)(hj:∀v' L',aw v' sz E enc qs L'→J X (abt [] v' L' o))
 (hv:eT X.n (apV X.P X.n) o=some (.slice none 0 0,w,E,sz):=by kernel_rfl)(h3:dN lp o=some B:=by kernel_rfl)(h2:dN [] o=some []:=by kernel_rfl):J X o:=
 iK (ps:=[]) [] lp B (aw.nil sz E enc) Hq hq (by simpa using hb) (fun v' L' h=>hj v' L' h) hv h2 h3
end
attribute [irreducible] abt
section
variable {X:Cx} {o:Option JS}
def nxV(n:Nat)(p:Oper)(e:Env):Option Nat:=match p.op with
 | .next x true=>match bp n e x with
  |some (.pointer (some ⟨r,0,none⟩))=>some r
  |_=>none
 |_=>none
theorem afY(h:nxV n p e=some r):∃x,p.op= .next x true∧bp n e x=some (.pointer (some ⟨r,0,none⟩)):=by
 unfold nxV at h
 split at h<;>try (cases h;done)
 rename_i az
 split at h<;>try (cases h;done)
 rename_i hx
 cases h
 exact⟨_,az,hx⟩
def Ut(i:Nat)(v:Value)(b:Nat)(ob:Obj):Option JS→Option JS
 |some ⟨.ops ops (j::todo) k,e,w,kn⟩=>match ops[j]? with
  |some p=>some ⟨.ops ops todo k,upd p.dst v e,.b b ob::dE [i] 0 w,kn⟩
  |none=>none
 |_=>none
theorem jnA{p:Nat}{c:UInt8}(r i:Nat)(hp:b.data.toList[p]?=some c) (ha:c.toNat <128) (hj:J X (Ut i (.tuple ⟨[.bool true,.int .i64 p,.int .i32 c.toNat]⟩) r (.stringIter b (p+1)) o))
 (hv:eT X.n (nxV X.n) o=some r:=by kernel_rfl) (hB:dN [i] o=some [(r,.stringIter b p)]:=by kernel_rfl):J X o:=by
 obtain⟨ops,i0,todo,kk,ev,w0,kn,q,rfl,ho,hw,hc⟩:=dB hv
 obtain⟨x,az,hx⟩:=afY hc
 intro bY
 rcases q with ⟨dst,op,ty,pos,cY,g⟩
 dsimp only at az;subst az
 refine we X.hC (bJ hB) (anl X.hC ho hw hx hp ha ?_)
 simp only[Ut,ho] at hj
 have:=hj bY
 simp only[JP,iH] at this
 exact this
theorem jnZ{p:Nat}(r i:Nat)(hp:b.data.toList[p]?=none) (hj:J X (Ut i (.tuple ⟨[.bool false]⟩) r (.stringIter b p) o))
 (hv:eT X.n (nxV X.n) o=some r:=by kernel_rfl) (hB:dN [i] o=some [(r,.stringIter b p)]:=by kernel_rfl):J X o:=by
 obtain⟨ops,i0,todo,kk,ev,w0,kn,q,rfl,ho,hw,hc⟩:=dB hv
 obtain⟨x,az,hx⟩:=afY hc
 intro bY
 rcases q with ⟨dst,op,ty,pos,cY,g⟩
 dsimp only at az;subst az
 refine we X.hC (bJ hB) (ank X.hC ho hw hx hp ?_)
 simp only[Ut,ho] at hj
 have:=hj bY
 simp only[JP,iH] at this
 exact this
theorem jcG{own:Cells}{Φ:Value→(Nat→Option Obj)→Cells→Prop}(ps:List Nat)(hf:FnG X.P f vs X.ro own Φ)(hj:∀v aD Y,Sub X.ro aD→Φ v aD Y→J (X.at aD) (mZ ps v Y o))(h1:eT X.n (yw X.P X.n) o=some (f,vs):=by kernel_rfl)(h2:dN ps o=some own:=by kernel_rfl):J X o:=by
 obtain⟨ops,i,todo,k,e,w,kn,p,rfl,ho,hw,hc⟩:=dB h1
 obtain⟨ff,x,xs,at_,fi,ca,ws,az,hx,si,rfl⟩:=qI hc
 intro bY
 rcases p with ⟨dst,op,ty,pos,cY,g⟩
 dsimp only at az;subst az
 have hp:=bJ h2
 refine uf (fi:=⟨fi⟩) (ca:=⟨ca⟩) (ws:=fi++ws++ca) X.hC ho hw hx ff si (Tj fi ws ca) (Fn.weaken X.hC (FnG.use (s:=⟨X.ro,den w⟩) hp hf)) (fun v' s' hr=>?_) (fun ch s' hr=>by obtain⟨_,_,_,e,_⟩:=hr;cases e) (fun s' hr=>by obtain⟨_,_,_,e,_⟩:=hr;cases e)
 obtain⟨v,aD,Y,hv,hs,pG,hle⟩:=hr
 cases hv
 have:=hj _ aD Y hs pG
 rw[od ho] at this
 have:=this (bY.up hs)
 simp only[JP,gq,IW] at this
 exact this.more X.hC hle
def ajX(n:Nat)(p:Oper)(e:Env):Option (FuncId×List Value):=match p.op with
 | .call ⟨.value (.func f),xs,_⟩=>match x6 n e xs.toList with
  |some vs=>some (f,vs)
  |none=>none
 |_=>none
theorem Oh(h:ajX n p e=some (f,vs)):∃xs at_,p.op= .call ⟨.value (.func f),xs,at_⟩∧x6 n e xs.toList=some vs:=by
 unfold ajX at h
 split at h<;>try (cases h;done)
 rename_i az
 split at h<;>try (cases h;done)
 rename_i hx
 cases h
 exact⟨_,_,az,hx⟩
theorem jib{a:ByteArray}{b:Int}(ef:EF X.P f Extern.BytealgIndexByte.indexByte)(hj:J X (jR (.int .i64 (Rv a b.toNat.toUInt8)) o))(hv:dC X.n (ajX X.n) o=some (f,[.string a,.int .u8 b]):=by kernel_rfl):J X o:=by
 refine jGS hv (fun s p e _ hf=>?_) hj
 obtain⟨xs,at_,az,hx⟩:=Oh hf
 rcases p with ⟨dst,op,ty,pos,cY,g⟩
 dsimp only at az;subst az
 exact⟨fun ops i sr rest hw s' hs todo Q hk=>afT X.hC sr hw ef (xH hx) hk,fun hk=>by cases hk⟩
theorem aPK{v:Value}(ef:EF X.P f Extern.AbiNoEscape.same)(hj:J X (jR v o))(hv:dC X.n (ajX X.n) o=some (f,[v]):=by kernel_rfl):J X o:=by
 refine jGS hv (fun s p e _ hf=>?_) hj
 obtain⟨xs,at_,az,hx⟩:=Oh hf
 rcases p with ⟨dst,op,ty,pos,cY,g⟩
 dsimp only at az;subst az
 exact⟨fun ops i sr rest hw s' hs todo Q hk=>anj X.hC sr hw ef (xH hx) hk,fun hk=>by cases hk⟩
def mmV(n:Nat)(p:Oper)(e:Env):Option (Bool×Value×Value):=match p.op with
 | .call ⟨.builtin .min,⟨[x,y]⟩,⟨[_,_]⟩⟩=>match bp n e x with
  |some v=>match bp n e y with
   |some w=>some (true,v,w)
   |none=>none
  |none=>none
 | .call ⟨.builtin .max,⟨[x,y]⟩,⟨[_,_]⟩⟩=>match bp n e x with
  |some v=>match bp n e y with
   |some w=>some (false,v,w)
   |none=>none
  |none=>none
 |_=>none
theorem jmn{k:IntKind}{a b:Int}(hj:J X (jR (.int k (min a b)) o))(hv:dC X.n (mmV X.n) o=some (true,.int k a,.int k b):=by kernel_rfl):J X o:=by
 refine Ru hv (fun s p e _ hf=>?_) hj
 unfold mmV at hf
 split at hf<;>try (cases hf;done)
 ·rename_i az
  split at hf<;>try (cases hf;done)
  rename_i hx
  split at hf<;>try (cases hf;done)
  rename_i hy
  cases hf
  rcases p with ⟨dst,op,ty,pos,cY,g⟩
  dsimp only at az;subst az
  exact fun s0 ops i sr rest hw s' hs todo Q hk=>au3 X.hC sr hw (aZ hx) (aZ hy) hk
 split at hf<;>try (cases hf;done)
 split at hf<;>cases hf
theorem jmx{k:IntKind}{a b:Int}(hj:J X (jR (.int k (max a b)) o))(hv:dC X.n (mmV X.n) o=some (false,.int k a,.int k b):=by kernel_rfl):J X o:=by
 refine Ru hv (fun s p e _ hf=>?_) hj
 unfold mmV at hf
 split at hf<;>try (cases hf;done)
 ·split at hf<;>try (cases hf;done)
  split at hf<;>cases hf
 rename_i az
 split at hf<;>try (cases hf;done)
 rename_i hx
 split at hf<;>try (cases hf;done)
 rename_i hy
 cases hf
 rcases p with ⟨dst,op,ty,pos,cY,g⟩
 dsimp only at az;subst az
 exact fun s0 ops i sr rest hw s' hs todo Q hk=>au4 X.hC sr hw (aZ hx) (aZ hy) hk
theorem jsx(i b off:Nat)(c l:List Value)(t:TypeId)(h1:∀v∈l,single v=true)(hb:Nat.ble (off+l.length) c.length=true)(hj:J X (Ut i undef b (.cells ⟨dD c off l⟩ t (0,0)) o))(hv:eT X.n (amA X.P X.n) o=some (⟨b,off,none⟩,l,l.length):=by kernel_rfl)(h2:dN [i] o=some [(b,.cells ⟨c⟩ t (0,0))]:=by kernel_rfl):J X o:=by
 obtain⟨ops,i0,todo,kk,ev,w,kn,p,rfl,ho,hw,hc⟩:=dB hv
 obtain⟨T,x,y,d,bE,z,ag,u,az,tf,hx,hy,hu⟩:=XI hc
 intro bY
 rcases p with ⟨dst,op,ty,pos,cY,g⟩
 dsimp only at az;subst az
 refine we X.hC (bJ h2)<|ost X.hC ho hw tf hx hy hu rfl h1 (Nat.le_of_ble_eq_true hb) ?_
 simp only[Ut,ho] at hj
 have:=hj bY
 simp only[JP,iH] at this
 exact this
def aiV(P:Program)(n:Nat)(p:Oper)(e:Env):Option (List Value×Int×Nat×Nat×Bool):=match p.op with
 | .index T x y=>match ba P T with
  |some ⟨.array len E,_,_,_⟩=>match ba P E with
   |some te=>match bp n e x with
    |some (.agg ⟨l⟩)=>match bp n e y with
     |some (.int _ ix)=>some (l,ix,len,te.size,te.agg)
     |_=>none
    |_=>none
   |none=>none
  |_=>none
 |_=>none
theorem jai{v:Value}(ix:Int)(len sz:Nat)(ag:Bool)(hi:0≤ix∧ix <len)(hp:GP ag l (ix.toNat*sz) sz=some v)(hj:J X (jR v o))(hv:dC X.n (aiV X.P X.n) o=some (l,ix,len,sz,ag):=by kernel_rfl):J X o:=by
 refine Ru hv (fun s p e _ hf=>?_) hj
 unfold aiV at hf
 split at hf<;>try (cases hf;done)
 rename_i az
 split at hf<;>try (cases hf;done)
 rename_i dM
 split at hf<;>try (cases hf;done)
 rename_i te uo
 split at hf<;>try (cases hf;done)
 rename_i hx
 split at hf<;>try (cases hf;done)
 rename_i hy
 cases hf
 obtain⟨b1,tf⟩:=av dM
 obtain⟨b2,p9⟩:=av uo
 rcases p with ⟨dst,op,ty,pos,cY,g⟩
 dsimp only at az;subst az
 exact fun s0 ops i sr rest hw s' hs todo Q hk=>afU X.hC sr hw tf p9 (aZ hx) (aZ hy) hi hp hk
def tA(m:Nat)(e:Env):Option JS→Option JS
 |some ⟨.ops ops todo k,_,w,kn⟩=>some ⟨.ops ops (todo.drop m) k,e,w,kn⟩
 |_=>none
theorem jj(m:Nat)(e:Env)(hj:∀rest,J X (tA m (e++rest) o))(h:(∀o',tA 0 [] o'=tA m [] o→rq (ni e) o'=some e→J X o')→J X o)(hd:lkE (ni e) e=some e:=by kernel_rfl):J X o:=by
 refine h fun o' h1 h2=>?_
 cases o' with
 |none=>simp[rq] at h2
 |some s'=>
  rcases s' with ⟨p',e',w',kn'⟩
  cases o with
  |none=>exact(hj []).elim
  |some s=>
   rcases s with ⟨p,e0,w,kn⟩
   cases p' with
   |ops bb0 aef k'=>
    cases p with
    |ops ops todo k=>
     simp only[tA,Option.some.injEq,JS.mk.injEq,Pos.ops.injEq,List.drop_zero,true_and] at h1
     obtain⟨⟨rfl,rfl,rfl⟩,rfl,rfl⟩:=h1
     rw[td] at h2
     obtain⟨r,hr⟩:=fX (n:=X.n) (D:=X.D) (kN h2) (kN hd)
     intro bY
     have:=hj r bY
     show ab _ _ _ _ _ _ (A X.n e' X.D) _
     rw[hr]
     exact this
    |_=>simp[tA] at h1
   |_=>cases p<;>simp[tA] at h1<;>exact(hj []).elim
end
attribute [irreducible] tA Ut
section
variable {X:Cx} {o:Option JS}
def avn(i:Nat)(rest:Env)(todo:List Nat):Option JS→Option JS
 |some ⟨.Ii ops base Pl _ k,_,w,kn⟩=>some ⟨.ops ops (i::todo) k,cw ops base i Pl++rest,w,kn⟩
 |_=>none
def LK(X:Cx)(i:Nat)(o:Option JS)(rest:Env)(todo:List Nat):Prop:=match o with
 |some ⟨.Ii ops base Pl Sl k,_,w,kn⟩=>∀v s',(∀j u,(j,u)∈pending ops i Sl→sX ops X.n base Pl j=false→(∀B,(j,B)∈kn.nd→Ext ⟨X.ro,[]⟩ s'→(∀x∈B,s'.has x.1 x.2)→eL X.C X.fn X.aA ops X.n X.D j u (cw ops base j Pl) s')→eL X.C X.fn X.aA ops X.n X.D j u (cw ops base j Pl) ⟨X.ro,den w⟩→eL X.C X.fn X.aA ops X.n X.D j u (cw ops base j Pl) s')→
  (PF X kn.nd ops base ((i,v)::Pl) (pending ops i Sl)→tG X.C X.fn X.aA ops X.n X.D base ((i,v)::Pl) (pending ops i Sl) (KQ X k) s')→ab X.C X.fn X.aA ops todo (KQ X k) (A X.n (upd (aQ ops i) v (cw ops base i Pl++rest)) X.D) s'
 |_=>True
def Yx(is:List Nat):Option JS→Bool
 |some ⟨.Ii ops _ Pl Sl _,_,_,_⟩=>fE ops&&((is.all fun i=>Nat.blt i ops.size&& !bk i (ak Pl))&&(nodupB (ak Pl)&&(oW ops (ak Pl)&&(fF (ak Sl) (ak Pl)&&(afI ops (ak Pl) is&& !is.isEmpty)))))
 |_=>false
def ak6(X:Cx)(o:Option JS):List Nat→Prop
 | []=>True
 |i::is=>(∀rest todo,LK X i o rest todo→J X (avn i rest todo o))∧ak6 X o is
theorem I5(is:List Nat)(h:ak6 X o is)(hb:Yx is o=true:=by kernel_rfl):J X o:=by
 unfold Yx at hb
 split at hb<;>try (cases hb;done)
 rename_i ops base Pl Sl k e w kn
 simp only[Bool.and_eq_true,Bool.not_eq_true'] at hb
 obtain⟨h1,h2,h3,h4,h5,h6,h7⟩:=hb
 intro bY hpf
 refine acW is h1 h2 h3 h4 h5 h6 ?_ h7
 clear h6 h7
 induction is with
 |nil=>trivial
 |cons i is ih=>
  simp only[List.all_cons,Bool.and_eq_true,Bool.not_eq_true'] at h2
  refine⟨fun rest todo hk=>h.1 rest todo (fun v s' hp ha=>?_) bY,ih h.2 h2.2⟩
  have iX:∀x,x∈pending ops i Sl→x∈Sl:=fun x hx=>(List.mem_filter.1 hx).1
  refine hk v s' (fun j u Ja bW=>?_) (ha ⟨fun j u Ja hpb s0=>?_,fun j u B Ja hB s0 EK ve=>?_⟩)
  ·cases hpb:sX ops X.n base Pl j with
   |true=>exact hpf.1 j u (iX _ Ja) hpb s'
   |false=>exact hp j u Ja hpb (fun B hB hx hb=>hpf.2 j u B (iX _ Ja) hB s' hx hb) bW
  ·have Pj:j∈ak Sl:=aO.2 ⟨u,iX _ Ja⟩
   have qS:i∉bu ops j:=fun hd=>by
    have h8:=bL.1 h5 j Pj
    have h9:=bL.1 (List.all_eq_true.1 h4 j h8) i hd
    rw[aJ.2 h9] at h2;exact absurd h2.1.2 (by simp)
   rw[cT qS]
   exact hpf.1 j u (iX _ Ja) (by simp only[sX,cT qS] at hpb;exact hpb) s0
  have Pj:j∈ak Sl:=aO.2 ⟨u,iX _ Ja⟩
  have qS:i∉bu ops j:=fun hd=>by
   have h8:=bL.1 h5 j Pj
   have h9:=bL.1 (List.all_eq_true.1 h4 j h8) i hd
   rw[aJ.2 h9] at h2;exact absurd h2.1.2 (by simp)
  rw[cT qS]
  exact hpf.2 j u B (iX _ Ja) hB s0 EK ve
theorem aS(i:Nat)(h:∀rest todo,LK X i o rest todo→J X (avn i rest todo o))(hb:Yx [i] o=true:=by kernel_rfl):J X o:=I5 [i] ⟨h,trivial⟩ hb
def WY(i:Nat):Option JS→Option JS→Option JS
 |some ⟨.Ii ops base Pl Sl k,e,_,kn⟩,some ⟨.ops _ _ _,e',w',kn'⟩=>some ⟨.Ii ops base ((i,match aQ ops i with
  |some d=>(gL e' d).getD undef
  |none=>undef)::Pl) (pending ops i Sl) k,e,w',⟨kn'.c,kn.nd⟩⟩
 |_,_=>none
def bkL(i:Nat)(rest:Env)(todo:List Nat):Option JS→Option JS→Option JS
 |some ⟨.Ii ops base Pl _ k,_,_,_⟩,some ⟨_,e',w',kn'⟩=>some ⟨.ops ops todo k,upd (aQ ops i) (match aQ ops i with
  |some d=>(gL e' d).getD undef
  |none=>undef) (cw ops base i Pl++rest),w',kn'⟩
 |_,_=>none
theorem WT(h:bkL i rest todo o o1=o1)(h1:o1≠none):∃ops base Pl Sl k e w kn v w' kn',o=some ⟨.Ii ops base Pl Sl k,e,w,kn⟩∧o1=some ⟨.ops ops todo k,upd (aQ ops i) v (cw ops base i Pl++rest),w',kn'⟩:=by
 unfold bkL at h
 split at h
 ·simp only[Option.some.injEq,JS.mk.injEq] at h
  obtain⟨rfl,h,_⟩:=h
  exact⟨_,_,_,_,_,_,_,_,_,_,_,rfl,by rw[h]⟩
 exact(h1 h.symm).elim
def rwO:Option JS→List Sg
 |some s=>s.rw
 |none=>[]
theorem eG(hK:LK X i o rest todo)(is:List Nat)(hj:J X (WY i o o1))(hc:bkL i rest todo o o1=o1:=by kernel_rfl)(h2:rh is o1=some (rwO o):=by kernel_rfl):J X o1:=by
 by_cases dI:o1=none
 ·subst dI
  cases o with
  |none=>exact hj
  |some s=>rcases s with ⟨p,e,w,kn⟩;cases p<;>exact hj
 obtain⟨kg,base,Pl,Sl,k,e,w,kn,v,w',kn',rfl,rfl⟩:=WT hc dI
 intro bY
 have hp:=lP h2
 have hv:(match aQ kg i with
  |some d=>(gL (upd (aQ kg i) v (cw kg base i Pl++rest)) d).getD undef
  |none=>undef)=v∨aQ kg i=none:=by
  cases hd:aQ kg i with
  |none=>exact .inr rfl
  |some d=>left;simp[upd,gL]
 have hj:=hj bY
 simp only[WY,JP] at hj
 have key:=hK (match aQ kg i with
  |some d=>(gL (upd (aQ kg i) v (cw kg base i Pl++rest)) d).getD undef
  |none=>undef) ⟨X.ro,den w'⟩ (fun j u _ _ _ hs=>hs.ext fun b ob hb=>?_) hj
 ·show ab _ _ _ _ _ _ _ _
  rcases hv with hv|hv
  ·rw[hv] at key;exact key
  rw[hv] at key ⊢;exact key
 rcases hb with hb|hb
 ·exact .inl hb
 exact .inr (hp.mem_iff.2 (List.mem_append_left _ hb))
def afr(i:Nat):Option JS→Bool
 |some ⟨.Ii ops _ _ Sl _,_,_,_⟩=>(pending ops i Sl).isEmpty
 |_=>false
theorem fW(hK:LK X i o rest todo)(hj:J X (WY i o o1))(hc:bkL i rest todo o o1=o1:=by kernel_rfl)(h2:afr i o=true:=by kernel_rfl):J X o1:=by
 by_cases dI:o1=none
 ·subst dI
  cases o with
  |none=>exact hj
  |some s=>rcases s with ⟨p,e,w,kn⟩;cases p<;>exact hj
 obtain⟨kg,base,Pl,Sl,k,e,w,kn,v,w',kn',rfl,rfl⟩:=WT hc dI
 intro bY
 have hv:(match aQ kg i with
  |some d=>(gL (upd (aQ kg i) v (cw kg base i Pl++rest)) d).getD undef
  |none=>undef)=v∨aQ kg i=none:=by
  cases hd:aQ kg i with
  |none=>exact .inr rfl
  |some d=>left;simp[upd,gL]
 have hj:=hj bY
 simp only[WY,JP] at hj
 have hpe:pending kg i Sl=[]:=by simpa [afr] using h2
 have key:=hK (match aQ kg i with
  |some d=>(gL (upd (aQ kg i) v (cw kg base i Pl++rest)) d).getD undef
  |none=>undef) ⟨X.ro,den w'⟩ (fun j u Ja=>by rw[hpe] at Ja;cases Ja) hj
 show ab _ _ _ _ _ _ _ _
 rcases hv with hv|hv
 ·rw[hv] at key;exact key
 rw[hv] at key ⊢;exact key
def ndG:List (Nat×Cells)→Nat→Option Cells
 | [],_=>none
 | (i,B)::l,j=>bif Nat.beq i j then some B else ndG l j
theorem Yn{j:Nat}{B:Cells}:∀ {l:List (Nat×Cells)},ndG l j=some B→(j,B)∈l
 | (i,C)::l,h=>by
  simp only[ndG] at h
  cases hb:Nat.beq i j with
  |true=>
   rw[hb] at h;simp only[cond_true,Option.some.injEq] at h;subst h
   have:=Nat.eq_of_beq_eq_true hb;subst this
   exact List.mem_cons_self
  |false=>rw[hb] at h;simp only[cond_false] at h;exact List.mem_cons_of_mem _ (Yn h)
structure Rk where
 a:List Value
 b:List Value
 c:List (Option Cells)
 d:List (Option Cells)
def aIr(ps:List Nat)(w:List Sg):Option Cells:=bif GV ps then (match QB ps w with
 |some x=>some (den x)
 |none=>none) else none
def rkL(P:Program)(n:Nat)(ops:Array Oper)(base:Env)(Pl:List (Nat×Value))(nd:List (Nat×Cells))(w:List Sg)(kn:Cells):List (List Nat)→List (Nat×Value)→Option Rk
 |_,[]=>some ⟨[],[],[],[]⟩
 |hs,(j,u)::r=>bif sX ops n base Pl j then rkL P n ops base Pl nd w kn hs r else (match hs with
  |h::hs=>match ndG nd j with
   |some B=>match rkL P n ops base Pl nd w kn hs r with
    |some ⟨a,b,c,d⟩=>some ⟨a,b,aIr h w::c,some B::d⟩
    |none=>none
   |none=>match ops[j]? with
    |some p=>match wF ops n (cw ops base j Pl) p.guard with
     |some true=>match p.op with
      | .load T x=>match bp n (cw ops base j Pl) x with
       |some (.pointer (some ⟨b,off,none⟩))=>match Bz w kn (h.headD 0) with
        |some (b',l)=>match ldv P T l off with
         |some v=>match rkL P n ops base Pl nd w kn hs r with
          |some ⟨a1,b1,c,d⟩=>some ⟨v:: .int .i64 b'::a1,u:: .int .i64 b::b1,c,d⟩
          |none=>none
         |none=>none
        |none=>none
       |_=>none
      |_=>none
     |_=>none
    |none=>none
  | []=>none)
theorem MT{ops:Array Oper}{base:Env}{Pl:List (Nat×Value)}{nd:List (Nat×Cells)}{w:List Sg}{kn:Cells}(bY:Knows X.ro kn):∀ {l:List (Nat×Value)} {hs:List (List Nat)} {k:Rk},rkL X.P X.n ops base Pl nd w kn hs l=some k→k.a=k.b→k.c=k.d→∀j u,(j,u)∈l→sX ops X.n base Pl j=false→
 (∀B,(j,B)∈nd→Ext ⟨X.ro,[]⟩ ⟨X.ro,den w⟩→(∀x∈B,(⟨X.ro,den w⟩:St).has x.1 x.2)→eL X.C X.fn X.aA ops X.n X.D j u (cw ops base j Pl) ⟨X.ro,den w⟩)→eL X.C X.fn X.aA ops X.n X.D j u (cw ops base j Pl) ⟨X.ro,den w⟩
 | [],_,_,_,_,_,j,u,h,_,_=>by cases h
 | (j0,u0)::r,hs,k,h,zg,hcd,j,u,hm,hpj,mb=>by
  simp only[rkL] at h
  cases hpb:sX ops X.n base Pl j0 with
  |true=>
   rw[hpb] at h;simp only[cond_true] at h
   rcases List.mem_cons.1 hm with h1|h1
   ·cases h1;rw[hpb] at hpj;cases hpj
   exact MT bY h zg hcd j u h1 hpj mb
  |false=>
   rw[hpb] at h;simp only[cond_false] at h
   split at h<;>try (cases h;done)
   rename_i h0 bZ
   split at h
   ·rename_i B hB
    split at h<;>try (cases h;done)
    rename_i a b c d hr
    cases h
    simp only[List.cons.injEq] at hcd
    rcases List.mem_cons.1 hm with h1|h1
    ·cases h1
     refine mb B (Yn hB) Og fun x hx=> .inr ?_
     have hw:=hcd.1
     unfold aIr at hw
     cases ho:GV h0 with
     |false=>rw[ho] at hw;cases hw
     |true=>
      rw[ho] at hw;simp only[cond_true] at hw
      split at hw<;>try (cases hw;done)
      rename_i y hy
      simp only[Option.some.injEq] at hw;subst hw
      exact(xv hy ho).mem_iff.2 (List.mem_append_left _ hx)
    exact MT bY hr zg hcd.2 j u h1 hpj mb
   split at h<;>try (cases h;done)
   rename_i p hp
   have ES:aQ ops j0=p.dst:=by simp only[aQ,hp,Option.bind_some]
   split at h<;>try (cases h;done)
   rename_i hg
   split at h<;>try (cases h;done)
   rename_i T x az
   split at h<;>try (cases h;done)
   rename_i b0 off hx
   split at h<;>try (cases h;done)
   rename_i b' l hc
   split at h<;>try (cases h;done)
   rename_i v hv
   split at h<;>try (cases h;done)
   rename_i a1 b1 c d hr
   cases h
   simp only[List.cons.injEq,Value.int.injEq,true_and] at zg
   obtain⟨rfl,hb,zg⟩:=zg
   have hb:b'=b0:=by omega
   subst hb
   rcases List.mem_cons.1 hm with h1|h1
   ·cases h1
    obtain⟨t,fz,hh⟩:=zv (X:=X) bY hc
    intro s1 hx1 rest todo Q hk
    rw[ES] at hk
    exact lQ X.hC hp rest (nM hg rest) (by rw[az];rfl) (agz az hx hh hv) hx1 hk
   exact MT bY hr zg hcd j u h1 hpj mb
def rkO(P:Program)(n i:Nat)(hs:List (List Nat)):Option JS→Option JS→Option Rk
 |some ⟨.Ii ops base Pl Sl _,_,_,kn⟩,some s1=>rkL P n ops base Pl kn.nd s1.rw s1.kn.c hs (pending ops i Sl)
 |_,_=>none
def rkA:Option Rk→Option (List Value×List (Option Cells))
 |some k=>some (k.a,k.c)
 |none=>some ([],[])
def rkB:Option Rk→Option (List Value×List (Option Cells))
 |some k=>some (k.b,k.d)
 |none=>none
theorem gx(hK:LK X i o rest todo)(hs:List (List Nat))(hj:J X (WY i o o1))(hc:bkL i rest todo o o1=o1:=by kernel_rfl)(h2:rkA (rkO X.P X.n i hs o o1)=rkB (rkO X.P X.n i hs o o1):=by kernel_rfl):J X o1:=by
 by_cases dI:o1=none
 ·subst dI
  cases o with
  |none=>exact hj
  |some s=>rcases s with ⟨p,e,w,kn⟩;cases p<;>exact hj
 obtain⟨kg,base,Pl,Sl,k,e,w,kn,v,w',kn',rfl,rfl⟩:=WT hc dI
 intro bY
 have hv:(match aQ kg i with
  |some d=>(gL (upd (aQ kg i) v (cw kg base i Pl++rest)) d).getD undef
  |none=>undef)=v∨aQ kg i=none:=by
  cases hd:aQ kg i with
  |none=>exact .inr rfl
  |some d=>left;simp[upd,gL]
 have hj:=hj bY
 simp only[WY,JP] at hj
 have bW:∀j u,(j,u)∈pending kg i Sl→sX kg X.n base Pl j=false→(∀B,(j,B)∈kn.nd→Ext ⟨X.ro,[]⟩ ⟨X.ro,den w'⟩→(∀x∈B,(⟨X.ro,den w'⟩:St).has x.1 x.2)→eL X.C X.fn X.aA kg X.n X.D j u (cw kg base j Pl) ⟨X.ro,den w'⟩)→eL X.C X.fn X.aA kg X.n X.D j u (cw kg base j Pl) ⟨X.ro,den w'⟩:=by
  simp only[rkO] at h2
  cases hr:rkL X.P X.n kg base Pl kn.nd w' kn'.c hs (pending kg i Sl) with
  |none=>rw[hr] at h2;cases h2
  |some x=>
   rw[hr] at h2
   simp only[rkA,rkB,Option.some.injEq,Prod.mk.injEq] at h2
   exact MT bY hr h2.1 h2.2
 have key:=hK (match aQ kg i with
  |some d=>(gL (upd (aQ kg i) v (cw kg base i Pl++rest)) d).getD undef
  |none=>undef) ⟨X.ro,den w'⟩ (fun j u Ja hpb hn _=>bW j u Ja hpb hn) hj
 show ab _ _ _ _ _ _ _ _
 rcases hv with hv|hv
 ·rw[hv] at key;exact key
 rw[hv] at key ⊢;exact key
end
attribute [irreducible] rkO rkA rkB avn Yx WY bkL rwO afr
abbrev RY(ro:Nat→Option Obj)(Φ:Value→Cells→Prop):Ending→St→Prop:=fun en s'=>∃v X,en= .returned v∧(⟨ro,X⟩:St).le s'∧Φ v X
theorem Round.mono{l:Nat}{bd:Code}{R':Ending→St→Prop}(h:Round C l f tm as bd s R)(hr:∀e s,R e s→R' e s):Round C l f tm as bd s R':=
 fun main T hT c cs k1 k2=>h main T hT c cs (fun v s' hv=>k1 v s' (hr _ _ hv)) (fun ch s' hv=>k2 ch s' (hr _ _ hv))
theorem Round.weaken{C':Class}(hc:∀main T,C' main T→C main T){l:Nat}{bd:Code}(h:Round C l f tm as bd s R):Round C' l f tm as bd s R:=
 fun main T hT=>h main T (hc main T hT)
theorem Round.frame{l:Nat}{bd:Code}{s1:St}{B:Cells}(hf:Round (CP P) l f tm as bd s1 R)(hB:∀x∈B,x∈fr)(hc:ac8 fr B ro s1 s):
 Round (CP P) l f tm as bd s (fun en s'=>∃yK,R en yK∧ac8 fr B ro yK s'):=
 fun main T hT c cs k1 k2=>hf main _ (Bg hT hB ro) c cs (fun v yK hv _ s' tv=>k1 v s' ⟨yK,hv,tv⟩) (fun ch yK hv _ s' tv=>k2 ch s' ⟨yK,hv,tv⟩) rfl s hc
def adG(r:Loop)(vs:List Value):Array Value:=(r.params.zip ⟨vs⟩).foldl (fun tmps (x:Tmp×Value)=>tmps.setIfInBounds x.1 x.2) r.tmps
def YX(P:Program)(bl:Nat)(vs:List Value)(ro:Nat→Option Obj)(own:Cells)(Φ:Value→Cells→Prop):Prop:=
 ∃r,(bl,.loop r)∈own∧vs.length=r.params.size∧Round (CP P) bl r.fn (adG r vs) r.assign r.body ⟨ro,own⟩ (RY ro Φ)
theorem YX.use{own:Cells}(hy:YX P bl vs ro own Φ)(hs:Sub ro s.ro)(hp:s.rw.Perm (own++fr)){Q:Next→St→Prop}{E:Halt→St→Prop}
 (h:∀l f tm as bd,Round (CP P) l f tm as bd s (fun en s'=>∃v X,en= .returned v∧Φ v X∧(⟨s.ro,X++fr⟩:St).le s')→Q (.round l f tm as bd) s):bO P (Instr.yield bl ⟨vs⟩) s Q E:=by
 obtain⟨r,h1,h2,h3⟩:=hy
 simp only[Instr.yield,Instr.getLoop,aa]
 refine cG (o:= .loop r) (.inr (hp.mem_iff.2 (List.mem_append_left _ h1))) rfl rfl ?_
 have u9:¬(⟨vs⟩:Array Value).size≠r.params.size:=by simpa using h2
 simp only[ae,if_neg u9]
 refine h _ _ _ _ _ (Round.mono (Round.frame (fr:=fr) (B:=[]) (ro:=s.ro) (s:=s) h3 (fun _ h=>(by cases h)) ⟨hp,fun b o hb=> .inl (hs b o hb),Sub.refl _⟩) fun en s' DY=>?_)
 obtain⟨yK,⟨v,X,rfl,⟨R,hR1,hR2⟩,pG⟩,hc⟩:=DY
 refine⟨v,X,rfl,pG,R,?_,fun b o hb=> .inl (hc.keep b o hb)⟩
 refine hc.rw.trans ((hR1.append_right fr).trans ?_)
 simp only[List.append_assoc]
 exact List.Perm.append_left _ List.perm_append_comm
section
variable {X:Cx} {o:Option JS}
def asU(n:Nat)(p:Oper)(e:Env):Option (Nat×List Value):=match p.op with
 | .call ⟨.value x,xs,_⟩=>match bp n e x with
  |some (.func (.yield bl) ⟨[]⟩ ⟨[]⟩)=>match x6 n e xs.toList with
   |some vs=>some (bl,vs)
   |none=>none
  |_=>none
 |_=>none
theorem jyc{own:Cells}(ps:List Nat)(hy:YX X.P bl vs pE own Φ)(fA:Sub pE X.ro)(hj:∀v Y,Φ v Y→J X (mZ ps v Y o))(h1:eT X.n (asU X.n) o=some (bl,vs):=by kernel_rfl)(h2:dN ps o=some own:=by kernel_rfl):J X o:=by
 obtain⟨ops,i,todo,k,e,w,kn,p,rfl,ho,hw,hc⟩:=dB h1
 intro bY
 unfold asU at hc
 split at hc<;>try (cases hc;done)
 rename_i x xs at_ az
 split at hc<;>try (cases hc;done)
 rename_i bl' hx
 split at hc<;>try (cases hc;done)
 rename_i og EM
 cases hc
 rcases p with ⟨dst,op,ty,pos,cY,g⟩
 dsimp only at az;subst az
 have hp:=bJ h2
 refine bR X.hC ho hw (by simp) ?_
 have TQ:xs.map (ev X.n e)=⟨vs⟩:=sB EM
 simp only[execOp,resolve,aF hx,Deferred.ofValue,ae,TQ]
 have hiv:(invoke (.fn (.yield bl) ⟨[]⟩) (⟨[]⟩++⟨vs⟩):Sem Next)=Instr.yield bl ⟨vs⟩:=by simp[invoke]
 rw[hiv]
 refine YX.use hy fA hp fun l f tm as bd hR=>?_
 show Round X.C l f tm as bd _ _
 refine Round.mono (Round.weaken X.hC hR) fun en s' DY=>?_
 obtain⟨v,Y,rfl,pG,hle⟩:=DY
 have:=hj v Y pG
 rw[od ho] at this
 have:=this bY
 simp only[JP,gq] at this
 have:=this.more X.hC hle
 show ab _ _ _ _ _ _ _ _
 rw[aX]
 exact this
end
attribute [irreducible] asU
def mk:List Nat→Cells
 | []=>[]
 |b::r=>(b,.deferred (some []))::mk r
def agh(P:Program)(fn:Func)(R:Ending→St→Prop):Post
 | .normal,a,s| .ret,a,s=>∃uC rest,a.defers=uC.map dY∧s.rw.Perm (mk uC++rest)∧bO P (results fn a.tmps) ⟨s.ro,rest⟩ (fun v s'=>∃s0,s0.le s'∧R (.returned v) s0) (fun _ _=>False)
 |_,_,_=>False
section
variable {P:Program} {C:Class}
theorem Az(hC:∀main T,C main T→Closed P main T)(hT:C main T){rest:Cells}:∀(uC:List Nat) (fr:Frame) (s:St),fr.mode= .returning→fr.defers=uC.map dY→s.rw.Perm (mk uC++rest)→T (G {fr with defers:=[]} cs) ⟨s.ro,rest⟩→T (G fr cs) s
 | [],fr,s,_,hd,hp,h=>by
  have:fr={fr with defers:=[]}:=by rcases fr with ⟨a,b,c,d,e,f,g⟩;simp only[List.map_nil] at hd;subst hd;rfl
  rw[this]
  exact(hC main T hT).mono _ ⟨s.ro,rest⟩ _ ⟨[],by simpa [mk] using hp,fun b o hb=> .inl hb⟩ h
 |b::r,fr,s,hm,hd,hp,h=>by
  obtain⟨L,Rr,hs⟩:=List.append_of_mem (hp.mem_iff.2 (List.mem_append_left _ List.mem_cons_self))
  refine unwind_mark hC hT (.inl hm) (ds:=r.map dY) (by simpa using hd) hs ?_
  have TH:(L++Rr).Perm (mk r++rest):=by
   rw[hs] at hp
   exact(List.perm_middle.symm.trans hp).cons_inv
  refine(hC main T hT).mono _ ⟨s.ro,L++Rr⟩ _ ⟨[(b,.deferred none)],?_,fun b o hb=> .inl hb⟩ (Az hC hT r _ _ hm rfl TH h)
  exact List.perm_middle.trans (List.perm_append_singleton _ _).symm
theorem Me(hC:∀main T,C main T→Closed P main T){c:Code}{args:Array Value} 
 (hf:P.funcs[f]?=some fn) (hb:fn.body=some c) (h:Wp C f none c (agh P fn R) ⟨args++Array.replicate (fn.ntmps-args.size) undef,[]⟩ s):Fn C P f args s R:=by
 intro main T hT cl cs k1 k2
 let b:Frame:={(default:Frame) with fn:=f,kind:= .normal,roundOf:=none}
 have gY:Frame.enter P f args .normal=aL b ⟨args++Array.replicate (fn.ntmps-args.size) undef,[]⟩ [.code c]:=by
  simp[Frame.enter,aL,hf,hb,b]
 rw[gY]
 refine h main T hT b [] (cl::cs) rfl (by simp[b]) rfl fun e a' s' q=>?_
 have sq:∀(todo:List Item),(∃uC rest,a'.defers=uC.map dY∧s'.rw.Perm (mk uC++rest)∧bO P (results fn a'.tmps) ⟨s'.ro,rest⟩ (fun v s'=>∃s0,s0.le s'∧R (.returned v) s0) (fun _ _=>False))→T (G {aL b a' todo with mode:= .returning} (cl::cs)) s':=by
  intro todo ⟨uC,rest,hd,hp,hr⟩
  exact Az hC hT uC _ _ rfl hd hp (sV hC hT hf rfl rfl rfl rfl hr k1)
 cases e with
 |normal=>
  exact(hC main T hT).go rfl rfl (g':=G {aL b a' [] with mode:= .returning} (cl::cs)) (fun w=>by simp[G,stepG,stepG.exec,aL,b]) (sq _ q)
 |ret=>
  exact fun todo=>(hC main T hT).go rfl rfl (g':=G {aL b a' (.code .ret::todo) with mode:= .returning} (cl::cs)) (fun w=>by simp[G,stepG,stepG.exec,aL,b]) (sq _ q)
 |panic ch=>exact q.elim
 |exit id=>exact q.elim
 |goto l=>exact q.elim
 |outgrown=>exact q.elim
end
def XM(P:Program)(hm:P.follows .mixedOrders=true)(f:FuncId)(ro:Nat→Option Obj)(R:Ending→St→Prop):Cx:=⟨P,CP P,eP,hm,f,none,(qD P f).ntmps,[],ro,agh P (qD P f) R⟩
theorem an8(hm:P.follows .mixedOrders=true){L:Cells}(own:List Sg)(kn:Cells)(hk:Knows ro kn)(h:J (XM P hm f ro (RX ro Φ)) (jD P f args own kn))(hL:den own=L:=by rfl):dG P f args ro L Φ:=by
 subst hL
 unfold jD at h
 split at h<;>try exact h.elim
 rename_i fn hf
 split at h<;>try exact h.elim
 rename_i c hc
 cases hl:Nat.ble args.length fn.ntmps with
 |false=>rw[hl] at h;exact h.elim
 |true=>
  rw[hl] at h
  have uR:qD P f=fn:=by simp only[qD,hf]
  have:=h hk
  simp only[JP,XM,KQ,uR] at this
  refine Me eP hf hc ?_
  have he:=kR args fn.ntmps (Nat.le_of_ble_eq_true hl)
  rw[←he] at this
  exact this
structure QM(X:Cx)(R:Ending→St→Prop)(uC:List Nat):Prop where
 q:X.Q=agh X.P (qD X.P X.fn) R
 d:X.D=uC.map dY
def Cx.dm(X:Cx)(bd:Nat):Cx:={X with D:=dY bd::X.D}
theorem qm0{hm:P.follows .mixedOrders=true}:QM (XM P hm f ro R) R []:=⟨rfl,rfl⟩
theorem QM.a(h:QM X R uC):QM (X.at ro) R uC:=⟨h.q,h.d⟩
theorem QM.m(h:QM X R uC):QM (X.dm bd) R (bd::uC):=⟨h.q,by simp[Cx.dm,h.d]⟩
theorem QM.w{aIH:List Nat}(h:QM X R uC):QM (X.wd (aIH.map dY)) R aIH:=⟨h.q,rfl⟩
def Di(pm:List Nat):Option JS→Option JS
 |some ⟨p,e,w,kn⟩=>some ⟨p,e,dE pm 0 w,kn⟩
 |none=>none
section
variable {X:Cx} {o:Option JS}
theorem jrM(hq:QM X (RX pE Φ) uC)(v:Value)(pm hs ps:List Nat)(Y:Cells)(fA:Sub pE X.ro)(hR:Φ v Y)(h0:dN pm o=some (mk uC):=by kernel_rfl)(h1:qZ (iv X.P X.n X.fn hs (Di pm o))=some v:=by kernel_rfl)(h2:Po (iv X.P X.n X.fn hs (Di pm o))=Pn (iv X.P X.n X.fn hs (Di pm o)):=by kernel_rfl)(h3:dN ps (Di pm o)=some Y:=by kernel_rfl)(h4:zn o=true:=by kernel_rfl):J X o:=by
 obtain⟨ex,e,w,kn,rfl,hex⟩:=tz h4
 simp only[Di,iv] at h1 h2 h3
 cases hr:Cb X.P X.n e (dE pm 0 w) kn.c hs (qD X.P X.fn).results.toList with
 |none=>simp only[hr,qZ] at h1;cases h1
 |some x=>
  rcases x with ⟨vs,q⟩
  simp only[hr,qZ,Option.some.injEq,Po,Pn] at h1 h2
  intro bY
  have sq:=tR bY hr (me h2)
  have hp:=bJ h3
  have Fs:=Qk (s0:=⟨pE,Y⟩) (R:=RX pE Φ) hex sq h1 (dL hp fA) ⟨v,Y,rfl,rfl,hR⟩
  have ht:bO X.P (results (qD X.P X.fn) (A X.n e X.D).tmps) ⟨X.ro,den (dE pm 0 w)⟩ (fun v s'=>∃s0,s0.le s'∧RX pE Φ (.returned v) s0) (fun _ _=>False):=by
   rcases hex with rfl|rfl<;>exact Fs.2
  show X.Q ex (A X.n e X.D) ⟨X.ro,den w⟩
  rw[hq.q]
  have hm:∃uC rest,(A X.n e X.D).defers=uC.map dY∧(den w).Perm (mk uC++rest)∧bO X.P (results (qD X.P X.fn) (A X.n e X.D).tmps) ⟨X.ro,rest⟩ (fun v s'=>∃s0,s0.le s'∧RX pE Φ (.returned v) s0) (fun _ _=>False):=⟨uC,_,hq.d,bJ h0,ht⟩
  rcases hex with rfl|rfl<;>exact hm
end
attribute [irreducible] Di
def upQ(Q:Post):Post:=fun e a s=>∃s0,s0.le s∧Q e a s0
theorem jN.more(hT:Closed P main T){b:Frame}(hl:s.le s'):∀ {e:Exit} {a:Act},jN T b k cs e a s→jN T b k cs e a s'
 | .normal,_,h=>hT.mono _ _ _ hl h
 | .exit id,a,h=>by
  simp only[jN] at h ⊢
  cases hk:exitTo id k with
  |some k'=>rw[hk] at h;exact hT.mono _ _ _ hl h
  |none=>rw[hk] at h;exact fun todo ht=>hT.mono _ _ _ hl (h todo ht)
 | .ret,_,h=>fun todo=>hT.mono _ _ _ hl (h todo)
 | .panic _,_,h=>fun todo=>hT.mono _ _ _ hl (h todo)
 | .goto _,_,h=>h.elim
 | .outgrown,_,h=>h.elim
theorem aA8(hC:∀main T,C main T→Closed P main T){fn:FuncId}{aA:Option Nat}{c:Code}{Q:Post}{a:Act}(h:Wp C fn aA c (upQ Q) a s):Wp C fn aA c Q a s:=
 fun main T hT b k cs h1 h2 h3 h4=>h main T hT b k cs h1 h2 h3 fun _ _ _ ⟨_,hl,hq⟩=>jN.more (hC _ _ hT) hl (h4 _ _ _ hq)
def ItX(P:Program)(g:FuncId)(fi ca:List Value)(ro:Nat→Option Obj)(own:Cells)(N:Nat)(El:(Nat→Option Obj)→Nat→List Value→Cells→Prop)(Ψ:Cells→Prop):Prop:=
 ∀(bl:Nat) (aG:Nat→Option Obj) (Inv:Nat→Cells→Prop) (Stop:Cells→Prop),Sub ro aG→
  (∀k vs LL B lq,k <N→El lq k vs LL→Inv k B→Sub aG lq→YX P bl vs lq (LL++B) (fun r B'=>(r= .bool true∧Inv (k+1) B')∨(r= .bool false∧Stop B')))→
  ∀B,Inv 0 B→dG P g (fi++[.func (.yield bl) #[] #[]]++ca) aG (own++B) (fun _ Y=>∃Z B',Y=Z++B'∧Ψ Z∧(Inv N B'∨Stop B'))
theorem Round.more(hC:∀main T,C main T→Closed P main T){l:Nat}{bd:Code}(hl:s.le s')(h:Round C l f tm as bd s R):Round C l f tm as bd s' R:=
 fun main T hT c cs k1 k2=>(hC _ _ hT).mono _ _ _ hl (h main T hT c cs k1 k2)
def rfV(P:Program)(n:Nat):Option JS→Option (FuncId×List Value×List Value×Nat)
 |some ⟨.code (.rangeFunc x ps _ _) _,e,_,_⟩=>match bp n e x with
  |some (.func (.func g) ⟨fi⟩ ⟨ca⟩)=>bif BU P g then some (g,fi,ca,ps.size) else none
  |_=>none
 |_=>none
def lpO(X:Cx)(bd:Nat):Option JS→Loop
 |some ⟨.code (.rangeFunc _ ps a b) _,e,_,_⟩=>iz X.fn (A X.n e X.D).tmps ps a b bd
 |_=>iz X.fn #[] #[] .ret .ret bd
def aID:Option JS→Code
 |some ⟨.code (.rangeFunc _ _ _ b) _,_,_,_⟩=>b
 |_=> .ret
def Qe:List Tmp→List Value→Env→Env
 |t::ts,v::vs,e=>Qe ts vs (upd (some t) v e)
 |_,_,e=>e
theorem Qd{D:List Deferred}:∀(ts:List Tmp) (vs:List Value) (e:Env),(ts.zip vs).foldl (fun(tm:Array Value) (x:Tmp×Value)=>tm.setIfInBounds x.1 x.2) (A n e D).tmps=(A n (Qe ts vs e) D).tmps
 | [],_,_=>rfl
 |_::_,[],_=>rfl
 |t::ts,v::vs,e=>by
  have:=aX n e D (some t) v
  simp only[Act.put] at this
  simp only[List.zip_cons_cons,List.foldl_cons,Qe]
  rw[←Qd ts vs,←this]
def rdO(X:Cx)(bl bd:Nat)(vs:List Value)(w:List Sg)(o:Option JS):Option JS:=match o with
 |some ⟨.code (.rangeFunc _ ps a _) _,e,_,kn⟩=>some ⟨.code a [],Qe ps.toList vs e,.b bl (.loop (lpO X bd o))::w,⟨kn.c,[]⟩⟩
 |_=>none
def afO(jump:Option Code)(bd:Nat)(Z:Cells)(wi:List Sg)(is:List Nat):Option JS→Option JS
 |some ⟨.code _ k,e,w,kn⟩=>match jump with
  |none=>some ⟨Qz k,e,.b bd (.deferred (some [])):: .l Z::(wi++dE is 0 w),⟨kn.c,[]⟩⟩
  |some .ret=>some ⟨.fin .ret,e,.b bd (.deferred (some [])):: .l Z::(wi++dE is 0 w),⟨kn.c,[]⟩⟩
  |some (.exit id)=>match Bo id k with
   |some p=>some ⟨p,e,.b bd (.deferred (some [])):: .l Z::(wi++dE is 0 w),⟨kn.c,[]⟩⟩
   |none=>none
  |_=>none
 |_=>none
def asV(bl:Nat)(Lp:Loop)(wf:ι→List Sg)(Inv:Nat→ι→Prop)(Sp:Code→ι→Prop)(k:Nat):Value→Cells→Prop:=fun r B=>
 (r= .bool true∧∃j,Inv (k+1) j∧B=(bl,.loop Lp)::den (wf j))∨(r= .bool false∧∃jump j,Sp jump j∧B=(bl,.loop {Lp with state:= .done,pending:=some jump})::den (wf j))
def Cx.rd(X:Cx)(bl:Nat)(ro:Nat→Option Obj)(Φ:Value→Cells→Prop)(body:Code):Cx:=⟨X.P,CP X.P,eP,X.hm,X.fn,some bl,X.n,[],ro,IK (CP X.P) (RY ro Φ) bl X.fn body⟩
def Cx.re(X:Cx)(bl:Nat)(ro:Nat→Option Obj)(Φ:Value→Cells→Prop):Cx:=⟨X.P,CP X.P,eP,X.hm,X.fn,some bl,X.n,[],ro,Ca (RY ro Φ) bl⟩
theorem Mv:∀(k:List KI),KQ (X.dm bd) k=KQ X k
 | []=>rfl
 | .seq _::k=>by simp only[KQ,Mv k];rfl
 | .block _::k=>by simp only[KQ,Mv k]
 | .next _::k=>by simp only[KQ,Mv k]
theorem KN(Z W R:List α)(x y:α):((Z++x::W)++y::R).Perm (x::y::(Z++(W++R))):=by
 refine List.perm_middle.trans ?_
 rw[List.append_assoc,List.cons_append]
 exact(List.Perm.cons y List.perm_middle).trans (List.Perm.swap _ _ _)
section
variable {X:Cx} {o:Option JS}
theorem jrf{np:Nat}{Ψ:Cells→Prop}(ow:List Sg)(hit:ItX X.P g fi ca X.ro (den ow) N El Ψ)(VI:∀ro k vs LL,El ro k vs LL→vs.length=np)
 (wf:ι→List Sg)(Inv:Nat→ι→Prop)(Sp:Code→ι→Prop)(i0:ι)(h0:Inv 0 i0)(is:List Nat)
 (hb:∀bl bd k vs LL i lq,k <N→El lq k vs LL→Inv k i→Sub X.ro lq→J (X.rd bl lq (asV bl (lpO X bd o) wf Inv Sp k) (aID o)) (rdO X bl bd vs (wf i++[.l LL]) o))
 (hN:∀bd i Z,Inv N i→Ψ Z→J (X.dm bd) (afO none bd Z (wf i) is o))(hS:∀bd i Z jump,Sp jump i→Ψ Z→J (X.dm bd) (afO (some jump) bd Z (wf i) is o))
 (h1:rfV X.P X.n o=some (g,fi,ca,np):=by kernel_rfl)(h2:rh is o=some (ow++wf i0):=by kernel_rfl)(hf:(X.P.funcs[X.fn]?).isSome=true:=by kernel_rfl) (hr:X.aA=none:=by rfl):J X o:=by
 unfold rfV at h1
 split at h1<;>try (cases h1;done)
 rename_i x params assign body k e w kn
 split at h1<;>try (cases h1;done)
 rename_i g' Ww zx hx
 cases HI:BU X.P g' with
 |false=>rw[HI] at h1;cases h1
 |true=>
  rw[HI] at h1
  simp only[cond_true,Option.some.injEq,Prod.mk.injEq] at h1
  obtain⟨rfl,rfl,rfl,hnp⟩:=h1
  have ff:=ld HI
  intro bY
  have hp:=lP h2
  rw[lJ] at hp
  obtain⟨fn',uR⟩:=Option.isSome_iff_exists.1 hf
  show Wp X.C X.fn X.aA (.rangeFunc x params assign body) (KQ X k) (A X.n e X.D) ⟨X.ro,den w⟩
  rw[hr]
  refine aA8 X.hC (Av X.hC (fi:=⟨Ww⟩) (ca:=⟨zx⟩) (by rw[eg];exact aF hx) ff fun bd bl _ _=>?_)
  rw[Tj]
  have hy:=hit bl X.ro (fun k B=>∃i,Inv k i∧B=(bl,.loop (iz X.fn (A X.n e X.D).tmps params assign body bd))::den (wf i))
   (fun B=>∃jump i,Sp jump i∧B=(bl,.loop {iz X.fn (A X.n e X.D).tmps params assign body bd with state:= .done,pending:=some jump})::den (wf i)) (Sub.refl _) (fun k vs LL B lq hk hv hi hs=>?_) _ ⟨i0,h0,rfl⟩
  rotate_left
  ·obtain⟨i,hi,rfl⟩:=hi
   refine⟨iz X.fn (A X.n e X.D).tmps params assign body bd,List.mem_append_right _ List.mem_cons_self,(VI _ _ _ _ hv).trans hnp.symm,Round.more eP (s:=⟨lq,((bl,.loop (iz X.fn (A X.n e X.D).tmps params assign body bd))::den (wf i))++LL⟩) ⟨[],by rw[List.append_nil];exact List.perm_append_comm,fun b o hb=> .inl hb⟩ (DI eP uR ?_)⟩
   have:=hb bl bd k vs LL i lq hk hv hi hs fun y hy=>hs _ _ (bY y hy)
   have NY:den (.b bl (.loop (iz X.fn (A X.n e X.D).tmps params assign body bd))::(wf i++[.l LL]))=((bl,.loop (iz X.fn (A X.n e X.D).tmps params assign body bd))::den (wf i))++LL:=by rw[iH,lJ];rfl
   rw[←NY]
   have hyt:adG (iz X.fn (A X.n e X.D).tmps params assign body bd) vs=(A X.n (Qe params.toList vs e) X.D).tmps:=by
    rw[←Qd]
    simp only[adG,iz]
    rw[←Array.foldl_toList,Array.toList_zip]
   rw[hyt]
   exact this
  refine Fn.weaken X.hC (Fn.mono (Fn.frame (fr:=(bd,.deferred (some []))::den (dE is 0 w)) (B:=[]) (ro:=X.ro) hy (fun _ h=>(by cases h)) ⟨?_,fun b o hb=> .inl hb,Sub.refl _⟩) fun en s' DY=>?_)
  ·refine List.Perm.trans (.cons _ (.cons _ ?_)) (KN _ _ _ _ _).symm
   rw[←List.append_assoc]
   exact hp
  obtain⟨yK,⟨v,Y,rfl,rfl,Z,B',rfl,hΨ,hI⟩,hc⟩:=DY
  have hc1:s'.rw.Perm ((Z++B')++(bd,.deferred (some []))::den (dE is 0 w)):=hc.rw
  have key:∀(r0:Loop) (i:ι),B'=(bl,.loop r0)::den (wf i)→∃L Rr,s'.rw=L++(bl,.loop r0)::Rr∧∀r1,(⟨X.ro,den (.b bd (.deferred (some [])):: .l Z::(wf i++dE is 0 w))⟩:St).le ⟨s'.ro,L++(bl,.loop r1)::Rr⟩:=by
   intro r0 i hB
   subst hB
   have hc2:=hc1.trans (KN _ _ _ _ _)
   obtain⟨L,Rr,hs⟩:=List.append_of_mem (hc2.mem_iff.2 List.mem_cons_self)
   refine⟨L,Rr,hs,fun r1=>dL (J:=[(bl,.loop r1)]) ?_ hc.keep⟩
   rw[hs] at hc2
   have hc3:=(List.perm_middle.symm.trans hc2).cons_inv
   rw[iH,gq,lJ]
   exact List.perm_middle.trans ((List.Perm.cons _ hc3).trans (List.perm_append_singleton _ _).symm)
  rcases hI with ⟨i,hi,hB⟩| ⟨jump,i,hi,hB⟩
  ·obtain⟨L,Rr,hs,hle⟩:=key _ i hB
   refine⟨L,_,Rr,hs,by simp[iz],?_⟩
   refine⟨_,hle _,?_⟩
   have:=hN bd i Z hi hΨ bY
   rw[←Mv (bd:=bd)]
   exact tV (X:=X.dm bd) (kn:=⟨kn.c,[]⟩) this
  obtain⟨L,Rr,hs,hle⟩:=key _ i hB
  refine⟨L,_,Rr,hs,by simp,?_⟩
  have:=hS bd i Z jump hi hΨ
  cases jump with
  |ret=>
   refine⟨_,hle _,?_⟩
   rw[←Mv (bd:=bd)]
   exact AG (X:=X.dm bd) (this bY) k
  |exit id=>
   simp only[afO] at this
   cases hk:Bo id k with
   |none=>rw[hk] at this;exact this.elim
   |some p=>
    rw[hk] at this
    refine⟨_,hle _,?_⟩
    rw[←Mv (bd:=bd)]
    exact wL (X:=X.dm bd) (kn:=⟨kn.c,[]⟩) hk (this bY)
  |_=>exact this.elim
end
theorem aEf:(lpO X bd o).state= .ready∧(lpO X bd o).pending=none:=by
 unfold lpO
 split<;>exact⟨rfl,rfl⟩
attribute [irreducible] rfV lpO aID rdO afO
def bgO(body:Code):Option JS→Option (JS×Nat)
 |some ⟨.fin .normal,e,.b b (.loop r)::w,kn⟩=>match r.state with
  | .ready=>some (⟨.code body [],e,.b b (.loop {r with state:= .busy})::w,kn⟩,b)
  |_=>none
 |_=>none
def EW:Option (JS×Nat)→Option JS
 |some (s,_)=>some s
 |none=>none
def Up:Option (JS×Nat)→Option Nat
 |some (_,b)=>some b
 |none=>none
def Rt:Option JS→Option (Option Code)
 |some ⟨.fin .normal,_,_,_⟩=>some none
 |some ⟨.fin .ret,_,_,_⟩=>some (some .ret)
 |some ⟨.fin (.exit id),_,_,_⟩=>some (some (.exit id))
 |_=>none
structure QY(X:Cx)(bl:Nat)(ro:Nat→Option Obj)(Φ:Value→Cells→Prop):Prop where
 q:X.Q=Ca (RY ro Φ) bl
theorem qy0:QY (X.re bl ro Φ) bl ro Φ:=⟨rfl⟩
section
variable {X:Cx} {o:Option JS} {bl:Nat} {ro:Nat→Option Obj}
theorem jbg(h:J (X.re bl ro Φ) (EW (bgO body o)))(h1:Up (bgO body o)=some bl:=by kernel_rfl):J (X.rd bl ro Φ body) o:=by
 unfold bgO at h h1
 split at h<;>try exact h.elim
 rename_i e b r w kn
 split at h<;>try exact h.elim
 rename_i bW
 simp only[bW,Up,Option.some.injEq] at h1
 subst h1
 simp only[EW] at h
 intro bY
 have hw:=h bY
 simp only[JP,Cx.rd,IK,Dw]
 refine⟨[],r,den w,by rw[iH];rfl,bW,?_⟩
 simp only[JP,iH] at hw
 exact hw
theorem jyR{Lp:Loop}{jump:Option Code}{Y:Cells}(hq:QY X bl ro Φ)(fA:Sub ro X.ro)(ps:List Nat)(pG:Φ (.bool jump.isNone) ((bl,.loop {Lp with state:=if jump.isNone then .ready else .done,pending:=jump})::Y))(h1:dN ps o=some ((bl,.loop {Lp with state:= .busy})::Y):=by kernel_rfl)(h2:Rt o=some jump:=by kernel_rfl):J X o:=by
 have main:∀s w kn e,o=some ⟨s,e,w,kn⟩→WC (RY ro Φ) bl jump ⟨X.ro,den w⟩:=by
  intro s w kn e ho
  subst ho
  have hp:=bJ h1
  obtain⟨L,Rr,hs⟩:=List.append_of_mem (hp.mem_iff.2 (List.mem_append_left _ List.mem_cons_self))
  refine⟨L,_,Rr,hs,_,_,rfl,?_,pG⟩
  have mT:den w=L++(bl,.loop {Lp with state:= .busy})::Rr:=hs
  have hp':(den w).Perm (((bl,.loop {Lp with state:= .busy})::Y)++den (dE ps 0 w)):=hp
  rw[mT] at hp'
  have TH:=(List.perm_middle.symm.trans hp').cons_inv
  exact dL (J:=den (dE ps 0 w)) (List.perm_middle.trans (.cons _ TH)) fA
 unfold Rt at h2
 split at h2<;>try (cases h2;done)
 ·rename_i e w kn;cases h2;intro _;show X.Q .normal _ _;rw[hq.q];exact main _ _ _ _ rfl
 ·rename_i e w kn;cases h2;intro _;show X.Q .ret _ _;rw[hq.q];exact main _ _ _ _ rfl
 rename_i id e w kn;cases h2;intro _;show X.Q (.exit id) _ _;rw[hq.q];exact main _ _ _ _ rfl
theorem jyn{Lp:Loop}{wf:ι→List Sg}{Inv:Nat→ι→Prop}{Sp:Code→ι→Prop}{k:Nat}(hq:QY X bl ro (asV bl Lp wf Inv Sp k))(fA:Sub ro X.ro)(j:ι)(h:Inv (k+1) j)(ps:List Nat)(hl:Lp.state= .ready∧Lp.pending=none:=by exact aEf)(h1:dN ps o=some ((bl,.loop {Lp with state:= .busy})::den (wf j)):=by kernel_rfl)(h2:Rt o=some none:=by kernel_rfl):J X o:=
 jyR hq fA ps (.inl ⟨rfl,j,h,by rcases Lp with ⟨a,b,c,d,e,f,g,i⟩;obtain⟨h1,h2⟩:=hl;dsimp only at h1 h2;subst h1 h2;rfl⟩) h1 h2
theorem jys{Lp:Loop}{wf:ι→List Sg}{Inv:Nat→ι→Prop}{Sp:Code→ι→Prop}{k:Nat}(hq:QY X bl ro (asV bl Lp wf Inv Sp k))(fA:Sub ro X.ro)(jump:Code)(j:ι)(h:Sp jump j)(ps:List Nat)(h1:dN ps o=some ((bl,.loop {Lp with state:= .busy})::den (wf j)):=by kernel_rfl)(h2:Rt o=some (some jump):=by kernel_rfl):J X o:=
 jyR hq fA ps (.inr ⟨rfl,jump,j,h,rfl⟩) h1 h2
end
attribute [irreducible] bgO EW Up Rt
def sH[DecidableEq κ](k:κ):List (κ×Value)→Nat→Option (Nat×Value)
 | [],_=>none
 |x::l,i=>if k=x.1 then some (i,x.2) else sH k l (i+1)
def lkM[DecidableEq κ](k:κ)(F:List (κ×Value)):Option Value:=(sH k F 0).map (·.2)
def tP(k:κ)(v:Value):List (κ×Value)→Nat→List (κ×Value)
 | [],_=>[]
 |_::l,0=>(k,v)::l
 |x::l,i+1=>x::tP k v l i
def mi[DecidableEq κ](k:κ)(v:Value)(F:List (κ×Value)):List (κ×Value):=match sH k F 0 with
 |some (i,_)=>tP k v F i
 |none=>F++[(k,v)]
structure Tv(P:Program)(T:TypeId){κ:Type}[DecidableEq κ](kv:κ→Value):Prop where
 chk:∀(b:Bool) (k:κ) {α:Type} {K:Unit→Sem α} {s:St} {Q:α→St→Prop} {E:Halt→St→Prop},bO P (K ()) s Q E→bO P (Instr.checkKey b 10000 T (kv k) >>= K) s Q E
 find:∀(k:κ) (es:List MapEntry) (F:List (κ×Value)),es.map (fun e=>(e.key,e.val))=F.map (fun x=>(kv x.1,x.2))→∀ {α:Type} {K:Option (Nat×Value)→Sem α} {s:St} {Q:α→St→Prop} {E:Halt→St→Prop},bO P (K (sH k F 0)) s Q E→bO P (Instr.findKey T (kv k) es >>= K) s Q E
 stay:∀k,Instr.sameBits 10000 (kv k) (kv k)=true
theorem qB[DecidableEq κ]{k:κ}:∀ {F:List (κ×Value)} {i j:Nat} {v:Value},sH k F i=some (j,v)→i≤j∧F[j-i]?=some (k,v)
 | [],_,_,_,h=>by cases h
 |x::l,i,j,v,h=>by
  simp only[sH] at h
  split at h
  ·rename_i hk
   cases h
   exact⟨Nat.le_refl _,by simp[hk]⟩
  obtain⟨h1,h2⟩:=qB h
  refine⟨by omega,?_⟩
  rw[show j-i=(j-(i+1))+1 by omega,List.getElem?_cons_succ];exact h2
theorem OG(a b:ByteArray):(a==b)=decide (a=b):=by
 have h:(a==b)=(a.data==b.data):=by cases a;cases b;rfl
 rw[h,Bool.eq_iff_iff]
 cases a;cases b
 simp
theorem D8(a:ByteArray):∀(es:List MapEntry) (F:List (ByteArray×Value)) (i:Nat),es.map (fun e=>(e.key,e.val))=F.map (fun x=>(Value.string x.1,x.2))→Instr.findNow .string (.string a) es i=some (sH a F i)
 | [],[],_,_=>rfl
 | [],_::_,_,h=>by simp at h
 |_::_,[],_,h=>by simp at h
 |e::es,x::F,i,h=>by
  simp only[List.map_cons,List.cons.injEq,Prod.mk.injEq] at h
  obtain⟨⟨h1,h2⟩,h3⟩:=h
  simp only[Instr.findNow,h1,Instr.sameNow,sH,OG]
  by_cases hk:a=x.1
  ·simp[hk,h2]
  simp only[hk,decide_false,if_false]
  exact D8 a es F (i+1) h3
def CkD(P:Program)(dep:Nat)(T:TypeId)(v:Value):Prop:=∀(b:Bool) {α:Type} {K:Unit→Sem α} {s:St} {Q:α→St→Prop} {E:Halt→St→Prop},bO P (Instr.checkKey b dep T v >>= K) s Q E=bO P (K ()) s Q E
theorem aIu{T:TypeId}(tf:TF P T .string sz bE z ag)(a:ByteArray):CkD P (dep+1) T (.string a):=by
 intro b α K s Q E
 simp only[Instr.checkKey,aa,a8 tf,ae]
theorem avv{T:TypeId}(tf:TF P T .string sz bE z ag):Tv P T (fun(a:ByteArray)=>Value.string a) where
 chk b k α K s Q E h:=by rw[aIu (dep:=9999) tf k b];exact h
 find k es F he α K s Q E h:=by
  simp only[Instr.findKey,aa,a8 tf,D8 k es F 0 he,ae]
  exact h
 stay k:=by simp[Instr.sameBits,OG]
def ag7(P:Program)(T:TypeId):Bool:=match ba P T with
 |some ⟨.string,_,_,_⟩=>true
 |_=>false
theorem YF{T:TypeId}(h:ag7 P T=true):Tv P T (fun(a:ByteArray)=>Value.string a):=by
 unfold ag7 at h
 split at h
 ·rename_i dM
  obtain⟨bE,tf⟩:=av dM
  exact avv tf
 cases h
theorem ItX.up{own:Cells}{Ψ:Cells→Prop}(h:ItX P g fi ca ro own N El Ψ)(hs:Sub ro aD):ItX P g fi ca aD own N El Ψ:=
 fun bl aG Inv Stop h1=>h bl aG Inv Stop (hs.trans h1)
def YOK(P:Program)(bl:Nat)(ro:Nat→Option Obj)(N:Nat)(El:(Nat→Option Obj)→Nat→List Value→Cells→Prop)(Inv:Nat→Cells→Prop)(Stop:Cells→Prop):Prop:=
 ∀k vs LL B lq,k <N→El lq k vs LL→Inv k B→Sub ro lq→YX P bl vs lq (LL++B) (fun r B'=>(r= .bool true∧Inv (k+1) B')∨(r= .bool false∧Stop B'))
theorem YOK.up{Inv:Nat→Cells→Prop}{Stop:Cells→Prop}(h:YOK P bl ro N El Inv Stop)(hs:Sub ro aD):YOK P bl aD N El Inv Stop:=
 fun k vs LL B lq h1 h2 h3 h4=>h k vs LL B lq h1 h2 h3 (hs.trans h4)
def Part(L:List α)(p:Nat)(m:List α):Prop:=∃a b,L=a++m++b∧a.length=p
theorem Part.get{L m:List α}{p:Nat}{x:α}(h:Part L p m)(hx:m[i]?=some x):p+i <L.length∧L[p+i]?=some x:=by
 obtain⟨a,b,rfl,rfl⟩:=h
 have hi:=(List.getElem?_eq_some_iff.1 hx).1
 have:(a++m++b)[a.length+i]?=some x:=by
  rw[List.append_assoc,List.getElem?_append_right (by omega),List.getElem?_append_left (by omega),show a.length+i-a.length=i by omega];exact hx
 exact⟨(List.getElem?_eq_some_iff.1 this).1,this⟩
theorem Part.flat{β:Type}{L:List β}{p:Nat}{G:α→List β}{l a b:List α}{s:α}(h:Part L p (l.flatMap G))(hl:l=a++[s]++b):Part L (p+(a.flatMap G).length) (G s):=by
 obtain⟨u,v,rfl,rfl⟩:=h
 subst hl
 exact⟨u++a.flatMap G,b.flatMap G++v,by simp[List.flatMap_append],by simp⟩
theorem P0{T:TypeId}[DecidableEq κ]{kv:κ→Value}(he:∀a b,EqD P 10000 T (kv a) (kv b) (decide (a=b)))(k:κ):∀(es:List MapEntry) (F:List (κ×Value)) (i:Nat),es.map (fun e=>(e.key,e.val))=F.map (fun x=>(kv x.1,x.2))→∀ {α:Type} {K:Option (Nat×Value)→Sem α} {s:St} {Q:α→St→Prop} {E:Halt→St→Prop},bO P (K (sH k F i)) s Q E→bO P (Instr.findAsking T (kv k) es i >>= K) s Q E
 | [],[],_,_,_,_,_,_,_,h=>h
 | [],_::_,_,h,_,_,_,_,_,_=>by simp at h
 |_::_,[],_,h,_,_,_,_,_,_=>by simp at h
 |e::es,x::F,i,h,α,K,s,Q,E,hK=>by
  simp only[List.map_cons,List.cons.injEq,Prod.mk.injEq] at h
  obtain⟨⟨h1,h2⟩,h3⟩:=h
  simp only[Instr.findAsking,aa,h1,Op.equal]
  rw[show Op.maxDepth=10000 from rfl,he k x.1]
  simp only[sH] at hK
  by_cases hk:k=x.1
  ·rw[if_pos hk] at hK
   simp only[hk,decide_true,if_true,ae,h2]
   exact hK
  rw[if_neg hk] at hK
  simp only[hk,decide_false,Bool.false_eq_true,if_false]
  exact P0 he k es F (i+1) h3 hK
theorem Ir{T:TypeId}{k:IntKind}(tf:TF P T (.int k) sz bE z ag)(a:Int):CkD P (dep+1) T (.int k a):=by
 intro b α K s Q E
 simp only[Instr.checkKey,aa,a8 tf,ae]
inductive BN(P:Program)(dep:Nat)(l:List Value):List Field→Prop
 |nil:BN P dep l []
 |cons {f:Field} {fs:List Field} {v:Value} (hn:f.name≠ "_") (hv:IV P f.type l f.offset v) (he:CkD P dep f.type v) (ht:BN P dep l fs):BN P dep l (f::fs)
theorem S7{T:TypeId}{fields:Array Field}(tf:TF P T (.struct fields) sz bE z true)(hf:BN P dep l fields.toList):CkD P (dep+1) T (.agg ⟨l⟩):=by
 intro b α K s Q E
 simp only[Instr.checkKey,aa,a8 tf]
 rw[←Array.forIn_toList]
 generalize fields.toList=fl at hf
 clear tf
 induction hf with
 |nil=>simp only[List.forIn_nil,ae,aa]
 | @cons f fs v hn hv he ht ih=>
  simp only[List.forIn_cons,hn,ne_eq,not_false_eq_true,if_true,aa]
  rw[hv]
  simp only[aa]
  rw[he]
  simp only[ae]
  exact ih
theorem agI{T:TypeId}[DecidableEq κ]{kv:κ→Value}{d:TypeDesc}(tf:TF P T d sz bE z ag)(hl:∀k,∃l,kv k= .agg l)(hc:∀k,CkD P 10000 T (kv k))(he:∀a b,EqD P 10000 T (kv a) (kv b) (decide (a=b)))(hs:∀k,Instr.sameBits 10000 (kv k) (kv k)=true):Tv P T kv where
 chk b k α K s Q E h:=by rw[hc k b];exact h
 find k es F hm α K s Q E h:=by
  simp only[Instr.findKey,aa,a8 tf]
  cases es with
  |nil=>
   cases F with
   |nil=>exact h
   |cons x F=>simp at hm
  |cons e es=>
   have:Instr.findNow d (kv k) (e::es) 0=none:=by
    cases F with
    |nil=>simp at hm
    |cons x F=>
     simp only[List.map_cons,List.cons.injEq,Prod.mk.injEq] at hm
     obtain⟨l,C2⟩:=hl k
     obtain⟨l2,qT⟩:=hl x.1
     simp only[Instr.findNow,hm.1.1,C2,qT]
     cases d<;>rfl
   rw[this]
   exact P0 he k _ F 0 hm h
 stay:=hs
def tF(kv:κ→Value)(F:List (κ×Value))(es:Array MapEntry)(ck:Nat):Prop:=
 es.toList.map (fun e=>(e.key,e.val))=F.map (fun x=>(kv x.1,x.2))∧(es.toList.map (·.born)).Nodup∧∀e∈es.toList,e.born <ck
def jU(r:Nat)(kv:κ→Value)(F:List (κ×Value))(L:Cells):Prop:=∃es ck,L=[(r,.map es ck)]∧tF kv F es ck
def alc(s:St)(r:Nat)(kv:κ→Value)(F:List (κ×Value)):Prop:=∃es ck,s.has r (.map es ck)∧tF kv F es ck
theorem jU.has{kv:κ→Value}{F:List (κ×Value)}{L:Cells}(h:jU r kv F L)(hs:∀x∈L,s.has x.1 x.2):alc s r kv F:=by
 obtain⟨es,ck,rfl,hm⟩:=h
 exact⟨es,ck,hs _ List.mem_cons_self,hm⟩
theorem alc.ext{kv:κ→Value}{F:List (κ×Value)}(h:alc s r kv F)(hs:Ext s s'):alc s' r kv F:=by
 obtain⟨es,ck,h1,h2⟩:=h
 exact⟨es,ck,hs _ _ h1,h2⟩
theorem jU.nil(r:Nat)(kv:κ→Value):jU r kv [] [(r,.map #[] 0)]:=⟨#[],0,rfl,rfl,List.nodup_nil,fun _ h=>(by cases h)⟩
section
variable {X:Cx} {o:Option JS}
def Rj[DecidableEq κ](z:Value)(ok:Bool)(k:κ)(F:List (κ×Value)):Value:=match lkM k F with
 |some v=>bif ok then .tuple ⟨[v,.bool true]⟩ else v
 |none=>bif ok then .tuple ⟨[z,.bool false]⟩ else z
def luV(P:Program)(n:Nat)(p:Oper)(e:Env):Option (TypeId×Value×Value×Value×Bool):=match p.op with
 | .lookup T x y ok=>match ba P T with
  |some ⟨.map K E,_,_,_⟩=>match ba P E with
   |some te=>match bp n e x with
    |some m=>match bp n e y with
     |some k=>some (K,m,k,Pr te.zero te.agg,ok)
     |none=>none
    |none=>none
   |none=>none
  |_=>none
 |_=>none
theorem jlu[DecidableEq κ]{kv:κ→Value}{F:List (κ×Value)}{K:TypeId}(k:κ)(z:Value)(ok:Bool)(ps:List Nat)(B:Cells)(hk:Tv X.P K kv)(hm:∀s:St,Ext ⟨X.ro,[]⟩ s→(∀x∈B,s.has x.1 x.2)→alc s r kv F)(hj:J X (Nf B (Rj z ok k F) o))
 (hv:dC X.n (luV X.P X.n) o=some (K,.map (some r),kv k,z,ok):=by kernel_rfl)(hB:dN ps o=some B:=by kernel_rfl):J X o:=by
 refine jGN hv hB (fun s p e ho hh hf=>?_) hj
 subst ho
 unfold luV at hf
 split at hf<;>try (cases hf;done)
 rename_i T x y ok' az
 split at hf<;>try (cases hf;done)
 rename_i K' E' _ _ _ dM
 split at hf<;>try (cases hf;done)
 rename_i te uo
 split at hf<;>try (cases hf;done)
 rename_i m hx
 split at hf<;>try (cases hf;done)
 rename_i k' hy
 simp only[Option.some.injEq,Prod.mk.injEq] at hf
 obtain⟨rfl,rfl,rfl,rfl,rfl⟩:=hf
 obtain⟨bE,tf⟩:=av dM
 obtain⟨Ap,p9⟩:=av uo
 refine⟨by rw[az];rfl,fun s0 EK ve ops i ho rest hwt s' hs todo Q jJ=>lQ X.hC ho rest hwt (by rw[az];rfl) ?_ hs jJ⟩
 intro s1 bZ f hf K2 E2 hK
 obtain⟨es,ck,jv,CY⟩:=(hm s0 EK ve).ext bZ
 simp only[execOp,az,hf _ _ hx,hf _ _ hy,Instr.lookup,aa,a8 tf]
 refine cG jv rfl rfl ?_
 simp only[ae,aa]
 refine hk.chk _ _ ?_
 simp only[aa]
 refine hk.find k _ F CY.1 ?_
 simp only[Rj,lkM] at hK
 cases x5:sH k F 0 with
 |none=>
  rw[x5] at hK
  simp only[aa,jZ p9,ae]
  cases ok'<;>exact hK
 |some u=>
  obtain⟨i,v⟩:=u
  rw[x5] at hK
  simp only[ae]
  cases ok'<;>exact hK
def avd(p:Oper):Option Unit:=match p.op with
 | .makeMap _ none=>some ()
 |_=>none
theorem jmk(kv:κ→Value)(hj:∀r L,jU r kv [] L→J X (mZ [] (.map (some r)) L o))(hv:eT X.n (fun p _=>avd p) o=some ():=by kernel_rfl):J X o:=by
 obtain⟨ops,i,todo,k,e,w,kn,p,rfl,ho,hw,hc⟩:=dB hv
 intro bY
 unfold avd at hc
 split at hc<;>try (cases hc;done)
 rename_i T az
 rcases p with ⟨dst,op,ty,pos,cY,g⟩
 dsimp only at az;subst az
 refine bR X.hC ho hw (by simp) ?_
 simp only[execOp,Instr.makeMap,Option.map_none,aa,oh,ae]
 intro b hb
 have:=hj b _ (jU.nil b kv)
 rw[od ho] at this
 have:=this bY
 simp only[JP,gq,xJ] at this
 show ab _ _ _ _ _ _ _ _
 rw[aX]
 exact this
def muV(P:Program)(n:Nat)(p:Oper)(e:Env):Option (TypeId×Value×Value×Value):=match p.op with
 | .mapUpdate T x y z| .insert T x y z=>match ba P T with
  |some ⟨.map K _,_,_,_⟩=>match bp n e x with
   |some m=>match bp n e y with
    |some k=>match bp n e z with
     |some v=>some (K,m,k,v)
     |none=>none
    |none=>none
   |none=>none
  |_=>none
 |_=>none
theorem Ff(k:κ)(v:Value):∀(F:List (κ×Value)) (i:Nat),tP k v F i=F.set i (k,v)
 | [],_=>rfl
 |_::_,0=>rfl
 |x::l,i+1=>by simp only[tP,Ff k v l i,List.set_cons_succ]
theorem G5{kv:κ→Value}{k:κ}{v:Value}:∀(es:List MapEntry) (F:List (κ×Value)) (i:Nat),es.map (fun e=>(e.key,e.val))=F.map (fun x=>(kv x.1,x.2))→(es.modify i fun e=>{e with key:=kv k,val:=v}).map (fun e=>(e.key,e.val))=(tP k v F i).map (fun x=>(kv x.1,x.2))
 | [],[],_,_=>by simp[tP]
 | [],_::_,_,h=>by simp at h
 |_::_,[],_,h=>by simp at h
 |e::es,x::F,0,h=>by
  simp only[List.map_cons,List.cons.injEq] at h
  simp[tP,h.2]
 |e::es,x::F,i+1,h=>by
  simp only[List.map_cons,List.cons.injEq] at h
  simp[tP,h.1,G5 es F i h.2]
theorem wV{kx v:Value}:∀(es:List MapEntry) (i:Nat),(es.modify i fun e=>{e with key:=kx,val:=v}).map (·.born)=es.map (·.born)
 | [],i=>by simp
 |e::es,0=>by simp
 |e::es,i+1=>by simp[wV es i]
theorem jmu[DecidableEq κ]{kv:κ→Value}{F:List (κ×Value)}{K:TypeId}{L:Cells}(i:Nat)(k:κ)(v:Value)(hk:Tv X.P K kv)(hm:jU r kv F L)(hj:∀L',jU r kv (mi k v F) L'→J X (mZ [i] undef L' o))
 (hv:eT X.n (muV X.P X.n) o=some (K,.map (some r),kv k,v):=by kernel_rfl)(hB:dN [i] o=some L:=by kernel_rfl):J X o:=by
 obtain⟨ops,i0,todo,kk,e,w,kn,p,rfl,ho,hw,hc⟩:=dB hv
 intro bY
 rcases p with ⟨dst,op,ty,pos,cY,g⟩
 have main:∀T x y z,(op= .mapUpdate T x y z∨op= .insert T x y z)→muV X.P X.n ⟨dst,.mapUpdate T x y z,ty,pos,cY,g⟩ e=some (K,.map (some r),kv k,v)→ab X.C X.fn X.aA ops (i0::todo) (KQ X kk) (A X.n e X.D) ⟨X.ro,den w⟩:=by
  intro T x y z heq hc
  simp only[muV] at hc
  split at hc<;>try (cases hc;done)
  rename_i K' E' _ _ _ dM
  split at hc<;>try (cases hc;done)
  rename_i m hx
  split at hc<;>try (cases hc;done)
  rename_i k' hy
  split at hc<;>try (cases hc;done)
  rename_i v' hz
  simp only[Option.some.injEq,Prod.mk.injEq] at hc
  obtain⟨rfl,rfl,rfl,rfl⟩:=hc
  obtain⟨bE,tf⟩:=av dM
  have hp:=bJ hB
  obtain⟨es,ck,rfl,CY⟩:=hm
  obtain⟨L1,R1,bZ⟩:=List.append_of_mem (hp.mem_iff.2 (List.mem_append_left _ List.mem_cons_self))
  have hle:∀L',jU r kv (mi k v' F) [(r,L')]→ab X.C X.fn X.aA ops todo (KQ X kk) (A X.n (upd dst undef e) X.D) ⟨X.ro,L1++(r,L')::R1⟩:=by
   intro L' hL
   have:=hj _ hL
   rw[od ho] at this
   have:=this bY
   simp only[JP,gq] at this
   refine this.more X.hC (dL (J:=[]) ?_ (Sub.refl _))
   have hp':(den w).Perm ([(r,.map es ck)]++den (dE [i] 0 w)):=hp
   have aQR:den w=L1++(r,.map es ck)::R1:=bZ
   rw[aQR] at hp'
   have TH:=(List.perm_middle.symm.trans hp').cons_inv
   rw[List.append_nil]
   exact List.perm_middle.trans (List.Perm.cons _ TH)
  have jv:(⟨X.ro,den w⟩:St).has r (.map es ck):= .inr (by show _∈den w;rw[show den w=_ from bZ];exact fp)
  refine bR X.hC ho hw (by rcases heq with rfl|rfl<;>simp) ?_
  have hex:∀f:Operand→Value,execOp f ⟨dst,op,ty,pos,cY,g⟩=(do Instr.mapUpdate T (f x) (f y) (f z);pure .skip:Sem Next):=by
   intro f;rcases heq with rfl|rfl<;>simp only[execOp]
  rw[hex,aF hx,aF hy,aF hz]
  simp only[Instr.mapUpdate,aa,a8 tf]
  refine cG jv rfl rfl ?_
  simp only[aa]
  refine hk.chk _ _ ?_
  simp only[aa]
  refine hk.find k _ F CY.1 ?_
  have fin:∀ob,jU r kv (mi k v' F) [(r,ob)]→upon X.C X.P X.aA dst (A X.n e X.D) (fun a' s'=>ab X.C X.fn X.aA ops todo (KQ X kk) a' s') (KQ X kk) .skip ⟨X.ro,L1++(r,ob)::R1⟩:=by
   intro ob hL
   show ab _ _ _ _ _ _ _ _
   have:=hle ob hL
   rw[←aX] at this
   exact this
  cases x5:sH k F 0 with
  |some u=>
   obtain⟨j,u⟩:=u
   have TP:=qB x5
   simp only[Nat.sub_zero] at TP
   have aRO:((es[j]?).map (·.key)).getD (kv k)=kv k:=by
    have h1:(es.toList.map (fun e=>(e.key,e.val)))[j]?=some (kv k,u):=by rw[CY.1];simp[TP.2]
    simp only[List.getElem?_map,Array.getElem?_toList] at h1
    cases he:es[j]? with
    |none=>rfl
    |some e1=>rw[he] at h1;simp at h1;simp[h1.1]
   simp only[aa,Instr.keyThatStays,aRO,hk.stay,if_true,ae]
   refine ei rfl bZ rfl<|fin _ ⟨_,_,rfl,?_,?_,?_⟩
   ·simp only[Array.toList_modify,mi,x5]
    exact G5 _ _ _ CY.1
   ·simp only[Array.toList_modify,wV];exact CY.2.1
   intro e1 h1
   have:e1.born∈((es.toList.modify j fun e=>{e with key:=kv k,val:=v'}).map (·.born)):=List.mem_map_of_mem (by simpa using h1)
   rw[wV] at this
   obtain⟨e2,h3,h4⟩:=List.mem_map.1 this
   rw[←h4];exact CY.2.2 e2 h3
  |none=>
   refine ei rfl bZ rfl<|fin _ ⟨_,_,rfl,?_,?_,?_⟩
   ·simp only[Array.toList_push,List.map_append,mi,x5,CY.1];rfl
   ·simp only[Array.toList_push,List.map_append,List.map_cons,List.map_nil]
    refine List.nodup_append.2 ⟨CY.2.1,by simp,?_⟩
    intro a ha b hb
    obtain⟨e2,h3,rfl⟩:=List.mem_map.1 ha
    have:=CY.2.2 e2 h3
    simp only[List.mem_singleton] at hb
    omega
   intro e1 h1
   simp only[Array.toList_push,List.mem_append,List.mem_singleton] at h1
   rcases h1 with h1|rfl
   ·have:=CY.2.2 e1 h1;omega
   exact Nat.lt_succ_self _
 have hc2:=hc
 unfold muV at hc
 split at hc<;>try (cases hc;done)
 ·rename_i T x y z az
  dsimp only at az
  exact main T x y z (.inl az) (by rw[←hc2,az])
 rename_i T x y z az
 dsimp only at az
 refine main T x y z (.inr az) ?_
 rw[←hc2,az];rfl
end
attribute [irreducible] luV avd muV
section
variable {X:Cx} {o:Option JS}
def Mr(P:Program)(n:Nat)(p:Oper)(e:Env):Option (FuncId×List Value):=match p.op with
 | .call ⟨.invoke x name,xs,_⟩=>match bp n e x with
  |some (.iface t v)=>match bw P (method (P.types.size+Made.depth) t v name) with
   |some (f,r)=>match x6 n e xs.toList with
    |some vs=>bif BU P f then some (f,r::vs) else none
    |none=>none
   |none=>none
  |_=>none
 |_=>none
theorem akI(h:Mr P n p e=some (f,vs)):FF P f∧∃x name xs at_ t v r ws,p.op= .call ⟨.invoke x name,xs,at_⟩∧bp n e x=some (.iface t v)∧bw P (method (P.types.size+Made.depth) t v name)=some (f,r)∧x6 n e xs.toList=some ws∧vs=r::ws:=by
 unfold Mr at h
 split at h<;>try (cases h;done)
 rename_i x name xs at_ az
 split at h<;>try (cases h;done)
 rename_i t v hx
 split at h<;>try (cases h;done)
 rename_i f0 r hm
 split at h<;>try (cases h;done)
 rename_i ws si
 cases hb:BU P f0 with
 |false=>rw[hb] at h;cases h
 |true=>
  rw[hb] at h
  simp only[cond_true,Option.some.injEq,Prod.mk.injEq] at h
  obtain⟨rfl,rfl⟩:=h
  exact⟨ld hb,x,name,xs,at_,t,v,r,ws,az,hx,hm,si,rfl⟩
theorem jpI{V:Value}(hf:∀aG,Sub X.ro aG→du X.P f vs aG V)(hj:J X (Nf [] V o))(h1:dC X.n (Mr X.P X.n) o=some (f,vs):=by kernel_rfl)(h3:dN [] o=some []:=by kernel_rfl):J X o:=by
 refine jGN h1 h3 (fun s p e ho hh hc=>?_) hj
 obtain⟨ff,x,name,xs,at_,t,v,r,ws,az,hx,hm,si,rfl⟩:=akI hc
 rcases p with ⟨dst,op,ty,pos,cY,g⟩
 dsimp only at az;subst az
 refine⟨rfl,fun s0 EK ve ops i sr rest hw s' hs todo Q hk=>?_⟩
 refine bR X.hC sr hw (by simp) ?_
 have e1:=aF (aZ (rest:=rest) hx)
 have e2:xs.map (ev X.n (e++rest))=⟨ws⟩:=sB (xH si)
 simp only[execOp,resolve,e1,e2,ae]
 have hex:((#[Value.iface t v]++(⟨ws⟩:Array Value)).extract 1 (#[Value.iface t v]++(⟨ws⟩:Array Value)).size)=⟨ws⟩:=by simp
 have h0:(#[Value.iface t v]++(⟨ws⟩:Array Value))[0]?=some (.iface t v):=by simp
 simp only[invoke,h0,hex,callMethod,aa,eN]
 refine aY hm ?_
 have mI:(#[r]++⟨ws⟩:Array Value)=⟨r::ws⟩:=by simp
 rw[mI]
 refine j5 ff ?_
 have hu:=(du.use (s:=⟨X.ro,[]⟩) (sz:=s') (fun b o hb=>hs _ _ (EK _ _ hb)) (fun aG h1=>hf aG fun b ob hb=>h1 b ob (.inl hb))).weaken X.hC
 refine Fn.mono hu fun en s1 DY=>?_
 obtain⟨rfl,hle⟩:=DY
 show ab _ _ _ _ _ _ _ _
 rw[aX]
 exact hk.more X.hC hle
theorem jS{β:Type}{f:Oper→Env→Option β}{r:β}(ps:List Nat)(B:Cells)(hv:eT X.n f o=some r)(hB:dN ps o=some B)
 (hy:∀p e,f p e=some r→(∀c,p.op≠ .defer c)∧∀(R:Cells) (Q:Next→St→Prop) (E:Halt→St→Prop),(∀v L',Φ v L'→Q (.value v) ⟨X.ro,L'++R⟩)→bO X.P (execOp (ev X.n e) p) ⟨X.ro,B++R⟩ Q E)
 (hj:∀v L',Φ v L'→J X (mZ ps v L' o)):J X o:=by
 obtain⟨ops,i,todo,k,e,w,kn,p,rfl,ho,hw,hc⟩:=dB hv
 intro bY
 have hp:=bJ hB
 obtain⟨hd,ht⟩:=hy p e hc
 have:ab X.C X.fn X.aA ops (i::todo) (KQ X k) (A X.n e X.D) ⟨X.ro,B++den (dE ps 0 w)⟩:=by
  refine bR X.hC ho hw hd<|ht _ _ _ fun v L' pG=>?_
  have:=hj v L' pG
  rw[od ho] at this
  have:=this bY
  simp only[JP,gq] at this
  show ab _ _ _ _ _ _ _ _
  rw[aX]
  exact this
 have hle:(⟨X.ro,B++den (dE ps 0 w)⟩:St).le ⟨X.ro,den w⟩:=⟨[],by rw[List.append_nil];exact hp,fun b o hb=> .inl hb⟩
 exact this.more X.hC hle
end
attribute [irreducible] Mr
section
variable {X:Cx} {o:Option JS}
def iaA(P:Program)(n:Nat)(p:Oper)(e:Env):Option (Nat×Nat×Int×Nat×Nat):=match p.op with
 | .indexAddr T x y=>match ba P T with
  |some ⟨.array len E,_,_,_⟩=>match ba P E with
   |some te=>match bp n e x with
    |some (.pointer (some ⟨b,off,none⟩))=>match bp n e y with
     |some (.int _ ix)=>some (b,off,ix,len,te.size)
     |_=>none
    |_=>none
   |none=>none
  |_=>none
 |_=>none
theorem I6{b len:Nat}(ix:Int)(hi:0≤ix∧ix <len)(hj:J X (jR (.pointer (some ⟨b,off+ix.toNat*sz,none⟩)) o))(hv:dC X.n (iaA X.P X.n) o=some (b,off,ix,len,sz):=by kernel_rfl):J X o:=by
 refine jG hv (fun s p e ho hh hf=>?_) hj
 unfold iaA at hf
 split at hf<;>try (cases hf;done)
 rename_i T x y az
 split at hf<;>try (cases hf;done)
 rename_i aEk E _ _ _ dM
 split at hf<;>try (cases hf;done)
 rename_i te uo
 split at hf<;>try (cases hf;done)
 rename_i b' auZ hx
 split at hf<;>try (cases hf;done)
 rename_i ik ix' hy
 simp only[Option.some.injEq,Prod.mk.injEq] at hf
 obtain⟨rfl,rfl,rfl,rfl,rfl⟩:=hf
 obtain⟨bE,tf⟩:=av dM
 obtain⟨Ap,p9⟩:=av uo
 have key:∀s,Yields X.P X.n e p s (.pointer (some ⟨b',auZ+ix'.toNat*te.size,none⟩)):=by
  intro s s' mT f hf K E hK
  simp only[execOp,az,Instr.indexAt,Instr.sureAddr,hf _ _ hx,hf _ _ hy,asIntOf,aa,ae,a8 tf,hi,and_self,if_true,cu p9,dK]
  exact hK
 exact⟨by rw[az];rfl,fun _=>key _,fun _=>key⟩
def saV(P:Program)(n:Nat)(p:Oper)(e:Env):Option (Nat×Nat×Int×Nat):=match p.op with
 | .slice T x none (some z) none=>match ba P T with
  |some ⟨.array len E,_,_,_⟩=>match ba P E with
   |some _=>match bp n e x with
    |some (.pointer (some ⟨b,off,none⟩))=>match bp n e z with
     |some (.int _ ix)=>some (b,off,ix,len)
     |_=>none
    |_=>none
   |none=>none
  |_=>none
 |_=>none
theorem jah{b len:Nat}(hi:Int)(hl:0≤hi∧hi≤len)(hj:J X (jR (.slice (some ⟨b,off,none⟩) hi.toNat len) o))(hv:dC X.n (saV X.P X.n) o=some (b,off,hi,len):=by kernel_rfl):J X o:=by
 refine jG hv (fun s p e ho hh hf=>?_) hj
 unfold saV at hf
 split at hf<;>try (cases hf;done)
 rename_i T x z az
 split at hf<;>try (cases hf;done)
 rename_i aEk E _ _ _ dM
 split at hf<;>try (cases hf;done)
 rename_i te uo
 split at hf<;>try (cases hf;done)
 rename_i b' auZ hx
 split at hf<;>try (cases hf;done)
 rename_i ik ix' hy
 simp only[Option.some.injEq,Prod.mk.injEq] at hf
 obtain⟨rfl,rfl,rfl,rfl⟩:=hf
 obtain⟨bE,tf⟩:=av dM
 obtain⟨Ap,p9⟩:=av uo
 have key:∀s,Yields X.P X.n e p s (.slice (some ⟨b',auZ,none⟩) ix'.toNat aEk):=by
  intro s s' mT f hf K E hK
  simp only[execOp,az,Option.map_some,Option.map_none,Instr.sliceAt,Instr.sliceBounds,Instr.sliceBound,Instr.sureAddr,hf _ _ hx,hf _ _ hy,asIntOf,aa,ae,a8 tf,Option.isSome_none,Bool.false_eq_true,if_false,hl,and_self,if_true,cu p9,Nat.zero_mul,dK,Nat.add_zero,ite_self,Nat.sub_zero]
  exact hK
 exact⟨by rw[az];rfl,fun _=>key _,fun _=>key⟩
end
theorem qh{b:Nat}{v:Value}(h:s.has b (.cells ⟨l⟩ t fz))(hv:nth l off=some v):cD s b off 1 [v]:=
 ⟨_,_,_,h,by rw[r5] at hv;simp[iQ (show off+1≤l.length by have:=(List.getElem?_eq_some_iff.1 hv).1;omega),List.drop_eq_getElem_cons (List.getElem?_eq_some_iff.1 hv).1,(List.getElem?_eq_some_iff.1 hv).2]⟩
theorem ae4{b o m:Nat}{v:Value}(h:cD s b o m l)(hv:nth l off=some v):cD s b (o+off) 1 [v]:=
 h.part off 1 (by rw[r5] at hv;simp[iQ (show off+1≤l.length by have:=(List.getElem?_eq_some_iff.1 hv).1;omega),List.drop_eq_getElem_cons (List.getElem?_eq_some_iff.1 hv).1,(List.getElem?_eq_some_iff.1 hv).2])
open Go.ConcR (KK wgBlock WgAt stA smA rd wr)
def TT(T:Goroutine→St→Prop)(b:Frame)(Ag:List Item)(cs:List Frame)(n:Nat)(D:List Deferred)(ro:Nat→Option Obj)(o:Option JS):Prop:=
 ∀e w kn,o=some ⟨.fin .normal,e,w,kn⟩→Knows ro kn.c→T (G (aL b (A n e D) Ag) cs) ⟨ro,den w⟩
def CT(hm:P.follows .mixedOrders=true)(hT:Closed P main T)(b:Frame)(Ag:List Item)(cs:List Frame)(n:Nat)(D:List Deferred)(ro:Nat→Option Obj):Cx:=
 ⟨P,fun m T'=>m=main∧T'=T,by rintro _ _ ⟨rfl,rfl⟩;exact hT,hm,b.fn,none,n,D,ro,jN T b Ag cs⟩
def Wu:Option JS→Bool
 |some ⟨.fin .normal,_,_,_⟩=>true
 |_=>false
def opO(ops:Array Oper)(todo:List Nat):Option JS→Option JS
 |some ⟨.fin .normal,e,w,kn⟩=>some ⟨.ops ops todo [],e,w,⟨kn.c,[]⟩⟩
 |_=>none
def cdO(c:Code):Option JS→Option JS
 |some ⟨.fin .normal,e,w,kn⟩=>some ⟨.code c [],e,w,⟨kn.c,[]⟩⟩
 |_=>none
def stO(dst:Option Tmp)(v:Value):Option JS→Option JS
 |some ⟨p,e,w,kn⟩=>some ⟨p,upd dst v e,w,kn⟩
 |none=>none
def nwO(dst:Option Tmp)(v:Value)(q:Nat)(ob:Obj):Option JS→Option JS
 |some ⟨p,e,w,kn⟩=>some ⟨p,upd dst v e,.b q ob::w,kn⟩
 |none=>none
def adO(L:Cells):Option JS→Option JS
 |some ⟨p,e,w,kn⟩=>some ⟨p,e,.l L::w,kn⟩
 |none=>none
def evO(n:Nat)(x:Operand):Option JS→Option Value
 |some ⟨_,e,_,_⟩=>bp n e x
 |none=>none
def aUM(n:Nat)(xs:List Operand):Option JS→Option (List Value)
 |some ⟨_,e,_,_⟩=>x6 n e xs
 |none=>none
def vaO(P:Program)(n:Nat)(a:Oper):Option JS→Option Value
 |some ⟨_,e,_,_⟩=>ad4 P n e a
 |none=>none
theorem acr(h:Wu o=true):∃e w kn,o=some ⟨.fin .normal,e,w,kn⟩:=by
 unfold Wu at h
 split at h
 ·exact⟨_,_,_,rfl⟩
 cases h
def fr0(f:FuncId)(k:CallKind):Frame:={(default:Frame) with fn:=f,kind:=k,roundOf:=none}
section
variable {P:Program} {main:Bool} {T:Goroutine→St→Prop} {b:Frame} {Ag:List Item} {cs:List Frame} {n:Nat} {D:List Deferred} {ro:Nat→Option Obj} {o:Option JS} {ops:Array Oper}
theorem aet(h:TT T b Ag cs n D ro o)(hQ:X.Q=jN T b Ag cs)(hn:X.n=n)(hD:X.D=D)(A7:X.ro=ro)(h1:Wu o=true):J X o:=by
 subst hn hD A7
 obtain⟨e,w,kn,rfl⟩:=acr h1
 intro bY
 show X.Q .normal _ _
 rw[hQ]
 exact h _ _ _ rfl bY
theorem xV{hm:P.follows .mixedOrders=true}{hT:Closed P main T}(h:TT T b Ag cs n D ro o)(h1:Wu o=true:=by kernel_rfl):J (CT hm hT b Ag cs n D ro) o:=aet h rfl rfl rfl rfl h1
theorem aB6{hm:P.follows .mixedOrders=true}{hT:Closed P main T}(h:TT T b Ag cs n D ro o)(h1:Wu o=true:=by kernel_rfl):J ((CT hm hT b Ag cs n D pE).at ro) o:=aet h rfl rfl rfl rfl h1
theorem aB5{hm:P.follows .mixedOrders=true}{hT:Closed P main T}(h:TT T b Ag cs n (dY bd::D) ro o)(h1:Wu o=true:=by kernel_rfl):J ((CT hm hT b Ag cs n D ro).dm bd) o:=aet h rfl rfl rfl rfl h1
theorem vL(hm:P.follows .mixedOrders=true)(hT:Closed P main T)(hj:J (CT hm hT b Ag cs n D ro) (opO ops todo o))(hk:b.kind≠ .early:=by decide)(hr:b.roundOf=none:=by rfl):TT T b (.inRegion ops todo::Ag) cs n D ro o:=by
 rintro e w kn rfl bY
 exact hj bY main T ⟨rfl,rfl⟩ b Ag cs rfl hk hr fun e a s q=>q
theorem aB7(hm:P.follows .mixedOrders=true)(hT:Closed P main T){c:Code}(hj:J (CT hm hT b Ag cs n D ro) (cdO c o))(hk:b.kind≠ .early:=by decide)(hr:b.roundOf=none:=by rfl):TT T b (.code c::Ag) cs n D ro o:=by
 rintro e w kn rfl bY
 exact hj bY main T ⟨rfl,rfl⟩ b Ag cs rfl hk hr fun e a s q=>q
theorem tSt(hT:Closed P main T)(ef:Env)(wf:List Sg)(ps:List Nat)(h:∀rest,TT T b Ag cs n D ro (some ⟨.fin .normal,ef++rest,wf,⟨[],[]⟩⟩))(h1:rq (ni ef) o=some ef:=by kernel_rfl)(h2:rh ps o=some wf:=by kernel_rfl)(h3:lkE (ni ef) ef=some ef:=by kernel_rfl):TT T b Ag cs n D ro o:=by
 rintro e w kn rfl bY
 obtain⟨rest,he⟩:=fX (n:=n) (D:=D) (kN (by rw[td] at h1;exact h1)) (kN h3)
 rw[he]
 exact hT.mono _ ⟨ro,den wf⟩ _ (dL (lP h2) (Sub.refl _)) (h rest _ _ _ rfl fun _ h=>(by cases h))
section
variable {k:List Item} {rest l:List Code} (hT:Closed P main T)
include hT
theorem qd(hl:gE l= .region id ops false::rest)(h:∀l',gE l'=rest→TT T b (.inRegion ops (List.range ops.size)::(l'.map .code++k)) cs n D ro o):TT T b (l.map .code++k) cs n D ro o:=
 fun e w kn ho bY=>dH hT hl fun l' zb=>h l' zb e w kn ho bY
theorem XE{c:Operand}{x y:Code}{t q:Bool}(hl:gE l= .cond c x y::rest)(hq:q=t)(h:∀l',gE l'=rest→TT T b (.code (if t then x else y)::(l'.map .code++k)) cs n D ro o)(hc:evO n c o=some (.bool q):=by kernel_rfl):TT T b (l.map .code++k) cs n D ro o:=by
 subst hq
 rintro e w kn rfl bY
 exact AV hT hl (by rw[eg];exact aF hc) fun l' zb=>h l' zb e w kn rfl bY
theorem MJ{c:Code}(hl:gE l= .block id c::rest)(h:∀l',gE l'=rest→TT T b ([c].map .code++(.inBlock id::(l'.map .code++k))) cs n D ro o):TT T b (l.map .code++k) cs n D ro o:=
 fun e w kn ho bY=>wh hT hl fun l' zb=>h l' zb e w kn ho bY
theorem aqH{c:Code}(hl:gE l= .loop c::rest)(h:∀l',gE l'=rest→TT T b ([c].map .code++(.inLoop c::(l'.map .code++k))) cs n D ro o):TT T b (l.map .code++k) cs n D ro o:=
 fun e w kn ho bY=>Nn hT hl fun l' zb=>h l' zb e w kn ho bY
theorem aqI{c:Code}(hl:gE l=c::rest)(h:∀l',gE l'=rest→TT T b (.code c::(l'.map .code++k)) cs n D ro o):TT T b (l.map .code++k) cs n D ro o:=
 fun e w kn ho bY=>nP hT hl fun l' zb=>h l' zb e w kn ho bY
theorem aqF(h:TT T b k cs n D ro o):TT T b (.code .skip::k) cs n D ro o:=fun e w kn ho bY=>Oq hT (h e w kn ho bY)
theorem aqJ{k':List Item}(hk:exitTo id k=some k')(h:TT T b k' cs n D ro o):TT T b (.code (.exit id)::k) cs n D ro o:=fun e w kn ho bY=>Ot hT hk (h e w kn ho bY)
theorem aqK(h:TT T b k cs n D ro o):TT T b (.inBlock id::k) cs n D ro o:=fun e w kn ho bY=>Dh hT (h e w kn ho bY)
theorem XB(h:TT T b k cs n D ro o):TT T b (.inRegion ops []::k) cs n D ro o:=fun e w kn ho bY=>gZ hT (h e w kn ho bY)
theorem aeu{c:Code}(h:TT T b ([c].map .code++(.inLoop c::k)) cs n D ro o):TT T b (.inLoop c::k) cs n D ro o:=fun e w kn ho bY=>Aa hT (h e w kn ho bY)
theorem aB1{a:Oper}{f:Nat→Value}{ob:Obj}(ho:ops[i]?=some a) (hg:a.guard=none) (tq:∀e q,UY P (execOp (ev n e) a) q=some (ob,f q)) (hk:b.kind≠ .early) (hr:b.roundOf=none)
 (h:∀q,TT T b (.inRegion ops todo::k) cs n D ro (nwO a.dst (f q) q ob o)):TT T b (.inRegion ops (i::todo)::k) cs n D ro o:=by
 rintro e w kn rfl bY
 refine sZ hT ho (dA _ _ hg) hk hr ?_
 rw[eg]
 refine G0 (f:=f) (fun q _=>⟨_,rfl,?_⟩) _ (tq e)
 rw[aX]
 have:=h q _ _ _ rfl bY
 rw[iH] at this
 exact this
theorem aBY{a:Oper}(v:Value)(ho:ops[i]?=some a) (hg:a.guard=none) (hk:b.kind≠ .early) (hr:b.roundOf=none) (h:TT T b (.inRegion ops todo::k) cs n D ro (stO a.dst v o)) (hv:vaO P n a o=some v:=by kernel_rfl):TT T b (.inRegion ops (i::todo)::k) cs n D ro o:=by
 rintro e w kn rfl bY
 refine sZ hT ho (dA _ _ hg) hk hr ?_
 rw[eg]
 refine Ay hv _ (Ext.refl _) _ (fun _ _ h=>aF h) _ _ ⟨v,rfl,?_⟩
 rw[aX]
 exact h _ _ _ rfl bY
theorem tLd{a:Oper}(v:Value)(ho:ops[i]?=some a) (hg:a.guard=none) (az:a.op= .load U x) (ht:(ba P U).map (·.agg)=some false) (hk:b.kind≠ .early) (hr:b.roundOf=none) (hb:∀e w kn,o=some ⟨.fin .normal,e,w,kn⟩→(⟨ro,den w⟩:St).has q (.cells ⟨[v]⟩ t fz))
 (h:TT T b (.inRegion ops todo::k) cs n D ro (stO a.dst v o)) (hx:evO n x o=some (.pointer (some ⟨q,0,none⟩)):=by kernel_rfl):TT T b (.inRegion ops (i::todo)::k) cs n D ro o:=by
 rintro e w kn rfl bY
 refine sZ hT ho (dA _ _ hg) hk hr ?_
 rw[eg]
 cases dM:ba P U with
 |none=>rw[dM] at ht;cases ht
 |some z=>
 rw[dM] at ht
 simp only[Option.map_some,Option.some.injEq] at ht
 obtain⟨bE,tf⟩:=av dM
 rw[ht] at tf
 simp only[execOp,az,Instr.loadAt,aF hx,Instr.sureAddr,loadVar,aa,ae,kF tf,Bool.false_eq_true,if_false]
 refine vK ⟨[v],t,fz,hb _ _ _ rfl,rfl⟩ ⟨v,rfl,?_⟩
 rw[aX]
 exact h _ _ _ rfl bY
theorem aML{a:Oper}(v:Value)(ho:ops[i]?=some a) (hg:a.guard=none) (az:a.op= .load U x) (ht:(ba P U).map (·.agg)=some false) (hk:b.kind≠ .early) (hr:b.roundOf=none) (ps:List Nat) (t:TypeId)
 (h:TT T b (.inRegion ops todo::k) cs n D ro (stO a.dst v o)) (hx:evO n x o=some (.pointer (some ⟨q,0,none⟩)):=by kernel_rfl) (hd:dN ps o=some [(q,.cells ⟨[v]⟩ t (0,0))]:=by kernel_rfl):TT T b (.inRegion ops (i::todo)::k) cs n D ro o:=
 tLd hT v ho hg az ht hk hr (fz:=(0,0)) (t:=t) (q:=q) (fun e w kn he=>by
  subst he
  exact .inr ((bJ hd).mem_iff.2 (List.mem_append_left _ (List.mem_singleton.2 rfl)))) h hx
end
theorem atI(hT:Closed P main T){a:Oper}{xs:Array Operand}(ho:ops[i]?=some a) (hg:a.guard=none) (az:a.op= .defer ⟨.value (.func f),xs,ats⟩) (hk:b.kind≠ .early) (hr:b.roundOf=none)
 (h:TT T b k cs n ({target:= .fn (.func f) ⟨[]⟩,args:=⟨vs⟩}::D) ro (stO a.dst undef o)) (hx:aUM n xs.toList o=some vs:=by kernel_rfl):TT T b (.inRegion ops [i]::k) cs n D ro o:=by
 rintro e w kn rfl bY
 have hC:∀m T',(fun m T'=>m=main∧T'=T:Class) m T'→Closed P m T':=by rintro _ _ ⟨rfl,rfl⟩;exact hT
 have key:ab (fun m T'=>m=main∧T'=T) b.fn none ops [i] (jN T b k cs) (A n e D) ⟨ro,den w⟩:=by
  refine Nm (P:=P) hC ho (dA _ _ hg) (.inl rfl) ?_
  rw[eg]
  have e1:ev n e (.func f)= .func (.func f) #[] #[]:=rfl
  have e2:xs.map (ev n e)=⟨vs⟩:=sB hx
  simp only[execOp,az,resolve,e1,Deferred.ofValue,ae,e2]
  refine⟨rfl,?_⟩
  have hA:({A n e D with defers:={target:= .fn (.func f) ⟨[]⟩,args:=⟨vs⟩}::(A n e D).defers}:Act).put a.dst undef=A n (upd a.dst undef e) ({target:= .fn (.func f) ⟨[]⟩,args:=⟨vs⟩}::D):=by
   rw[←aX];rfl
  have he:(⟨[]⟩:Array Value)++(⟨vs⟩:Array Value)=⟨vs⟩:=by simp
  rw[he]
  have:=h _ _ _ rfl bY
  rw[←hA] at this
  exact fun m T' hc b' k' Jj h1 h2 h3 h4=>by
   obtain⟨rfl,rfl⟩:=hc
   exact gZ hT (h4 .normal _ _ this)
 exact key main T ⟨rfl,rfl⟩ b k cs rfl hk hr fun e a s q=>q
end
attribute [irreducible] Wu opO cdO
structure ak7(L:Nat→Option Obj)(X:Cells)(ro aD:Nat→Option Obj):Prop where
 of:∀q o,L q=some o→(q,o)∈X
 on:∀q o,(q,o)∈X→L q=some o
 sub:Sub ro aD
 kn:Knows aD X
 nd:(X.map (·.1)).Nodup
 ap:∀q o,(q,o)∈X→ro q=none
def bkO(L:Cells):Option JS→Option JS
 |some ⟨p,e,w,_⟩=>some ⟨p,e,.l L::w,⟨[],[]⟩⟩
 |none=>none
def Uv(ps:List Nat):Option JS→Option Cells
 |some ⟨_,_,w,_⟩=>some (den (dE ps 0 w))
 |none=>none
def YB:Option JS→Option JS
 |some ⟨p,e,_,kn⟩=>some ⟨p,e,[],⟨kn.c,[]⟩⟩
 |none=>none
theorem Dj:∀(w:List Sg) (k:Nat),dE [] k w=w
 | [],_=>rfl
 |x::w,k=>by
  simp only[dE,bk]
  rw[Dj w]
  rfl
theorem ak7.back{L:Nat→Option Obj}{X:Cells}{roK:Nat→Option Obj}{rwK:Cells}(h:ak7 L X ro aD)(hs:Sub aD roK):
 (∀w,aR ⟨roK,rwK⟩ w→(∀b o,L b=some o→w.heap[b]?=some o)→aR ⟨ro,X++rwK⟩ w)∧∀b,(⟨ro,X++rwK⟩:St).knows b→L b≠none∨(⟨roK,rwK⟩:St).knows b:=by
 refine⟨fun w hw hL=>⟨fun q o hq=>hw.ro q o (hs _ _ (h.sub _ _ hq)),fun q o hq=>?_,?_,fun q o hq=>?_⟩,fun q hq=>?_⟩
 ·rcases List.mem_append.1 hq with hq|hq
  ·exact hL q o (h.on q o hq)
  exact hw.rw q o hq
 ·show ((X++rwK).map (·.1)).Nodup
  rw[List.map_append,List.nodup_append]
  refine⟨h.nd,hw.nodup,fun q hq q' Fs e=>?_⟩
  subst e
  obtain⟨⟨q1,o1⟩,h1,rfl⟩:=List.mem_map.1 hq
  obtain⟨⟨q2,o2⟩,h2,e2⟩:=List.mem_map.1 Fs
  simp only at e2
  subst e2
  have h3:=hs _ _ (h.kn _ h1)
  have h4:=hw.apart _ _ h2
  dsimp only at h3 h4
  rw[h4] at h3
  cases h3
 ·show ro q=none
  rcases List.mem_append.1 hq with hq|hq
  ·exact h.ap q o hq
  have h2:roK q=none:=hw.apart q o hq
  cases hr:ro q with
  |none=>rfl
  |some o'=>rw[hs _ _ (h.sub _ _ hr)] at h2;cases h2
 rcases hq with hq| ⟨o,hq⟩
 ·have hq:ro q≠none:=hq
  cases hr:ro q with
  |none=>exact absurd hr hq
  |some o'=>exact .inr (.inl (by show roK q≠none;rw[hs _ _ (h.sub _ _ hr)];simp))
 rcases List.mem_append.1 hq with h'|h'
 ·exact .inl (by rw[h.on q o h'];simp)
 exact .inr (.inr ⟨o,h'⟩)
section
variable {ι:Type} {E:dO ι} {Q:Machine→Outcome→World→Trace→Prop} {b:Frame} {Ag:List Item} {cs:List Frame} {n:Nat} {D:List Deferred} {ro:Nat→Option Obj} {o:Option JS} {ops:Array Oper} {L:Nat→Option Obj}
theorem atH{tm:Bool}(iw ic:Nat)(X:Cells)(iM:Closed E.P true (TL E.P eB (fun _=>none) (Calm E.os E.out) Q))
 (h:∀L aD,ak7 L X ro aD→E.Wg≠E.Ch→L E.Ch=none→TT (TM E L Q 0 false [] 0) b Ag cs n D aD (YB o))
 (hW:dN [iw,ic] o=some [(E.Wg,wgBlock E.ty 0 0),(E.Ch,.chan 0 #[] false 0 0 tm)]:=by kernel_rfl)(hX:Uv [iw,ic] o=some X:=by kernel_rfl):TT (TL E.P eB (fun _=>none) (Calm E.os E.out) Q) b Ag cs n D ro o:=by
 rintro e w kn rfl bY
 refine Closed.jL iM rfl fun⟨w0,Y1⟩=>?_
 have hp:=bJ hW
 simp only[Uv,Option.some.injEq] at hX
 have TH:=hp
 dsimp only at TH
 rw[hX] at TH
 have hm:∀x,x∈den w↔x=(E.Wg,wgBlock E.ty 0 0)∨x=(E.Ch,.chan 0 #[] false 0 0 tm)∨x∈X:=fun x=>by
  rw[TH.mem_iff]
  simp
 have mb:=(TH.map (·.1)).nodup_iff.1 Y1.nodup
 simp only[List.cons_append,List.nil_append,List.map_cons,List.nodup_cons,List.mem_cons,not_or] at mb
 obtain⟨⟨dI,hW1⟩,hC1,RS⟩:=mb
 have Ak:∀x∈X,x∈den w:=fun x hx=>(hm x).2 (.inr (.inr hx))
 have aHh:(E.Wg,wgBlock E.ty 0 0)∈den w:=(hm _).2 (.inl rfl)
 have ai7:(E.Ch,Obj.chan 0 #[] false 0 0 tm)∈den w:=(hm _).2 (.inr (.inl rfl))
 have NS:∀y∈X,y.1≠E.Wg∧y.1≠E.Ch:=fun y hy=>⟨fun e=>hW1 (e▸List.mem_map.2 ⟨_,hy,rfl⟩),fun e=>hC1 (e▸List.mem_map.2 ⟨_,hy,rfl⟩)⟩
 let L:Nat→Option Obj:=fun q=>(X.find? fun y=>y.1==q).map (·.2)
 have V3:∀q o,L q=some o→(q,o)∈X:=fun q o hq=>by
  obtain⟨y,hy,rfl⟩:=Option.map_eq_some_iff.1 hq
  obtain⟨h1,h2⟩:=oH hy
  subst h2
  exact h1
 have aTI:∀q o,(q,o)∈X→L q=some o:=fun q o hq=>by
  show (X.find? fun y=>y.1==q).map (·.2)=some o
  rw[wJ RS hq];rfl
 have V4:L E.Ch=none:=by
  cases hq:L E.Ch with
  |none=>rfl
  |some o=>exact absurd rfl (NS _ (V3 _ _ hq)).2
 have mI:∀q o,(q,o)∈X→ro q=none:=fun q o hq=>Y1.apart q o (Ak _ hq)
 have fA:Sub ro (St.freeze ⟨ro,X⟩).ro:=fun q o hq=>St.nN (s:=⟨ro,X⟩) hq fun q o hq=>mI q o hq
 have aif:∀q,(∃o,(q,o)∈den w)→(q=E.Wg∨q=E.Ch)→¬(St.freeze ⟨ro,X⟩).knows q:=by
  rintro q ⟨o,ho⟩ hq (hk| ⟨o',Ft⟩)
  ·simp only[St.freeze] at hk
   split at hk
   ·rename_i y hy
    obtain⟨h1,h2⟩:=oH hy
    have:=NS _ h1
    rcases hq with e|e
    ·exact this.1 (h2.trans e)
    exact this.2 (h2.trans e)
   exact hk (Y1.apart q o ho)
  cases Ft
 have aF4:ak7 L X ro (St.freeze ⟨ro,X⟩).ro:=⟨V3,aTI,fA,fun x hx=>St.tw (s:=⟨ro,X⟩) (by rcases x with ⟨q,o⟩;exact hx) RS,RS,mI⟩
 refine PS (E:=E) (L:=L) (s':=St.freeze ⟨ro,X⟩) rfl dI aHh ⟨tm,ai7⟩ ?_ (aif _ ⟨_,aHh⟩ (.inl rfl)) (aif _ ⟨_,ai7⟩ (.inr rfl)) (fun q ⟨o,ho⟩=>by cases ho) (fun q o hq=>⟨.inr (Ak _ (V3 _ _ hq)),NS _ (V3 _ _ hq)⟩) ?_
 ·refine⟨den w,by simp[St.freeze],fun q o hq=>?_⟩
  simp only[St.freeze] at hq
  split at hq
  ·rename_i y hy
   obtain⟨h1,h2⟩:=oH hy
   cases hq
   subst h2
   exact .inr (Ak _ h1)
  exact .inl hq
 exact(h L _ aF4 dI V4 _ _ _ rfl (bY.up fA)).1
theorem aMO{os:List ι}{a:Oper}{bs:List Nat}(h:TT (TM E L Q 1 false os 0) b k cs n D ro (stO a.dst (.tuple #[]) o))(ho:ops[0]?=some a) (hg:a.guard=none) (az:a.op= .call ⟨.value (.func f),#[x,.const (.int .i64 1)],ats⟩) (hf:FF E.P f) (hk:b.kind≠ .early) (hr:b.roundOf=none) (JN:os.length <E.max)
 (aiE:Iv E.P E.ty os.length (Frame.enter E.P f #[.pointer (some ⟨E.Wg,0,none⟩),.int .i64 1] .normal)=some bs) (hbs:∀b∈bs,b=E.Wg) (hx:evO n x o=some (.pointer (some ⟨E.Wg,0,none⟩)):=by kernel_rfl):TT (TM E L Q 0 false os 0) b (.inRegion ops [0]::k) cs n D ro o:=by
 rintro e w kn rfl bY
 have hT:Closed E.P true (TM E L Q 0 false os 0):=e8 (E:=E) false os (fun e=>(by cases e))
 have V2:Closed E.P true (TM E L Q 1 false os 0):=e8 (E:=E) false os (fun e=>(by cases e))
 refine QN (rest:=[]) hT ho hg hk hr az hf ?_
 have nj:(#[x,.const (.int .i64 1)]:Array Operand).map (A n e D).eval= #[.pointer (some ⟨E.Wg,0,none⟩),.int .i64 1]:=by
  rw[eg]
  simp only[List.map_toArray,List.map_cons,List.map_nil,aF hx]
  rfl
 rw[nj]
 refine⟨Mq (E:=E) aiE hbs JN ?_,fun e=>(by cases e)⟩
 rw[fH,ho]
 simp only[Option.bind_some]
 rw[aX]
 exact(gZ V2 (h _ _ _ rfl bY)).1
theorem tGo{os:List ι}(oo:ι){a:Oper}(L1:Cells)(ho:ops[i]?=some a) (hg:a.guard=none) (az:a.op= .go ⟨.value y,#[],ats⟩) (hk:b.kind≠ .early) (hr:b.roundOf=none)
 (h:∀aD,Sub ro aD→Knows aD L1→eJ E.P false (E.J7 oo) (born E.P {target:= .fn (.func f) ⟨ca⟩,args:= #[]}) ⟨aD,[]⟩∧TT (TM E L Q 0 false (os++[oo]) 0) b (.inRegion ops todo::k) cs n D aD (YB (stO a.dst undef o)))
 (hy:evO n y o=some (.func (.func f) ⟨[]⟩ ⟨ca⟩):=by kernel_rfl) (hL:Uv [] o=some L1:=by kernel_rfl):TT (TM E L Q 1 false os 0) b (.inRegion ops (i::todo)::k) cs n D ro o:=by
 rintro e w kn rfl bY
 have V2:Closed E.P true (TM E L Q 1 false os 0):=e8 (E:=E) false os (fun e=>(by cases e))
 refine Closed.jL V2 rfl fun pJ=>?_
 obtain⟨w0,Y1⟩:=pJ
 have mb:((den w).map (·.1)).Nodup:=Y1.nodup
 have mI:∀q o,(q,o)∈den w→ro q=none:=Y1.apart
 have fA:Sub ro (St.freeze ⟨ro,den w⟩).ro:=fun q o hq=>St.nN (s:=⟨ro,den w⟩) hq mI
 have axd:Knows (St.freeze ⟨ro,den w⟩).ro L1:=fun x hx=>St.tw (s:=⟨ro,den w⟩) (by rcases x with ⟨q,o⟩;simp only[Uv,Option.some.injEq] at hL;rw[←hL,Dj] at hx;exact hx) mb
 obtain⟨h1,h2⟩:=h _ fA axd
 have bW:=fun w'=>FA (P:=E.P) (main:=true) (b:=b) (a:=A n e D) (k:=k) (cs:=cs) (rest:=todo) ho hg hk hr az (by rw[eg];exact aF hy) w'
 have:=h2 _ _ _ rfl (bY.up fA)
 rw[←aX] at this
 exact⟨TC.mono (St.Da ⟨ro,den w⟩) (Kc (E:=E) (o:=oo) (s:=St.freeze ⟨ro,den w⟩) rfl rfl (fun w' _=>bW w') h1 this.1),fun e=>(by cases e)⟩
theorem atL{os:List ι}{a:Oper}(L1:Cells)(ho:ops[i]?=some a) (hg:a.guard=none) (az:a.op= .go ⟨.value y,#[],ats⟩) (hk:b.kind≠ .early) (hr:b.roundOf=none)
 (h:∀aD,Sub ro aD→Knows aD L1→E.closes ⟨aD,[]⟩ (born E.P {target:= .fn (.func f) ⟨ca⟩,args:= #[]})∧TT (TM E L Q 0 true os 0) b (.inRegion ops todo::k) cs n D aD (YB (stO a.dst undef o)))
 (hy:evO n y o=some (.func (.func f) ⟨[]⟩ ⟨ca⟩):=by kernel_rfl) (hL:Uv [] o=some L1:=by kernel_rfl):TT (TM E L Q 0 false os 0) b (.inRegion ops (i::todo)::k) cs n D ro o:=by
 rintro e w kn rfl bY
 have V2:Closed E.P true (TM E L Q 0 false os 0):=e8 (E:=E) false os (fun e=>(by cases e))
 refine Closed.jL V2 rfl fun pJ=>?_
 obtain⟨w0,Y1⟩:=pJ
 have mb:((den w).map (·.1)).Nodup:=Y1.nodup
 have mI:∀q o,(q,o)∈den w→ro q=none:=Y1.apart
 have fA:Sub ro (St.freeze ⟨ro,den w⟩).ro:=fun q o hq=>St.nN (s:=⟨ro,den w⟩) hq mI
 have axd:Knows (St.freeze ⟨ro,den w⟩).ro L1:=fun x hx=>St.tw (s:=⟨ro,den w⟩) (by rcases x with ⟨q,o⟩;simp only[Uv,Option.some.injEq] at hL;rw[←hL,Dj] at hx;exact hx) mb
 obtain⟨h1,h2⟩:=h _ fA axd
 have bW:=fun w'=>FA (P:=E.P) (main:=true) (b:=b) (a:=A n e D) (k:=k) (cs:=cs) (rest:=todo) ho hg hk hr az (by rw[eg];exact aF hy) w'
 have:=h2 _ _ _ rfl (bY.up fA)
 rw[←aX] at this
 exact⟨TC.mono (St.Da ⟨ro,den w⟩) (Kg (E:=E) (s:=St.freeze ⟨ro,den w⟩) rfl rfl (fun w' _=>bW w') h1 this.1),fun e=>(by cases e)⟩
theorem aqG{os:List ι}{a:Oper}{rc:Operand}{z:Value}{X:Cells}{aG:Nat→Option Obj}(hl:ak7 L X pE aG)(bZ:Sub aG ro)(V4:L E.Ch=none)(ho:ops[0]?=some a) (hg:a.guard=none) (TE:∀ρ,bw E.P (execOp ρ a)=some (.comm #[{chan:=ρ rc,send:=none,zero:=z}] true (.recv true))) (hk:b.kind≠ .early) (hr:b.roundOf=none)
 (LD:∀a' oo b' v Y,os=a'++oo::b'→E.Xg oo v Y→TT (TM E L Q 0 true (a'++b') 0) b (.inRegion ops todo::k) cs n D ro (adO Y (stO a.dst (.tuple #[v,.bool true]) o)))
 (qu:os=[]→TT (TL E.P eB (fun _=>none) (Calm E.os E.out) Q) b (.inRegion ops todo::k) cs n D pE (bkO X (stO a.dst (.tuple #[z,.bool false]) o)))
 (hx:evO n rc o=some (.chan (some E.Ch)):=by kernel_rfl):TT (TM E L Q 0 true os 0) b (.inRegion ops (0::todo)::k) cs n D ro o:=by
 rintro e w kn rfl bY
 have hT:Closed E.P true (TM E L Q 0 true os 0):=e8 (E:=E) true os (fun _=>rfl)
 refine Closed.jL hT rfl fun pJ=>?_
 have hvc:ev n e rc= .chan (some E.Ch):=aF hx
 have bW:∀w',stepG E.P true (G (aL b (A n e D) (.inRegion ops (0::todo)::k)) cs) w'= .comm (G (aL b (A n e D) (.inRegion ops (0::todo)::k)) cs) #[rcase E.Ch z] true (.recv true) w' #[]:=by
  intro w'
  have Am:=kQ b (A n e D) (.inRegion ops (0::todo)::k)
  simp only[aL] at Am
  have hw:Region.wanted a (yielded ops (A n e D).tmps)=true:=dA _ _ hg
  have jJ:(b.kind==CallKind.early)=false:=by simpa using hk
  have gA:stepG E.P true (G (aL b (A n e D) (.inRegion ops (0::todo)::k)) cs) w'=stepG.apply E.P true (aL b (A n e D) (.inRegion ops (0::todo)::k)) cs none (execOp (A n e D).eval a) w':=by
   simp only[G,stepG,stepG.exec,aL,ho,Option.map_some,Option.getD_some,hw,if_true,stepG.oper,Frame.oper?,Am]
   rw[hr]
  have bX:=tQ (TE (ev n e)) w' #[]
  rw[hvc] at bX
  rw[gA,eg]
  simp only[stepG.apply,if_true,bX,aL,jJ,Bool.false_eq_true,if_false]
  simp[seen_none,GStep.after,G,rcase]
 have pH:∀v,Conc.served (G (aL b (A n e D) (.inRegion ops (0::todo)::k)) cs) v=G (aL b (A n (upd a.dst v e) D) (.inRegion ops todo::k)) cs:=by
  intro v
  have:=fH b (A n e D) ops 0 todo k v
  rw[ho] at this
  simp only[Option.bind_some] at this
  rw[aX] at this
  simp only[Conc.served,G] at this ⊢
  rw[this]
 have uw:os=[]→∀pc (g:Goroutine),g.status= .running→(∀w',stepG E.P true g w'= .comm (G (aL b (A n e D) (.inRegion ops (0::todo)::k)) cs) #[rcase E.Ch z] true (.recv true) w' #[])→
  TL E.P (jk pc) L (IX E pc) Q g ⟨ro,den w⟩:=by
  intro tJ pc g hg' awo
  obtain⟨hb1,fL⟩:=hl.back (rwK:=den w) bZ
  refine Xv (E:=E) (z:=z) (s':=⟨pE,X++den w⟩) V4 hg' (fun w' _=>awo w') hb1 fL ?_
  rw[pH]
  have:=qu tJ _ _ _ rfl fun x hx=>(by cases hx)
  rw[gq] at this
  exact this
 refine⟨Xx (E:=E) (z:=z) rfl (fun w' _=>bW w') (fun a' oo b' v Y tJ oD=>?_) fun tJ pc=>⟨uw tJ pc _ rfl bW,uw tJ pc _ rfl fun w'=>bW w'⟩,fun _ tJ pc=>uw tJ pc _ rfl bW⟩
 rw[pH]
 have:=LD a' oo b' v Y tJ oD _ _ _ rfl bY
 rw[gq] at this
 exact this.1
theorem aB0{oo:ι}{a:Oper}{sc sv:Operand}{v:Value}{Y:Cells}(ys:List Nat)(ho:ops[i]?=some a) (hg:a.guard=none) (hse:∀ρ,execOp ρ a=Sem.pure (.comm #[{chan:=ρ sc,send:=some (ρ sv),zero:= .tuple #[]}] true .send)) (hk:b.kind≠ .early) (hr:b.roundOf=none)
 (hs:E.Xg oo v Y) (h:TT (eJ E.P false E.IZ) b (.inRegion ops todo::k) cs n D ro (Di ys (stO a.dst undef o)))
 (hx:evO n sc o=some (.chan (some E.Ch)):=by kernel_rfl) (hv:evO n sv o=some v:=by kernel_rfl) (hY:dN ys o=some Y:=by kernel_rfl):TT (eJ E.P false (E.J7 oo)) b (.inRegion ops (i::todo)::k) cs n D ro o:=by
 rintro e w kn rfl bY
 refine eJ.stop ?_
 have:=h e w kn
 refine⟨rfl,G (aL b (A n e D) (.inRegion ops (i::todo)::k)) cs,v,.tuple #[],Y,den (dE ys 0 w),bJ hY,hs,fun w' pJ=>?_,?_⟩
 ·have he:=kQ b (A n e D) (.inRegion ops (i::todo)::k)
  simp only[aL] at he
  have axu:ev n e sc= .chan (some E.Ch):=aF hx
  have axt:ev n e sv=v:=aF hv
  have hw:Region.wanted a (yielded ops (A n e D).tmps)=true:=dA _ _ hg
  have jJ:(b.kind==CallKind.early)=false:=by simpa using hk
  have aFb:=hse (ev n e)
  rw[axu,axt] at aFb
  have gA:stepG E.P false (G (aL b (A n e D) (.inRegion ops (i::todo)::k)) cs) w'=stepG.apply E.P true (aL b (A n e D) (.inRegion ops (i::todo)::k)) cs none (execOp (A n e D).eval a) w':=by
   simp only[G,stepG,stepG.exec,aL,ho,Option.map_some,Option.getD_some,hw,if_true,stepG.oper,Frame.oper?,he]
   rw[hr]
  rw[gA,eg,aFb]
  simp only[stepG.apply,if_true,Sem.runT,aL,jJ,Bool.false_eq_true,if_false]
  simp[seen_none,GStep.after,G,scase]
 have pH:Conc.served (G (aL b (A n e D) (.inRegion ops (i::todo)::k)) cs) undef=G (aL b (A n (upd a.dst undef e) D) (.inRegion ops todo::k)) cs:=by
  have:=fH b (A n e D) ops i todo k undef
  rw[ho] at this
  simp only[Option.bind_some] at this
  rw[aX] at this
  simp only[Conc.served,G] at this ⊢
  rw[this]
 rw[pH]
 exact h _ _ _ (by simp only[Di,stO]) bY
theorem atE{dn:Nat}{bs:List Nat}(hf:E.P.funcs[b.fn]?=some fn) (A8:fn.results= #[]) (zf:BU E.P dn=true) (DZ:xM E.P E.ty E.max (Frame.enter E.P dn #[.pointer (some ⟨E.Wg,0,none⟩)] .deferred)=some bs) (hbs:∀b∈bs,b=E.Wg) (ps:List Nat) (hk:b.kind= .deferred) (hr:b.roundOf=none)
 (hd:dN ps o=some [(bd,.deferred (some []))]:=by kernel_rfl):TT (eJ E.P false E.IZ) b [] [cO E.P] n [dY bd,{target:= .fn (.func dn) ⟨[]⟩,args:=⟨[.pointer (some ⟨E.Wg,0,none⟩)]⟩}] ro o:=by
 rintro e w kn rfl bY
 have hT2:=dQ E.P false E.IZ
 refine hT2.go rfl rfl (g':=G {aL b (A n e [dY bd,{target:= .fn (.func dn) ⟨[]⟩,args:=⟨[.pointer (some ⟨E.Wg,0,none⟩)]⟩}]) [] with mode:= .returning} [cO E.P]) (fun w=>by simp[G,stepG,stepG.exec,aL,hr]) ?_
 have hp:=bJ hd
 obtain⟨Lw,Rr,hs⟩:=List.append_of_mem (hp.mem_iff.2 (List.mem_append_left _ (List.mem_singleton.2 rfl)))
 refine unwind_mark (C:=CA E.P) (fun _ _ h=>h) hT2 (.inl rfl) (fr:={aL b (A n e [dY bd,{target:= .fn (.func dn) ⟨[]⟩,args:=⟨[.pointer (some ⟨E.Wg,0,none⟩)]⟩}]) [] with mode:= .returning}) rfl hs<|jC (C:=CA E.P) (fun _ _ h=>h) hT2 (.inl rfl) (ld zf) (ds:=[]) rfl<|eJ.stop ?_
 have hq:QuitsD E.P 2 0 (G {aL b (A n e []) [] with mode:= .returning} [cO E.P]):=n7 rfl rfl hk hf A8
 exact Iu (E:=E) (c:={aL b (A n e []) [] with mode:= .returning}) (.inl rfl) hq DZ hbs
end
theorem aB8{S:Goroutine→St→Prop}{c:Code}(hf:P.funcs[f]?=some fn) (hb:fn.body=some c) (hn:fn.ntmps=n) (ff:BU P f=true) (hle:Nat.ble ca.length n=true)
 (h:TT (eJ P false S) (fr0 f .deferred) ([c].map .code++[]) [cO P] n [] ro (some ⟨.fin .normal,fM 0 ca,[],⟨[],[]⟩⟩)):eJ P false S (born P {target:= .fn (.func f) ⟨ca⟩,args:= #[]}) ⟨ro,[]⟩:=by
 have hT:=dQ P false S
 refine jC (C:=CA P) (fun _ _ h=>h) hT (fr:={(default:Frame) with fn:=P.funcs.size,defers:=[{target:= .fn (.func f) ⟨ca⟩,args:= #[]}],mode:= .panicking [goexitEntry]}) (.inr ⟨_,rfl⟩) (ld ff) rfl ?_
 show eJ P false S (G (Frame.enter P f (#[]++⟨ca⟩) .deferred) [cO P]) ⟨ro,[]⟩
 have gY:Frame.enter P f (#[]++⟨ca⟩) .deferred=aL (fr0 f .deferred) (A n (fM 0 ca) []) [.code c]:=by
  rw[←kR ca n (Nat.le_of_ble_eq_true hle)]
  simp[Frame.enter,aL,hf,hb,hn,fr0]
 rw[gY]
 exact h _ _ _ rfl fun x hx=>(by cases hx)
theorem amz{E:dO ι}{x:My}(hx:x.OK E.P E.ty){bs:List Nat}(RE:Bx E.P E.ty E.max (Frame.enter E.P x.wait #[.pointer (some ⟨E.Wg,0,none⟩)] .normal)=some bs)(hbs:∀b∈bs,b=E.Wg)
 {a:Oper}(hq:ro q=some (.cells ⟨[.chan (some E.Ch)]⟩ t fz))(ho0:x.q1[0]?=some a) (hg0:a.guard=none) (aRc:a.op= .load U y) (ht:(ba E.P U).map (·.agg)=some false)
 (hy:evO x.n y (some ⟨.fin .normal,eV x.o0.dst (.tuple #[]) (fM 0 [.pointer (some ⟨E.Wg,0,none⟩),.pointer (some ⟨q,0,none⟩)]),[],⟨[],[]⟩⟩)=some (.pointer (some ⟨q,0,none⟩)))
 (hc:evO x.n x.cx (stO a.dst (.chan (some E.Ch)) (some ⟨.fin .normal,eV x.o0.dst (.tuple #[]) (fM 0 [.pointer (some ⟨E.Wg,0,none⟩),.pointer (some ⟨q,0,none⟩)]),[],⟨[],[]⟩⟩))=some (.chan (some E.Ch))):
 E.closes ⟨ro,[]⟩ (born E.P {target:= .fn (.func x.f) ⟨[.pointer (some ⟨E.Wg,0,none⟩),.pointer (some ⟨q,0,none⟩)]⟩,args:= #[]}):=by
 obtain⟨fn,hf,A8,TK⟩:=hx.fn
 obtain⟨hbf,sw,qY⟩:=hx.bf
 have hk:x.b.kind≠ .early:=by rw[sw];simp
 have RN:∀g g',g.status= .running→g'.status= .running→(∀w,stepG E.P false g w= .go g' w #[])→E.closes ⟨ro,[]⟩ g'→E.closes ⟨ro,[]⟩ g:=
  fun g g' hg _ bW ⟨q,hq⟩=>⟨q+1,hg,g',fun w _=>bW w,hq⟩
 refine RN _ _ rfl rfl (IE (ld hx.ff) _) ?_
 have HQ:(#[]++(⟨[.pointer (some ⟨E.Wg,0,none⟩),.pointer (some ⟨q,0,none⟩)]⟩:Array Value))= #[.pointer (some ⟨E.Wg,0,none⟩),.pointer (some ⟨q,0,none⟩)]:=by simp
 rw[HQ]
 refine Wm (iu:=[]) (cs:=[cO E.P]) RN (hx.enter _ _)<|Is (E:=E) ?_ RE hbs
 have hT:=dQ E.P false E.J6
 show eJ E.P false E.J6 (G ((aL x.b (A x.n (fM 0 [.pointer (some ⟨E.Wg,0,none⟩),.pointer (some ⟨q,0,none⟩)]) []) (.inRegion x.q0 (0::[])::[.code x.rest])).finish (.tuple #[])) [cO E.P]) ⟨ro,[]⟩
 rw[fH,hx.op0,aX]
 simp only[Option.bind_some]
 rw[jW]
 refine gZ hT ?_
 obtain⟨id,ahu⟩:=hx.rest
 refine dH (l:=[x.rest]) (k:=[]) hT ahu fun l2 qT=>?_
 have:=gk qT
 subst this
 rw[hx.size]
 have key:TT (eJ E.P false E.J6) x.b (.inRegion x.q1 (0::[1])::[]) [cO E.P] x.n [] ro (some ⟨.fin .normal,eV x.o0.dst (.tuple #[]) (fM 0 [.pointer (some ⟨E.Wg,0,none⟩),.pointer (some ⟨q,0,none⟩)]),[],⟨[],[]⟩⟩):=by
  refine tLd hT (.chan (some E.Ch)) ho0 hg0 aRc ht hk qY (q:=q) (t:=t) (fz:=fz) (fun _ _ _ _=> .inl hq) ?_ hy
  intro e w kn he bY
  refine eJ.stop ?_
  have hx2:ev x.n e x.cx= .chan (some E.Ch):=by
   rw[he] at hc
   exact aF hc
  obtain⟨ho,hg,ats,az⟩:=hx.op
  have hq:(E.P.funcs[x.b.fn]?).any (·.norace)=false:=by rw[hbf,hf];simpa using TK
  refine⟨rfl,?_,G (x.b.at (Act.put (A x.n e []) x.oc.dst (.tuple #[])) (.inRegion x.q1 []::[])) [cO E.P],fun w s r tm hc=>?_,4,?_⟩
  ·simp[mayWake,G,aL,ho,az]
  ·rw[Df qY]
   have:=stepG_close (P:=E.P) (main:=false) (b:=x.b) (a:=A x.n e []) (kk:=[]) (cs:=[cO E.P]) (rest:=[]) ho (dA x.oc _ hg) hk az (by rw[eg];exact hx2) hc hq
   exact this
  rw[←Df qY]
  refine .ctl (g':=G (aL x.b (Act.put (A x.n e []) x.oc.dst (.tuple #[])) []) [cO E.P]) rfl (fun w=>by simp[G,stepG,stepG.exec,aL])<|.ctl (g':=G {aL x.b (Act.put (A x.n e []) x.oc.dst (.tuple #[])) [] with mode:= .returning} [cO E.P]) rfl (fun w=>by simp[G,stepG,stepG.exec,aL,qY])<|n7 rfl ?_ sw (by show E.P.funcs[x.b.fn]?=_;rw[hbf];exact hf) A8
  show (Act.put (A x.n e []) x.oc.dst (.tuple #[])).defers=[]
  rw[aX];rfl
 exact key _ _ _ rfl fun x hx=>(by cases hx)
theorem jpF{V:Value}(lp:List Nat)(B:Cells)(HI:BU X.P f=true)(hf:∀aG,Sub X.ro aG→Knows aG B→du X.P f vs aG V)(hj:J X (Nf B V o))(h1:dC X.n (akH X.n) o=some (f,vs):=by kernel_rfl)(h3:dN lp o=some B:=by kernel_rfl):J X o:=by
 refine jGN h1 h3 (fun s p e ho hh hc=>?_) hj
 have hcb:yw X.P X.n p e=some (f,vs):=by unfold yw;rw[hc];simp only[HI,cond_true]
 obtain⟨ff,x,xs,at_,fi,ca,ws,az,hx,si,rfl⟩:=qI hcb
 rcases p with ⟨dst,op,ty,pos,cY,g⟩
 dsimp only at az;subst az
 refine⟨rfl,fun s0 EK ve ops i sr rest hw s' hs todo Q hk=>?_⟩
 have hez:Ext ⟨X.ro,B⟩ s':=fun b ob hb=>hs _ _ (hb.elim (fun h=>EK _ _ (.inl h)) fun h=>ve (b,ob) h)
 exact Q0 X.hC sr hw (aZ hx) ff (xH si) (Tj fi ws ca) hez (fun aG h1=>hf aG (Gl h1) fun y hy=>h1 _ _ (.inr hy)) hk
def bgI(body:Code)(i:Nat):Option JS→Option (JS×Nat)
 |some ⟨.fin .normal,e,w,kn⟩=>match yT w i with
  |some (.b b (.loop r))=>match r.state with
   | .ready=>some (⟨.code body [],e,Ur w i (.b b (.loop {r with state:= .busy})),kn⟩,b)
   |_=>none
  |_=>none
 |_=>none
theorem jbI(i:Nat)(h:J (X.re bl ro Φ) (EW (bgI body i o)))(h1:Up (bgI body i o)=some bl:=by kernel_rfl):J (X.rd bl ro Φ body) o:=by
 unfold bgI at h h1
 split at h<;>try (simp only[EW] at h;exact h.elim)
 rename_i e w kn
 split at h<;>try (simp only[EW] at h;exact h.elim)
 rename_i b r hn
 split at h<;>try (simp only[EW] at h;exact h.elim)
 rename_i bW
 simp only[hn,bW,Up,Option.some.injEq] at h1
 subst h1
 simp only[EW] at h
 intro bY
 have hw:=h bY
 obtain⟨L,R,h2,h3⟩:=AF hn
 simp only[JP,Cx.rd,IK,Dw]
 refine⟨L,r,R,h2,bW,?_⟩
 simp only[JP,h3] at hw
 exact hw
theorem tGe{b:Frame}{D:List Deferred}(h:TT T b Ag cs n D ro (geO o)):TT T b Ag cs n D ro o:=by
 rintro e w kn rfl bY
 have:=h e (.l []::w) kn (by simp only[geO]) bY
 rw[gq] at this
 exact this
def aeV:Option JS→Option JS
 |some ⟨.fin .normal,e,w,kn⟩=>some ⟨.fin .ret,e,w,kn⟩
 |_=>none
theorem atD{c:Code}{L:Cells}(hf:P.funcs[f]?=some fn) (hb:fn.body=some c) (hn:fn.ntmps=n) (hle:Nat.ble args.length n=true)
 (h:TT T (fr0 f .normal) ([c].map .code++[]) cs n [] ro (some ⟨.fin .normal,fM 0 args,[.l L],⟨[],[]⟩⟩)):T (G (Frame.enter P f ⟨args⟩ .normal) cs) ⟨ro,L⟩:=by
 have gY:Frame.enter P f ⟨args⟩ .normal=aL (fr0 f .normal) (A n (fM 0 args) []) [.code c]:=by
  rw[←kR args n (Nat.le_of_ble_eq_true hle)]
  simp[Frame.enter,aL,hf,hb,hn,fr0]
 rw[gY]
 exact h _ _ _ rfl fun x hx=>(by cases hx)
theorem aMK(hm:P.follows .mixedOrders=true)(hT:Closed P main T){cl:Frame}{Ou:List Frame}(v:Value)(hs ps:List Nat)(Y:Cells)(hf:P.funcs[f]?=some fn)
 (hk:T (G (cl.finish v) Ou) ⟨ro,Y⟩) (h1:qZ (iv P n f hs (aeV o))=some v:=by kernel_rfl) (h2:Po (iv P n f hs (aeV o))=Pn (iv P n f hs (aeV o)):=by kernel_rfl) (h3:dN ps o=some Y:=by kernel_rfl):TT T (fr0 f .normal) (.code .ret::Ag) (cl::Ou) n [] ro o:=by
 rintro e w kn rfl bY
 simp only[aeV] at h1 h2
 simp only[iv] at h1 h2
 cases hr:Cb P n e w kn.c hs (qD P f).results.toList with
 |none=>simp only[hr,qZ] at h1;cases h1
 |some x=>
  rcases x with ⟨vs,q⟩
  simp only[hr,qZ,Option.some.injEq,Po,Pn] at h1 h2
  have sq:=tR (X:=⟨P,fun m T'=>m=main∧T'=T,by rintro _ _ ⟨rfl,rfl⟩;exact hT,hm,f,none,n,[],ro,fun _ _ _=>True⟩) bY hr (me h2)
  have hp:=bJ h3
  have uR:qD P f=fn:=by simp only[qD,hf]
  have Fs:=Qk (s0:=⟨ro,Y⟩) (R:=fun en s'=>∃v,en= .returned v∧T (G (cl.finish v) Ou) s') (.inl rfl) sq h1 (dL hp (Sub.refl _)) ⟨v,rfl,hk⟩
  rw[uR] at Fs
  refine hT.go rfl rfl (g':=G {aL (fr0 f .normal) (A n e []) (.code .ret::Ag) with mode:= .returning} (cl::Ou)) (fun w=>by simp[G,stepG,stepG.exec,aL,fr0])<|sV (C:=CA P) (fun _ _ h=>h) (T:=T) hT hf (fr:={aL (fr0 f .normal) (A n e []) (.code .ret::Ag) with mode:= .returning}) rfl rfl rfl rfl (R:=fun en s'=>∃v,en= .returned v∧T (G (cl.finish v) Ou) s') Fs.2 (fun v s' hv=>?_)
  obtain⟨v',hv',ht⟩:=hv
  cases hv'
  exact ht
attribute [irreducible] YB bkO bgI Uv aeV
def Ae(P:Program)(f:FuncId)(args:List Value)(ro:Nat→Option Obj)(own:Cells)(Φ:Value→Cells→Prop):Prop:=
 ∀fr,Fn (C0 P) P f ⟨args⟩ ⟨ro,own++fr⟩ (fun en s'=>∃v Y,en= .returned v∧(⟨ro,Y++fr⟩:St).le s'∧Φ v Y)
theorem asD:∀main T,C0 P main T→CP P main T:=xN
theorem Ae.mono{own:Cells}{Φ':Value→Cells→Prop}(h:Ae P f args ro own Φ)(hk:∀v X,Φ v X→Φ' v X):Ae P f args ro own Φ':=
 fun fr=>Fn.mono (h fr) fun _ _ ⟨v,X,h1,h2,h3⟩=>⟨v,X,h1,h2,hk v X h3⟩
abbrev RC(ro:Nat→Option Obj)(fr:Cells)(Φ:Value→Cells→Prop):Ending→St→Prop:=fun en s'=>∃v Y,en= .returned v∧(⟨ro,Y++fr⟩:St).le s'∧Φ v Y
def XC(P:Program)(hm:P.follows .mixedOrders=true)(f:FuncId)(ro:Nat→Option Obj)(R:Ending→St→Prop):Cx:=⟨P,C0 P,xN,hm,f,none,(qD P f).ntmps,[],ro,rG P (qD P f) R⟩
theorem qC{hm:P.follows .mixedOrders=true}:QR (XC P hm f ro R) R:=⟨rfl,rfl⟩
theorem Mc(hC:∀main T,C main T→Closed P main T){c:Code}(hf:P.funcs[f]?=some fn) (hb:fn.body=some c) (hl:Nat.ble args.length fn.ntmps=true) (h:Wp C f none c (rG P fn R) (A fn.ntmps (fM 0 args) []) s):Fn C P f ⟨args⟩ s R:=by
 refine SF hC hf hb ?_
 have he:=kR args fn.ntmps (Nat.le_of_ble_eq_true hl)
 rw[←he] at h
 exact h
theorem CJ(hm:P.follows .mixedOrders=true){L:Cells}(own:List Sg)(kn:Cells)(hk:Knows ro kn)(h:∀fr,J (XC P hm f ro (RC ro fr Φ)) (jD P f args (own++[.l fr]) kn))(hL:den own=L:=by rfl):Ae P f args ro L Φ:=by
 subst hL
 intro fr
 have h:=h fr
 unfold jD at h
 split at h<;>try exact h.elim
 rename_i fn hf
 split at h<;>try exact h.elim
 rename_i c hc
 cases hl:Nat.ble args.length fn.ntmps with
 |false=>rw[hl] at h;exact h.elim
 |true=>
  rw[hl] at h
  have uR:qD P f=fn:=by simp only[qD,hf]
  have:=h hk
  simp only[JP,XC,KQ,uR] at this
  have hd:den (own++[.l fr])=den own++fr:=by rw[lJ];rfl
  rw[hd] at this
  exact Mc xN hf hc hl this
section
variable {X:Cx} {o:Option JS}
theorem Pa{own:Cells}(ps:List Nat)(hC:∀main T,X.C main T→C0 X.P main T)(hf:Ae X.P f vs X.ro own Φ)(hj:∀v Y,Φ v Y→J X (mZ ps v Y o))(h1:eT X.n (yw X.P X.n) o=some (f,vs):=by kernel_rfl)(h2:dN ps o=some own:=by kernel_rfl):J X o:=by
 obtain⟨ops,i,todo,k,e,w,kn,p,rfl,ho,hw,hc⟩:=dB h1
 obtain⟨ff,x,xs,at_,fi,ca,ws,az,hx,si,rfl⟩:=qI hc
 intro bY
 rcases p with ⟨dst,op,ty,pos,cY,g⟩
 dsimp only at az;subst az
 have hp:=bJ h2
 have uR:Fn X.C X.P f ⟨fi++ws++ca⟩ ⟨X.ro,den w⟩ (fun en s'=>∃v Y,en= .returned v∧(⟨X.ro,Y++den (dE ps 0 w)⟩:St).le s'∧Φ v Y):=fun main T hT c cs k1 k2=>
  (X.hC main T hT).mono _ ⟨X.ro,own++den (dE ps 0 w)⟩ _ (dL (J:=[]) (by rw[List.append_nil];exact hp) (Sub.refl _)) (Fn.weaken hC (hf _) main T hT c cs k1 k2)
 refine uf (fi:=⟨fi⟩) (ca:=⟨ca⟩) (ws:=fi++ws++ca) X.hC ho hw hx ff si (Tj fi ws ca) uR (fun v' s' hr=>?_) (fun ch s' hr=>by obtain⟨_,_,e,_⟩:=hr;cases e) (fun s' hr=>by obtain⟨_,_,e,_⟩:=hr;cases e)
 obtain⟨v,Y,hv,hle,pG⟩:=hr
 cases hv
 have:=hj _ Y pG
 rw[od ho] at this
 have:=this bY
 simp only[JP,gq] at this
 exact this.more X.hC hle
theorem O9(hq:QR X (RC pE fr Φ))(v:Value)(ps:List Nat)(Y:Cells)(fA:Sub pE X.ro)(hR:Φ v Y)(h1:qZ (iv X.P X.n X.fn [] o)=some v:=by kernel_rfl)(h2:Po (iv X.P X.n X.fn [] o)=Pn (iv X.P X.n X.fn [] o):=by kernel_rfl)(h3:dN ps o=some (Y++fr):=by kernel_rfl)(h4:zn o=true:=by kernel_rfl):J X o:=
 aK hq v [] ps (Y++fr) fA ⟨v,Y,rfl,St.le_refl _,hR⟩ h1 h2 h3 h4
end
noncomputable def Gy(P:Program)(g:FuncId):Func:=match Jt P g with
 |some (gn,_,_)=>gn
 |none=>default
noncomputable def Js(P:Program)(g:FuncId):Tmp:=match Jt P g with
 |some (_,t,_)=>t
 |none=>0
noncomputable def recC(P:Program)(g:FuncId):Code:=match Jt P g with
 |some (_,_,c)=>c
 |none=> .skip
def auj(P:Program)(g:FuncId):Bool:=(Jt P g).isSome
theorem amQ(h:auj P g=true):Jt P g=some (Gy P g,Js P g,recC P g):=by
 unfold auj at h
 unfold Gy Js recC
 cases hr:Jt P g with
 |none=>rw[hr] at h;cases h
 |some x=>rcases x with ⟨a,b,c⟩;rfl
noncomputable def XD(P:Program)(hm:P.follows .mixedOrders=true)(f:FuncId)(ro:Nat→Option Obj)(R:Ending→St→Prop)(g:FuncId):Cx:=⟨P,CP P,eP,hm,f,none,(qD P f).ntmps,[],ro,WE (CP P) P (qD P f) g (Gy P g) (Js P g) (recC P g) R⟩
theorem aPG(hm:P.follows .mixedOrders=true){L:Cells}(g:FuncId)(own:List Sg)(kn:Cells)(hk:Knows ro kn)(h:J (XD P hm f ro (RX ro Φ) g) (jD P f args own kn))(hL:den own=L:=by rfl)(ahv:auj P g=true:=by kernel_rfl):dG P f args ro L Φ:=by
 subst hL
 unfold jD at h
 split at h<;>try exact h.elim
 rename_i fn hf
 split at h<;>try exact h.elim
 rename_i c hc
 cases hl:Nat.ble args.length fn.ntmps with
 |false=>rw[hl] at h;exact h.elim
 |true=>
  rw[hl] at h
  have uR:qD P f=fn:=by simp only[qD,hf]
  have:=h hk
  simp only[JP,XD,KQ,uR] at this
  exact H5 eP hf hc rfl hl (amQ ahv) this
def dfV(n:Nat)(p:Oper)(e:Env):Option (FuncId×List Value):=match p.op with
 | .defer ⟨.value x,⟨[]⟩,⟨[]⟩⟩=>match bp n e x with
  |some (.func (.func f) ⟨[]⟩ ⟨ca⟩)=>some (f,ca)
  |_=>none
 |_=>none
theorem ayY(h:dfV n p e=some (f,ca)):∃x,p.op= .defer ⟨.value x,#[],#[]⟩∧bp n e x=some (.func (.func f) ⟨[]⟩ ⟨ca⟩):=by
 unfold dfV at h
 split at h<;>try (cases h;done)
 rename_i x az
 split at h<;>try (cases h;done)
 rename_i hx
 cases h
 exact⟨x,az,hx⟩
def skO:Option JS→Option JS
 |some ⟨.ops ops (i::todo) k,e,w,kn⟩=>match ops[i]? with
  |some p=>some ⟨.ops ops todo k,upd p.dst undef e,w,kn⟩
  |none=>none
 |_=>none
def Rx(t:Tmp)(rest:Code)(ca:List Value):Option JS→Option JS
 |some ⟨.fin _,_,w,kn⟩=>some ⟨.code rest [],upd (some t) .nilIface (fM 0 ca),w,⟨kn.c,[]⟩⟩
 |_=>none
def rwS:Option JS→Option (List Sg)
 |some s=>some s.rw
 |none=>none
section
variable {X:Cx} {o:Option JS}
theorem jdf(hj:J (X.wd ({target:= .fn (.func f) ⟨ca⟩,args:= #[]}::X.D)) (skO o))(h1:eT X.n (dfV X.n) o=some (f,ca):=by kernel_rfl)(hr:X.aA=none:=by rfl):J X o:=by
 obtain⟨ops,i,todo,k,e,w,kn,p,rfl,ho,hw,hc⟩:=dB h1
 obtain⟨x,az,hx⟩:=ayY hc
 intro bY
 rcases p with ⟨dst,op,ty,pos,cY,g⟩
 dsimp only at az;subst az
 simp only[skO,ho] at hj
 have:=hj bY
 simp only[JP,Tw] at this
 show ab X.C X.fn X.aA ops (i::todo) (KQ X k) (A X.n e X.D) ⟨X.ro,den w⟩
 rw[hr]
 have h2:(X.wd ({target:= .fn (.func f) ⟨ca⟩,args:= #[]}::X.D)).aA=none:=hr
 rw[h2] at this
 exact ann X.hC ho hw hx this
structure QD(X:Cx)(g:FuncId)(R:Ending→St→Prop)(ca:List Value):Prop where
 q:X.Q=WE X.C X.P (qD X.P X.fn) g (Gy X.P g) (Js X.P g) (recC X.P g) R
 d:X.D=[{target:= .fn (.func g) ⟨ca⟩,args:= #[]}]
theorem jrD(hq:QD X g R ca)(v:Value)(hs ps:List Nat)(Y:Cells)(k:Nat)(fA:Sub pE X.ro)(hR:R (.returned v) ⟨pE,Y⟩)(hl:Nat.ble ca.length (Gy X.P g).ntmps=true:=by kernel_rfl)
 (h1:qZ (iv X.P X.n X.fn hs o)=some v:=by kernel_rfl)(h2:Po (iv X.P X.n X.fn hs o)=Pn (iv X.P X.n X.fn hs o):=by kernel_rfl)(h3:dN ps o=some Y:=by kernel_rfl)(h4:zn o=true:=by kernel_rfl)
 (h5:zn (res (adv X.P (Gy X.P g).ntmps k [] (Rx (Js X.P g) (recC X.P g) ca o)))=true:=by kernel_rfl)(h6:rwS (res (adv X.P (Gy X.P g).ntmps k [] (Rx (Js X.P g) (recC X.P g) ca o)))=rwS o:=by kernel_rfl)
 (h7:lhs (adv X.P (Gy X.P g).ntmps k [] (Rx (Js X.P g) (recC X.P g) ca o))=rhs (adv X.P (Gy X.P g).ntmps k [] (Rx (Js X.P g) (recC X.P g) ca o)):=by kernel_rfl):J X o:=by
 obtain⟨ex,e,w,kn,rfl,hex⟩:=tz h4
 simp only[iv] at h1 h2
 cases hr:Cb X.P X.n e w kn.c hs (qD X.P X.fn).results.toList with
 |none=>simp only[hr,qZ] at h1;cases h1
 |some x=>
  rcases x with ⟨vs,q⟩
  simp only[hr,qZ,Option.some.injEq,Po,Pn] at h1 h2
  intro bY
  have sq:=tR bY hr (me h2)
  have hp:=bJ h3
  have Fs:=Qk (s0:=⟨pE,Y⟩) (R:=R) hex sq h1 (dL hp fA) hR
  have ht:bO X.P (results (qD X.P X.fn) (A X.n e X.D).tmps) ⟨X.ro,den w⟩ (fun v s'=>∃s0,s0.le s'∧R (.returned v) s0) (fun _ _=>False):=by
   rcases hex with rfl|rfl<;>exact Fs.2
  show X.Q ex (A X.n e X.D) ⟨X.ro,den w⟩
  rw[hq.q]
  refine⟨hex.symm,ca,hl,hq.d,?_⟩
  let X2:Cx:=⟨X.P,X.C,X.hC,X.hm,g,none,(Gy X.P g).ntmps,[],X.ro,fun e2 a2 s2=>(e2= .normal∨e2= .ret)∧a2.defers=[]∧bO X.P (results (qD X.P X.fn) (A X.n e X.D).tmps) s2 (fun v s3=>∃s0,s0.le s3∧R (.returned v) s0) (fun _ _=>False)⟩
  have hj:J X2 (Rx (Js X.P g) (recC X.P g) ca (some ⟨.fin ex,e,w,kn⟩)):=by
   refine jd k [] ?_ h7
   have h5':=h5
   have h6':=h6
   obtain⟨ex2,e2,w2,kn2,ur,aSe⟩:=tz h5'
   show J X2 (res (adv X.P (Gy X.P g).ntmps k [] (Rx (Js X.P g) (recC X.P g) ca (some ⟨.fin ex,e,w,kn⟩))))
   rw[ur] at h6' ⊢
   simp only[rwS,Option.some.injEq] at h6'
   subst h6'
   exact fun _=>⟨aSe.symm,rfl,ht⟩
  simp only[Rx] at hj
  exact hj bY
end
attribute [irreducible] skO Rx rwS dfV
end Go.L
