/- Part 5 of the proof. -/
import Derived.Test.YtknkndglfcfhkaaGreatDoorV4
set_option maxRecDepth 100000
set_option linter.all false
namespace Go.L
open Go Go.Conc
variable {ro py aG:Nat→Option Obj} {P:Program} {Φ:Value→Cells→Prop} {f g:FuncId} {R:Ending→St→Prop} {todo uA:List Nat} {El:(Nat→Option Obj)→Nat→List Value→Cells→Prop} {κ α ι:Type} {T:Goroutine→St→Prop} {vs ca args l z fi:List Value} {n sz i bC bl bd off r id dep N q:Nat} {b:ByteArray} {o o1:Option JS} {k Ab:List Item} {e rest:Env} {p:Oper} {s s':St} {ats:Array TypeId} {tm:Array Value} {cs:List Frame} {fn:Func} {X:Cx} {C:Class} {main ag:Bool} {fz:Nat×Nat} {E t U:TypeId} {as body:Code} {x y:Operand} {hi:Int} {lo:Option Int} {fr:Cells}
section
variable {X:Cx} {o:Option JS}
def OG(n:Nat)(p:Oper)(e:Env):Option (BinOp×TypeId×Value×Value):=match p.op with
 | .binOp op T x y _=>match bn n e x with
  |some v=>match bn n e y with
   |some w=>some (op,T,v,w)
   |none=>none
  |none=>none
 |_=>none
theorem uz{op:BinOp}{T:TypeId}{v w:Value}(h:OG n p e=some (op,T,v,w)):∃x y T',p.op= .binOp op T x y T'∧bn n e x=some v∧bn n e y=some w:=by
 unfold OG at h
 split at h<;>try (cases h;done)
 rename_i ay
 split at h<;>try (cases h;done)
 rename_i hx
 split at h<;>try (cases h;done)
 rename_i hy
 cases h
 exact⟨_,_,_,ay,hx,hy⟩
theorem jsa{a:ByteArray}(T:TypeId)(hb:(a.size:Int)+b.size≤9223372036854775807)(hj:J X (jO (.string (a++b)) o))(hv:dA X.n (OG X.n) o=some (.add,T,.string a,.string b):=by kernel_rfl):J X o:=by
 refine Re hv (fun s p e _ hf=>?_) hj
 obtain⟨x,y,T',ay,hx,hy⟩:=uz hf
 rcases p with ⟨dst,op,ty,pos,cZ,g⟩
 dsimp only at ay;subst ay
 exact fun s0 ops i r8 rest hw s' hs todo Q hk=>auG X.hC r8 hw (aY hx) (aY hy) hb hk
theorem jrm{k:IntKind}{a b:Int}(T:TypeId)(hb:b≠0)(hj:J X (jO (.int k (a.tmod b)) o))(hv:dA X.n (OG X.n) o=some (.rem,T,.int k a,.int k b):=by kernel_rfl):J X o:=by
 refine Re hv (fun s p e _ hf=>?_) hj
 obtain⟨x,y,T',ay,hx,hy⟩:=uz hf
 rcases p with ⟨dst,op,ty,pos,cZ,g⟩
 dsimp only at ay;subst ay
 exact fun s0 ops i r8 rest hw s' hs todo Q hk=>aD6 X.hC r8 hw (aY hx) (aY hy) hb hk
theorem jsr{k k':IntKind}{a b:Int}(T:TypeId)(hb:0≤b)(hj:J X (jO (.int k (aS k a b)) o))(hv:dA X.n (OG X.n) o=some (.shr,T,.int k a,.int k' b):=by kernel_rfl):J X o:=by
 refine Re hv (fun s p e _ hf=>?_) hj
 obtain⟨x,y,T',ay,hx,hy⟩:=uz hf
 rcases p with ⟨dst,op,ty,pos,cZ,g⟩
 dsimp only at ay;subst ay
 exact fun s0 ops i r8 rest hw s' hs todo Q hk=>aD4 X.hC r8 hw (aY hx) (aY hy) hb hk
theorem jsh{k k':IntKind}{a b:Int}(T:TypeId)(hb:0≤b)(hj:J X (jO (.int k (dC k a b)) o))(hv:dA X.n (OG X.n) o=some (.shl,T,.int k a,.int k' b):=by kernel_rfl):J X o:=by
 refine Re hv (fun s p e _ hf=>?_) hj
 obtain⟨x,y,T',ay,hx,hy⟩:=uz hf
 rcases p with ⟨dst,op,ty,pos,cZ,g⟩
 dsimp only at ay;subst ay
 exact fun s0 ops i r8 rest hw s' hs todo Q hk=>aD5 X.hC r8 hw (aY hx) (aY hy) hb hk
theorem jeq{T:TypeId}{m:List Value}{r:Bool}(hg:n9 X.P T)(he:EqV X.P T (.agg ⟨l⟩) (.agg ⟨m⟩) r)(hj:J X (jO (.bool r) o))(hv:dA X.n (OG X.n) o=some (.eql,T,.agg ⟨l⟩,.agg ⟨m⟩):=by kernel_rfl):J X o:=by
 refine Re hv (fun s p e _ hf=>?_) hj
 obtain⟨x,y,T',ay,hx,hy⟩:=uz hf
 rcases p with ⟨dst,op,ty,pos,cZ,g⟩
 dsimp only at ay;subst ay
 exact fun s0 ops i r8 rest hw s' hs todo Q hk=>anr X.hC r8 hw (aY hx) (aY hy) hg he hk
theorem jne{T:TypeId}{m:List Value}{r:Bool}(hg:n9 X.P T)(he:EqV X.P T (.agg ⟨l⟩) (.agg ⟨m⟩) r)(hj:J X (jO (.bool !r) o))(hv:dA X.n (OG X.n) o=some (.neq,T,.agg ⟨l⟩,.agg ⟨m⟩):=by kernel_rfl):J X o:=by
 refine Re hv (fun s p e _ hf=>?_) hj
 obtain⟨x,y,T',ay,hx,hy⟩:=uz hf
 rcases p with ⟨dst,op,ty,pos,cZ,g⟩
 dsimp only at ay;subst ay
 exact fun s0 ops i r8 rest hw s' hs todo Q hk=>afB X.hC r8 hw (aY hx) (aY hy) hg he hk
def G9(P:Program)(T:TypeId):Bool:=match a8 P T with
 |some ⟨.slice _,_,_,_⟩=>true
 |_=>false
theorem G8{T:TypeId}(h:G9 P T=true):∃E sz bC z ag,TF P T (.slice E) sz bC z ag:=by
 unfold G9 at h
 split at h<;>try (cases h;done)
 rename_i dK
 obtain⟨bC,tf⟩:=av dK
 exact⟨_,_,_,_,_,tf⟩
theorem jsn{a:Option Addr}{l c:Nat}(T:TypeId)(hj:J X (jO (.bool a.isNone) o))(hv:dA X.n (OG X.n) o=some (.eql,T,.slice a l c,.slice none 0 0):=by kernel_rfl)(hT:G9 X.P T=true:=by kernel_rfl):J X o:=by
 refine Re hv (fun s p e _ hf=>?_) hj
 obtain⟨x,y,T',ay,hx,hy⟩:=uz hf
 obtain⟨E,sz,bC,z,ag,tf⟩:=G8 hT
 rcases p with ⟨dst,op,ty,pos,cZ,g⟩
 dsimp only at ay;subst ay
 exact fun s0 ops i r8 rest hw s' hs todo Q hk=>anm X.hC r8 hw tf (aY hx) (aY hy) hk
def Et(n:Nat)(e:Env):Option Operand→Option (Option Int)
 |none=>some none
 |some x=>match bn n e x with
  |some (.int _ a)=>some (some a)
  |_=>none
def ad8(P:Program)(n:Nat)(p:Oper)(e:Env):Option (ByteArray×Option Int×Option Int):=match p.op with
 | .slice T x y z none=>match a8 P T with
  |some ⟨.string,_,_,_⟩=>match bn n e x with
   |some (.string b)=>match Et n e y with
    |some lo=>match Et n e z with
     |some hi=>some (b,lo,hi)
     |none=>none
    |none=>none
   |_=>none
  |_=>none
 |_=>none
def aeg(P:Program)(n:Nat)(p:Oper)(e:Env):Option (Value×Option Int×Option Int×Nat):=match p.op with
 | .slice T x y z none=>match a8 P T with
  |some ⟨.slice E,_,_,_⟩=>match a8 P E with
   |some te=>match bn n e x with
    |some v=>match Et n e y with
     |some lo=>match Et n e z with
      |some hi=>some (v,lo,hi,te.size)
      |none=>none
     |none=>none
    |none=>none
   |none=>none
  |_=>none
 |_=>none
theorem lU{x:Option Operand}{a:Int}(h:Et n e x=some (some a)):∃y k,x=some y∧bn n e y=some (.int k a):=by
 unfold Et at h
 split at h
 ·cases h
 split at h<;>try (cases h;done)
 rename_i hx
 cases h
 exact⟨_,_,rfl,hx⟩
theorem xv{x:Option Operand}(h:Et n e x=some none):x=none:=by
 unfold Et at h
 split at h
 ·rfl
 split at h<;>cases h
theorem MW{hi:Option Int}(h:ad8 P n p e=some (b,lo,hi)):∃T x y z sz bC zz ag,p.op= .slice T x y z none∧TF P T .string sz bC zz ag∧bn n e x=some (.string b)∧Et n e y=some lo∧Et n e z=some hi:=by
 unfold ad8 at h
 split at h<;>try (cases h;done)
 rename_i ay
 split at h<;>try (cases h;done)
 rename_i dK
 obtain⟨bC,tf⟩:=av dK
 split at h<;>try (cases h;done)
 rename_i hx
 split at h<;>try (cases h;done)
 rename_i hy
 split at h<;>try (cases h;done)
 rename_i hz
 cases h
 exact⟨_,_,_,_,_,_,_,_,ay,tf,hx,hy,hz⟩
theorem MZ{v:Value}{hi:Option Int}{k:Nat}(h:aeg P n p e=some (v,lo,hi,k)):∃T x y z E sz bC zz ag d Aj z2 ag2,p.op= .slice T x y z none∧TF P T (.slice E) sz bC zz ag∧TF P E d k Aj z2 ag2∧bn n e x=some v∧Et n e y=some lo∧Et n e z=some hi:=by
 unfold aeg at h
 split at h<;>try (cases h;done)
 rename_i ay
 split at h<;>try (cases h;done)
 rename_i dK
 obtain⟨bC,tf⟩:=av dK
 split at h<;>try (cases h;done)
 rename_i te uj
 obtain⟨Aj,p5⟩:=av uj
 split at h<;>try (cases h;done)
 rename_i hx
 split at h<;>try (cases h;done)
 rename_i hy
 split at h<;>try (cases h;done)
 rename_i hz
 cases h
 exact⟨_,_,_,_,_,_,_,_,_,_,_,_,_,ay,tf,p5,hx,hy,hz⟩
theorem jtB{lo:Int}(hl:0≤lo∧lo≤hi∧hi≤b.size)(hj:J X (jO (.string (b.extract lo.toNat hi.toNat)) o))(hv:dA X.n (ad8 X.P X.n) o=some (b,some lo,some hi):=by kernel_rfl):J X o:=by
 refine Re hv (fun s p e _ hf=>?_) hj
 obtain⟨T,x,y,z,sz,bC,zz,ag,ay,tf,hx,hy,hz⟩:=MW hf
 obtain⟨y,k,rfl,Ez⟩:=lU hy
 obtain⟨z,k',rfl,hz1⟩:=lU hz
 rcases p with ⟨dst,op,ty,pos,cZ,g⟩
 dsimp only at ay;subst ay
 exact fun s0 ops i r8 rest hw s' hs todo Q hk=>UG X.hC r8 hw tf (aY hx) (aY Ez) (aY hz1) hl hk
theorem jtH(hl:0≤hi∧hi≤b.size)(hj:J X (jO (.string (b.extract 0 hi.toNat)) o))(hv:dA X.n (ad8 X.P X.n) o=some (b,none,some hi):=by kernel_rfl):J X o:=by
 refine Re hv (fun s p e _ hf=>?_) hj
 obtain⟨T,x,y,z,sz,bC,zz,ag,ay,tf,hx,hy,hz⟩:=MW hf
 have hy:=xv hy;subst hy
 obtain⟨z,k',rfl,hz1⟩:=lU hz
 rcases p with ⟨dst,op,ty,pos,cZ,g⟩
 dsimp only at ay;subst ay
 exact fun s0 ops i r8 rest hw s' hs todo Q hk=>QH X.hC r8 hw tf (aY hx) (aY hz1) hl hk
theorem jtL{lo:Int}(hl:0≤lo∧lo≤b.size)(hj:J X (jO (.string (b.extract lo.toNat b.size)) o))(hv:dA X.n (ad8 X.P X.n) o=some (b,some lo,none):=by kernel_rfl):J X o:=by
 refine Re hv (fun s p e _ hf=>?_) hj
 obtain⟨T,x,y,z,sz,bC,zz,ag,ay,tf,hx,hy,hz⟩:=MW hf
 have hz:=xv hz;subst hz
 obtain⟨y,k,rfl,Ez⟩:=lU hy
 rcases p with ⟨dst,op,ty,pos,cZ,g⟩
 dsimp only at ay;subst ay
 exact fun s0 ops i r8 rest hw s' hs todo Q hk=>QG X.hC r8 hw tf (aY hx) (aY Ez) hl hk
theorem jcH{v:Value}{enc:α→List Value}{ps:List α}(hs:bD X.ro v sz enc ps)(hl:0≤hi∧hi≤ps.length)(hj:∀v',bD X.ro v' sz enc (ps.take hi.toNat)→J X (jO v' o))(hv:dA X.n (aeg X.P X.n) o=some (v,none,some hi,sz):=by kernel_rfl):J X o:=by
 obtain⟨a,b,off,cap,rfl,h2,h3,h4⟩:=id hs
 have hp:=bD.part hs (l:=0) (h:=hi.toNat) (by omega) (by omega)
 rw[List.drop_zero] at hp
 refine Re hv (fun s p e _ hf=>?_) (hj _ hp)
 obtain⟨T,x,y,z,E,s1,bC,zz,ag,d,Aj,z2,ag2,ay,tf,p5,hx,hy,hz⟩:=MZ hf
 have hy:=xv hy;subst hy
 obtain⟨z,k',rfl,hz1⟩:=lU hz
 rcases p with ⟨dst,op,ty,pos,cZ,g⟩
 dsimp only at ay;subst ay
 intro s0 ops i r8 rest hw s' mU todo Q hk
 refine bR X.hC r8 hw (by simp) ?_
 have hb:0≤hi∧hi≤(cap:Int):=by omega
 have fM:(0:Int)≤0∧(0:Int)≤(hi.toNat:Int):=by omega
 rw[←aW] at hk
 simp only[execOp,Option.map_some,Option.map_none,Instr.sliceAt,Instr.slice,aF (aY (rest:=rest) hx),aF (aY (rest:=rest) hz1),aa,aZ tf,Instr.sliceBounds,Instr.sliceBound,asIntOf,ae,hb,fM,and_self,if_true,cg p5]
 exact hk
theorem jcB{v:Value}{enc:α→List Value}{ps:List α}{lo:Int}(hs:bD X.ro v sz enc ps)(hl:0≤lo∧lo≤hi∧hi≤ps.length)(hj:∀v',bD X.ro v' sz enc ((ps.take hi.toNat).drop lo.toNat)→J X (jO v' o))(hv:dA X.n (aeg X.P X.n) o=some (v,some lo,some hi,sz):=by kernel_rfl):J X o:=by
 obtain⟨a,b,off,cap,rfl,h2,h3,h4⟩:=id hs
 have hp:=bD.part hs (l:=lo.toNat) (h:=hi.toNat) (by omega) (by omega)
 refine Re hv (fun s p e _ hf=>?_) (hj _ hp)
 obtain⟨T,x,y,z,E,s1,bC,zz,ag,d,Aj,z2,ag2,ay,tf,p5,hx,hy,hz⟩:=MZ hf
 obtain⟨y,k,rfl,Ez⟩:=lU hy
 obtain⟨z,k',rfl,hz1⟩:=lU hz
 rcases p with ⟨dst,op,ty,pos,cZ,g⟩
 dsimp only at ay;subst ay
 intro s0 ops i r8 rest hw s' mU todo Q hk
 refine bR X.hC r8 hw (by simp) ?_
 have hb:0≤hi∧hi≤(cap:Int):=by omega
 have fM:0≤lo∧lo≤(hi.toNat:Int):=by omega
 rw[←aW] at hk
 simp only[execOp,Option.map_some,Option.map_none,Instr.sliceAt,Instr.slice,aF (aY (rest:=rest) hx),aF (aY (rest:=rest) Ez),aF (aY (rest:=rest) hz1),aa,aZ tf,Instr.sliceBounds,Instr.sliceBound,asIntOf,ae,hb,fM,and_self,if_true,cg p5]
 exact hk
def lnV(P:Program)(n:Nat)(p:Oper)(e:Env):Option Value:=match p.op with
 | .call ⟨.builtin .len,⟨[x]⟩,⟨[T]⟩⟩=>bif G9 P T then bn n e x else none
 |_=>none
theorem DL{v:Value}{T2:TypeId}{enc:α→List Value}{ps:List α}{L:Cells}(kJ:ax v sz T2 enc ps L)(hj:J X (jO (.int .i64 ps.length) o))(hv:dA X.n (lnV X.P X.n) o=some v:=by kernel_rfl):J X o:=by
 refine Re hv (fun s p e _ hf=>?_) hj
 unfold lnV at hf
 split at hf<;>try (cases hf;done)
 rename_i x T ay
 cases hT:G9 X.P T with
 |false=>rw[hT] at hf;cases hf
 |true=>
  rw[hT] at hf;simp only[cond_true] at hf
  obtain⟨E,s1,bC,z,ag,tf⟩:=G8 hT
  rcases p with ⟨dst,op,ty,pos,cZ,g⟩
  dsimp only at ay;subst ay
  exact fun s0 ops i r8 rest hw s' hs todo Q hk=>afC X.hC r8 hw tf (aY hf) kJ hk
def aa4(ps:List Nat)(v:Value)(L':Cells):Option JS→Option JS:=mY ps v L'
theorem X3{ops:Array Oper}{k:List KI}{w:List Sg}{kn:Kn}{ps:List Nat}{v:Value}{L':Cells}(ho:ops[i]?=some p):aa4 ps v L' (some ⟨.ops ops (i::todo) k,e,w,kn⟩)=some ⟨.ops ops todo k,upd p.dst v e,.l L'::dD ps 0 w,kn⟩:=by
 unfold aa4
 simp only[n7 ho]
def amH(P:Program)(n:Nat)(p:Oper)(e:Env):Option (Addr×List Value×Nat):=match p.op with
 | .store T x y=>match a8 P T with
  |some ti=>match bn n e x with
   |some (.pointer (some a))=>match bn n e y with
    |some v=>some (a,dS v,ti.size)
    |none=>none
   |_=>none
  |none=>none
 |_=>none
theorem Xs{a:Addr}(h:amH P n p e=some (a,l,sz)):∃T x y d bC z ag v,p.op= .store T x y∧TF P T d sz bC z ag∧bn n e x=some (.pointer (some a))∧bn n e y=some v∧v.cells=⟨l⟩:=by
 unfold amH at h
 split at h<;>try (cases h;done)
 rename_i ay
 split at h<;>try (cases h;done)
 rename_i ti dK
 obtain⟨bC,tf⟩:=av dK
 split at h<;>try (cases h;done)
 rename_i hx
 split at h<;>try (cases h;done)
 rename_i hy
 cases h
 exact⟨_,_,_,_,_,_,_,_,ay,tf,hx,hy,by rw[me]⟩
theorem Tj{v:Value}{enc:α→List Value}{ps:List α}{L:Cells}{b k:Nat}{a:α}(i f:Nat)(c:List Value)(e:α)(kJ:ax v sz E enc ps L)(hb:OT v b)(hk:ps[k]?=some a) (he:enc e=dB (enc a) f c) (h1:c.all single=true) (hf:f+c.length≤sz) (hj:∀L',ax v sz E enc (ps.set k e) L'→J X (aa4 [i] undef L' o)) (hv:eW X.n (amH X.P X.n) o=some (⟨b,k*sz+f,none⟩,c,c.length):=by kernel_rfl) (h2:dM [i] o=some L:=by kernel_rfl):J X o:=by
 obtain⟨ops,i0,todo,kk,ev,w,kn,p,rfl,ho,hw,hc⟩:=dz hv
 obtain⟨T,x,y,d,bC,z,ag,u,ay,tf,hx,hy,hu⟩:=Xs hc
 intro bX
 rcases p with ⟨dst,op,ty,pos,cZ,g⟩
 dsimp only at ay;subst ay
 refine vV X.hC (bJ h2)<|aD0 X.hC ho hw tf hx hy hu rfl (List.all_eq_true.1 h1) kJ hb hk he hf fun L' hL'=>?_
 have:=hj L' hL'
 rw[X3 ho] at this
 have:=this bX
 simp only[JP,gk] at this
 exact this
def apV(P:Program)(n:Nat)(p:Oper)(e:Env):Option (Value×Value×TypeId×Nat):=match p.op with
 | .call ⟨.builtin .append,⟨[x,y]⟩,⟨[T,U]⟩⟩=>match a8 P T with
  |some ⟨.slice E,_,_,_⟩=>bif G9 P U then (match a8 P E with
   |some te=>match P.info? E with
    |some ie=>bif Nat.beq te.zero.length te.size&&Nat.ble ie.bytes 65536 then (match bn n e x with
     |some v=>match bn n e y with
      |some w=>some (v,w,E,te.size)
      |none=>none
     |none=>none) else none
    |none=>none
   |none=>none) else none
  |_=>none
 |_=>none
theorem azg{v w:Value}(h:apV P n p e=some (v,w,E,sz)):∃x y T U s1 b1 z1 a1 E2 s2 b2 z2 a2 d bC z ag,p.op= .call ⟨.builtin .append,#[x,y],#[T,U]⟩∧TF P T (.slice E) s1 b1 z1 a1∧TF P U (.slice E2) s2 b2 z2 a2∧TF P E d sz bC z ag∧z.length=sz∧bC≤65536∧bn n e x=some v∧bn n e y=some w:=by
 unfold apV at h
 split at h<;>try (cases h;done)
 rename_i x y T U ay
 split at h<;>try (cases h;done)
 rename_i E' _ _ _ dK
 obtain⟨b1,tf1⟩:=av dK
 cases hU:G9 P U with
 |false=>rw[hU] at h;cases h
 |true=>
  rw[hU] at h;simp only[cond_true] at h
  obtain⟨E2,s2,b2,z2,a2,p5⟩:=G8 hU
  split at h<;>try (cases h;done)
  rename_i te uj
  obtain⟨b3,tf3⟩:=av uj
  split at h<;>try (cases h;done)
  rename_i ie hie
  cases hb:(Nat.beq te.zero.length te.size&&Nat.ble ie.bytes 65536) with
  |false=>rw[hb] at h;cases h
  |true=>
   rw[hb] at h;simp only[cond_true] at h
   split at h<;>try (cases h;done)
   rename_i hx
   split at h<;>try (cases h;done)
   rename_i hy
   simp only[Option.some.injEq,Prod.mk.injEq] at h
   obtain⟨rfl,rfl,rfl,rfl⟩:=h
   simp only[Bool.and_eq_true,Nat.ble_eq] at hb
   obtain⟨i2,g1,_,g3,_⟩:=tf3.info
   rw[hie] at g1;cases g1
   exact⟨x,y,T,U,_,b1,_,_,E2,s2,b2,z2,a2,_,b3,_,_,ay,tf1,p5,tf3,Nat.eq_of_beq_eq_true hb.1,by omega,hx,hy⟩
theorem iC{v w:Value}{enc:α→List Value}{ps qs:List α}{L:Cells}(is lp:List Nat)(B:Cells)(kJ:ax v sz E enc ps L)(LZ:∀s:St,Ext ⟨X.ro,[]⟩ s→(∀x∈B,s.has x.1 x.2)→Sl s w sz enc qs)(hq:∀p∈qs,∀c∈enc p,single c=true)(hb:ps.length+qs.length≤1048576)(hj:∀v' L',ax v' sz E enc (ps++qs) L'→J X (aa4 is v' L' o))
 (hv:eW X.n (apV X.P X.n) o=some (v,w,E,sz):=by kernel_rfl)(h2:dM is o=some L:=by kernel_rfl)(h3:dM lp o=some B:=by kernel_rfl):J X o:=by
 obtain⟨ops,i0,todo,kk,ev,w0,kn,p,rfl,ho,hw,hc⟩:=dz hv
 obtain⟨x,y,T,U,s1,b1,z1,a1,E2,s2,b2,z2,a2,d,bC,z,ag,ay,tf1,p5,tf3,hz,hby,hx,hy⟩:=azg hc
 intro bX
 rcases p with ⟨dst,op,ty,pos,cZ,g⟩
 dsimp only at ay;subst ay
 have hp:=bJ h2
 refine vV X.hC hp<|oap X.hC ho hw tf1 p5 tf3 hz hx hy kJ (LZ _ Oh fun u hu=>?_) hq ⟨hb,hby⟩ fun v' L' hL'=>?_
 ·rcases SI (X:=X) h3 u hu with h|h
  ·exact .inl h
  exact .inr (hp.mem_iff.1 h)
 have:=hj v' L' hL'
 rw[X3 ho] at this
 have:=this bX
 simp only[JP,gk] at this
 exact this
theorem aPk{w:Value}(enc:α→List Value){qs:List α}(lp:List Nat)(B:Cells)(LZ:∀s:St,Ext ⟨X.ro,[]⟩ s→(∀x∈B,s.has x.1 x.2)→Sl s w sz enc qs)(hq:∀p∈qs,∀c∈enc p,single c=true)(hb:qs.length≤1048576)(hj:∀v' L',ax v' sz E enc qs L'→J X (aa4 [] v' L' o))
 (hv:eW X.n (apV X.P X.n) o=some (.slice none 0 0,w,E,sz):=by kernel_rfl)(h3:dM lp o=some B:=by kernel_rfl)(h2:dM [] o=some []:=by kernel_rfl):J X o:=
 iC (ps:=[]) [] lp B (ax.nil sz E enc) LZ hq (by simpa using hb) (fun v' L' h=>hj v' L' h) hv h2 h3
end
attribute [irreducible] aa4
section
variable {X:Cx} {o:Option JS}
def nxV(n:Nat)(p:Oper)(e:Env):Option Nat:=match p.op with
 | .next x true=>match bn n e x with
  |some (.pointer (some ⟨r,0,none⟩))=>some r
  |_=>none
 |_=>none
theorem afI(h:nxV n p e=some r):∃x,p.op= .next x true∧bn n e x=some (.pointer (some ⟨r,0,none⟩)):=by
 unfold nxV at h
 split at h<;>try (cases h;done)
 rename_i ay
 split at h<;>try (cases h;done)
 rename_i hx
 cases h
 exact⟨_,ay,hx⟩
def Uh(i:Nat)(v:Value)(b:Nat)(ob:Obj):Option JS→Option JS
 |some ⟨.ops ops (j::todo) k,e,w,kn⟩=>match ops[j]? with
  |some p=>some ⟨.ops ops todo k,upd p.dst v e,.b b ob::dD [i] 0 w,kn⟩
  |none=>none
 |_=>none
theorem jnA{p:Nat}{c:UInt8}(r i:Nat)(hp:b.data.toList[p]?=some c) (ha:c.toNat <128) (hj:J X (Uh i (.tuple ⟨[.bool true,.int .i64 p,.int .i32 c.toNat]⟩) r (.stringIter b (p+1)) o))
 (hv:eW X.n (nxV X.n) o=some r:=by kernel_rfl) (hB:dM [i] o=some [(r,.stringIter b p)]:=by kernel_rfl):J X o:=by
 obtain⟨ops,i0,todo,kk,ev,w0,kn,q,rfl,ho,hw,hc⟩:=dz hv
 obtain⟨x,ay,hx⟩:=afI hc
 intro bX
 rcases q with ⟨dst,op,ty,pos,cZ,g⟩
 dsimp only at ay;subst ay
 refine vV X.hC (bJ hB) (anq X.hC ho hw hx hp ha ?_)
 simp only[Uh,ho] at hj
 have:=hj bX
 simp only[JP,iG] at this
 exact this
theorem jnZ{p:Nat}(r i:Nat)(hp:b.data.toList[p]?=none) (hj:J X (Uh i (.tuple ⟨[.bool false]⟩) r (.stringIter b p) o))
 (hv:eW X.n (nxV X.n) o=some r:=by kernel_rfl) (hB:dM [i] o=some [(r,.stringIter b p)]:=by kernel_rfl):J X o:=by
 obtain⟨ops,i0,todo,kk,ev,w0,kn,q,rfl,ho,hw,hc⟩:=dz hv
 obtain⟨x,ay,hx⟩:=afI hc
 intro bX
 rcases q with ⟨dst,op,ty,pos,cZ,g⟩
 dsimp only at ay;subst ay
 refine vV X.hC (bJ hB) (anp X.hC ho hw hx hp ?_)
 simp only[Uh,ho] at hj
 have:=hj bX
 simp only[JP,iG] at this
 exact this
theorem jcG{own:Cells}{Φ:Value→(Nat→Option Obj)→Cells→Prop}(ps:List Nat)(hf:FnG X.P f vs X.ro own Φ)(hj:∀v aG Y,Sub X.ro aG→Φ v aG Y→J (X.at aG) (mY ps v Y o))(h1:eW X.n (yx X.P X.n) o=some (f,vs):=by kernel_rfl)(h2:dM ps o=some own:=by kernel_rfl):J X o:=by
 obtain⟨ops,i,todo,k,e,w,kn,p,rfl,ho,hw,hc⟩:=dz h1
 obtain⟨ff,x,xs,at_,fi,ca,ws,ay,hx,rY,rfl⟩:=qH hc
 intro bX
 rcases p with ⟨dst,op,ty,pos,cZ,g⟩
 dsimp only at ay;subst ay
 have hp:=bJ h2
 refine ub (fi:=⟨fi⟩) (ca:=⟨ca⟩) (ws:=fi++ws++ca) X.hC ho hw hx ff rY (S3 fi ws ca) (Fn.weaken X.hC (FnG.use (s:=⟨X.ro,den w⟩) hp hf)) (fun v' s' hr=>?_) (fun ch s' hr=>by obtain⟨_,_,_,e,_⟩:=hr;cases e) (fun s' hr=>by obtain⟨_,_,_,e,_⟩:=hr;cases e)
 obtain⟨v,aG,Y,hv,hs,qj,hle⟩:=hr
 cases hv
 have:=hj _ aG Y hs qj
 rw[n7 ho] at this
 have:=this (bX.up hs)
 simp only[JP,gk,I1] at this
 exact this.more X.hC hle
def ajX(n:Nat)(p:Oper)(e:Env):Option (FuncId×List Value):=match p.op with
 | .call ⟨.value (.func f),xs,_⟩=>match ya n e xs.toList with
  |some vs=>some (f,vs)
  |none=>none
 |_=>none
theorem Oi(h:ajX n p e=some (f,vs)):∃xs at_,p.op= .call ⟨.value (.func f),xs,at_⟩∧ya n e xs.toList=some vs:=by
 unfold ajX at h
 split at h<;>try (cases h;done)
 rename_i ay
 split at h<;>try (cases h;done)
 rename_i hx
 cases h
 exact⟨_,_,ay,hx⟩
theorem jib{a:ByteArray}{b:Int}(ef:EF X.P f Extern.BytealgIndexByte.indexByte)(hj:J X (jO (.int .i64 (Rf a b.toNat.toUInt8)) o))(hv:dA X.n (ajX X.n) o=some (f,[.string a,.int .u8 b]):=by kernel_rfl):J X o:=by
 refine jGS hv (fun s p e _ hf=>?_) hj
 obtain⟨xs,at_,ay,hx⟩:=Oi hf
 rcases p with ⟨dst,op,ty,pos,cZ,g⟩
 dsimp only at ay;subst ay
 exact⟨fun ops i r8 rest hw s' hs todo Q hk=>afD X.hC r8 hw ef (xE hx) hk,fun hk=>by cases hk⟩
theorem aPa{v:Value}(ef:EF X.P f Extern.AbiNoEscape.same)(hj:J X (jO v o))(hv:dA X.n (ajX X.n) o=some (f,[v]):=by kernel_rfl):J X o:=by
 refine jGS hv (fun s p e _ hf=>?_) hj
 obtain⟨xs,at_,ay,hx⟩:=Oi hf
 rcases p with ⟨dst,op,ty,pos,cZ,g⟩
 dsimp only at ay;subst ay
 exact⟨fun ops i r8 rest hw s' hs todo Q hk=>ano X.hC r8 hw ef (xE hx) hk,fun hk=>by cases hk⟩
def mmV(n:Nat)(p:Oper)(e:Env):Option (Bool×Value×Value):=match p.op with
 | .call ⟨.builtin .min,⟨[x,y]⟩,⟨[_,_]⟩⟩=>match bn n e x with
  |some v=>match bn n e y with
   |some w=>some (true,v,w)
   |none=>none
  |none=>none
 | .call ⟨.builtin .max,⟨[x,y]⟩,⟨[_,_]⟩⟩=>match bn n e x with
  |some v=>match bn n e y with
   |some w=>some (false,v,w)
   |none=>none
  |none=>none
 |_=>none
theorem jmn{k:IntKind}{a b:Int}(hj:J X (jO (.int k (min a b)) o))(hv:dA X.n (mmV X.n) o=some (true,.int k a,.int k b):=by kernel_rfl):J X o:=by
 refine Re hv (fun s p e _ hf=>?_) hj
 unfold mmV at hf
 split at hf<;>try (cases hf;done)
 ·rename_i ay
  split at hf<;>try (cases hf;done)
  rename_i hx
  split at hf<;>try (cases hf;done)
  rename_i hy
  cases hf
  rcases p with ⟨dst,op,ty,pos,cZ,g⟩
  dsimp only at ay;subst ay
  exact fun s0 ops i r8 rest hw s' hs todo Q hk=>auJ X.hC r8 hw (aY hx) (aY hy) hk
 split at hf<;>try (cases hf;done)
 split at hf<;>cases hf
theorem jmx{k:IntKind}{a b:Int}(hj:J X (jO (.int k (max a b)) o))(hv:dA X.n (mmV X.n) o=some (false,.int k a,.int k b):=by kernel_rfl):J X o:=by
 refine Re hv (fun s p e _ hf=>?_) hj
 unfold mmV at hf
 split at hf<;>try (cases hf;done)
 ·split at hf<;>try (cases hf;done)
  split at hf<;>cases hf
 rename_i ay
 split at hf<;>try (cases hf;done)
 rename_i hx
 split at hf<;>try (cases hf;done)
 rename_i hy
 cases hf
 rcases p with ⟨dst,op,ty,pos,cZ,g⟩
 dsimp only at ay;subst ay
 exact fun s0 ops i r8 rest hw s' hs todo Q hk=>auK X.hC r8 hw (aY hx) (aY hy) hk
theorem jsx(i b off:Nat)(c l:List Value)(t:TypeId)(h1:∀v∈l,single v=true)(hb:Nat.ble (off+l.length) c.length=true)(hj:J X (Uh i undef b (.cells ⟨dB c off l⟩ t (0,0)) o))(hv:eW X.n (amH X.P X.n) o=some (⟨b,off,none⟩,l,l.length):=by kernel_rfl)(h2:dM [i] o=some [(b,.cells ⟨c⟩ t (0,0))]:=by kernel_rfl):J X o:=by
 obtain⟨ops,i0,todo,kk,ev,w,kn,p,rfl,ho,hw,hc⟩:=dz hv
 obtain⟨T,x,y,d,bC,z,ag,u,ay,tf,hx,hy,hu⟩:=Xs hc
 intro bX
 rcases p with ⟨dst,op,ty,pos,cZ,g⟩
 dsimp only at ay;subst ay
 refine vV X.hC (bJ h2)<|ost X.hC ho hw tf hx hy hu rfl h1 (Nat.le_of_ble_eq_true hb) ?_
 simp only[Uh,ho] at hj
 have:=hj bX
 simp only[JP,iG] at this
 exact this
def aiV(P:Program)(n:Nat)(p:Oper)(e:Env):Option (List Value×Int×Nat×Nat×Bool):=match p.op with
 | .index T x y=>match a8 P T with
  |some ⟨.array len E,_,_,_⟩=>match a8 P E with
   |some te=>match bn n e x with
    |some (.agg ⟨l⟩)=>match bn n e y with
     |some (.int _ ix)=>some (l,ix,len,te.size,te.agg)
     |_=>none
    |_=>none
   |none=>none
  |_=>none
 |_=>none
theorem jai{v:Value}(ix:Int)(len sz:Nat)(ag:Bool)(hi:0≤ix∧ix <len)(hp:GH ag l (ix.toNat*sz) sz=some v)(hj:J X (jO v o))(hv:dA X.n (aiV X.P X.n) o=some (l,ix,len,sz,ag):=by kernel_rfl):J X o:=by
 refine Re hv (fun s p e _ hf=>?_) hj
 unfold aiV at hf
 split at hf<;>try (cases hf;done)
 rename_i ay
 split at hf<;>try (cases hf;done)
 rename_i dK
 split at hf<;>try (cases hf;done)
 rename_i te uj
 split at hf<;>try (cases hf;done)
 rename_i hx
 split at hf<;>try (cases hf;done)
 rename_i hy
 cases hf
 obtain⟨b1,tf⟩:=av dK
 obtain⟨b2,p5⟩:=av uj
 rcases p with ⟨dst,op,ty,pos,cZ,g⟩
 dsimp only at ay;subst ay
 exact fun s0 ops i r8 rest hw s' hs todo Q hk=>afE X.hC r8 hw tf p5 (aY hx) (aY hy) hi hp hk
def tw(m:Nat)(e:Env):Option JS→Option JS
 |some ⟨.ops ops todo k,_,w,kn⟩=>some ⟨.ops ops (todo.drop m) k,e,w,kn⟩
 |_=>none
theorem jj(m:Nat)(e:Env)(hj:∀rest,J X (tw m (e++rest) o))(h:(∀o',tw 0 [] o'=tw m [] o→q9 (ng e) o'=some e→J X o')→J X o)(hd:lkE (ng e) e=some e:=by kernel_rfl):J X o:=by
 refine h fun o' h1 h2=>?_
 cases o' with
 |none=>simp[q9] at h2
 |some s'=>
  rcases s' with ⟨p',e',w',kn'⟩
  cases o with
  |none=>exact(hj []).elim
  |some s=>
   rcases s with ⟨p,e0,w,kn⟩
   cases p' with
   |ops bcl adM k'=>
    cases p with
    |ops ops todo k=>
     simp only[tw,Option.some.injEq,JS.mk.injEq,Pos.ops.injEq,List.drop_zero,true_and] at h1
     obtain⟨⟨rfl,rfl,rfl⟩,rfl,rfl⟩:=h1
     rw[s9] at h2
     obtain⟨r,hr⟩:=fT (n:=X.n) (D:=X.D) (kH h2) (kH hd)
     intro bX
     have:=hj r bX
     show ab _ _ _ _ _ _ (A X.n e' X.D) _
     rw[hr]
     exact this
    |_=>simp[tw] at h1
   |_=>cases p<;>simp[tw] at h1<;>exact(hj []).elim
end
attribute [irreducible] tw Uh
section
variable {X:Cx} {o:Option JS}
def au3(i:Nat)(rest:Env)(todo:List Nat):Option JS→Option JS
 |some ⟨.Im ops base Pl _ k,_,w,kn⟩=>some ⟨.ops ops (i::todo) k,cw ops base i Pl++rest,w,kn⟩
 |_=>none
def LK(X:Cx)(i:Nat)(o:Option JS)(rest:Env)(todo:List Nat):Prop:=match o with
 |some ⟨.Im ops base Pl Sl k,_,w,kn⟩=>∀v s',(∀j u,(j,u)∈pending ops i Sl→sV ops X.n base Pl j=false→(∀B,(j,B)∈kn.nd→Ext ⟨X.ro,[]⟩ s'→(∀x∈B,s'.has x.1 x.2)→eN X.C X.fn X.az ops X.n X.D j u (cw ops base j Pl) s')→eN X.C X.fn X.az ops X.n X.D j u (cw ops base j Pl) ⟨X.ro,den w⟩→eN X.C X.fn X.az ops X.n X.D j u (cw ops base j Pl) s')→
  (PF X kn.nd ops base ((i,v)::Pl) (pending ops i Sl)→tD X.C X.fn X.az ops X.n X.D base ((i,v)::Pl) (pending ops i Sl) (KQ X k) s')→ab X.C X.fn X.az ops todo (KQ X k) (A X.n (upd (aQ ops i) v (cw ops base i Pl++rest)) X.D) s'
 |_=>True
def Yf(is:List Nat):Option JS→Bool
 |some ⟨.Im ops _ Pl Sl _,_,_,_⟩=>fD ops&&((is.all fun i=>Nat.blt i ops.size&& !bh i (ak Pl))&&(nodupB (ak Pl)&&(oR ops (ak Pl)&&(fE (ak Sl) (ak Pl)&&(afx ops (ak Pl) is&& !is.isEmpty)))))
 |_=>false
def ak8(X:Cx)(o:Option JS):List Nat→Prop
 | []=>True
 |i::is=>(∀rest todo,LK X i o rest todo→J X (au3 i rest todo o))∧ak8 X o is
theorem Jb(is:List Nat)(h:ak8 X o is)(hb:Yf is o=true:=by kernel_rfl):J X o:=by
 unfold Yf at hb
 split at hb<;>try (cases hb;done)
 rename_i ops base Pl Sl k e w kn
 simp only[Bool.and_eq_true,Bool.not_eq_true'] at hb
 obtain⟨h1,h2,h3,h4,h5,h6,h7⟩:=hb
 intro bX hpf
 refine acy is h1 h2 h3 h4 h5 h6 ?_ h7
 clear h6 h7
 induction is with
 |nil=>trivial
 |cons i is ih=>
  simp only[List.all_cons,Bool.and_eq_true,Bool.not_eq_true'] at h2
  refine⟨fun rest todo hk=>h.1 rest todo (fun v s' hp ha=>?_) bX,ih h.2 h2.2⟩
  have iX:∀x,x∈pending ops i Sl→x∈Sl:=fun x hx=>(List.mem_filter.1 hx).1
  refine hk v s' (fun j u Ji bV=>?_) (ha ⟨fun j u Ji hpb s0=>?_,fun j u B Ji hB s0 Hn u9=>?_⟩)
  ·cases hpb:sV ops X.n base Pl j with
   |true=>exact hpf.1 j u (iX _ Ji) hpb s'
   |false=>exact hp j u Ji hpb (fun B hB hx hb=>hpf.2 j u B (iX _ Ji) hB s' hx hb) bV
  ·have Pf:j∈ak Sl:=aP.2 ⟨u,iX _ Ji⟩
   have qN:i∉bp ops j:=fun hd=>by
    have h8:=bN.1 h5 j Pf
    have h9:=bN.1 (List.all_eq_true.1 h4 j h8) i hd
    rw[aJ.2 h9] at h2;exact absurd h2.1.2 (by simp)
   rw[cW qN]
   exact hpf.1 j u (iX _ Ji) (by simp only[sV,cW qN] at hpb;exact hpb) s0
  have Pf:j∈ak Sl:=aP.2 ⟨u,iX _ Ji⟩
  have qN:i∉bp ops j:=fun hd=>by
   have h8:=bN.1 h5 j Pf
   have h9:=bN.1 (List.all_eq_true.1 h4 j h8) i hd
   rw[aJ.2 h9] at h2;exact absurd h2.1.2 (by simp)
  rw[cW qN]
  exact hpf.2 j u B (iX _ Ji) hB s0 Hn u9
theorem aV(i:Nat)(h:∀rest todo,LK X i o rest todo→J X (au3 i rest todo o))(hb:Yf [i] o=true:=by kernel_rfl):J X o:=Jb [i] ⟨h,trivial⟩ hb
def WL(i:Nat):Option JS→Option JS→Option JS
 |some ⟨.Im ops base Pl Sl k,e,_,kn⟩,some ⟨.ops _ _ _,e',w',kn'⟩=>some ⟨.Im ops base ((i,match aQ ops i with
  |some d=>(gI e' d).getD undef
  |none=>undef)::Pl) (pending ops i Sl) k,e,w',⟨kn'.c,kn.nd⟩⟩
 |_,_=>none
def bkL(i:Nat)(rest:Env)(todo:List Nat):Option JS→Option JS→Option JS
 |some ⟨.Im ops base Pl _ k,_,_,_⟩,some ⟨_,e',w',kn'⟩=>some ⟨.ops ops todo k,upd (aQ ops i) (match aQ ops i with
  |some d=>(gI e' d).getD undef
  |none=>undef) (cw ops base i Pl++rest),w',kn'⟩
 |_,_=>none
theorem WC(h:bkL i rest todo o o1=o1)(h1:o1≠none):∃ops base Pl Sl k e w kn v w' kn',o=some ⟨.Im ops base Pl Sl k,e,w,kn⟩∧o1=some ⟨.ops ops todo k,upd (aQ ops i) v (cw ops base i Pl++rest),w',kn'⟩:=by
 unfold bkL at h
 split at h
 ·simp only[Option.some.injEq,JS.mk.injEq] at h
  obtain⟨rfl,h,_⟩:=h
  exact⟨_,_,_,_,_,_,_,_,_,_,_,rfl,by rw[h]⟩
 exact(h1 h.symm).elim
def rwO:Option JS→List Sg
 |some s=>s.rw
 |none=>[]
theorem eH(hK:LK X i o rest todo)(is:List Nat)(hj:J X (WL i o o1))(hc:bkL i rest todo o o1=o1:=by kernel_rfl)(h2:qZ is o1=some (rwO o):=by kernel_rfl):J X o1:=by
 by_cases dL:o1=none
 ·subst dL
  cases o with
  |none=>exact hj
  |some s=>rcases s with ⟨p,e,w,kn⟩;cases p<;>exact hj
 obtain⟨j5,base,Pl,Sl,k,e,w,kn,v,w',kn',rfl,rfl⟩:=WC hc dL
 intro bX
 have hp:=lK h2
 have hv:(match aQ j5 i with
  |some d=>(gI (upd (aQ j5 i) v (cw j5 base i Pl++rest)) d).getD undef
  |none=>undef)=v∨aQ j5 i=none:=by
  cases hd:aQ j5 i with
  |none=>exact .inr rfl
  |some d=>left;simp[upd,gI]
 have hj:=hj bX
 simp only[WL,JP] at hj
 have key:=hK (match aQ j5 i with
  |some d=>(gI (upd (aQ j5 i) v (cw j5 base i Pl++rest)) d).getD undef
  |none=>undef) ⟨X.ro,den w'⟩ (fun j u _ _ _ hs=>hs.ext fun b ob hb=>?_) hj
 ·show ab _ _ _ _ _ _ _ _
  rcases hv with hv|hv
  ·rw[hv] at key;exact key
  rw[hv] at key ⊢;exact key
 rcases hb with hb|hb
 ·exact .inl hb
 exact .inr (hp.mem_iff.2 (List.mem_append_left _ hb))
def afg(i:Nat):Option JS→Bool
 |some ⟨.Im ops _ _ Sl _,_,_,_⟩=>(pending ops i Sl).isEmpty
 |_=>false
theorem gq(hK:LK X i o rest todo)(hj:J X (WL i o o1))(hc:bkL i rest todo o o1=o1:=by kernel_rfl)(h2:afg i o=true:=by kernel_rfl):J X o1:=by
 by_cases dL:o1=none
 ·subst dL
  cases o with
  |none=>exact hj
  |some s=>rcases s with ⟨p,e,w,kn⟩;cases p<;>exact hj
 obtain⟨j5,base,Pl,Sl,k,e,w,kn,v,w',kn',rfl,rfl⟩:=WC hc dL
 intro bX
 have hv:(match aQ j5 i with
  |some d=>(gI (upd (aQ j5 i) v (cw j5 base i Pl++rest)) d).getD undef
  |none=>undef)=v∨aQ j5 i=none:=by
  cases hd:aQ j5 i with
  |none=>exact .inr rfl
  |some d=>left;simp[upd,gI]
 have hj:=hj bX
 simp only[WL,JP] at hj
 have hpe:pending j5 i Sl=[]:=by simpa [afg] using h2
 have key:=hK (match aQ j5 i with
  |some d=>(gI (upd (aQ j5 i) v (cw j5 base i Pl++rest)) d).getD undef
  |none=>undef) ⟨X.ro,den w'⟩ (fun j u Ji=>by rw[hpe] at Ji;cases Ji) hj
 show ab _ _ _ _ _ _ _ _
 rcases hv with hv|hv
 ·rw[hv] at key;exact key
 rw[hv] at key ⊢;exact key
def ndG:List (Nat×Cells)→Nat→Option Cells
 | [],_=>none
 | (i,B)::l,j=>bif Nat.beq i j then some B else ndG l j
theorem X4{j:Nat}{B:Cells}:∀ {l:List (Nat×Cells)},ndG l j=some B→(j,B)∈l
 | (i,C)::l,h=>by
  simp only[ndG] at h
  cases hb:Nat.beq i j with
  |true=>
   rw[hb] at h;simp only[cond_true,Option.some.injEq] at h;subst h
   have:=Nat.eq_of_beq_eq_true hb;subst this
   exact List.mem_cons_self
  |false=>rw[hb] at h;simp only[cond_false] at h;exact List.mem_cons_of_mem _ (X4 h)
structure Rk where
 a:List Value
 b:List Value
 c:List (Option Cells)
 d:List (Option Cells)
def aIx(ps:List Nat)(w:List Sg):Option Cells:=bif GM ps then (match Qq ps w with
 |some x=>some (den x)
 |none=>none) else none
def rkL(P:Program)(n:Nat)(ops:Array Oper)(base:Env)(Pl:List (Nat×Value))(nd:List (Nat×Cells))(w:List Sg)(kn:Cells):List (List Nat)→List (Nat×Value)→Option Rk
 |_,[]=>some ⟨[],[],[],[]⟩
 |hs,(j,u)::r=>bif sV ops n base Pl j then rkL P n ops base Pl nd w kn hs r else (match hs with
  |h::hs=>match ndG nd j with
   |some B=>match rkL P n ops base Pl nd w kn hs r with
    |some ⟨a,b,c,d⟩=>some ⟨a,b,aIx h w::c,some B::d⟩
    |none=>none
   |none=>match ops[j]? with
    |some p=>match wF ops n (cw ops base j Pl) p.guard with
     |some true=>match p.op with
      | .load T x=>match bn n (cw ops base j Pl) x with
       |some (.pointer (some ⟨b,off,none⟩))=>match Bu w kn (h.headD 0) with
        |some (b',l)=>match ldv P T l off with
         |some v=>match rkL P n ops base Pl nd w kn hs r with
          |some ⟨a1,b1,c,d⟩=>some ⟨v:: .int .i64 b'::a1,u:: .int .i64 b::b1,c,d⟩
          |none=>none
         |none=>none
        |none=>none
       |_=>none
      |_=>none
     |_=>none
    |none=>none
  | []=>none)
theorem M3{ops:Array Oper}{base:Env}{Pl:List (Nat×Value)}{nd:List (Nat×Cells)}{w:List Sg}{kn:Cells}(bX:Knows X.ro kn):∀ {l:List (Nat×Value)} {hs:List (List Nat)} {k:Rk},rkL X.P X.n ops base Pl nd w kn hs l=some k→k.a=k.b→k.c=k.d→∀j u,(j,u)∈l→sV ops X.n base Pl j=false→
 (∀B,(j,B)∈nd→Ext ⟨X.ro,[]⟩ ⟨X.ro,den w⟩→(∀x∈B,(⟨X.ro,den w⟩:St).has x.1 x.2)→eN X.C X.fn X.az ops X.n X.D j u (cw ops base j Pl) ⟨X.ro,den w⟩)→eN X.C X.fn X.az ops X.n X.D j u (cw ops base j Pl) ⟨X.ro,den w⟩
 | [],_,_,_,_,_,j,u,h,_,_=>by cases h
 | (j0,u0)::r,hs,k,h,zh,hcd,j,u,hm,hpj,lZ=>by
  simp only[rkL] at h
  cases hpb:sV ops X.n base Pl j0 with
  |true=>
   rw[hpb] at h;simp only[cond_true] at h
   rcases List.mem_cons.1 hm with h1|h1
   ·cases h1;rw[hpb] at hpj;cases hpj
   exact M3 bX h zh hcd j u h1 hpj lZ
  |false=>
   rw[hpb] at h;simp only[cond_false] at h
   split at h<;>try (cases h;done)
   rename_i h0 bZ
   split at h
   ·rename_i B hB
    split at h<;>try (cases h;done)
    rename_i a b c d hr
    cases h
    simp only[List.cons.injEq] at hcd
    rcases List.mem_cons.1 hm with h1|h1
    ·cases h1
     refine lZ B (X4 hB) Oh fun x hx=> .inr ?_
     have hw:=hcd.1
     unfold aIx at hw
     cases ho:GM h0 with
     |false=>rw[ho] at hw;cases hw
     |true=>
      rw[ho] at hw;simp only[cond_true] at hw
      split at hw<;>try (cases hw;done)
      rename_i y hy
      simp only[Option.some.injEq] at hw;subst hw
      exact(xu hy ho).mem_iff.2 (List.mem_append_left _ hx)
    exact M3 bX hr zh hcd.2 j u h1 hpj lZ
   split at h<;>try (cases h;done)
   rename_i p hp
   have EL:aQ ops j0=p.dst:=by simp only[aQ,hp,Option.bind_some]
   split at h<;>try (cases h;done)
   rename_i hg
   split at h<;>try (cases h;done)
   rename_i T x ay
   split at h<;>try (cases h;done)
   rename_i b0 off hx
   split at h<;>try (cases h;done)
   rename_i b' l hc
   split at h<;>try (cases h;done)
   rename_i v hv
   split at h<;>try (cases h;done)
   rename_i a1 b1 c d hr
   cases h
   simp only[List.cons.injEq,Value.int.injEq,true_and] at zh
   obtain⟨rfl,hb,zh⟩:=zh
   have hb:b'=b0:=by omega
   subst hb
   rcases List.mem_cons.1 hm with h1|h1
   ·cases h1
    obtain⟨t,fz,hh⟩:=zt (X:=X) bX hc
    intro s1 hx1 rest todo Q hk
    rw[EL] at hk
    exact lL X.hC hp rest (nH hg rest) (by rw[ay];rfl) (agj ay hx hh hv) hx1 hk
   exact M3 bX hr zh hcd j u h1 hpj lZ
def rkO(P:Program)(n i:Nat)(hs:List (List Nat)):Option JS→Option JS→Option Rk
 |some ⟨.Im ops base Pl Sl _,_,_,kn⟩,some s1=>rkL P n ops base Pl kn.nd s1.rw s1.kn.c hs (pending ops i Sl)
 |_,_=>none
def rkA:Option Rk→Option (List Value×List (Option Cells))
 |some k=>some (k.a,k.c)
 |none=>some ([],[])
def rkB:Option Rk→Option (List Value×List (Option Cells))
 |some k=>some (k.b,k.d)
 |none=>none
theorem gM(hK:LK X i o rest todo)(hs:List (List Nat))(hj:J X (WL i o o1))(hc:bkL i rest todo o o1=o1:=by kernel_rfl)(h2:rkA (rkO X.P X.n i hs o o1)=rkB (rkO X.P X.n i hs o o1):=by kernel_rfl):J X o1:=by
 by_cases dL:o1=none
 ·subst dL
  cases o with
  |none=>exact hj
  |some s=>rcases s with ⟨p,e,w,kn⟩;cases p<;>exact hj
 obtain⟨j5,base,Pl,Sl,k,e,w,kn,v,w',kn',rfl,rfl⟩:=WC hc dL
 intro bX
 have hv:(match aQ j5 i with
  |some d=>(gI (upd (aQ j5 i) v (cw j5 base i Pl++rest)) d).getD undef
  |none=>undef)=v∨aQ j5 i=none:=by
  cases hd:aQ j5 i with
  |none=>exact .inr rfl
  |some d=>left;simp[upd,gI]
 have hj:=hj bX
 simp only[WL,JP] at hj
 have bV:∀j u,(j,u)∈pending j5 i Sl→sV j5 X.n base Pl j=false→(∀B,(j,B)∈kn.nd→Ext ⟨X.ro,[]⟩ ⟨X.ro,den w'⟩→(∀x∈B,(⟨X.ro,den w'⟩:St).has x.1 x.2)→eN X.C X.fn X.az j5 X.n X.D j u (cw j5 base j Pl) ⟨X.ro,den w'⟩)→eN X.C X.fn X.az j5 X.n X.D j u (cw j5 base j Pl) ⟨X.ro,den w'⟩:=by
  simp only[rkO] at h2
  cases hr:rkL X.P X.n j5 base Pl kn.nd w' kn'.c hs (pending j5 i Sl) with
  |none=>rw[hr] at h2;cases h2
  |some x=>
   rw[hr] at h2
   simp only[rkA,rkB,Option.some.injEq,Prod.mk.injEq] at h2
   exact M3 bX hr h2.1 h2.2
 have key:=hK (match aQ j5 i with
  |some d=>(gI (upd (aQ j5 i) v (cw j5 base i Pl++rest)) d).getD undef
  |none=>undef) ⟨X.ro,den w'⟩ (fun j u Ji hpb hn _=>bV j u Ji hpb hn) hj
 show ab _ _ _ _ _ _ _ _
 rcases hv with hv|hv
 ·rw[hv] at key;exact key
 rw[hv] at key ⊢;exact key
end
attribute [irreducible] rkO rkA rkB au3 Yf WL bkL rwO afg
abbrev RY(ro:Nat→Option Obj)(Φ:Value→Cells→Prop):Ending→St→Prop:=fun en s'=>∃v X,en= .returned v∧(⟨ro,X⟩:St).le s'∧Φ v X
theorem Round.mono{l:Nat}{bd:Code}{R':Ending→St→Prop}(h:Round C l f tm as bd s R)(hr:∀e s,R e s→R' e s):Round C l f tm as bd s R':=
 fun main T hT c cs k1 k2=>h main T hT c cs (fun v s' hv=>k1 v s' (hr _ _ hv)) (fun ch s' hv=>k2 ch s' (hr _ _ hv))
theorem Round.weaken{C':Class}(hc:∀main T,C' main T→C main T){l:Nat}{bd:Code}(h:Round C l f tm as bd s R):Round C' l f tm as bd s R:=
 fun main T hT=>h main T (hc main T hT)
theorem Round.frame{l:Nat}{bd:Code}{s1:St}{B:Cells}(hf:Round (CP P) l f tm as bd s1 R)(hB:∀x∈B,x∈fr)(hc:acK fr B ro s1 s):
 Round (CP P) l f tm as bd s (fun en s'=>∃yN,R en yN∧acK fr B ro yN s'):=
 fun main T hT c cs k1 k2=>hf main _ (Bd hT hB ro) c cs (fun v yN hv _ s' tk=>k1 v s' ⟨yN,hv,tk⟩) (fun ch yN hv _ s' tk=>k2 ch s' ⟨yN,hv,tk⟩) rfl s hc
def adf(r:Loop)(vs:List Value):Array Value:=(r.params.zip ⟨vs⟩).foldl (fun tmps (x:Tmp×Value)=>tmps.setIfInBounds x.1 x.2) r.tmps
def YX(P:Program)(bl:Nat)(vs:List Value)(ro:Nat→Option Obj)(own:Cells)(Φ:Value→Cells→Prop):Prop:=
 ∃r,(bl,.loop r)∈own∧vs.length=r.params.size∧Round (CP P) bl r.fn (adf r vs) r.assign r.body ⟨ro,own⟩ (RY ro Φ)
theorem YX.use{own:Cells}(hy:YX P bl vs ro own Φ)(hs:Sub ro s.ro)(hp:s.rw.Perm (own++fr)){Q:Next→St→Prop}{E:Halt→St→Prop}
 (h:∀l f tm as bd,Round (CP P) l f tm as bd s (fun en s'=>∃v X,en= .returned v∧Φ v X∧(⟨s.ro,X++fr⟩:St).le s')→Q (.round l f tm as bd) s):bP P (Instr.yield bl ⟨vs⟩) s Q E:=by
 obtain⟨r,h1,h2,h3⟩:=hy
 simp only[Instr.yield,Instr.getLoop,aa]
 refine cI (o:= .loop r) (.inr (hp.mem_iff.2 (List.mem_append_left _ h1))) rfl rfl ?_
 have u6:¬(⟨vs⟩:Array Value).size≠r.params.size:=by simpa using h2
 simp only[ae,if_neg u6]
 refine h _ _ _ _ _ (Round.mono (Round.frame (fr:=fr) (B:=[]) (ro:=s.ro) (s:=s) h3 (fun _ h=>(by cases h)) ⟨hp,fun b o hb=> .inl (hs b o hb),Sub.refl _⟩) fun en s' DR=>?_)
 obtain⟨yN,⟨v,X,rfl,⟨R,hR1,hR2⟩,qj⟩,hc⟩:=DR
 refine⟨v,X,rfl,qj,R,?_,fun b o hb=> .inl (hc.keep b o hb)⟩
 refine hc.rw.trans ((hR1.append_right fr).trans ?_)
 simp only[List.append_assoc]
 exact List.Perm.append_left _ List.perm_append_comm
section
variable {X:Cx} {o:Option JS}
def asI(n:Nat)(p:Oper)(e:Env):Option (Nat×List Value):=match p.op with
 | .call ⟨.value x,xs,_⟩=>match bn n e x with
  |some (.func (.yield bl) ⟨[]⟩ ⟨[]⟩)=>match ya n e xs.toList with
   |some vs=>some (bl,vs)
   |none=>none
  |_=>none
 |_=>none
theorem jyc{own:Cells}(ps:List Nat)(hy:YX X.P bl vs py own Φ)(fB:Sub py X.ro)(hj:∀v Y,Φ v Y→J X (mY ps v Y o))(h1:eW X.n (asI X.n) o=some (bl,vs):=by kernel_rfl)(h2:dM ps o=some own:=by kernel_rfl):J X o:=by
 obtain⟨ops,i,todo,k,e,w,kn,p,rfl,ho,hw,hc⟩:=dz h1
 intro bX
 unfold asI at hc
 split at hc<;>try (cases hc;done)
 rename_i x xs at_ ay
 split at hc<;>try (cases hc;done)
 rename_i bl' hx
 split at hc<;>try (cases hc;done)
 rename_i oe EG
 cases hc
 rcases p with ⟨dst,op,ty,pos,cZ,g⟩
 dsimp only at ay;subst ay
 have hp:=bJ h2
 refine bR X.hC ho hw (by simp) ?_
 have Tt:xs.map (ev X.n e)=⟨vs⟩:=si EG
 simp only[execOp,resolve,aF hx,Deferred.ofValue,ae,Tt]
 have hiv:(invoke (.fn (.yield bl) ⟨[]⟩) (⟨[]⟩++⟨vs⟩):Sem Next)=Instr.yield bl ⟨vs⟩:=by simp[invoke]
 rw[hiv]
 refine YX.use hy fB hp fun l f tm as bd hR=>?_
 show Round X.C l f tm as bd _ _
 refine Round.mono (Round.weaken X.hC hR) fun en s' DR=>?_
 obtain⟨v,Y,rfl,qj,hle⟩:=DR
 have:=hj v Y qj
 rw[n7 ho] at this
 have:=this bX
 simp only[JP,gk] at this
 have:=this.more X.hC hle
 show ab _ _ _ _ _ _ _ _
 rw[aW]
 exact this
end
attribute [irreducible] asI
def mk:List Nat→Cells
 | []=>[]
 |b::r=>(b,.deferred (some []))::mk r
def af2(P:Program)(fn:Func)(R:Ending→St→Prop):Post
 | .normal,a,s| .ret,a,s=>∃uA rest,a.defers=uA.map ee∧s.rw.Perm (mk uA++rest)∧bP P (results fn a.tmps) ⟨s.ro,rest⟩ (fun v s'=>∃s0,s0.le s'∧R (.returned v) s0) (fun _ _=>False)
 |_,_,_=>False
section
variable {P:Program} {C:Class}
theorem Ax(hC:∀main T,C main T→Closed P main T)(hT:C main T){rest:Cells}:∀(uA:List Nat) (fr:Frame) (s:St),fr.mode= .returning→fr.defers=uA.map ee→s.rw.Perm (mk uA++rest)→T (G {fr with defers:=[]} cs) ⟨s.ro,rest⟩→T (G fr cs) s
 | [],fr,s,_,hd,hp,h=>by
  have:fr={fr with defers:=[]}:=by rcases fr with ⟨a,b,c,d,e,f,g⟩;simp only[List.map_nil] at hd;subst hd;rfl
  rw[this]
  exact(hC main T hT).mono _ ⟨s.ro,rest⟩ _ ⟨[],by simpa [mk] using hp,fun b o hb=> .inl hb⟩ h
 |b::r,fr,s,hm,hd,hp,h=>by
  obtain⟨L,Rr,hs⟩:=List.append_of_mem (hp.mem_iff.2 (List.mem_append_left _ List.mem_cons_self))
  refine unwind_mark hC hT (.inl hm) (ds:=r.map ee) (by simpa using hd) hs ?_
  have Tm:(L++Rr).Perm (mk r++rest):=by
   rw[hs] at hp
   exact(List.perm_middle.symm.trans hp).cons_inv
  refine(hC main T hT).mono _ ⟨s.ro,L++Rr⟩ _ ⟨[(b,.deferred none)],?_,fun b o hb=> .inl hb⟩ (Ax hC hT r _ _ hm rfl Tm h)
  exact List.perm_middle.trans (List.perm_append_singleton _ _).symm
theorem Mo(hC:∀main T,C main T→Closed P main T){c:Code}{args:Array Value} 
 (hf:P.funcs[f]?=some fn) (hb:fn.body=some c) (h:Wp C f none c (af2 P fn R) ⟨args++Array.replicate (fn.ntmps-args.size) undef,[]⟩ s):Fn C P f args s R:=by
 intro main T hT cl cs k1 k2
 let b:Frame:={(default:Frame) with fn:=f,kind:= .normal,roundOf:=none}
 have gV:Frame.enter P f args .normal=aK b ⟨args++Array.replicate (fn.ntmps-args.size) undef,[]⟩ [.code c]:=by
  simp[Frame.enter,aK,hf,hb,b]
 rw[gV]
 refine h main T hT b [] (cl::cs) rfl (by simp[b]) rfl fun e a' s' q=>?_
 have r5:∀(todo:List Item),(∃uA rest,a'.defers=uA.map ee∧s'.rw.Perm (mk uA++rest)∧bP P (results fn a'.tmps) ⟨s'.ro,rest⟩ (fun v s'=>∃s0,s0.le s'∧R (.returned v) s0) (fun _ _=>False))→T (G {aK b a' todo with mode:= .returning} (cl::cs)) s':=by
  intro todo ⟨uA,rest,hd,hp,hr⟩
  exact Ax hC hT uA _ _ rfl hd hp (sP hC hT hf rfl rfl rfl rfl hr k1)
 cases e with
 |normal=>
  exact(hC main T hT).go rfl rfl (g':=G {aK b a' [] with mode:= .returning} (cl::cs)) (fun w=>by simp[G,stepG,stepG.exec,aK,b]) (r5 _ q)
 |ret=>
  exact fun todo=>(hC main T hT).go rfl rfl (g':=G {aK b a' (.code .ret::todo) with mode:= .returning} (cl::cs)) (fun w=>by simp[G,stepG,stepG.exec,aK,b]) (r5 _ q)
 |panic ch=>exact q.elim
 |exit id=>exact q.elim
 |goto l=>exact q.elim
 |outgrown=>exact q.elim
end
def XM(P:Program)(hm:P.follows .mixedOrders=true)(f:FuncId)(ro:Nat→Option Obj)(R:Ending→St→Prop):Cx:=⟨P,CP P,eQ,hm,f,none,(qA P f).ntmps,[],ro,af2 P (qA P f) R⟩
theorem aoc(hm:P.follows .mixedOrders=true){L:Cells}(own:List Sg)(kn:Cells)(hk:Knows ro kn)(h:J (XM P hm f ro (RX ro Φ)) (jC P f args own kn))(hL:den own=L:=by rfl):dO P f args ro L Φ:=by
 subst hL
 unfold jC at h
 split at h<;>try exact h.elim
 rename_i fn hf
 split at h<;>try exact h.elim
 rename_i c hc
 cases hl:Nat.ble args.length fn.ntmps with
 |false=>rw[hl] at h;exact h.elim
 |true=>
  rw[hl] at h
  have uR:qA P f=fn:=by simp only[qA,hf]
  have:=h hk
  simp only[JP,XM,KQ,uR] at this
  refine Mo eQ hf hc ?_
  have he:=kL args fn.ntmps (Nat.le_of_ble_eq_true hl)
  rw[←he] at this
  exact this
structure QM(X:Cx)(R:Ending→St→Prop)(uA:List Nat):Prop where
 q:X.Q=af2 X.P (qA X.P X.fn) R
 d:X.D=uA.map ee
def Cx.dm(X:Cx)(bd:Nat):Cx:={X with D:=ee bd::X.D}
theorem qm0{hm:P.follows .mixedOrders=true}:QM (XM P hm f ro R) R []:=⟨rfl,rfl⟩
theorem QM.a(h:QM X R uA):QM (X.at ro) R uA:=⟨h.q,h.d⟩
theorem QM.m(h:QM X R uA):QM (X.dm bd) R (bd::uA):=⟨h.q,by simp[Cx.dm,h.d]⟩
theorem QM.w{aIL:List Nat}(h:QM X R uA):QM (X.wd (aIL.map ee)) R aIL:=⟨h.q,rfl⟩
def C5(pm:List Nat):Option JS→Option JS
 |some ⟨p,e,w,kn⟩=>some ⟨p,e,dD pm 0 w,kn⟩
 |none=>none
section
variable {X:Cx} {o:Option JS}
theorem jrM(hq:QM X (RX py Φ) uA)(v:Value)(pm hs ps:List Nat)(Y:Cells)(fB:Sub py X.ro)(hR:Φ v Y)(h0:dM pm o=some (mk uA):=by kernel_rfl)(h1:qU (iu X.P X.n X.fn hs (C5 pm o))=some v:=by kernel_rfl)(h2:Pm (iu X.P X.n X.fn hs (C5 pm o))=Pj (iu X.P X.n X.fn hs (C5 pm o)):=by kernel_rfl)(h3:dM ps (C5 pm o)=some Y:=by kernel_rfl)(h4:zm o=true:=by kernel_rfl):J X o:=by
 obtain⟨ex,e,w,kn,rfl,hex⟩:=tv h4
 simp only[C5,iu] at h1 h2 h3
 cases hr:B5 X.P X.n e (dD pm 0 w) kn.c hs (qA X.P X.fn).results.toList with
 |none=>simp only[hr,qU] at h1;cases h1
 |some x=>
  rcases x with ⟨vs,q⟩
  simp only[hr,qU,Option.some.injEq,Pm,Pj] at h1 h2
  intro bX
  have r5:=tO bX hr (ma h2)
  have hp:=bJ h3
  have DN:=Qf (s0:=⟨py,Y⟩) (R:=RX py Φ) hex r5 h1 (dJ hp fB) ⟨v,Y,rfl,rfl,hR⟩
  have ht:bP X.P (results (qA X.P X.fn) (A X.n e X.D).tmps) ⟨X.ro,den (dD pm 0 w)⟩ (fun v s'=>∃s0,s0.le s'∧RX py Φ (.returned v) s0) (fun _ _=>False):=by
   rcases hex with rfl|rfl<;>exact DN.2
  show X.Q ex (A X.n e X.D) ⟨X.ro,den w⟩
  rw[hq.q]
  have hm:∃uA rest,(A X.n e X.D).defers=uA.map ee∧(den w).Perm (mk uA++rest)∧bP X.P (results (qA X.P X.fn) (A X.n e X.D).tmps) ⟨X.ro,rest⟩ (fun v s'=>∃s0,s0.le s'∧RX py Φ (.returned v) s0) (fun _ _=>False):=⟨uA,_,hq.d,bJ h0,ht⟩
  rcases hex with rfl|rfl<;>exact hm
end
attribute [irreducible] C5
def upQ(Q:Post):Post:=fun e a s=>∃s0,s0.le s∧Q e a s0
theorem jM.more(hT:Closed P main T){b:Frame}(hl:s.le s'):∀ {e:Exit} {a:Act},jM T b k cs e a s→jM T b k cs e a s'
 | .normal,_,h=>hT.mono _ _ _ hl h
 | .exit id,a,h=>by
  simp only[jM] at h ⊢
  cases hk:exitTo id k with
  |some k'=>rw[hk] at h;exact hT.mono _ _ _ hl h
  |none=>rw[hk] at h;exact fun todo ht=>hT.mono _ _ _ hl (h todo ht)
 | .ret,_,h=>fun todo=>hT.mono _ _ _ hl (h todo)
 | .panic _,_,h=>fun todo=>hT.mono _ _ _ hl (h todo)
 | .goto _,_,h=>h.elim
 | .outgrown,_,h=>h.elim
theorem aA5(hC:∀main T,C main T→Closed P main T){fn:FuncId}{az:Option Nat}{c:Code}{Q:Post}{a:Act}(h:Wp C fn az c (upQ Q) a s):Wp C fn az c Q a s:=
 fun main T hT b k cs h1 h2 h3 h4=>h main T hT b k cs h1 h2 h3 fun _ _ _ ⟨_,hl,hq⟩=>jM.more (hC _ _ hT) hl (h4 _ _ _ hq)
def ItX(P:Program)(g:FuncId)(fi ca:List Value)(ro:Nat→Option Obj)(own:Cells)(N:Nat)(El:(Nat→Option Obj)→Nat→List Value→Cells→Prop)(Ψ:Cells→Prop):Prop:=
 ∀(bl:Nat) (aI:Nat→Option Obj) (Inv:Nat→Cells→Prop) (Stop:Cells→Prop),Sub ro aI→
  (∀k vs LL B k8,k <N→El k8 k vs LL→Inv k B→Sub aI k8→YX P bl vs k8 (LL++B) (fun r B'=>(r= .bool true∧Inv (k+1) B')∨(r= .bool false∧Stop B')))→
  ∀B,Inv 0 B→dO P g (fi++[.func (.yield bl) #[] #[]]++ca) aI (own++B) (fun _ Y=>∃Z B',Y=Z++B'∧Ψ Z∧(Inv N B'∨Stop B'))
theorem Round.more(hC:∀main T,C main T→Closed P main T){l:Nat}{bd:Code}(hl:s.le s')(h:Round C l f tm as bd s R):Round C l f tm as bd s' R:=
 fun main T hT c cs k1 k2=>(hC _ _ hT).mono _ _ _ hl (h main T hT c cs k1 k2)
def rfV(P:Program)(n:Nat):Option JS→Option (FuncId×List Value×List Value×Nat)
 |some ⟨.code (.rangeFunc x ps _ _) _,e,_,_⟩=>match bn n e x with
  |some (.func (.func g) ⟨fi⟩ ⟨ca⟩)=>bif BR P g then some (g,fi,ca,ps.size) else none
  |_=>none
 |_=>none
def lpO(X:Cx)(bd:Nat):Option JS→Loop
 |some ⟨.code (.rangeFunc _ ps a b) _,e,_,_⟩=>iy X.fn (A X.n e X.D).tmps ps a b bd
 |_=>iy X.fn #[] #[] .ret .ret bd
def aIH:Option JS→Code
 |some ⟨.code (.rangeFunc _ _ _ b) _,_,_,_⟩=>b
 |_=> .ret
def P9:List Tmp→List Value→Env→Env
 |t::ts,v::vs,e=>P9 ts vs (upd (some t) v e)
 |_,_,e=>e
theorem P8{D:List Deferred}:∀(ts:List Tmp) (vs:List Value) (e:Env),(ts.zip vs).foldl (fun(tm:Array Value) (x:Tmp×Value)=>tm.setIfInBounds x.1 x.2) (A n e D).tmps=(A n (P9 ts vs e) D).tmps
 | [],_,_=>rfl
 |_::_,[],_=>rfl
 |t::ts,v::vs,e=>by
  have:=aW n e D (some t) v
  simp only[Act.put] at this
  simp only[List.zip_cons_cons,List.foldl_cons,P9]
  rw[←P8 ts vs,←this]
def rdO(X:Cx)(bl bd:Nat)(vs:List Value)(w:List Sg)(o:Option JS):Option JS:=match o with
 |some ⟨.code (.rangeFunc _ ps a _) _,e,_,kn⟩=>some ⟨.code a [],P9 ps.toList vs e,.b bl (.loop (lpO X bd o))::w,⟨kn.c,[]⟩⟩
 |_=>none
def afO(jump:Option Code)(bd:Nat)(Z:Cells)(wi:List Sg)(is:List Nat):Option JS→Option JS
 |some ⟨.code _ k,e,w,kn⟩=>match jump with
  |none=>some ⟨Qo k,e,.b bd (.deferred (some [])):: .l Z::(wi++dD is 0 w),⟨kn.c,[]⟩⟩
  |some .ret=>some ⟨.fin .ret,e,.b bd (.deferred (some [])):: .l Z::(wi++dD is 0 w),⟨kn.c,[]⟩⟩
  |some (.exit id)=>match Bj id k with
   |some p=>some ⟨p,e,.b bd (.deferred (some [])):: .l Z::(wi++dD is 0 w),⟨kn.c,[]⟩⟩
   |none=>none
  |_=>none
 |_=>none
def asJ(bl:Nat)(Lp:Loop)(wf:ι→List Sg)(Inv:Nat→ι→Prop)(Sp:Code→ι→Prop)(k:Nat):Value→Cells→Prop:=fun r B=>
 (r= .bool true∧∃j,Inv (k+1) j∧B=(bl,.loop Lp)::den (wf j))∨(r= .bool false∧∃jump j,Sp jump j∧B=(bl,.loop {Lp with state:= .done,pending:=some jump})::den (wf j))
def Cx.rd(X:Cx)(bl:Nat)(ro:Nat→Option Obj)(Φ:Value→Cells→Prop)(body:Code):Cx:=⟨X.P,CP X.P,eQ,X.hm,X.fn,some bl,X.n,[],ro,IP (CP X.P) (RY ro Φ) bl X.fn body⟩
def Cx.re(X:Cx)(bl:Nat)(ro:Nat→Option Obj)(Φ:Value→Cells→Prop):Cx:=⟨X.P,CP X.P,eQ,X.hm,X.fn,some bl,X.n,[],ro,B4 (RY ro Φ) bl⟩
theorem MG:∀(k:List KI),KQ (X.dm bd) k=KQ X k
 | []=>rfl
 | .seq _::k=>by simp only[KQ,MG k];rfl
 | .block _::k=>by simp only[KQ,MG k]
 | .next _::k=>by simp only[KQ,MG k]
theorem KY(Z W R:List α)(x y:α):((Z++x::W)++y::R).Perm (x::y::(Z++(W++R))):=by
 refine List.perm_middle.trans ?_
 rw[List.append_assoc,List.cons_append]
 exact(List.Perm.cons y List.perm_middle).trans (List.Perm.swap _ _ _)
section
variable {X:Cx} {o:Option JS}
theorem jrf{np:Nat}{Ψ:Cells→Prop}(ow:List Sg)(hit:ItX X.P g fi ca X.ro (den ow) N El Ψ)(hel:∀ro k vs LL,El ro k vs LL→vs.length=np)
 (wf:ι→List Sg)(Inv:Nat→ι→Prop)(Sp:Code→ι→Prop)(i0:ι)(h0:Inv 0 i0)(is:List Nat)
 (hb:∀bl bd k vs LL i k8,k <N→El k8 k vs LL→Inv k i→Sub X.ro k8→J (X.rd bl k8 (asJ bl (lpO X bd o) wf Inv Sp k) (aIH o)) (rdO X bl bd vs (wf i++[.l LL]) o))
 (hN:∀bd i Z,Inv N i→Ψ Z→J (X.dm bd) (afO none bd Z (wf i) is o))(hS:∀bd i Z jump,Sp jump i→Ψ Z→J (X.dm bd) (afO (some jump) bd Z (wf i) is o))
 (h1:rfV X.P X.n o=some (g,fi,ca,np):=by kernel_rfl)(h2:qZ is o=some (ow++wf i0):=by kernel_rfl)(hf:(X.P.funcs[X.fn]?).isSome=true:=by kernel_rfl) (hr:X.az=none:=by rfl):J X o:=by
 unfold rfV at h1
 split at h1<;>try (cases h1;done)
 rename_i x params assign body k e w kn
 split at h1<;>try (cases h1;done)
 rename_i g' Wi zu hx
 cases HI:BR X.P g' with
 |false=>rw[HI] at h1;cases h1
 |true=>
  rw[HI] at h1
  simp only[cond_true,Option.some.injEq,Prod.mk.injEq] at h1
  obtain⟨rfl,rfl,rfl,hnp⟩:=h1
  have ff:=kU HI
  intro bX
  have hp:=lK h2
  rw[lF] at hp
  obtain⟨fn',uR⟩:=Option.isSome_iff_exists.1 hf
  show Wp X.C X.fn X.az (.rangeFunc x params assign body) (KQ X k) (A X.n e X.D) ⟨X.ro,den w⟩
  rw[hr]
  refine aA5 X.hC (Au X.hC (fi:=⟨Wi⟩) (ca:=⟨zu⟩) (by rw[ei];exact aF hx) ff fun bd bl _ _=>?_)
  rw[S3]
  have hy:=hit bl X.ro (fun k B=>∃i,Inv k i∧B=(bl,.loop (iy X.fn (A X.n e X.D).tmps params assign body bd))::den (wf i))
   (fun B=>∃jump i,Sp jump i∧B=(bl,.loop {iy X.fn (A X.n e X.D).tmps params assign body bd with state:= .done,pending:=some jump})::den (wf i)) (Sub.refl _) (fun k vs LL B k8 hk hv hi hs=>?_) _ ⟨i0,h0,rfl⟩
  rotate_left
  ·obtain⟨i,hi,rfl⟩:=hi
   refine⟨iy X.fn (A X.n e X.D).tmps params assign body bd,List.mem_append_right _ List.mem_cons_self,(hel _ _ _ _ hv).trans hnp.symm,Round.more eQ (s:=⟨k8,((bl,.loop (iy X.fn (A X.n e X.D).tmps params assign body bd))::den (wf i))++LL⟩) ⟨[],by rw[List.append_nil];exact List.perm_append_comm,fun b o hb=> .inl hb⟩ (Dv eQ uR ?_)⟩
   have:=hb bl bd k vs LL i k8 hk hv hi hs fun y hy=>hs _ _ (bX y hy)
   have N4:den (.b bl (.loop (iy X.fn (A X.n e X.D).tmps params assign body bd))::(wf i++[.l LL]))=((bl,.loop (iy X.fn (A X.n e X.D).tmps params assign body bd))::den (wf i))++LL:=by rw[iG,lF];rfl
   rw[←N4]
   have hyt:adf (iy X.fn (A X.n e X.D).tmps params assign body bd) vs=(A X.n (P9 params.toList vs e) X.D).tmps:=by
    rw[←P8]
    simp only[adf,iy]
    rw[←Array.foldl_toList,Array.toList_zip]
   rw[hyt]
   exact this
  refine Fn.weaken X.hC (Fn.mono (Fn.frame (fr:=(bd,.deferred (some []))::den (dD is 0 w)) (B:=[]) (ro:=X.ro) hy (fun _ h=>(by cases h)) ⟨?_,fun b o hb=> .inl hb,Sub.refl _⟩) fun en s' DR=>?_)
  ·refine List.Perm.trans (.cons _ (.cons _ ?_)) (KY _ _ _ _ _).symm
   rw[←List.append_assoc]
   exact hp
  obtain⟨yN,⟨v,Y,rfl,rfl,Z,B',rfl,hΨ,hI⟩,hc⟩:=DR
  have hc1:s'.rw.Perm ((Z++B')++(bd,.deferred (some []))::den (dD is 0 w)):=hc.rw
  have key:∀(r0:Loop) (i:ι),B'=(bl,.loop r0)::den (wf i)→∃L Rr,s'.rw=L++(bl,.loop r0)::Rr∧∀r1,(⟨X.ro,den (.b bd (.deferred (some [])):: .l Z::(wf i++dD is 0 w))⟩:St).le ⟨s'.ro,L++(bl,.loop r1)::Rr⟩:=by
   intro r0 i hB
   subst hB
   have Pg:=hc1.trans (KY _ _ _ _ _)
   obtain⟨L,Rr,hs⟩:=List.append_of_mem (Pg.mem_iff.2 List.mem_cons_self)
   refine⟨L,Rr,hs,fun r1=>dJ (J:=[(bl,.loop r1)]) ?_ hc.keep⟩
   rw[hs] at Pg
   have hc3:=(List.perm_middle.symm.trans Pg).cons_inv
   rw[iG,gk,lF]
   exact List.perm_middle.trans ((List.Perm.cons _ hc3).trans (List.perm_append_singleton _ _).symm)
  rcases hI with ⟨i,hi,hB⟩| ⟨jump,i,hi,hB⟩
  ·obtain⟨L,Rr,hs,hle⟩:=key _ i hB
   refine⟨L,_,Rr,hs,by simp[iy],?_⟩
   refine⟨_,hle _,?_⟩
   have:=hN bd i Z hi hΨ bX
   rw[←MG (bd:=bd)]
   exact tS (X:=X.dm bd) (kn:=⟨kn.c,[]⟩) this
  obtain⟨L,Rr,hs,hle⟩:=key _ i hB
  refine⟨L,_,Rr,hs,by simp,?_⟩
  have:=hS bd i Z jump hi hΨ
  cases jump with
  |ret=>
   refine⟨_,hle _,?_⟩
   rw[←MG (bd:=bd)]
   exact AE (X:=X.dm bd) (this bX) k
  |exit id=>
   simp only[afO] at this
   cases hk:Bj id k with
   |none=>rw[hk] at this;exact this.elim
   |some p=>
    rw[hk] at this
    refine⟨_,hle _,?_⟩
    rw[←MG (bd:=bd)]
    exact wL (X:=X.dm bd) (kn:=⟨kn.c,[]⟩) hk (this bX)
  |_=>exact this.elim
end
theorem aEt:(lpO X bd o).state= .ready∧(lpO X bd o).pending=none:=by
 unfold lpO
 split<;>exact⟨rfl,rfl⟩
attribute [irreducible] rfV lpO aIH rdO afO
def bgO(body:Code):Option JS→Option (JS×Nat)
 |some ⟨.fin .normal,e,.b b (.loop r)::w,kn⟩=>match r.state with
  | .ready=>some (⟨.code body [],e,.b b (.loop {r with state:= .busy})::w,kn⟩,b)
  |_=>none
 |_=>none
def EP:Option (JS×Nat)→Option JS
 |some (s,_)=>some s
 |none=>none
def Ud:Option (JS×Nat)→Option Nat
 |some (_,b)=>some b
 |none=>none
def Rc:Option JS→Option (Option Code)
 |some ⟨.fin .normal,_,_,_⟩=>some none
 |some ⟨.fin .ret,_,_,_⟩=>some (some .ret)
 |some ⟨.fin (.exit id),_,_,_⟩=>some (some (.exit id))
 |_=>none
structure QY(X:Cx)(bl:Nat)(ro:Nat→Option Obj)(Φ:Value→Cells→Prop):Prop where
 q:X.Q=B4 (RY ro Φ) bl
theorem qy0:QY (X.re bl ro Φ) bl ro Φ:=⟨rfl⟩
section
variable {X:Cx} {o:Option JS} {bl:Nat} {ro:Nat→Option Obj}
theorem jbg(h:J (X.re bl ro Φ) (EP (bgO body o)))(h1:Ud (bgO body o)=some bl:=by kernel_rfl):J (X.rd bl ro Φ body) o:=by
 unfold bgO at h h1
 split at h<;>try exact h.elim
 rename_i e b r w kn
 split at h<;>try exact h.elim
 rename_i bV
 simp only[bV,Ud,Option.some.injEq] at h1
 subst h1
 simp only[EP] at h
 intro bX
 have hw:=h bX
 simp only[JP,Cx.rd,IP,Dg]
 refine⟨[],r,den w,by rw[iG];rfl,bV,?_⟩
 simp only[JP,iG] at hw
 exact hw
theorem jyR{Lp:Loop}{jump:Option Code}{Y:Cells}(hq:QY X bl ro Φ)(fB:Sub ro X.ro)(ps:List Nat)(qj:Φ (.bool jump.isNone) ((bl,.loop {Lp with state:=if jump.isNone then .ready else .done,pending:=jump})::Y))(h1:dM ps o=some ((bl,.loop {Lp with state:= .busy})::Y):=by kernel_rfl)(h2:Rc o=some jump:=by kernel_rfl):J X o:=by
 have main:∀s w kn e,o=some ⟨s,e,w,kn⟩→Wo (RY ro Φ) bl jump ⟨X.ro,den w⟩:=by
  intro s w kn e ho
  subst ho
  have hp:=bJ h1
  obtain⟨L,Rr,hs⟩:=List.append_of_mem (hp.mem_iff.2 (List.mem_append_left _ List.mem_cons_self))
  refine⟨L,_,Rr,hs,_,_,rfl,?_,qj⟩
  have mU:den w=L++(bl,.loop {Lp with state:= .busy})::Rr:=hs
  have hp':(den w).Perm (((bl,.loop {Lp with state:= .busy})::Y)++den (dD ps 0 w)):=hp
  rw[mU] at hp'
  have Tm:=(List.perm_middle.symm.trans hp').cons_inv
  exact dJ (J:=den (dD ps 0 w)) (List.perm_middle.trans (.cons _ Tm)) fB
 unfold Rc at h2
 split at h2<;>try (cases h2;done)
 ·rename_i e w kn;cases h2;intro _;show X.Q .normal _ _;rw[hq.q];exact main _ _ _ _ rfl
 ·rename_i e w kn;cases h2;intro _;show X.Q .ret _ _;rw[hq.q];exact main _ _ _ _ rfl
 rename_i id e w kn;cases h2;intro _;show X.Q (.exit id) _ _;rw[hq.q];exact main _ _ _ _ rfl
theorem jyn{Lp:Loop}{wf:ι→List Sg}{Inv:Nat→ι→Prop}{Sp:Code→ι→Prop}{k:Nat}(hq:QY X bl ro (asJ bl Lp wf Inv Sp k))(fB:Sub ro X.ro)(j:ι)(h:Inv (k+1) j)(ps:List Nat)(hl:Lp.state= .ready∧Lp.pending=none:=by exact aEt)(h1:dM ps o=some ((bl,.loop {Lp with state:= .busy})::den (wf j)):=by kernel_rfl)(h2:Rc o=some none:=by kernel_rfl):J X o:=
 jyR hq fB ps (.inl ⟨rfl,j,h,by rcases Lp with ⟨a,b,c,d,e,f,g,i⟩;obtain⟨h1,h2⟩:=hl;dsimp only at h1 h2;subst h1 h2;rfl⟩) h1 h2
theorem jys{Lp:Loop}{wf:ι→List Sg}{Inv:Nat→ι→Prop}{Sp:Code→ι→Prop}{k:Nat}(hq:QY X bl ro (asJ bl Lp wf Inv Sp k))(fB:Sub ro X.ro)(jump:Code)(j:ι)(h:Sp jump j)(ps:List Nat)(h1:dM ps o=some ((bl,.loop {Lp with state:= .busy})::den (wf j)):=by kernel_rfl)(h2:Rc o=some (some jump):=by kernel_rfl):J X o:=
 jyR hq fB ps (.inr ⟨rfl,jump,j,h,rfl⟩) h1 h2
end
attribute [irreducible] bgO EP Ud Rc
def sB[DecidableEq κ](k:κ):List (κ×Value)→Nat→Option (Nat×Value)
 | [],_=>none
 |x::l,i=>if k=x.1 then some (i,x.2) else sB k l (i+1)
def lkM[DecidableEq κ](k:κ)(F:List (κ×Value)):Option Value:=(sB k F 0).map (·.2)
def tM(k:κ)(v:Value):List (κ×Value)→Nat→List (κ×Value)
 | [],_=>[]
 |_::l,0=>(k,v)::l
 |x::l,i+1=>x::tM k v l i
def mg[DecidableEq κ](k:κ)(v:Value)(F:List (κ×Value)):List (κ×Value):=match sB k F 0 with
 |some (i,_)=>tM k v F i
 |none=>F++[(k,v)]
structure Tc(P:Program)(T:TypeId){κ:Type}[DecidableEq κ](kv:κ→Value):Prop where
 chk:∀(b:Bool) (k:κ) {α:Type} {K:Unit→Sem α} {s:St} {Q:α→St→Prop} {E:Halt→St→Prop},bP P (K ()) s Q E→bP P (Instr.checkKey b 10000 T (kv k) >>= K) s Q E
 find:∀(k:κ) (es:List MapEntry) (F:List (κ×Value)),es.map (fun e=>(e.key,e.val))=F.map (fun x=>(kv x.1,x.2))→∀ {α:Type} {K:Option (Nat×Value)→Sem α} {s:St} {Q:α→St→Prop} {E:Halt→St→Prop},bP P (K (sB k F 0)) s Q E→bP P (Instr.findKey T (kv k) es >>= K) s Q E
 stay:∀k,Instr.sameBits 10000 (kv k) (kv k)=true
theorem qz[DecidableEq κ]{k:κ}:∀ {F:List (κ×Value)} {i j:Nat} {v:Value},sB k F i=some (j,v)→i≤j∧F[j-i]?=some (k,v)
 | [],_,_,_,h=>by cases h
 |x::l,i,j,v,h=>by
  simp only[sB] at h
  split at h
  ·rename_i hk
   cases h
   exact⟨Nat.le_refl _,by simp[hk]⟩
  obtain⟨h1,h2⟩:=qz h
  refine⟨by omega,?_⟩
  rw[show j-i=(j-(i+1))+1 by omega,List.getElem?_cons_succ];exact h2
theorem OJ(a b:ByteArray):(a==b)=decide (a=b):=by
 have h:(a==b)=(a.data==b.data):=by cases a;cases b;rfl
 rw[h,Bool.eq_iff_iff]
 cases a;cases b
 simp
theorem DX(a:ByteArray):∀(es:List MapEntry) (F:List (ByteArray×Value)) (i:Nat),es.map (fun e=>(e.key,e.val))=F.map (fun x=>(Value.string x.1,x.2))→Instr.findNow .string (.string a) es i=some (sB a F i)
 | [],[],_,_=>rfl
 | [],_::_,_,h=>by simp at h
 |_::_,[],_,h=>by simp at h
 |e::es,x::F,i,h=>by
  simp only[List.map_cons,List.cons.injEq,Prod.mk.injEq] at h
  obtain⟨⟨h1,h2⟩,h3⟩:=h
  simp only[Instr.findNow,h1,Instr.sameNow,sB,OJ]
  by_cases hk:a=x.1
  ·simp[hk,h2]
  simp only[hk,decide_false,if_false]
  exact DX a es F (i+1) h3
def CkD(P:Program)(dep:Nat)(T:TypeId)(v:Value):Prop:=∀(b:Bool) {α:Type} {K:Unit→Sem α} {s:St} {Q:α→St→Prop} {E:Halt→St→Prop},bP P (Instr.checkKey b dep T v >>= K) s Q E=bP P (K ()) s Q E
theorem aIA{T:TypeId}(tf:TF P T .string sz bC z ag)(a:ByteArray):CkD P (dep+1) T (.string a):=by
 intro b α K s Q E
 simp only[Instr.checkKey,aa,aZ tf,ae]
theorem ava{T:TypeId}(tf:TF P T .string sz bC z ag):Tc P T (fun(a:ByteArray)=>Value.string a) where
 chk b k α K s Q E h:=by rw[aIA (dep:=9999) tf k b];exact h
 find k es F he α K s Q E h:=by
  simp only[Instr.findKey,aa,aZ tf,DX k es F 0 he,ae]
  exact h
 stay k:=by simp[Instr.sameBits,OJ]
def ag1(P:Program)(T:TypeId):Bool:=match a8 P T with
 |some ⟨.string,_,_,_⟩=>true
 |_=>false
theorem Ym{T:TypeId}(h:ag1 P T=true):Tc P T (fun(a:ByteArray)=>Value.string a):=by
 unfold ag1 at h
 split at h
 ·rename_i dK
  obtain⟨bC,tf⟩:=av dK
  exact ava tf
 cases h
theorem ItX.up{own:Cells}{Ψ:Cells→Prop}(h:ItX P g fi ca ro own N El Ψ)(hs:Sub ro aG):ItX P g fi ca aG own N El Ψ:=
 fun bl aI Inv Stop h1=>h bl aI Inv Stop (hs.trans h1)
def YOK(P:Program)(bl:Nat)(ro:Nat→Option Obj)(N:Nat)(El:(Nat→Option Obj)→Nat→List Value→Cells→Prop)(Inv:Nat→Cells→Prop)(Stop:Cells→Prop):Prop:=
 ∀k vs LL B k8,k <N→El k8 k vs LL→Inv k B→Sub ro k8→YX P bl vs k8 (LL++B) (fun r B'=>(r= .bool true∧Inv (k+1) B')∨(r= .bool false∧Stop B'))
theorem YOK.up{Inv:Nat→Cells→Prop}{Stop:Cells→Prop}(h:YOK P bl ro N El Inv Stop)(hs:Sub ro aG):YOK P bl aG N El Inv Stop:=
 fun k vs LL B k8 h1 h2 h3 h4=>h k vs LL B k8 h1 h2 h3 (hs.trans h4)
def Part(L:List α)(p:Nat)(m:List α):Prop:=∃a b,L=a++m++b∧a.length=p
theorem Part.get{L m:List α}{p:Nat}{x:α}(h:Part L p m)(hx:m[i]?=some x):p+i <L.length∧L[p+i]?=some x:=by
 obtain⟨a,b,rfl,rfl⟩:=h
 have hi:=(List.getElem?_eq_some_iff.1 hx).1
 have:(a++m++b)[a.length+i]?=some x:=by
  rw[List.append_assoc,List.getElem?_append_right (by omega),List.getElem?_append_left (by omega),show a.length+i-a.length=i by omega];exact hx
 exact⟨(List.getElem?_eq_some_iff.1 this).1,this⟩
theorem Part.flat{β:Type}{L:List β}{p:Nat}{G:α→List β}{l a b:List α}{s:α}(h:Part L p (l.flatMap G))(hl:l=a++[s]++b):Part L (p+(a.flatMap G).length) (G s):=by
 obtain⟨u,v,rfl,rfl⟩:=h
 subst hl
 exact⟨u++a.flatMap G,b.flatMap G++v,by simp[List.flatMap_append],by simp⟩
theorem PW{T:TypeId}[DecidableEq κ]{kv:κ→Value}(he:∀a b,EqD P 10000 T (kv a) (kv b) (decide (a=b)))(k:κ):∀(es:List MapEntry) (F:List (κ×Value)) (i:Nat),es.map (fun e=>(e.key,e.val))=F.map (fun x=>(kv x.1,x.2))→∀ {α:Type} {K:Option (Nat×Value)→Sem α} {s:St} {Q:α→St→Prop} {E:Halt→St→Prop},bP P (K (sB k F i)) s Q E→bP P (Instr.findAsking T (kv k) es i >>= K) s Q E
 | [],[],_,_,_,_,_,_,_,h=>h
 | [],_::_,_,h,_,_,_,_,_,_=>by simp at h
 |_::_,[],_,h,_,_,_,_,_,_=>by simp at h
 |e::es,x::F,i,h,α,K,s,Q,E,hK=>by
  simp only[List.map_cons,List.cons.injEq,Prod.mk.injEq] at h
  obtain⟨⟨h1,h2⟩,h3⟩:=h
  simp only[Instr.findAsking,aa,h1,Op.equal]
  rw[show Op.maxDepth=10000 from rfl,he k x.1]
  simp only[sB] at hK
  by_cases hk:k=x.1
  ·rw[if_pos hk] at hK
   simp only[hk,decide_true,if_true,ae,h2]
   exact hK
  rw[if_neg hk] at hK
  simp only[hk,decide_false,Bool.false_eq_true,if_false]
  exact PW he k es F (i+1) h3 hK
theorem Iw{T:TypeId}{k:IntKind}(tf:TF P T (.int k) sz bC z ag)(a:Int):CkD P (dep+1) T (.int k a):=by
 intro b α K s Q E
 simp only[Instr.checkKey,aa,aZ tf,ae]
inductive BG(P:Program)(dep:Nat)(l:List Value):List Field→Prop
 |nil:BG P dep l []
 |cons {f:Field} {fs:List Field} {v:Value} (hn:f.name≠ "_") (hv:I0 P f.type l f.offset v) (he:CkD P dep f.type v) (ht:BG P dep l fs):BG P dep l (f::fs)
theorem SQ{T:TypeId}{fields:Array Field}(tf:TF P T (.struct fields) sz bC z true)(hf:BG P dep l fields.toList):CkD P (dep+1) T (.agg ⟨l⟩):=by
 intro b α K s Q E
 simp only[Instr.checkKey,aa,aZ tf]
 rw[←Array.forIn_toList]
 generalize fields.toList=fl at hf
 clear tf
 induction hf with
 |nil=>simp only[List.forIn_nil,ae,aa]
 | @cons f fs v hn hv he ht ih=>
  simp only[List.forIn_cons,hn,ne_eq,not_false_eq_true,if_true,aa]
  rw[hv]
  simp only[aa]
  rw[he]
  simp only[ae]
  exact ih
theorem agz{T:TypeId}[DecidableEq κ]{kv:κ→Value}{d:TypeDesc}(tf:TF P T d sz bC z ag)(hl:∀k,∃l,kv k= .agg l)(hc:∀k,CkD P 10000 T (kv k))(he:∀a b,EqD P 10000 T (kv a) (kv b) (decide (a=b)))(hs:∀k,Instr.sameBits 10000 (kv k) (kv k)=true):Tc P T kv where
 chk b k α K s Q E h:=by rw[hc k b];exact h
 find k es F hm α K s Q E h:=by
  simp only[Instr.findKey,aa,aZ tf]
  cases es with
  |nil=>
   cases F with
   |nil=>exact h
   |cons x F=>simp at hm
  |cons e es=>
   have:Instr.findNow d (kv k) (e::es) 0=none:=by
    cases F with
    |nil=>simp at hm
    |cons x F=>
     simp only[List.map_cons,List.cons.injEq,Prod.mk.injEq] at hm
     obtain⟨l,CM⟩:=hl k
     obtain⟨l2,qO⟩:=hl x.1
     simp only[Instr.findNow,hm.1.1,CM,qO]
     cases d<;>rfl
   rw[this]
   exact PW he k _ F 0 hm h
 stay:=hs
def tC(kv:κ→Value)(F:List (κ×Value))(es:Array MapEntry)(ck:Nat):Prop:=
 es.toList.map (fun e=>(e.key,e.val))=F.map (fun x=>(kv x.1,x.2))∧(es.toList.map (·.born)).Nodup∧∀e∈es.toList,e.born <ck
def jQ(r:Nat)(kv:κ→Value)(F:List (κ×Value))(L:Cells):Prop:=∃es ck,L=[(r,.map es ck)]∧tC kv F es ck
def alf(s:St)(r:Nat)(kv:κ→Value)(F:List (κ×Value)):Prop:=∃es ck,s.has r (.map es ck)∧tC kv F es ck
theorem jQ.has{kv:κ→Value}{F:List (κ×Value)}{L:Cells}(h:jQ r kv F L)(hs:∀x∈L,s.has x.1 x.2):alf s r kv F:=by
 obtain⟨es,ck,rfl,hm⟩:=h
 exact⟨es,ck,hs _ List.mem_cons_self,hm⟩
theorem alf.ext{kv:κ→Value}{F:List (κ×Value)}(h:alf s r kv F)(hs:Ext s s'):alf s' r kv F:=by
 obtain⟨es,ck,h1,h2⟩:=h
 exact⟨es,ck,hs _ _ h1,h2⟩
theorem jQ.nil(r:Nat)(kv:κ→Value):jQ r kv [] [(r,.map #[] 0)]:=⟨#[],0,rfl,rfl,List.nodup_nil,fun _ h=>(by cases h)⟩
section
variable {X:Cx} {o:Option JS}
def Q1[DecidableEq κ](z:Value)(ok:Bool)(k:κ)(F:List (κ×Value)):Value:=match lkM k F with
 |some v=>bif ok then .tuple ⟨[v,.bool true]⟩ else v
 |none=>bif ok then .tuple ⟨[z,.bool false]⟩ else z
def luV(P:Program)(n:Nat)(p:Oper)(e:Env):Option (TypeId×Value×Value×Value×Bool):=match p.op with
 | .lookup T x y ok=>match a8 P T with
  |some ⟨.map K E,_,_,_⟩=>match a8 P E with
   |some te=>match bn n e x with
    |some m=>match bn n e y with
     |some k=>some (K,m,k,Pp te.zero te.agg,ok)
     |none=>none
    |none=>none
   |none=>none
  |_=>none
 |_=>none
theorem jlu[DecidableEq κ]{kv:κ→Value}{F:List (κ×Value)}{K:TypeId}(k:κ)(z:Value)(ok:Bool)(ps:List Nat)(B:Cells)(hk:Tc X.P K kv)(hm:∀s:St,Ext ⟨X.ro,[]⟩ s→(∀x∈B,s.has x.1 x.2)→alf s r kv F)(hj:J X (Nm B (Q1 z ok k F) o))
 (hv:dA X.n (luV X.P X.n) o=some (K,.map (some r),kv k,z,ok):=by kernel_rfl)(hB:dM ps o=some B:=by kernel_rfl):J X o:=by
 refine jGN hv hB (fun s p e ho hh hf=>?_) hj
 subst ho
 unfold luV at hf
 split at hf<;>try (cases hf;done)
 rename_i T x y ok' ay
 split at hf<;>try (cases hf;done)
 rename_i K' E' _ _ _ dK
 split at hf<;>try (cases hf;done)
 rename_i te uj
 split at hf<;>try (cases hf;done)
 rename_i m hx
 split at hf<;>try (cases hf;done)
 rename_i k' hy
 simp only[Option.some.injEq,Prod.mk.injEq] at hf
 obtain⟨rfl,rfl,rfl,rfl,rfl⟩:=hf
 obtain⟨bC,tf⟩:=av dK
 obtain⟨Aj,p5⟩:=av uj
 refine⟨by rw[ay];rfl,fun s0 Hn u9 ops i ho rest hwt s' hs todo Q jI=>lL X.hC ho rest hwt (by rw[ay];rfl) ?_ hs jI⟩
 intro s1 bZ f hf K2 E2 hK
 obtain⟨es,ck,ju,CI⟩:=(hm s0 Hn u9).ext bZ
 simp only[execOp,ay,hf _ _ hx,hf _ _ hy,Instr.lookup,aa,aZ tf]
 refine cI ju rfl rfl ?_
 simp only[ae,aa]
 refine hk.chk _ _ ?_
 simp only[aa]
 refine hk.find k _ F CI.1 ?_
 simp only[Q1,lkM] at hK
 cases x5:sB k F 0 with
 |none=>
  rw[x5] at hK
  simp only[aa,jU p5,ae]
  cases ok'<;>exact hK
 |some u=>
  obtain⟨i,v⟩:=u
  rw[x5] at hK
  simp only[ae]
  cases ok'<;>exact hK
def auU(p:Oper):Option Unit:=match p.op with
 | .makeMap _ none=>some ()
 |_=>none
theorem jmk(kv:κ→Value)(hj:∀r L,jQ r kv [] L→J X (mY [] (.map (some r)) L o))(hv:eW X.n (fun p _=>auU p) o=some ():=by kernel_rfl):J X o:=by
 obtain⟨ops,i,todo,k,e,w,kn,p,rfl,ho,hw,hc⟩:=dz hv
 intro bX
 unfold auU at hc
 split at hc<;>try (cases hc;done)
 rename_i T ay
 rcases p with ⟨dst,op,ty,pos,cZ,g⟩
 dsimp only at ay;subst ay
 refine bR X.hC ho hw (by simp) ?_
 simp only[execOp,Instr.makeMap,Option.map_none,aa,og,ae]
 intro b hb
 have:=hj b _ (jQ.nil b kv)
 rw[n7 ho] at this
 have:=this bX
 simp only[JP,gk,xG] at this
 show ab _ _ _ _ _ _ _ _
 rw[aW]
 exact this
def muV(P:Program)(n:Nat)(p:Oper)(e:Env):Option (TypeId×Value×Value×Value):=match p.op with
 | .mapUpdate T x y z| .insert T x y z=>match a8 P T with
  |some ⟨.map K _,_,_,_⟩=>match bn n e x with
   |some m=>match bn n e y with
    |some k=>match bn n e z with
     |some v=>some (K,m,k,v)
     |none=>none
    |none=>none
   |none=>none
  |_=>none
 |_=>none
theorem Fa(k:κ)(v:Value):∀(F:List (κ×Value)) (i:Nat),tM k v F i=F.set i (k,v)
 | [],_=>rfl
 |_::_,0=>rfl
 |x::l,i+1=>by simp only[tM,Fa k v l i,List.set_cons_succ]
theorem GY{kv:κ→Value}{k:κ}{v:Value}:∀(es:List MapEntry) (F:List (κ×Value)) (i:Nat),es.map (fun e=>(e.key,e.val))=F.map (fun x=>(kv x.1,x.2))→(es.modify i fun e=>{e with key:=kv k,val:=v}).map (fun e=>(e.key,e.val))=(tM k v F i).map (fun x=>(kv x.1,x.2))
 | [],[],_,_=>by simp[tM]
 | [],_::_,_,h=>by simp at h
 |_::_,[],_,h=>by simp at h
 |e::es,x::F,0,h=>by
  simp only[List.map_cons,List.cons.injEq] at h
  simp[tM,h.2]
 |e::es,x::F,i+1,h=>by
  simp only[List.map_cons,List.cons.injEq] at h
  simp[tM,h.1,GY es F i h.2]
theorem wU{kx v:Value}:∀(es:List MapEntry) (i:Nat),(es.modify i fun e=>{e with key:=kx,val:=v}).map (·.born)=es.map (·.born)
 | [],i=>by simp
 |e::es,0=>by simp
 |e::es,i+1=>by simp[wU es i]
theorem jmu[DecidableEq κ]{kv:κ→Value}{F:List (κ×Value)}{K:TypeId}{L:Cells}(i:Nat)(k:κ)(v:Value)(hk:Tc X.P K kv)(hm:jQ r kv F L)(hj:∀L',jQ r kv (mg k v F) L'→J X (mY [i] undef L' o))
 (hv:eW X.n (muV X.P X.n) o=some (K,.map (some r),kv k,v):=by kernel_rfl)(hB:dM [i] o=some L:=by kernel_rfl):J X o:=by
 obtain⟨ops,i0,todo,kk,e,w,kn,p,rfl,ho,hw,hc⟩:=dz hv
 intro bX
 rcases p with ⟨dst,op,ty,pos,cZ,g⟩
 have main:∀T x y z,(op= .mapUpdate T x y z∨op= .insert T x y z)→muV X.P X.n ⟨dst,.mapUpdate T x y z,ty,pos,cZ,g⟩ e=some (K,.map (some r),kv k,v)→ab X.C X.fn X.az ops (i0::todo) (KQ X kk) (A X.n e X.D) ⟨X.ro,den w⟩:=by
  intro T x y z heq hc
  simp only[muV] at hc
  split at hc<;>try (cases hc;done)
  rename_i K' E' _ _ _ dK
  split at hc<;>try (cases hc;done)
  rename_i m hx
  split at hc<;>try (cases hc;done)
  rename_i k' hy
  split at hc<;>try (cases hc;done)
  rename_i v' hz
  simp only[Option.some.injEq,Prod.mk.injEq] at hc
  obtain⟨rfl,rfl,rfl,rfl⟩:=hc
  obtain⟨bC,tf⟩:=av dK
  have hp:=bJ hB
  obtain⟨es,ck,rfl,CI⟩:=hm
  obtain⟨L1,R1,bZ⟩:=List.append_of_mem (hp.mem_iff.2 (List.mem_append_left _ List.mem_cons_self))
  have hle:∀L',jQ r kv (mg k v' F) [(r,L')]→ab X.C X.fn X.az ops todo (KQ X kk) (A X.n (upd dst undef e) X.D) ⟨X.ro,L1++(r,L')::R1⟩:=by
   intro L' hL
   have:=hj _ hL
   rw[n7 ho] at this
   have:=this bX
   simp only[JP,gk] at this
   refine this.more X.hC (dJ (J:=[]) ?_ (Sub.refl _))
   have hp':(den w).Perm ([(r,.map es ck)]++den (dD [i] 0 w)):=hp
   have aQg:den w=L1++(r,.map es ck)::R1:=bZ
   rw[aQg] at hp'
   have Tm:=(List.perm_middle.symm.trans hp').cons_inv
   rw[List.append_nil]
   exact List.perm_middle.trans (List.Perm.cons _ Tm)
  have ju:(⟨X.ro,den w⟩:St).has r (.map es ck):= .inr (by show _∈den w;rw[show den w=_ from bZ];exact fw)
  refine bR X.hC ho hw (by rcases heq with rfl|rfl<;>simp) ?_
  have hex:∀f:Operand→Value,execOp f ⟨dst,op,ty,pos,cZ,g⟩=(do Instr.mapUpdate T (f x) (f y) (f z);pure .skip:Sem Next):=by
   intro f;rcases heq with rfl|rfl<;>simp only[execOp]
  rw[hex,aF hx,aF hy,aF hz]
  simp only[Instr.mapUpdate,aa,aZ tf]
  refine cI ju rfl rfl ?_
  simp only[aa]
  refine hk.chk _ _ ?_
  simp only[aa]
  refine hk.find k _ F CI.1 ?_
  have fin:∀ob,jQ r kv (mg k v' F) [(r,ob)]→upon X.C X.P X.az dst (A X.n e X.D) (fun a' s'=>ab X.C X.fn X.az ops todo (KQ X kk) a' s') (KQ X kk) .skip ⟨X.ro,L1++(r,ob)::R1⟩:=by
   intro ob hL
   show ab _ _ _ _ _ _ _ _
   have:=hle ob hL
   rw[←aW] at this
   exact this
  cases x5:sB k F 0 with
  |some u=>
   obtain⟨j,u⟩:=u
   have Ts:=qz x5
   simp only[Nat.sub_zero] at Ts
   have aRq:((es[j]?).map (·.key)).getD (kv k)=kv k:=by
    have h1:(es.toList.map (fun e=>(e.key,e.val)))[j]?=some (kv k,u):=by rw[CI.1];simp[Ts.2]
    simp only[List.getElem?_map,Array.getElem?_toList] at h1
    cases he:es[j]? with
    |none=>rfl
    |some e1=>rw[he] at h1;simp at h1;simp[h1.1]
   simp only[aa,Instr.keyThatStays,aRq,hk.stay,if_true,ae]
   refine eo rfl bZ rfl<|fin _ ⟨_,_,rfl,?_,?_,?_⟩
   ·simp only[Array.toList_modify,mg,x5]
    exact GY _ _ _ CI.1
   ·simp only[Array.toList_modify,wU];exact CI.2.1
   intro e1 h1
   have:e1.born∈((es.toList.modify j fun e=>{e with key:=kv k,val:=v'}).map (·.born)):=List.mem_map_of_mem (by simpa using h1)
   rw[wU] at this
   obtain⟨e2,h3,h4⟩:=List.mem_map.1 this
   rw[←h4];exact CI.2.2 e2 h3
  |none=>
   refine eo rfl bZ rfl<|fin _ ⟨_,_,rfl,?_,?_,?_⟩
   ·simp only[Array.toList_push,List.map_append,mg,x5,CI.1];rfl
   ·simp only[Array.toList_push,List.map_append,List.map_cons,List.map_nil]
    refine List.nodup_append.2 ⟨CI.2.1,by simp,?_⟩
    intro a ha b hb
    obtain⟨e2,h3,rfl⟩:=List.mem_map.1 ha
    have:=CI.2.2 e2 h3
    simp only[List.mem_singleton] at hb
    omega
   intro e1 h1
   simp only[Array.toList_push,List.mem_append,List.mem_singleton] at h1
   rcases h1 with h1|rfl
   ·have:=CI.2.2 e1 h1;omega
   exact Nat.lt_succ_self _
 have Pg:=hc
 unfold muV at hc
 split at hc<;>try (cases hc;done)
 ·rename_i T x y z ay
  dsimp only at ay
  exact main T x y z (.inl ay) (by rw[←Pg,ay])
 rename_i T x y z ay
 dsimp only at ay
 refine main T x y z (.inr ay) ?_
 rw[←Pg,ay];rfl
end
attribute [irreducible] luV auU muV
section
variable {X:Cx} {o:Option JS}
def MD(P:Program)(n:Nat)(p:Oper)(e:Env):Option (FuncId×List Value):=match p.op with
 | .call ⟨.invoke x name,xs,_⟩=>match bn n e x with
  |some (.iface t v)=>match bu P (method (P.types.size+Made.depth) t v name) with
   |some (f,r)=>match ya n e xs.toList with
    |some vs=>bif BR P f then some (f,r::vs) else none
    |none=>none
   |none=>none
  |_=>none
 |_=>none
theorem akJ(h:MD P n p e=some (f,vs)):FF P f∧∃x name xs at_ t v r ws,p.op= .call ⟨.invoke x name,xs,at_⟩∧bn n e x=some (.iface t v)∧bu P (method (P.types.size+Made.depth) t v name)=some (f,r)∧ya n e xs.toList=some ws∧vs=r::ws:=by
 unfold MD at h
 split at h<;>try (cases h;done)
 rename_i x name xs at_ ay
 split at h<;>try (cases h;done)
 rename_i t v hx
 split at h<;>try (cases h;done)
 rename_i f0 r hm
 split at h<;>try (cases h;done)
 rename_i ws rY
 cases hb:BR P f0 with
 |false=>rw[hb] at h;cases h
 |true=>
  rw[hb] at h
  simp only[cond_true,Option.some.injEq,Prod.mk.injEq] at h
  obtain⟨rfl,rfl⟩:=h
  exact⟨kU hb,x,name,xs,at_,t,v,r,ws,ay,hx,hm,rY,rfl⟩
theorem jpI{V:Value}(hf:∀aI,Sub X.ro aI→dv X.P f vs aI V)(hj:J X (Nm [] V o))(h1:dA X.n (MD X.P X.n) o=some (f,vs):=by kernel_rfl)(h3:dM [] o=some []:=by kernel_rfl):J X o:=by
 refine jGN h1 h3 (fun s p e ho hh hc=>?_) hj
 obtain⟨ff,x,name,xs,at_,t,v,r,ws,ay,hx,hm,rY,rfl⟩:=akJ hc
 rcases p with ⟨dst,op,ty,pos,cZ,g⟩
 dsimp only at ay;subst ay
 refine⟨rfl,fun s0 Hn u9 ops i r8 rest hw s' hs todo Q hk=>?_⟩
 refine bR X.hC r8 hw (by simp) ?_
 have e1:=aF (aY (rest:=rest) hx)
 have e2:xs.map (ev X.n (e++rest))=⟨ws⟩:=si (xE rY)
 simp only[execOp,resolve,e1,e2,ae]
 have hex:((#[Value.iface t v]++(⟨ws⟩:Array Value)).extract 1 (#[Value.iface t v]++(⟨ws⟩:Array Value)).size)=⟨ws⟩:=by simp
 have h0:(#[Value.iface t v]++(⟨ws⟩:Array Value))[0]?=some (.iface t v):=by simp
 simp only[invoke,h0,hex,callMethod,aa,eO]
 refine aX hm ?_
 have mJ:(#[r]++⟨ws⟩:Array Value)=⟨r::ws⟩:=by simp
 rw[mJ]
 refine jV ff ?_
 have hu:=(dv.use (s:=⟨X.ro,[]⟩) (sz:=s') (fun b o hb=>hs _ _ (Hn _ _ hb)) (fun aI h1=>hf aI fun b ob hb=>h1 b ob (.inl hb))).weaken X.hC
 refine Fn.mono hu fun en s1 DR=>?_
 obtain⟨rfl,hle⟩:=DR
 show ab _ _ _ _ _ _ _ _
 rw[aW]
 exact hk.more X.hC hle
theorem jS{β:Type}{f:Oper→Env→Option β}{r:β}(ps:List Nat)(B:Cells)(hv:eW X.n f o=some r)(hB:dM ps o=some B)
 (hy:∀p e,f p e=some r→(∀c,p.op≠ .defer c)∧∀(R:Cells) (Q:Next→St→Prop) (E:Halt→St→Prop),(∀v L',Φ v L'→Q (.value v) ⟨X.ro,L'++R⟩)→bP X.P (execOp (ev X.n e) p) ⟨X.ro,B++R⟩ Q E)
 (hj:∀v L',Φ v L'→J X (mY ps v L' o)):J X o:=by
 obtain⟨ops,i,todo,k,e,w,kn,p,rfl,ho,hw,hc⟩:=dz hv
 intro bX
 have hp:=bJ hB
 obtain⟨hd,ht⟩:=hy p e hc
 have:ab X.C X.fn X.az ops (i::todo) (KQ X k) (A X.n e X.D) ⟨X.ro,B++den (dD ps 0 w)⟩:=by
  refine bR X.hC ho hw hd<|ht _ _ _ fun v L' qj=>?_
  have:=hj v L' qj
  rw[n7 ho] at this
  have:=this bX
  simp only[JP,gk] at this
  show ab _ _ _ _ _ _ _ _
  rw[aW]
  exact this
 have hle:(⟨X.ro,B++den (dD ps 0 w)⟩:St).le ⟨X.ro,den w⟩:=⟨[],by rw[List.append_nil];exact hp,fun b o hb=> .inl hb⟩
 exact this.more X.hC hle
end
attribute [irreducible] MD
section
variable {X:Cx} {o:Option JS}
def iaA(P:Program)(n:Nat)(p:Oper)(e:Env):Option (Nat×Nat×Int×Nat×Nat):=match p.op with
 | .indexAddr T x y=>match a8 P T with
  |some ⟨.array len E,_,_,_⟩=>match a8 P E with
   |some te=>match bn n e x with
    |some (.pointer (some ⟨b,off,none⟩))=>match bn n e y with
     |some (.int _ ix)=>some (b,off,ix,len,te.size)
     |_=>none
    |_=>none
   |none=>none
  |_=>none
 |_=>none
theorem LV{b len:Nat}(ix:Int)(hi:0≤ix∧ix <len)(hj:J X (jO (.pointer (some ⟨b,off+ix.toNat*sz,none⟩)) o))(hv:dA X.n (iaA X.P X.n) o=some (b,off,ix,len,sz):=by kernel_rfl):J X o:=by
 refine jG hv (fun s p e ho hh hf=>?_) hj
 unfold iaA at hf
 split at hf<;>try (cases hf;done)
 rename_i T x y ay
 split at hf<;>try (cases hf;done)
 rename_i aEy E _ _ _ dK
 split at hf<;>try (cases hf;done)
 rename_i te uj
 split at hf<;>try (cases hf;done)
 rename_i b' auF hx
 split at hf<;>try (cases hf;done)
 rename_i ik ix' hy
 simp only[Option.some.injEq,Prod.mk.injEq] at hf
 obtain⟨rfl,rfl,rfl,rfl,rfl⟩:=hf
 obtain⟨bC,tf⟩:=av dK
 obtain⟨Aj,p5⟩:=av uj
 have key:∀s,Yields X.P X.n e p s (.pointer (some ⟨b',auF+ix'.toNat*te.size,none⟩)):=by
  intro s s' mU f hf K E hK
  simp only[execOp,ay,Instr.indexAt,Instr.sureAddr,hf _ _ hx,hf _ _ hy,asIntOf,aa,ae,aZ tf,hi,and_self,if_true,cg p5,dI]
  exact hK
 exact⟨by rw[ay];rfl,fun _=>key _,fun _=>key⟩
def saV(P:Program)(n:Nat)(p:Oper)(e:Env):Option (Nat×Nat×Int×Nat):=match p.op with
 | .slice T x none (some z) none=>match a8 P T with
  |some ⟨.array len E,_,_,_⟩=>match a8 P E with
   |some _=>match bn n e x with
    |some (.pointer (some ⟨b,off,none⟩))=>match bn n e z with
     |some (.int _ ix)=>some (b,off,ix,len)
     |_=>none
    |_=>none
   |none=>none
  |_=>none
 |_=>none
theorem jah{b len:Nat}(hi:Int)(hl:0≤hi∧hi≤len)(hj:J X (jO (.slice (some ⟨b,off,none⟩) hi.toNat len) o))(hv:dA X.n (saV X.P X.n) o=some (b,off,hi,len):=by kernel_rfl):J X o:=by
 refine jG hv (fun s p e ho hh hf=>?_) hj
 unfold saV at hf
 split at hf<;>try (cases hf;done)
 rename_i T x z ay
 split at hf<;>try (cases hf;done)
 rename_i aEy E _ _ _ dK
 split at hf<;>try (cases hf;done)
 rename_i te uj
 split at hf<;>try (cases hf;done)
 rename_i b' auF hx
 split at hf<;>try (cases hf;done)
 rename_i ik ix' hy
 simp only[Option.some.injEq,Prod.mk.injEq] at hf
 obtain⟨rfl,rfl,rfl,rfl⟩:=hf
 obtain⟨bC,tf⟩:=av dK
 obtain⟨Aj,p5⟩:=av uj
 have key:∀s,Yields X.P X.n e p s (.slice (some ⟨b',auF,none⟩) ix'.toNat aEy):=by
  intro s s' mU f hf K E hK
  simp only[execOp,ay,Option.map_some,Option.map_none,Instr.sliceAt,Instr.sliceBounds,Instr.sliceBound,Instr.sureAddr,hf _ _ hx,hf _ _ hy,asIntOf,aa,ae,aZ tf,Option.isSome_none,Bool.false_eq_true,if_false,hl,and_self,if_true,cg p5,Nat.zero_mul,dI,Nat.add_zero,ite_self,Nat.sub_zero]
  exact hK
 exact⟨by rw[ay];rfl,fun _=>key _,fun _=>key⟩
end
theorem sR{b:Nat}{v:Value}(h:s.has b (.cells ⟨l⟩ t fz))(hv:nth l off=some v):cB s b off 1 [v]:=
 ⟨_,_,_,h,by rw[rS] at hv;simp[iO (show off+1≤l.length by have:=(List.getElem?_eq_some_iff.1 hv).1;omega),List.drop_eq_getElem_cons (List.getElem?_eq_some_iff.1 hv).1,(List.getElem?_eq_some_iff.1 hv).2]⟩
theorem aeB{b o m:Nat}{v:Value}(h:cB s b o m l)(hv:nth l off=some v):cB s b (o+off) 1 [v]:=
 h.part off 1 (by rw[rS] at hv;simp[iO (show off+1≤l.length by have:=(List.getElem?_eq_some_iff.1 hv).1;omega),List.drop_eq_getElem_cons (List.getElem?_eq_some_iff.1 hv).1,(List.getElem?_eq_some_iff.1 hv).2])
open Go.ConcR (KK wgBlock WgAt stA smA rd wr)
def TT(T:Goroutine→St→Prop)(b:Frame)(Ab:List Item)(cs:List Frame)(n:Nat)(D:List Deferred)(ro:Nat→Option Obj)(o:Option JS):Prop:=
 ∀e w kn,o=some ⟨.fin .normal,e,w,kn⟩→Knows ro kn.c→T (G (aK b (A n e D) Ab) cs) ⟨ro,den w⟩
def CT(hm:P.follows .mixedOrders=true)(hT:Closed P main T)(b:Frame)(Ab:List Item)(cs:List Frame)(n:Nat)(D:List Deferred)(ro:Nat→Option Obj):Cx:=
 ⟨P,fun m T'=>m=main∧T'=T,by rintro _ _ ⟨rfl,rfl⟩;exact hT,hm,b.fn,none,n,D,ro,jM T b Ab cs⟩
def We:Option JS→Bool
 |some ⟨.fin .normal,_,_,_⟩=>true
 |_=>false
def opO(ops:Array Oper)(todo:List Nat):Option JS→Option JS
 |some ⟨.fin .normal,e,w,kn⟩=>some ⟨.ops ops todo [],e,w,⟨kn.c,[]⟩⟩
 |_=>none
def cdO(c:Code):Option JS→Option JS
 |some ⟨.fin .normal,e,w,kn⟩=>some ⟨.code c [],e,w,⟨kn.c,[]⟩⟩
 |_=>none
def stO(dst:Option Tmp)(v:Value):Option JS→Option JS
 |some ⟨p,e,w,kn⟩=>some ⟨p,upd dst v e,w,kn⟩
 |none=>none
def nwO(dst:Option Tmp)(v:Value)(q:Nat)(ob:Obj):Option JS→Option JS
 |some ⟨p,e,w,kn⟩=>some ⟨p,upd dst v e,.b q ob::w,kn⟩
 |none=>none
def adO(L:Cells):Option JS→Option JS
 |some ⟨p,e,w,kn⟩=>some ⟨p,e,.l L::w,kn⟩
 |none=>none
def evO(n:Nat)(x:Operand):Option JS→Option Value
 |some ⟨_,e,_,_⟩=>bn n e x
 |none=>none
def aUp(n:Nat)(xs:List Operand):Option JS→Option (List Value)
 |some ⟨_,e,_,_⟩=>ya n e xs
 |none=>none
def vaO(P:Program)(n:Nat)(a:Oper):Option JS→Option Value
 |some ⟨_,e,_,_⟩=>adC P n e a
 |none=>none
theorem abZ(h:We o=true):∃e w kn,o=some ⟨.fin .normal,e,w,kn⟩:=by
 unfold We at h
 split at h
 ·exact⟨_,_,_,rfl⟩
 cases h
def fr0(f:FuncId)(k:CallKind):Frame:={(default:Frame) with fn:=f,kind:=k,roundOf:=none}
section
variable {P:Program} {main:Bool} {T:Goroutine→St→Prop} {b:Frame} {Ab:List Item} {cs:List Frame} {n:Nat} {D:List Deferred} {ro:Nat→Option Obj} {o:Option JS} {ops:Array Oper}
theorem ad1(h:TT T b Ab cs n D ro o)(hQ:X.Q=jM T b Ab cs)(hn:X.n=n)(hD:X.D=D)(A2:X.ro=ro)(h1:We o=true):J X o:=by
 subst hn hD A2
 obtain⟨e,w,kn,rfl⟩:=abZ h1
 intro bX
 show X.Q .normal _ _
 rw[hQ]
 exact h _ _ _ rfl bX
theorem xU{hm:P.follows .mixedOrders=true}{hT:Closed P main T}(h:TT T b Ab cs n D ro o)(h1:We o=true:=by kernel_rfl):J (CT hm hT b Ab cs n D ro) o:=ad1 h rfl rfl rfl rfl h1
theorem aB5{hm:P.follows .mixedOrders=true}{hT:Closed P main T}(h:TT T b Ab cs n D ro o)(h1:We o=true:=by kernel_rfl):J ((CT hm hT b Ab cs n D py).at ro) o:=ad1 h rfl rfl rfl rfl h1
theorem aB4{hm:P.follows .mixedOrders=true}{hT:Closed P main T}(h:TT T b Ab cs n (ee bd::D) ro o)(h1:We o=true:=by kernel_rfl):J ((CT hm hT b Ab cs n D ro).dm bd) o:=ad1 h rfl rfl rfl rfl h1
theorem vG(hm:P.follows .mixedOrders=true)(hT:Closed P main T)(hj:J (CT hm hT b Ab cs n D ro) (opO ops todo o))(hk:b.kind≠ .early:=by decide)(hr:b.roundOf=none:=by rfl):TT T b (.inRegion ops todo::Ab) cs n D ro o:=by
 rintro e w kn rfl bX
 exact hj bX main T ⟨rfl,rfl⟩ b Ab cs rfl hk hr fun e a s q=>q
theorem aB6(hm:P.follows .mixedOrders=true)(hT:Closed P main T){c:Code}(hj:J (CT hm hT b Ab cs n D ro) (cdO c o))(hk:b.kind≠ .early:=by decide)(hr:b.roundOf=none:=by rfl):TT T b (.code c::Ab) cs n D ro o:=by
 rintro e w kn rfl bX
 exact hj bX main T ⟨rfl,rfl⟩ b Ab cs rfl hk hr fun e a s q=>q
theorem tSt(hT:Closed P main T)(ef:Env)(wf:List Sg)(ps:List Nat)(h:∀rest,TT T b Ab cs n D ro (some ⟨.fin .normal,ef++rest,wf,⟨[],[]⟩⟩))(h1:q9 (ng ef) o=some ef:=by kernel_rfl)(h2:qZ ps o=some wf:=by kernel_rfl)(h3:lkE (ng ef) ef=some ef:=by kernel_rfl):TT T b Ab cs n D ro o:=by
 rintro e w kn rfl bX
 obtain⟨rest,he⟩:=fT (n:=n) (D:=D) (kH (by rw[s9] at h1;exact h1)) (kH h3)
 rw[he]
 exact hT.mono _ ⟨ro,den wf⟩ _ (dJ (lK h2) (Sub.refl _)) (h rest _ _ _ rfl fun _ h=>(by cases h))
section
variable {k:List Item} {rest l:List Code} (hT:Closed P main T)
include hT
theorem p6(hl:gA l= .region id ops false::rest)(h:∀l',gA l'=rest→TT T b (.inRegion ops (List.range ops.size)::(l'.map .code++k)) cs n D ro o):TT T b (l.map .code++k) cs n D ro o:=
 fun e w kn ho bX=>dG hT hl fun l' zc=>h l' zc e w kn ho bX
theorem Xo{c:Operand}{x y:Code}{t q:Bool}(hl:gA l= .cond c x y::rest)(hq:q=t)(h:∀l',gA l'=rest→TT T b (.code (if t then x else y)::(l'.map .code++k)) cs n D ro o)(hc:evO n c o=some (.bool q):=by kernel_rfl):TT T b (l.map .code++k) cs n D ro o:=by
 subst hq
 rintro e w kn rfl bX
 exact AS hT hl (by rw[ei];exact aF hc) fun l' zc=>h l' zc e w kn rfl bX
theorem MU{c:Code}(hl:gA l= .block id c::rest)(h:∀l',gA l'=rest→TT T b ([c].map .code++(.inBlock id::(l'.map .code++k))) cs n D ro o):TT T b (l.map .code++k) cs n D ro o:=
 fun e w kn ho bX=>vW hT hl fun l' zc=>h l' zc e w kn ho bX
theorem aqC{c:Code}(hl:gA l= .loop c::rest)(h:∀l',gA l'=rest→TT T b ([c].map .code++(.inLoop c::(l'.map .code++k))) cs n D ro o):TT T b (l.map .code++k) cs n D ro o:=
 fun e w kn ho bX=>Nu hT hl fun l' zc=>h l' zc e w kn ho bX
theorem aqD{c:Code}(hl:gA l=c::rest)(h:∀l',gA l'=rest→TT T b (.code c::(l'.map .code++k)) cs n D ro o):TT T b (l.map .code++k) cs n D ro o:=
 fun e w kn ho bX=>nK hT hl fun l' zc=>h l' zc e w kn ho bX
theorem aqA(h:TT T b k cs n D ro o):TT T b (.code .skip::k) cs n D ro o:=fun e w kn ho bX=>Ot hT (h e w kn ho bX)
theorem aqE{k':List Item}(hk:exitTo id k=some k')(h:TT T b k' cs n D ro o):TT T b (.code (.exit id)::k) cs n D ro o:=fun e w kn ho bX=>Ou hT hk (h e w kn ho bX)
theorem aqF(h:TT T b k cs n D ro o):TT T b (.inBlock id::k) cs n D ro o:=fun e w kn ho bX=>C4 hT (h e w kn ho bX)
theorem Xn(h:TT T b k cs n D ro o):TT T b (.inRegion ops []::k) cs n D ro o:=fun e w kn ho bX=>gX hT (h e w kn ho bX)
theorem ad2{c:Code}(h:TT T b ([c].map .code++(.inLoop c::k)) cs n D ro o):TT T b (.inLoop c::k) cs n D ro o:=fun e w kn ho bX=>zv hT (h e w kn ho bX)
theorem aB0{a:Oper}{f:Nat→Value}{ob:Obj}(ho:ops[i]?=some a) (hg:a.guard=none) (tj:∀e q,UJ P (execOp (ev n e) a) q=some (ob,f q)) (hk:b.kind≠ .early) (hr:b.roundOf=none)
 (h:∀q,TT T b (.inRegion ops todo::k) cs n D ro (nwO a.dst (f q) q ob o)):TT T b (.inRegion ops (i::todo)::k) cs n D ro o:=by
 rintro e w kn rfl bX
 refine sX hT ho (dw _ _ hg) hk hr ?_
 rw[ei]
 refine GR (f:=f) (fun q _=>⟨_,rfl,?_⟩) _ (tj e)
 rw[aW]
 have:=h q _ _ _ rfl bX
 rw[iG] at this
 exact this
theorem aBX{a:Oper}(v:Value)(ho:ops[i]?=some a) (hg:a.guard=none) (hk:b.kind≠ .early) (hr:b.roundOf=none) (h:TT T b (.inRegion ops todo::k) cs n D ro (stO a.dst v o)) (hv:vaO P n a o=some v:=by kernel_rfl):TT T b (.inRegion ops (i::todo)::k) cs n D ro o:=by
 rintro e w kn rfl bX
 refine sX hT ho (dw _ _ hg) hk hr ?_
 rw[ei]
 refine Aw hv _ (Ext.refl _) _ (fun _ _ h=>aF h) _ _ ⟨v,rfl,?_⟩
 rw[aW]
 exact h _ _ _ rfl bX
theorem tLd{a:Oper}(v:Value)(ho:ops[i]?=some a) (hg:a.guard=none) (ay:a.op= .load U x) (ht:(a8 P U).map (·.agg)=some false) (hk:b.kind≠ .early) (hr:b.roundOf=none) (hb:∀e w kn,o=some ⟨.fin .normal,e,w,kn⟩→(⟨ro,den w⟩:St).has q (.cells ⟨[v]⟩ t fz))
 (h:TT T b (.inRegion ops todo::k) cs n D ro (stO a.dst v o)) (hx:evO n x o=some (.pointer (some ⟨q,0,none⟩)):=by kernel_rfl):TT T b (.inRegion ops (i::todo)::k) cs n D ro o:=by
 rintro e w kn rfl bX
 refine sX hT ho (dw _ _ hg) hk hr ?_
 rw[ei]
 cases dK:a8 P U with
 |none=>rw[dK] at ht;cases ht
 |some z=>
 rw[dK] at ht
 simp only[Option.map_some,Option.some.injEq] at ht
 obtain⟨bC,tf⟩:=av dK
 rw[ht] at tf
 simp only[execOp,ay,Instr.loadAt,aF hx,Instr.sureAddr,loadVar,aa,ae,kp tf,Bool.false_eq_true,if_false]
 refine vD ⟨[v],t,fz,hb _ _ _ rfl,rfl⟩ ⟨v,rfl,?_⟩
 rw[aW]
 exact h _ _ _ rfl bX
theorem aMT{a:Oper}(v:Value)(ho:ops[i]?=some a) (hg:a.guard=none) (ay:a.op= .load U x) (ht:(a8 P U).map (·.agg)=some false) (hk:b.kind≠ .early) (hr:b.roundOf=none) (ps:List Nat) (t:TypeId)
 (h:TT T b (.inRegion ops todo::k) cs n D ro (stO a.dst v o)) (hx:evO n x o=some (.pointer (some ⟨q,0,none⟩)):=by kernel_rfl) (hd:dM ps o=some [(q,.cells ⟨[v]⟩ t (0,0))]:=by kernel_rfl):TT T b (.inRegion ops (i::todo)::k) cs n D ro o:=
 tLd hT v ho hg ay ht hk hr (fz:=(0,0)) (t:=t) (q:=q) (fun e w kn he=>by
  subst he
  exact .inr ((bJ hd).mem_iff.2 (List.mem_append_left _ (List.mem_singleton.2 rfl)))) h hx
end
theorem atz(hT:Closed P main T){a:Oper}{xs:Array Operand}(ho:ops[i]?=some a) (hg:a.guard=none) (ay:a.op= .defer ⟨.value (.func f),xs,ats⟩) (hk:b.kind≠ .early) (hr:b.roundOf=none)
 (h:TT T b k cs n ({target:= .fn (.func f) ⟨[]⟩,args:=⟨vs⟩}::D) ro (stO a.dst undef o)) (hx:aUp n xs.toList o=some vs:=by kernel_rfl):TT T b (.inRegion ops [i]::k) cs n D ro o:=by
 rintro e w kn rfl bX
 have hC:∀m T',(fun m T'=>m=main∧T'=T:Class) m T'→Closed P m T':=by rintro _ _ ⟨rfl,rfl⟩;exact hT
 have key:ab (fun m T'=>m=main∧T'=T) b.fn none ops [i] (jM T b k cs) (A n e D) ⟨ro,den w⟩:=by
  refine Nt (P:=P) hC ho (dw _ _ hg) (.inl rfl) ?_
  rw[ei]
  have e1:ev n e (.func f)= .func (.func f) #[] #[]:=rfl
  have e2:xs.map (ev n e)=⟨vs⟩:=si hx
  simp only[execOp,ay,resolve,e1,Deferred.ofValue,ae,e2]
  refine⟨rfl,?_⟩
  have hA:({A n e D with defers:={target:= .fn (.func f) ⟨[]⟩,args:=⟨vs⟩}::(A n e D).defers}:Act).put a.dst undef=A n (upd a.dst undef e) ({target:= .fn (.func f) ⟨[]⟩,args:=⟨vs⟩}::D):=by
   rw[←aW];rfl
  have he:(⟨[]⟩:Array Value)++(⟨vs⟩:Array Value)=⟨vs⟩:=by simp
  rw[he]
  have:=h _ _ _ rfl bX
  rw[←hA] at this
  exact fun m T' hc b' k' Jr h1 h2 h3 h4=>by
   obtain⟨rfl,rfl⟩:=hc
   exact gX hT (h4 .normal _ _ this)
 exact key main T ⟨rfl,rfl⟩ b k cs rfl hk hr fun e a s q=>q
end
attribute [irreducible] We opO cdO
structure ak9(L:Nat→Option Obj)(X:Cells)(ro aG:Nat→Option Obj):Prop where
 of:∀q o,L q=some o→(q,o)∈X
 on:∀q o,(q,o)∈X→L q=some o
 sub:Sub ro aG
 kn:Knows aG X
 nd:(X.map (·.1)).Nodup
 ap:∀q o,(q,o)∈X→ro q=none
def bkO(L:Cells):Option JS→Option JS
 |some ⟨p,e,w,_⟩=>some ⟨p,e,.l L::w,⟨[],[]⟩⟩
 |none=>none
def Uj(ps:List Nat):Option JS→Option Cells
 |some ⟨_,_,w,_⟩=>some (den (dD ps 0 w))
 |none=>none
def Yi:Option JS→Option JS
 |some ⟨p,e,_,kn⟩=>some ⟨p,e,[],⟨kn.c,[]⟩⟩
 |none=>none
theorem C6:∀(w:List Sg) (k:Nat),dD [] k w=w
 | [],_=>rfl
 |x::w,k=>by
  simp only[dD,bh]
  rw[C6 w]
  rfl
theorem ak9.back{L:Nat→Option Obj}{X:Cells}{roK:Nat→Option Obj}{rwK:Cells}(h:ak9 L X ro aG)(hs:Sub aG roK):
 (∀w,aR ⟨roK,rwK⟩ w→(∀b o,L b=some o→w.heap[b]?=some o)→aR ⟨ro,X++rwK⟩ w)∧∀b,(⟨ro,X++rwK⟩:St).knows b→L b≠none∨(⟨roK,rwK⟩:St).knows b:=by
 refine⟨fun w hw hL=>⟨fun q o hq=>hw.ro q o (hs _ _ (h.sub _ _ hq)),fun q o hq=>?_,?_,fun q o hq=>?_⟩,fun q hq=>?_⟩
 ·rcases List.mem_append.1 hq with hq|hq
  ·exact hL q o (h.on q o hq)
  exact hw.rw q o hq
 ·show ((X++rwK).map (·.1)).Nodup
  rw[List.map_append,List.nodup_append]
  refine⟨h.nd,hw.nodup,fun q hq q' DN e=>?_⟩
  subst e
  obtain⟨⟨q1,o1⟩,h1,rfl⟩:=List.mem_map.1 hq
  obtain⟨⟨q2,o2⟩,h2,e2⟩:=List.mem_map.1 DN
  simp only at e2
  subst e2
  have h3:=hs _ _ (h.kn _ h1)
  have h4:=hw.apart _ _ h2
  dsimp only at h3 h4
  rw[h4] at h3
  cases h3
 ·show ro q=none
  rcases List.mem_append.1 hq with hq|hq
  ·exact h.ap q o hq
  have h2:roK q=none:=hw.apart q o hq
  cases hr:ro q with
  |none=>rfl
  |some o'=>rw[hs _ _ (h.sub _ _ hr)] at h2;cases h2
 rcases hq with hq| ⟨o,hq⟩
 ·have hq:ro q≠none:=hq
  cases hr:ro q with
  |none=>exact absurd hr hq
  |some o'=>exact .inr (.inl (by show roK q≠none;rw[hs _ _ (h.sub _ _ hr)];simp))
 rcases List.mem_append.1 hq with h'|h'
 ·exact .inl (by rw[h.on q o h'];simp)
 exact .inr (.inr ⟨o,h'⟩)
section
variable {ι:Type} {E:dQ ι} {Q:Machine→Outcome→World→Trace→Prop} {b:Frame} {Ab:List Item} {cs:List Frame} {n:Nat} {D:List Deferred} {ro:Nat→Option Obj} {o:Option JS} {ops:Array Oper} {L:Nat→Option Obj}
theorem aty{tm:Bool}(iw ic:Nat)(X:Cells)(iJ:Closed E.P true (TL E.P eC (fun _=>none) (Calm E.os E.out) Q))
 (h:∀L aG,ak9 L X ro aG→E.Wg≠E.Ch→L E.Ch=none→TT (TM E L Q 0 false [] 0) b Ab cs n D aG (Yi o))
 (hW:dM [iw,ic] o=some [(E.Wg,wgBlock E.ty 0 0),(E.Ch,.chan 0 #[] false 0 0 tm)]:=by kernel_rfl)(hX:Uj [iw,ic] o=some X:=by kernel_rfl):TT (TL E.P eC (fun _=>none) (Calm E.os E.out) Q) b Ab cs n D ro o:=by
 rintro e w kn rfl bX
 refine Closed.jK iJ rfl fun⟨w0,YD⟩=>?_
 have hp:=bJ hW
 simp only[Uj,Option.some.injEq] at hX
 have Tm:=hp
 dsimp only at Tm
 rw[hX] at Tm
 have hm:∀x,x∈den w↔x=(E.Wg,wgBlock E.ty 0 0)∨x=(E.Ch,.chan 0 #[] false 0 0 tm)∨x∈X:=fun x=>by
  rw[Tm.mem_iff]
  simp
 have lZ:=(Tm.map (·.1)).nodup_iff.1 YD.nodup
 simp only[List.cons_append,List.nil_append,List.map_cons,List.nodup_cons,List.mem_cons,not_or] at lZ
 obtain⟨⟨dL,hW1⟩,hC1,RA⟩:=lZ
 have Af:∀x∈X,x∈den w:=fun x hx=>(hm x).2 (.inr (.inr hx))
 have aHk:(E.Wg,wgBlock E.ty 0 0)∈den w:=(hm _).2 (.inl rfl)
 have ai9:(E.Ch,Obj.chan 0 #[] false 0 0 tm)∈den w:=(hm _).2 (.inr (.inl rfl))
 have NZ:∀y∈X,y.1≠E.Wg∧y.1≠E.Ch:=fun y hy=>⟨fun e=>hW1 (e▸List.mem_map.2 ⟨_,hy,rfl⟩),fun e=>hC1 (e▸List.mem_map.2 ⟨_,hy,rfl⟩)⟩
 let L:Nat→Option Obj:=fun q=>(X.find? fun y=>y.1==q).map (·.2)
 have VJ:∀q o,L q=some o→(q,o)∈X:=fun q o hq=>by
  obtain⟨y,hy,rfl⟩:=Option.map_eq_some_iff.1 hq
  obtain⟨h1,h2⟩:=oF hy
  subst h2
  exact h1
 have aTd:∀q o,(q,o)∈X→L q=some o:=fun q o hq=>by
  show (X.find? fun y=>y.1==q).map (·.2)=some o
  rw[wJ RA hq];rfl
 have VK:L E.Ch=none:=by
  cases hq:L E.Ch with
  |none=>rfl
  |some o=>exact absurd rfl (NZ _ (VJ _ _ hq)).2
 have mJ:∀q o,(q,o)∈X→ro q=none:=fun q o hq=>YD.apart q o (Af _ hq)
 have fB:Sub ro (St.freeze ⟨ro,X⟩).ro:=fun q o hq=>St.nI (s:=⟨ro,X⟩) hq fun q o hq=>mJ q o hq
 have aih:∀q,(∃o,(q,o)∈den w)→(q=E.Wg∨q=E.Ch)→¬(St.freeze ⟨ro,X⟩).knows q:=by
  rintro q ⟨o,ho⟩ hq (hk| ⟨o',Fs⟩)
  ·simp only[St.freeze] at hk
   split at hk
   ·rename_i y hy
    obtain⟨h1,h2⟩:=oF hy
    have:=NZ _ h1
    rcases hq with e|e
    ·exact this.1 (h2.trans e)
    exact this.2 (h2.trans e)
   exact hk (YD.apart q o ho)
  cases Fs
 have aGk:ak9 L X ro (St.freeze ⟨ro,X⟩).ro:=⟨VJ,aTd,fB,fun x hx=>St.tq (s:=⟨ro,X⟩) (by rcases x with ⟨q,o⟩;exact hx) RA,RA,mJ⟩
 refine PK (E:=E) (L:=L) (s':=St.freeze ⟨ro,X⟩) rfl dL aHk ⟨tm,ai9⟩ ?_ (aih _ ⟨_,aHk⟩ (.inl rfl)) (aih _ ⟨_,ai9⟩ (.inr rfl)) (fun q ⟨o,ho⟩=>by cases ho) (fun q o hq=>⟨.inr (Af _ (VJ _ _ hq)),NZ _ (VJ _ _ hq)⟩) ?_
 ·refine⟨den w,by simp[St.freeze],fun q o hq=>?_⟩
  simp only[St.freeze] at hq
  split at hq
  ·rename_i y hy
   obtain⟨h1,h2⟩:=oF hy
   cases hq
   subst h2
   exact .inr (Af _ h1)
  exact .inl hq
 exact(h L _ aGk dL VK _ _ _ rfl (bX.up fB)).1
theorem aMW{os:List ι}{a:Oper}{bs:List Nat}(h:TT (TM E L Q 1 false os 0) b k cs n D ro (stO a.dst (.tuple #[]) o))(ho:ops[0]?=some a) (hg:a.guard=none) (ay:a.op= .call ⟨.value (.func f),#[x,.const (.int .i64 1)],ats⟩) (hf:FF E.P f) (hk:b.kind≠ .early) (hr:b.roundOf=none) (JZ:os.length <E.max)
 (aiH:IA E.P E.ty os.length (Frame.enter E.P f #[.pointer (some ⟨E.Wg,0,none⟩),.int .i64 1] .normal)=some bs) (hbs:∀b∈bs,b=E.Wg) (hx:evO n x o=some (.pointer (some ⟨E.Wg,0,none⟩)):=by kernel_rfl):TT (TM E L Q 0 false os 0) b (.inRegion ops [0]::k) cs n D ro o:=by
 rintro e w kn rfl bX
 have hT:Closed E.P true (TM E L Q 0 false os 0):=fe (E:=E) false os (fun e=>(by cases e))
 have VI:Closed E.P true (TM E L Q 1 false os 0):=fe (E:=E) false os (fun e=>(by cases e))
 refine Qz (rest:=[]) hT ho hg hk hr ay hf ?_
 have ni:(#[x,.const (.int .i64 1)]:Array Operand).map (A n e D).eval= #[.pointer (some ⟨E.Wg,0,none⟩),.int .i64 1]:=by
  rw[ei]
  simp only[List.map_toArray,List.map_cons,List.map_nil,aF hx]
  rfl
 rw[ni]
 refine⟨MC (E:=E) aiH hbs JZ ?_,fun e=>(by cases e)⟩
 rw[fG,ho]
 simp only[Option.bind_some]
 rw[aW]
 exact(gX VI (h _ _ _ rfl bX)).1
theorem tGo{os:List ι}(oo:ι){a:Oper}(L1:Cells)(ho:ops[i]?=some a) (hg:a.guard=none) (ay:a.op= .go ⟨.value y,#[],ats⟩) (hk:b.kind≠ .early) (hr:b.roundOf=none)
 (h:∀aG,Sub ro aG→Knows aG L1→eL E.P false (E.Kk oo) (born E.P {target:= .fn (.func f) ⟨ca⟩,args:= #[]}) ⟨aG,[]⟩∧TT (TM E L Q 0 false (os++[oo]) 0) b (.inRegion ops todo::k) cs n D aG (Yi (stO a.dst undef o)))
 (hy:evO n y o=some (.func (.func f) ⟨[]⟩ ⟨ca⟩):=by kernel_rfl) (hL:Uj [] o=some L1:=by kernel_rfl):TT (TM E L Q 1 false os 0) b (.inRegion ops (i::todo)::k) cs n D ro o:=by
 rintro e w kn rfl bX
 have VI:Closed E.P true (TM E L Q 1 false os 0):=fe (E:=E) false os (fun e=>(by cases e))
 refine Closed.jK VI rfl fun pF=>?_
 obtain⟨w0,YD⟩:=pF
 have lZ:((den w).map (·.1)).Nodup:=YD.nodup
 have mJ:∀q o,(q,o)∈den w→ro q=none:=YD.apart
 have fB:Sub ro (St.freeze ⟨ro,den w⟩).ro:=fun q o hq=>St.nI (s:=⟨ro,den w⟩) hq mJ
 have aw6:Knows (St.freeze ⟨ro,den w⟩).ro L1:=fun x hx=>St.tq (s:=⟨ro,den w⟩) (by rcases x with ⟨q,o⟩;simp only[Uj,Option.some.injEq] at hL;rw[←hL,C6] at hx;exact hx) lZ
 obtain⟨h1,h2⟩:=h _ fB aw6
 have bV:=fun w'=>Fx (P:=E.P) (main:=true) (b:=b) (a:=A n e D) (k:=k) (cs:=cs) (rest:=todo) ho hg hk hr ay (by rw[ei];exact aF hy) w'
 have:=h2 _ _ _ rfl (bX.up fB)
 rw[←aW] at this
 exact⟨TC.mono (St.CX ⟨ro,den w⟩) (Kq (E:=E) (o:=oo) (s:=St.freeze ⟨ro,den w⟩) rfl rfl (fun w' _=>bV w') h1 this.1),fun e=>(by cases e)⟩
theorem atC{os:List ι}{a:Oper}(L1:Cells)(ho:ops[i]?=some a) (hg:a.guard=none) (ay:a.op= .go ⟨.value y,#[],ats⟩) (hk:b.kind≠ .early) (hr:b.roundOf=none)
 (h:∀aG,Sub ro aG→Knows aG L1→E.closes ⟨aG,[]⟩ (born E.P {target:= .fn (.func f) ⟨ca⟩,args:= #[]})∧TT (TM E L Q 0 true os 0) b (.inRegion ops todo::k) cs n D aG (Yi (stO a.dst undef o)))
 (hy:evO n y o=some (.func (.func f) ⟨[]⟩ ⟨ca⟩):=by kernel_rfl) (hL:Uj [] o=some L1:=by kernel_rfl):TT (TM E L Q 0 false os 0) b (.inRegion ops (i::todo)::k) cs n D ro o:=by
 rintro e w kn rfl bX
 have VI:Closed E.P true (TM E L Q 0 false os 0):=fe (E:=E) false os (fun e=>(by cases e))
 refine Closed.jK VI rfl fun pF=>?_
 obtain⟨w0,YD⟩:=pF
 have lZ:((den w).map (·.1)).Nodup:=YD.nodup
 have mJ:∀q o,(q,o)∈den w→ro q=none:=YD.apart
 have fB:Sub ro (St.freeze ⟨ro,den w⟩).ro:=fun q o hq=>St.nI (s:=⟨ro,den w⟩) hq mJ
 have aw6:Knows (St.freeze ⟨ro,den w⟩).ro L1:=fun x hx=>St.tq (s:=⟨ro,den w⟩) (by rcases x with ⟨q,o⟩;simp only[Uj,Option.some.injEq] at hL;rw[←hL,C6] at hx;exact hx) lZ
 obtain⟨h1,h2⟩:=h _ fB aw6
 have bV:=fun w'=>Fx (P:=E.P) (main:=true) (b:=b) (a:=A n e D) (k:=k) (cs:=cs) (rest:=todo) ho hg hk hr ay (by rw[ei];exact aF hy) w'
 have:=h2 _ _ _ rfl (bX.up fB)
 rw[←aW] at this
 exact⟨TC.mono (St.CX ⟨ro,den w⟩) (Kr (E:=E) (s:=St.freeze ⟨ro,den w⟩) rfl rfl (fun w' _=>bV w') h1 this.1),fun e=>(by cases e)⟩
theorem aqB{os:List ι}{a:Oper}{rc:Operand}{z:Value}{X:Cells}{aI:Nat→Option Obj}(hl:ak9 L X py aI)(bZ:Sub aI ro)(VK:L E.Ch=none)(ho:ops[0]?=some a) (hg:a.guard=none) (Tl:∀ρ,bu E.P (execOp ρ a)=some (.comm #[{chan:=ρ rc,send:=none,zero:=z}] true (.recv true))) (hk:b.kind≠ .early) (hr:b.roundOf=none)
 (Ma:∀a' oo b' v Y,os=a'++oo::b'→E.W0 oo v Y→TT (TM E L Q 0 true (a'++b') 0) b (.inRegion ops todo::k) cs n D ro (adO Y (stO a.dst (.tuple #[v,.bool true]) o)))
 (qo:os=[]→TT (TL E.P eC (fun _=>none) (Calm E.os E.out) Q) b (.inRegion ops todo::k) cs n D py (bkO X (stO a.dst (.tuple #[z,.bool false]) o)))
 (hx:evO n rc o=some (.chan (some E.Ch)):=by kernel_rfl):TT (TM E L Q 0 true os 0) b (.inRegion ops (0::todo)::k) cs n D ro o:=by
 rintro e w kn rfl bX
 have hT:Closed E.P true (TM E L Q 0 true os 0):=fe (E:=E) true os (fun _=>rfl)
 refine Closed.jK hT rfl fun pF=>?_
 have hvc:ev n e rc= .chan (some E.Ch):=aF hx
 have bV:∀w',stepG E.P true (G (aK b (A n e D) (.inRegion ops (0::todo)::k)) cs) w'= .comm (G (aK b (A n e D) (.inRegion ops (0::todo)::k)) cs) #[rcase E.Ch z] true (.recv true) w' #[]:=by
  intro w'
  have Ag:=kK b (A n e D) (.inRegion ops (0::todo)::k)
  simp only[aK] at Ag
  have hw:Region.wanted a (yielded ops (A n e D).tmps)=true:=dw _ _ hg
  have jI:(b.kind==CallKind.early)=false:=by simpa using hk
  have gx:stepG E.P true (G (aK b (A n e D) (.inRegion ops (0::todo)::k)) cs) w'=stepG.apply E.P true (aK b (A n e D) (.inRegion ops (0::todo)::k)) cs none (execOp (A n e D).eval a) w':=by
   simp only[G,stepG,stepG.exec,aK,ho,Option.map_some,Option.getD_some,hw,if_true,stepG.oper,Frame.oper?,Ag]
   rw[hr]
  have bW:=tN (Tl (ev n e)) w' #[]
  rw[hvc] at bW
  rw[gx,ei]
  simp only[stepG.apply,if_true,bW,aK,jI,Bool.false_eq_true,if_false]
  simp[seen_none,GStep.after,G,rcase]
 have pE:∀v,Conc.served (G (aK b (A n e D) (.inRegion ops (0::todo)::k)) cs) v=G (aK b (A n (upd a.dst v e) D) (.inRegion ops todo::k)) cs:=by
  intro v
  have:=fG b (A n e D) ops 0 todo k v
  rw[ho] at this
  simp only[Option.bind_some] at this
  rw[aW] at this
  simp only[Conc.served,G] at this ⊢
  rw[this]
 have uu:os=[]→∀pc (g:Goroutine),g.status= .running→(∀w',stepG E.P true g w'= .comm (G (aK b (A n e D) (.inRegion ops (0::todo)::k)) cs) #[rcase E.Ch z] true (.recv true) w' #[])→
  TL E.P (jk pc) L (I2 E pc) Q g ⟨ro,den w⟩:=by
  intro tG pc g hg' awa
  obtain⟨hb1,fM⟩:=hl.back (rwK:=den w) bZ
  refine Xi (E:=E) (z:=z) (s':=⟨py,X++den w⟩) VK hg' (fun w' _=>awa w') hb1 fM ?_
  rw[pE]
  have:=qo tG _ _ _ rfl fun x hx=>(by cases hx)
  rw[gk] at this
  exact this
 refine⟨Xj (E:=E) (z:=z) rfl (fun w' _=>bV w') (fun a' oo b' v Y tG oA=>?_) fun tG pc=>⟨uu tG pc _ rfl bV,uu tG pc _ rfl fun w'=>bV w'⟩,fun _ tG pc=>uu tG pc _ rfl bV⟩
 rw[pE]
 have:=Ma a' oo b' v Y tG oA _ _ _ rfl bX
 rw[gk] at this
 exact this.1
theorem aBZ{oo:ι}{a:Oper}{sc sv:Operand}{v:Value}{Y:Cells}(ys:List Nat)(ho:ops[i]?=some a) (hg:a.guard=none) (hse:∀ρ,execOp ρ a=Sem.pure (.comm #[{chan:=ρ sc,send:=some (ρ sv),zero:= .tuple #[]}] true .send)) (hk:b.kind≠ .early) (hr:b.roundOf=none)
 (hs:E.W0 oo v Y) (h:TT (eL E.P false E.I4) b (.inRegion ops todo::k) cs n D ro (C5 ys (stO a.dst undef o)))
 (hx:evO n sc o=some (.chan (some E.Ch)):=by kernel_rfl) (hv:evO n sv o=some v:=by kernel_rfl) (hY:dM ys o=some Y:=by kernel_rfl):TT (eL E.P false (E.Kk oo)) b (.inRegion ops (i::todo)::k) cs n D ro o:=by
 rintro e w kn rfl bX
 refine eL.stop ?_
 have:=h e w kn
 refine⟨rfl,G (aK b (A n e D) (.inRegion ops (i::todo)::k)) cs,v,.tuple #[],Y,den (dD ys 0 w),bJ hY,hs,fun w' pF=>?_,?_⟩
 ·have he:=kK b (A n e D) (.inRegion ops (i::todo)::k)
  simp only[aK] at he
  have axo:ev n e sc= .chan (some E.Ch):=aF hx
  have axn:ev n e sv=v:=aF hv
  have hw:Region.wanted a (yielded ops (A n e D).tmps)=true:=dw _ _ hg
  have jI:(b.kind==CallKind.early)=false:=by simpa using hk
  have aFs:=hse (ev n e)
  rw[axo,axn] at aFs
  have gx:stepG E.P false (G (aK b (A n e D) (.inRegion ops (i::todo)::k)) cs) w'=stepG.apply E.P true (aK b (A n e D) (.inRegion ops (i::todo)::k)) cs none (execOp (A n e D).eval a) w':=by
   simp only[G,stepG,stepG.exec,aK,ho,Option.map_some,Option.getD_some,hw,if_true,stepG.oper,Frame.oper?,he]
   rw[hr]
  rw[gx,ei,aFs]
  simp only[stepG.apply,if_true,Sem.runT,aK,jI,Bool.false_eq_true,if_false]
  simp[seen_none,GStep.after,G,scase]
 have pE:Conc.served (G (aK b (A n e D) (.inRegion ops (i::todo)::k)) cs) undef=G (aK b (A n (upd a.dst undef e) D) (.inRegion ops todo::k)) cs:=by
  have:=fG b (A n e D) ops i todo k undef
  rw[ho] at this
  simp only[Option.bind_some] at this
  rw[aW] at this
  simp only[Conc.served,G] at this ⊢
  rw[this]
 rw[pE]
 exact h _ _ _ (by simp only[C5,stO]) bX
theorem atv{dn:Nat}{bs:List Nat}(hf:E.P.funcs[b.fn]?=some fn) (A3:fn.results= #[]) (zg:BR E.P dn=true) (DT:xJ E.P E.ty E.max (Frame.enter E.P dn #[.pointer (some ⟨E.Wg,0,none⟩)] .deferred)=some bs) (hbs:∀b∈bs,b=E.Wg) (ps:List Nat) (hk:b.kind= .deferred) (hr:b.roundOf=none)
 (hd:dM ps o=some [(bd,.deferred (some []))]:=by kernel_rfl):TT (eL E.P false E.I4) b [] [cQ E.P] n [ee bd,{target:= .fn (.func dn) ⟨[]⟩,args:=⟨[.pointer (some ⟨E.Wg,0,none⟩)]⟩}] ro o:=by
 rintro e w kn rfl bX
 have hT2:=dR E.P false E.I4
 refine hT2.go rfl rfl (g':=G {aK b (A n e [ee bd,{target:= .fn (.func dn) ⟨[]⟩,args:=⟨[.pointer (some ⟨E.Wg,0,none⟩)]⟩}]) [] with mode:= .returning} [cQ E.P]) (fun w=>by simp[G,stepG,stepG.exec,aK,hr]) ?_
 have hp:=bJ hd
 obtain⟨Lw,Rr,hs⟩:=List.append_of_mem (hp.mem_iff.2 (List.mem_append_left _ (List.mem_singleton.2 rfl)))
 refine unwind_mark (C:=CA E.P) (fun _ _ h=>h) hT2 (.inl rfl) (fr:={aK b (A n e [ee bd,{target:= .fn (.func dn) ⟨[]⟩,args:=⟨[.pointer (some ⟨E.Wg,0,none⟩)]⟩}]) [] with mode:= .returning}) rfl hs<|jB (C:=CA E.P) (fun _ _ h=>h) hT2 (.inl rfl) (kU zg) (ds:=[]) rfl<|eL.stop ?_
 have hq:QuitsD E.P 2 0 (G {aK b (A n e []) [] with mode:= .returning} [cQ E.P]):=nX rfl rfl hk hf A3
 exact Iz (E:=E) (c:={aK b (A n e []) [] with mode:= .returning}) (.inl rfl) hq DT hbs
end
theorem aB7{S:Goroutine→St→Prop}{c:Code}(hf:P.funcs[f]?=some fn) (hb:fn.body=some c) (hn:fn.ntmps=n) (ff:BR P f=true) (hle:Nat.ble ca.length n=true)
 (h:TT (eL P false S) (fr0 f .deferred) ([c].map .code++[]) [cQ P] n [] ro (some ⟨.fin .normal,fN 0 ca,[],⟨[],[]⟩⟩)):eL P false S (born P {target:= .fn (.func f) ⟨ca⟩,args:= #[]}) ⟨ro,[]⟩:=by
 have hT:=dR P false S
 refine jB (C:=CA P) (fun _ _ h=>h) hT (fr:={(default:Frame) with fn:=P.funcs.size,defers:=[{target:= .fn (.func f) ⟨ca⟩,args:= #[]}],mode:= .panicking [goexitEntry]}) (.inr ⟨_,rfl⟩) (kU ff) rfl ?_
 show eL P false S (G (Frame.enter P f (#[]++⟨ca⟩) .deferred) [cQ P]) ⟨ro,[]⟩
 have gV:Frame.enter P f (#[]++⟨ca⟩) .deferred=aK (fr0 f .deferred) (A n (fN 0 ca) []) [.code c]:=by
  rw[←kL ca n (Nat.le_of_ble_eq_true hle)]
  simp[Frame.enter,aK,hf,hb,hn,fr0]
 rw[gV]
 exact h _ _ _ rfl fun x hx=>(by cases hx)
theorem amG{E:dQ ι}{x:MJ}(hx:x.OK E.P E.ty){bs:List Nat}(Rm:Bs E.P E.ty E.max (Frame.enter E.P x.wait #[.pointer (some ⟨E.Wg,0,none⟩)] .normal)=some bs)(hbs:∀b∈bs,b=E.Wg)
 {a:Oper}(hq:ro q=some (.cells ⟨[.chan (some E.Ch)]⟩ t fz))(ho0:x.q1[0]?=some a) (hg0:a.guard=none) (aQH:a.op= .load U y) (ht:(a8 E.P U).map (·.agg)=some false)
 (hy:evO x.n y (some ⟨.fin .normal,eX x.o0.dst (.tuple #[]) (fN 0 [.pointer (some ⟨E.Wg,0,none⟩),.pointer (some ⟨q,0,none⟩)]),[],⟨[],[]⟩⟩)=some (.pointer (some ⟨q,0,none⟩)))
 (hc:evO x.n x.cx (stO a.dst (.chan (some E.Ch)) (some ⟨.fin .normal,eX x.o0.dst (.tuple #[]) (fN 0 [.pointer (some ⟨E.Wg,0,none⟩),.pointer (some ⟨q,0,none⟩)]),[],⟨[],[]⟩⟩))=some (.chan (some E.Ch))):
 E.closes ⟨ro,[]⟩ (born E.P {target:= .fn (.func x.f) ⟨[.pointer (some ⟨E.Wg,0,none⟩),.pointer (some ⟨q,0,none⟩)]⟩,args:= #[]}):=by
 obtain⟨fn,hf,A3,Tn⟩:=hx.fn
 obtain⟨hbf,sa,qT⟩:=hx.bf
 have hk:x.b.kind≠ .early:=by rw[sa];simp
 have Rw:∀g g',g.status= .running→g'.status= .running→(∀w,stepG E.P false g w= .go g' w #[])→E.closes ⟨ro,[]⟩ g'→E.closes ⟨ro,[]⟩ g:=
  fun g g' hg _ bV ⟨q,hq⟩=>⟨q+1,hg,g',fun w _=>bV w,hq⟩
 refine Rw _ _ rfl rfl (IJ (kU hx.ff) _) ?_
 have HQ:(#[]++(⟨[.pointer (some ⟨E.Wg,0,none⟩),.pointer (some ⟨q,0,none⟩)]⟩:Array Value))= #[.pointer (some ⟨E.Wg,0,none⟩),.pointer (some ⟨q,0,none⟩)]:=by simp
 rw[HQ]
 refine V8 (ir:=[]) (cs:=[cQ E.P]) Rw (hx.enter _ _)<|Ix (E:=E) ?_ Rm hbs
 have hT:=dR E.P false E.Kj
 show eL E.P false E.Kj (G ((aK x.b (A x.n (fN 0 [.pointer (some ⟨E.Wg,0,none⟩),.pointer (some ⟨q,0,none⟩)]) []) (.inRegion x.q0 (0::[])::[.code x.rest])).finish (.tuple #[])) [cQ E.P]) ⟨ro,[]⟩
 rw[fG,hx.op0,aW]
 simp only[Option.bind_some]
 rw[jR]
 refine gX hT ?_
 obtain⟨id,aht⟩:=hx.rest
 refine dG (l:=[x.rest]) (k:=[]) hT aht fun l2 qO=>?_
 have:=gh qO
 subst this
 rw[hx.size]
 have key:TT (eL E.P false E.Kj) x.b (.inRegion x.q1 (0::[1])::[]) [cQ E.P] x.n [] ro (some ⟨.fin .normal,eX x.o0.dst (.tuple #[]) (fN 0 [.pointer (some ⟨E.Wg,0,none⟩),.pointer (some ⟨q,0,none⟩)]),[],⟨[],[]⟩⟩):=by
  refine tLd hT (.chan (some E.Ch)) ho0 hg0 aQH ht hk qT (q:=q) (t:=t) (fz:=fz) (fun _ _ _ _=> .inl hq) ?_ hy
  intro e w kn he bX
  refine eL.stop ?_
  have hx2:ev x.n e x.cx= .chan (some E.Ch):=by
   rw[he] at hc
   exact aF hc
  obtain⟨ho,hg,ats,ay⟩:=hx.op
  have hq:(E.P.funcs[x.b.fn]?).any (·.norace)=false:=by rw[hbf,hf];simpa using Tn
  refine⟨rfl,?_,G (x.b.at (Act.put (A x.n e []) x.oc.dst (.tuple #[])) (.inRegion x.q1 []::[])) [cQ E.P],fun w s r tm hc=>?_,4,?_⟩
  ·simp[mayWake,G,aK,ho,ay]
  ·rw[C2 qT]
   have:=stepG_close (P:=E.P) (main:=false) (b:=x.b) (a:=A x.n e []) (kk:=[]) (cs:=[cQ E.P]) (rest:=[]) ho (dw x.oc _ hg) hk ay (by rw[ei];exact hx2) hc hq
   exact this
  rw[←C2 qT]
  refine .ctl (g':=G (aK x.b (Act.put (A x.n e []) x.oc.dst (.tuple #[])) []) [cQ E.P]) rfl (fun w=>by simp[G,stepG,stepG.exec,aK])<|.ctl (g':=G {aK x.b (Act.put (A x.n e []) x.oc.dst (.tuple #[])) [] with mode:= .returning} [cQ E.P]) rfl (fun w=>by simp[G,stepG,stepG.exec,aK,qT])<|nX rfl ?_ sa (by show E.P.funcs[x.b.fn]?=_;rw[hbf];exact hf) A3
  show (Act.put (A x.n e []) x.oc.dst (.tuple #[])).defers=[]
  rw[aW];rfl
 exact key _ _ _ rfl fun x hx=>(by cases hx)
theorem jpF{V:Value}(lp:List Nat)(B:Cells)(HI:BR X.P f=true)(hf:∀aI,Sub X.ro aI→Knows aI B→dv X.P f vs aI V)(hj:J X (Nm B V o))(h1:dA X.n (akI X.n) o=some (f,vs):=by kernel_rfl)(h3:dM lp o=some B:=by kernel_rfl):J X o:=by
 refine jGN h1 h3 (fun s p e ho hh hc=>?_) hj
 have hcb:yx X.P X.n p e=some (f,vs):=by unfold yx;rw[hc];simp only[HI,cond_true]
 obtain⟨ff,x,xs,at_,fi,ca,ws,ay,hx,rY,rfl⟩:=qH hcb
 rcases p with ⟨dst,op,ty,pos,cZ,g⟩
 dsimp only at ay;subst ay
 refine⟨rfl,fun s0 Hn u9 ops i r8 rest hw s' hs todo Q hk=>?_⟩
 have hez:Ext ⟨X.ro,B⟩ s':=fun b ob hb=>hs _ _ (hb.elim (fun h=>Hn _ _ (.inl h)) fun h=>u9 (b,ob) h)
 exact QK X.hC r8 hw (aY hx) ff (xE rY) (S3 fi ws ca) hez (fun aI h1=>hf aI (Gh h1) fun y hy=>h1 _ _ (.inr hy)) hk
def bgI(body:Code)(i:Nat):Option JS→Option (JS×Nat)
 |some ⟨.fin .normal,e,w,kn⟩=>match yV w i with
  |some (.b b (.loop r))=>match r.state with
   | .ready=>some (⟨.code body [],e,Uf w i (.b b (.loop {r with state:= .busy})),kn⟩,b)
   |_=>none
  |_=>none
 |_=>none
theorem jbI(i:Nat)(h:J (X.re bl ro Φ) (EP (bgI body i o)))(h1:Ud (bgI body i o)=some bl:=by kernel_rfl):J (X.rd bl ro Φ body) o:=by
 unfold bgI at h h1
 split at h<;>try (simp only[EP] at h;exact h.elim)
 rename_i e w kn
 split at h<;>try (simp only[EP] at h;exact h.elim)
 rename_i b r hn
 split at h<;>try (simp only[EP] at h;exact h.elim)
 rename_i bV
 simp only[hn,bV,Ud,Option.some.injEq] at h1
 subst h1
 simp only[EP] at h
 intro bX
 have hw:=h bX
 obtain⟨L,R,h2,h3⟩:=AD hn
 simp only[JP,Cx.rd,IP,Dg]
 refine⟨L,r,R,h2,bV,?_⟩
 simp only[JP,h3] at hw
 exact hw
theorem tGe{b:Frame}{D:List Deferred}(h:TT T b Ab cs n D ro (geO o)):TT T b Ab cs n D ro o:=by
 rintro e w kn rfl bX
 have:=h e (.l []::w) kn (by simp only[geO]) bX
 rw[gk] at this
 exact this
def aes:Option JS→Option JS
 |some ⟨.fin .normal,e,w,kn⟩=>some ⟨.fin .ret,e,w,kn⟩
 |_=>none
theorem atu{c:Code}{L:Cells}(hf:P.funcs[f]?=some fn) (hb:fn.body=some c) (hn:fn.ntmps=n) (hle:Nat.ble args.length n=true)
 (h:TT T (fr0 f .normal) ([c].map .code++[]) cs n [] ro (some ⟨.fin .normal,fN 0 args,[.l L],⟨[],[]⟩⟩)):T (G (Frame.enter P f ⟨args⟩ .normal) cs) ⟨ro,L⟩:=by
 have gV:Frame.enter P f ⟨args⟩ .normal=aK (fr0 f .normal) (A n (fN 0 args) []) [.code c]:=by
  rw[←kL args n (Nat.le_of_ble_eq_true hle)]
  simp[Frame.enter,aK,hf,hb,hn,fr0]
 rw[gV]
 exact h _ _ _ rfl fun x hx=>(by cases hx)
theorem aMS(hm:P.follows .mixedOrders=true)(hT:Closed P main T){cl:Frame}{Ov:List Frame}(v:Value)(hs ps:List Nat)(Y:Cells)(hf:P.funcs[f]?=some fn)
 (hk:T (G (cl.finish v) Ov) ⟨ro,Y⟩) (h1:qU (iu P n f hs (aes o))=some v:=by kernel_rfl) (h2:Pm (iu P n f hs (aes o))=Pj (iu P n f hs (aes o)):=by kernel_rfl) (h3:dM ps o=some Y:=by kernel_rfl):TT T (fr0 f .normal) (.code .ret::Ab) (cl::Ov) n [] ro o:=by
 rintro e w kn rfl bX
 simp only[aes] at h1 h2
 simp only[iu] at h1 h2
 cases hr:B5 P n e w kn.c hs (qA P f).results.toList with
 |none=>simp only[hr,qU] at h1;cases h1
 |some x=>
  rcases x with ⟨vs,q⟩
  simp only[hr,qU,Option.some.injEq,Pm,Pj] at h1 h2
  have r5:=tO (X:=⟨P,fun m T'=>m=main∧T'=T,by rintro _ _ ⟨rfl,rfl⟩;exact hT,hm,f,none,n,[],ro,fun _ _ _=>True⟩) bX hr (ma h2)
  have hp:=bJ h3
  have uR:qA P f=fn:=by simp only[qA,hf]
  have DN:=Qf (s0:=⟨ro,Y⟩) (R:=fun en s'=>∃v,en= .returned v∧T (G (cl.finish v) Ov) s') (.inl rfl) r5 h1 (dJ hp (Sub.refl _)) ⟨v,rfl,hk⟩
  rw[uR] at DN
  refine hT.go rfl rfl (g':=G {aK (fr0 f .normal) (A n e []) (.code .ret::Ab) with mode:= .returning} (cl::Ov)) (fun w=>by simp[G,stepG,stepG.exec,aK,fr0])<|sP (C:=CA P) (fun _ _ h=>h) (T:=T) hT hf (fr:={aK (fr0 f .normal) (A n e []) (.code .ret::Ab) with mode:= .returning}) rfl rfl rfl rfl (R:=fun en s'=>∃v,en= .returned v∧T (G (cl.finish v) Ov) s') DN.2 (fun v s' hv=>?_)
  obtain⟨v',hv',ht⟩:=hv
  cases hv'
  exact ht
attribute [irreducible] Yi bkO bgI Uj aes
def Dh(P:Program)(f:FuncId)(args:List Value)(ro:Nat→Option Obj)(own:Cells)(Φ:Value→Cells→Prop):Prop:=
 ∀fr,Fn (C0 P) P f ⟨args⟩ ⟨ro,own++fr⟩ (fun en s'=>∃v Y,en= .returned v∧(⟨ro,Y++fr⟩:St).le s'∧Φ v Y)
theorem Dh.mono{own:Cells}{Φ':Value→Cells→Prop}(h:Dh P f args ro own Φ)(hk:∀v X,Φ v X→Φ' v X):Dh P f args ro own Φ':=
 fun fr=>Fn.mono (h fr) fun _ _ ⟨v,X,h1,h2,h3⟩=>⟨v,X,h1,h2,hk v X h3⟩
abbrev RC(ro:Nat→Option Obj)(fr:Cells)(Φ:Value→Cells→Prop):Ending→St→Prop:=fun en s'=>∃v Y,en= .returned v∧(⟨ro,Y++fr⟩:St).le s'∧Φ v Y
def XC(P:Program)(hm:P.follows .mixedOrders=true)(f:FuncId)(ro:Nat→Option Obj)(R:Ending→St→Prop):Cx:=⟨P,C0 P,xK,hm,f,none,(qA P f).ntmps,[],ro,rz P (qA P f) R⟩
theorem qC{hm:P.follows .mixedOrders=true}:QR (XC P hm f ro R) R:=⟨rfl,rfl⟩
theorem Mn(hC:∀main T,C main T→Closed P main T){c:Code}(hf:P.funcs[f]?=some fn) (hb:fn.body=some c) (hl:Nat.ble args.length fn.ntmps=true) (h:Wp C f none c (rz P fn R) (A fn.ntmps (fN 0 args) []) s):Fn C P f ⟨args⟩ s R:=by
 refine Sr hC hf hb ?_
 have he:=kL args fn.ntmps (Nat.le_of_ble_eq_true hl)
 rw[←he] at h
 exact h
theorem AZ(hm:P.follows .mixedOrders=true){L:Cells}(own:List Sg)(kn:Cells)(hk:Knows ro kn)(h:∀fr,J (XC P hm f ro (RC ro fr Φ)) (jC P f args (own++[.l fr]) kn))(hL:den own=L:=by rfl):Dh P f args ro L Φ:=by
 subst hL
 intro fr
 have h:=h fr
 unfold jC at h
 split at h<;>try exact h.elim
 rename_i fn hf
 split at h<;>try exact h.elim
 rename_i c hc
 cases hl:Nat.ble args.length fn.ntmps with
 |false=>rw[hl] at h;exact h.elim
 |true=>
  rw[hl] at h
  have uR:qA P f=fn:=by simp only[qA,hf]
  have:=h hk
  simp only[JP,XC,KQ,uR] at this
  have hd:den (own++[.l fr])=den own++fr:=by rw[lF];rfl
  rw[hd] at this
  exact Mn xK hf hc hl this
section
variable {X:Cx} {o:Option JS}
theorem NJ{own:Cells}(ps:List Nat)(hC:∀main T,X.C main T→C0 X.P main T)(hf:Dh X.P f vs X.ro own Φ)(hj:∀v Y,Φ v Y→J X (mY ps v Y o))(h1:eW X.n (yx X.P X.n) o=some (f,vs):=by kernel_rfl)(h2:dM ps o=some own:=by kernel_rfl):J X o:=by
 obtain⟨ops,i,todo,k,e,w,kn,p,rfl,ho,hw,hc⟩:=dz h1
 obtain⟨ff,x,xs,at_,fi,ca,ws,ay,hx,rY,rfl⟩:=qH hc
 intro bX
 rcases p with ⟨dst,op,ty,pos,cZ,g⟩
 dsimp only at ay;subst ay
 have hp:=bJ h2
 have uR:Fn X.C X.P f ⟨fi++ws++ca⟩ ⟨X.ro,den w⟩ (fun en s'=>∃v Y,en= .returned v∧(⟨X.ro,Y++den (dD ps 0 w)⟩:St).le s'∧Φ v Y):=fun main T hT c cs k1 k2=>
  (X.hC main T hT).mono _ ⟨X.ro,own++den (dD ps 0 w)⟩ _ (dJ (J:=[]) (by rw[List.append_nil];exact hp) (Sub.refl _)) (Fn.weaken hC (hf _) main T hT c cs k1 k2)
 refine ub (fi:=⟨fi⟩) (ca:=⟨ca⟩) (ws:=fi++ws++ca) X.hC ho hw hx ff rY (S3 fi ws ca) uR (fun v' s' hr=>?_) (fun ch s' hr=>by obtain⟨_,_,e,_⟩:=hr;cases e) (fun s' hr=>by obtain⟨_,_,e,_⟩:=hr;cases e)
 obtain⟨v,Y,hv,hle,qj⟩:=hr
 cases hv
 have:=hj _ Y qj
 rw[n7 ho] at this
 have:=this bX
 simp only[JP,gk] at this
 exact this.more X.hC hle
theorem O8(hq:QR X (RC py fr Φ))(v:Value)(ps:List Nat)(Y:Cells)(fB:Sub py X.ro)(hR:Φ v Y)(h1:qU (iu X.P X.n X.fn [] o)=some v:=by kernel_rfl)(h2:Pm (iu X.P X.n X.fn [] o)=Pj (iu X.P X.n X.fn [] o):=by kernel_rfl)(h3:dM ps o=some (Y++fr):=by kernel_rfl)(h4:zm o=true:=by kernel_rfl):J X o:=
 aL hq v [] ps (Y++fr) fB ⟨v,Y,rfl,St.le_refl _,hR⟩ h1 h2 h3 h4
end
noncomputable def Gr(P:Program)(g:FuncId):Func:=match JA P g with
 |some (gn,_,_)=>gn
 |none=>default
noncomputable def Jz(P:Program)(g:FuncId):Tmp:=match JA P g with
 |some (_,t,_)=>t
 |none=>0
noncomputable def recC(P:Program)(g:FuncId):Code:=match JA P g with
 |some (_,_,c)=>c
 |none=> .skip
def atY(P:Program)(g:FuncId):Bool:=(JA P g).isSome
theorem amV(h:atY P g=true):JA P g=some (Gr P g,Jz P g,recC P g):=by
 unfold atY at h
 unfold Gr Jz recC
 cases hr:JA P g with
 |none=>rw[hr] at h;cases h
 |some x=>rcases x with ⟨a,b,c⟩;rfl
noncomputable def XD(P:Program)(hm:P.follows .mixedOrders=true)(f:FuncId)(ro:Nat→Option Obj)(R:Ending→St→Prop)(g:FuncId):Cx:=⟨P,CP P,eQ,hm,f,none,(qA P f).ntmps,[],ro,Wq (CP P) P (qA P f) g (Gr P g) (Jz P g) (recC P g) R⟩
theorem aO6(hm:P.follows .mixedOrders=true){L:Cells}(g:FuncId)(own:List Sg)(kn:Cells)(hk:Knows ro kn)(h:J (XD P hm f ro (RX ro Φ) g) (jC P f args own kn))(hL:den own=L:=by rfl)(ahu:atY P g=true:=by kernel_rfl):dO P f args ro L Φ:=by
 subst hL
 unfold jC at h
 split at h<;>try exact h.elim
 rename_i fn hf
 split at h<;>try exact h.elim
 rename_i c hc
 cases hl:Nat.ble args.length fn.ntmps with
 |false=>rw[hl] at h;exact h.elim
 |true=>
  rw[hl] at h
  have uR:qA P f=fn:=by simp only[qA,hf]
  have:=h hk
  simp only[JP,XD,KQ,uR] at this
  exact H9 eQ hf hc rfl hl (amV ahu) this
def dfV(n:Nat)(p:Oper)(e:Env):Option (FuncId×List Value):=match p.op with
 | .defer ⟨.value x,⟨[]⟩,⟨[]⟩⟩=>match bn n e x with
  |some (.func (.func f) ⟨[]⟩ ⟨ca⟩)=>some (f,ca)
  |_=>none
 |_=>none
theorem ayU(h:dfV n p e=some (f,ca)):∃x,p.op= .defer ⟨.value x,#[],#[]⟩∧bn n e x=some (.func (.func f) ⟨[]⟩ ⟨ca⟩):=by
 unfold dfV at h
 split at h<;>try (cases h;done)
 rename_i x ay
 split at h<;>try (cases h;done)
 rename_i hx
 cases h
 exact⟨x,ay,hx⟩
def skO:Option JS→Option JS
 |some ⟨.ops ops (i::todo) k,e,w,kn⟩=>match ops[i]? with
  |some p=>some ⟨.ops ops todo k,upd p.dst undef e,w,kn⟩
  |none=>none
 |_=>none
def Rh(t:Tmp)(rest:Code)(ca:List Value):Option JS→Option JS
 |some ⟨.fin _,_,w,kn⟩=>some ⟨.code rest [],upd (some t) .nilIface (fN 0 ca),w,⟨kn.c,[]⟩⟩
 |_=>none
def rwS:Option JS→Option (List Sg)
 |some s=>some s.rw
 |none=>none
section
variable {X:Cx} {o:Option JS}
theorem jdf(hj:J (X.wd ({target:= .fn (.func f) ⟨ca⟩,args:= #[]}::X.D)) (skO o))(h1:eW X.n (dfV X.n) o=some (f,ca):=by kernel_rfl)(hr:X.az=none:=by rfl):J X o:=by
 obtain⟨ops,i,todo,k,e,w,kn,p,rfl,ho,hw,hc⟩:=dz h1
 obtain⟨x,ay,hx⟩:=ayU hc
 intro bX
 rcases p with ⟨dst,op,ty,pos,cZ,g⟩
 dsimp only at ay;subst ay
 simp only[skO,ho] at hj
 have:=hj bX
 simp only[JP,Td] at this
 show ab X.C X.fn X.az ops (i::todo) (KQ X k) (A X.n e X.D) ⟨X.ro,den w⟩
 rw[hr]
 have h2:(X.wd ({target:= .fn (.func f) ⟨ca⟩,args:= #[]}::X.D)).az=none:=hr
 rw[h2] at this
 exact ans X.hC ho hw hx this
structure QD(X:Cx)(g:FuncId)(R:Ending→St→Prop)(ca:List Value):Prop where
 q:X.Q=Wq X.C X.P (qA X.P X.fn) g (Gr X.P g) (Jz X.P g) (recC X.P g) R
 d:X.D=[{target:= .fn (.func g) ⟨ca⟩,args:= #[]}]
theorem jrD(hq:QD X g R ca)(v:Value)(hs ps:List Nat)(Y:Cells)(k:Nat)(fB:Sub py X.ro)(hR:R (.returned v) ⟨py,Y⟩)(hl:Nat.ble ca.length (Gr X.P g).ntmps=true:=by kernel_rfl)
 (h1:qU (iu X.P X.n X.fn hs o)=some v:=by kernel_rfl)(h2:Pm (iu X.P X.n X.fn hs o)=Pj (iu X.P X.n X.fn hs o):=by kernel_rfl)(h3:dM ps o=some Y:=by kernel_rfl)(h4:zm o=true:=by kernel_rfl)
 (h5:zm (res (adv X.P (Gr X.P g).ntmps k [] (Rh (Jz X.P g) (recC X.P g) ca o)))=true:=by kernel_rfl)(h6:rwS (res (adv X.P (Gr X.P g).ntmps k [] (Rh (Jz X.P g) (recC X.P g) ca o)))=rwS o:=by kernel_rfl)
 (h7:lhs (adv X.P (Gr X.P g).ntmps k [] (Rh (Jz X.P g) (recC X.P g) ca o))=rhs (adv X.P (Gr X.P g).ntmps k [] (Rh (Jz X.P g) (recC X.P g) ca o)):=by kernel_rfl):J X o:=by
 obtain⟨ex,e,w,kn,rfl,hex⟩:=tv h4
 simp only[iu] at h1 h2
 cases hr:B5 X.P X.n e w kn.c hs (qA X.P X.fn).results.toList with
 |none=>simp only[hr,qU] at h1;cases h1
 |some x=>
  rcases x with ⟨vs,q⟩
  simp only[hr,qU,Option.some.injEq,Pm,Pj] at h1 h2
  intro bX
  have r5:=tO bX hr (ma h2)
  have hp:=bJ h3
  have DN:=Qf (s0:=⟨py,Y⟩) (R:=R) hex r5 h1 (dJ hp fB) hR
  have ht:bP X.P (results (qA X.P X.fn) (A X.n e X.D).tmps) ⟨X.ro,den w⟩ (fun v s'=>∃s0,s0.le s'∧R (.returned v) s0) (fun _ _=>False):=by
   rcases hex with rfl|rfl<;>exact DN.2
  show X.Q ex (A X.n e X.D) ⟨X.ro,den w⟩
  rw[hq.q]
  refine⟨hex.symm,ca,hl,hq.d,?_⟩
  let X2:Cx:=⟨X.P,X.C,X.hC,X.hm,g,none,(Gr X.P g).ntmps,[],X.ro,fun e2 a2 s2=>(e2= .normal∨e2= .ret)∧a2.defers=[]∧bP X.P (results (qA X.P X.fn) (A X.n e X.D).tmps) s2 (fun v s3=>∃s0,s0.le s3∧R (.returned v) s0) (fun _ _=>False)⟩
  have hj:J X2 (Rh (Jz X.P g) (recC X.P g) ca (some ⟨.fin ex,e,w,kn⟩)):=by
   refine jd k [] ?_ h7
   have h5':=h5
   have h6':=h6
   obtain⟨ex2,e2,w2,kn2,uk,aRO⟩:=tv h5'
   show J X2 (res (adv X.P (Gr X.P g).ntmps k [] (Rh (Jz X.P g) (recC X.P g) ca (some ⟨.fin ex,e,w,kn⟩))))
   rw[uk] at h6' ⊢
   simp only[rwS,Option.some.injEq] at h6'
   subst h6'
   exact fun _=>⟨aRO.symm,rfl,ht⟩
  simp only[Rh] at hj
  exact hj bX
end
attribute [irreducible] skO Rh rwS dfV
end Go.L
