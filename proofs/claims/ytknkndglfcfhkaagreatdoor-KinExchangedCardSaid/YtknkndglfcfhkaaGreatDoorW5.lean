/- Part 5 of the proof. -/
import Derived.Test.YtknkndglfcfhkaaGreatDoorW4
set_option maxRecDepth 100000
set_option linter.all false
namespace Go.L
open Go Go.Conc
variable {ro pW aJ:Nat→Option Obj} {P:Program} {Φ:Value→Cells→Prop} {f g:FuncId} {R:Ending→St→Prop} {todo uV:List Nat} {El:(Nat→Option Obj)→Nat→List Value→Cells→Prop} {κ α ι:Type} {T:Goroutine→St→Prop} {vs ca args l z fi:List Value} {n sz i bE bl bd off r id dep N q:Nat} {b:ByteArray} {o o1:Option JS} {k AP:List Item} {e rest:Env} {p:Oper} {s s':St} {ats:Array TypeId} {tm:Array Value} {cs:List Frame} {fn:Func} {X:Cx} {C:Class} {main ag:Bool} {fz:Nat×Nat} {E t U:TypeId} {as body:Code} {x y:Operand} {hi:Int} {lo:Option Int} {fr:Cells}
section
variable {X:Cx} {o:Option JS}
def PG(n:Nat)(p:Oper)(e:Env):Option (BinOp×TypeId×Value×Value):=match p.op with
 | .binOp op T x y _=>match bu n e x with
  |some v=>match bu n e y with
   |some w=>some (op,T,v,w)
   |none=>none
  |none=>none
 |_=>none
theorem uU{op:BinOp}{T:TypeId}{v w:Value}(h:PG n p e=some (op,T,v,w)):∃x y T',p.op= .binOp op T x y T'∧bu n e x=some v∧bu n e y=some w:=by
 unfold PG at h
 split at h<;>try (cases h;done)
 rename_i az
 split at h<;>try (cases h;done)
 rename_i hx
 split at h<;>try (cases h;done)
 rename_i hy
 cases h
 exact⟨_,_,_,az,hx,hy⟩
theorem jsa{a:ByteArray}(T:TypeId)(hb:(a.size:Int)+b.size≤9223372036854775807)(hj:J X (ku (.string (a++b)) o))(hv:dL X.n (PG X.n) o=some (.add,T,.string a,.string b):=by kernel_rfl):J X o:=by
 refine T4 hv (fun s p e _ hf=>?_) hj
 obtain⟨x,y,T',az,hx,hy⟩:=uU hf
 rcases p with ⟨dst,op,ty,pos,dg,g⟩
 dsimp only at az;subst az
 exact fun s0 ops i tF rest hw s' hs todo Q hk=>au1 X.hC tF hw (bk hx) (bk hy) hb hk
theorem jrm{k:IntKind}{a b:Int}(T:TypeId)(hb:b≠0)(hj:J X (ku (.int k (a.tmod b)) o))(hv:dL X.n (PG X.n) o=some (.rem,T,.int k a,.int k b):=by kernel_rfl):J X o:=by
 refine T4 hv (fun s p e _ hf=>?_) hj
 obtain⟨x,y,T',az,hx,hy⟩:=uU hf
 rcases p with ⟨dst,op,ty,pos,dg,g⟩
 dsimp only at az;subst az
 exact fun s0 ops i tF rest hw s' hs todo Q hk=>aD8 X.hC tF hw (bk hx) (bk hy) hb hk
theorem jsr{k k':IntKind}{a b:Int}(T:TypeId)(hb:0≤b)(hj:J X (ku (.int k (aT k a b)) o))(hv:dL X.n (PG X.n) o=some (.shr,T,.int k a,.int k' b):=by kernel_rfl):J X o:=by
 refine T4 hv (fun s p e _ hf=>?_) hj
 obtain⟨x,y,T',az,hx,hy⟩:=uU hf
 rcases p with ⟨dst,op,ty,pos,dg,g⟩
 dsimp only at az;subst az
 exact fun s0 ops i tF rest hw s' hs todo Q hk=>aD6 X.hC tF hw (bk hx) (bk hy) hb hk
theorem jsh{k k':IntKind}{a b:Int}(T:TypeId)(hb:0≤b)(hj:J X (ku (.int k (dG k a b)) o))(hv:dL X.n (PG X.n) o=some (.shl,T,.int k a,.int k' b):=by kernel_rfl):J X o:=by
 refine T4 hv (fun s p e _ hf=>?_) hj
 obtain⟨x,y,T',az,hx,hy⟩:=uU hf
 rcases p with ⟨dst,op,ty,pos,dg,g⟩
 dsimp only at az;subst az
 exact fun s0 ops i tF rest hw s' hs todo Q hk=>aD7 X.hC tF hw (bk hx) (bk hy) hb hk
theorem jeq{T:TypeId}{m:List Value}{r:Bool}(hg:oH X.P T)(he:EqV X.P T (.agg ⟨l⟩) (.agg ⟨m⟩) r)(hj:J X (ku (.bool r) o))(hv:dL X.n (PG X.n) o=some (.eql,T,.agg ⟨l⟩,.agg ⟨m⟩):=by kernel_rfl):J X o:=by
 refine T4 hv (fun s p e _ hf=>?_) hj
 obtain⟨x,y,T',az,hx,hy⟩:=uU hf
 rcases p with ⟨dst,op,ty,pos,dg,g⟩
 dsimp only at az;subst az
 exact fun s0 ops i tF rest hw s' hs todo Q hk=>anH X.hC tF hw (bk hx) (bk hy) hg he hk
theorem jne{T:TypeId}{m:List Value}{r:Bool}(hg:oH X.P T)(he:EqV X.P T (.agg ⟨l⟩) (.agg ⟨m⟩) r)(hj:J X (ku (.bool !r) o))(hv:dL X.n (PG X.n) o=some (.neq,T,.agg ⟨l⟩,.agg ⟨m⟩):=by kernel_rfl):J X o:=by
 refine T4 hv (fun s p e _ hf=>?_) hj
 obtain⟨x,y,T',az,hx,hy⟩:=uU hf
 rcases p with ⟨dst,op,ty,pos,dg,g⟩
 dsimp only at az;subst az
 exact fun s0 ops i tF rest hw s' hs todo Q hk=>af1 X.hC tF hw (bk hx) (bk hy) hg he hk
def HF(P:Program)(T:TypeId):Bool:=match a8 P T with
 |some ⟨.slice _,_,_,_⟩=>true
 |_=>false
theorem HE{T:TypeId}(h:HF P T=true):∃E sz bE z ag,TF P T (.slice E) sz bE z ag:=by
 unfold HF at h
 split at h<;>try (cases h;done)
 rename_i dQ
 obtain⟨bE,tf⟩:=aw dQ
 exact⟨_,_,_,_,_,tf⟩
theorem jsn{a:Option Addr}{l c:Nat}(T:TypeId)(hj:J X (ku (.bool a.isNone) o))(hv:dL X.n (PG X.n) o=some (.eql,T,.slice a l c,.slice none 0 0):=by kernel_rfl)(hT:HF X.P T=true:=by kernel_rfl):J X o:=by
 refine T4 hv (fun s p e _ hf=>?_) hj
 obtain⟨x,y,T',az,hx,hy⟩:=uU hf
 obtain⟨E,sz,bE,z,ag,tf⟩:=HE hT
 rcases p with ⟨dst,op,ty,pos,dg,g⟩
 dsimp only at az;subst az
 exact fun s0 ops i tF rest hw s' hs todo Q hk=>anC X.hC tF hw tf (bk hx) (bk hy) hk
def E4(n:Nat)(e:Env):Option Operand→Option (Option Int)
 |none=>some none
 |some x=>match bu n e x with
  |some (.int _ a)=>some (some a)
  |_=>none
def aeR(P:Program)(n:Nat)(p:Oper)(e:Env):Option (ByteArray×Option Int×Option Int):=match p.op with
 | .slice T x y z none=>match a8 P T with
  |some ⟨.string,_,_,_⟩=>match bu n e x with
   |some (.string b)=>match E4 n e y with
    |some lo=>match E4 n e z with
     |some hi=>some (b,lo,hi)
     |none=>none
    |none=>none
   |_=>none
  |_=>none
 |_=>none
def amZ(P:Program)(n:Nat)(p:Oper)(e:Env):Option (Value×Option Int×Option Int×Nat):=match p.op with
 | .slice T x y z none=>match a8 P T with
  |some ⟨.slice E,_,_,_⟩=>match a8 P E with
   |some te=>match bu n e x with
    |some v=>match E4 n e y with
     |some lo=>match E4 n e z with
      |some hi=>some (v,lo,hi,te.size)
      |none=>none
     |none=>none
    |none=>none
   |none=>none
  |_=>none
 |_=>none
theorem nV{x:Option Operand}{a:Int}(h:E4 n e x=some (some a)):∃y k,x=some y∧bu n e y=some (.int k a):=by
 unfold E4 at h
 split at h
 ·cases h
 split at h<;>try (cases h;done)
 rename_i hx
 cases h
 exact⟨_,_,rfl,hx⟩
theorem CW{x:Option Operand}(h:E4 n e x=some none):x=none:=by
 unfold E4 at h
 split at h
 ·rfl
 split at h<;>cases h
theorem ND{hi:Option Int}(h:aeR P n p e=some (b,lo,hi)):∃T x y z sz bE zz ag,p.op= .slice T x y z none∧TF P T .string sz bE zz ag∧bu n e x=some (.string b)∧E4 n e y=some lo∧E4 n e z=some hi:=by
 unfold aeR at h
 split at h<;>try (cases h;done)
 rename_i az
 split at h<;>try (cases h;done)
 rename_i dQ
 obtain⟨bE,tf⟩:=aw dQ
 split at h<;>try (cases h;done)
 rename_i hx
 split at h<;>try (cases h;done)
 rename_i hy
 split at h<;>try (cases h;done)
 rename_i hz
 cases h
 exact⟨_,_,_,_,_,_,_,_,az,tf,hx,hy,hz⟩
theorem Yp{v:Value}{hi:Option Int}{k:Nat}(h:amZ P n p e=some (v,lo,hi,k)):∃T x y z E sz bE zz ag d B7 z2 ag2,p.op= .slice T x y z none∧TF P T (.slice E) sz bE zz ag∧TF P E d k B7 z2 ag2∧bu n e x=some v∧E4 n e y=some lo∧E4 n e z=some hi:=by
 unfold amZ at h
 split at h<;>try (cases h;done)
 rename_i az
 split at h<;>try (cases h;done)
 rename_i dQ
 obtain⟨bE,tf⟩:=aw dQ
 split at h<;>try (cases h;done)
 rename_i te uG
 obtain⟨B7,ry⟩:=aw uG
 split at h<;>try (cases h;done)
 rename_i hx
 split at h<;>try (cases h;done)
 rename_i hy
 split at h<;>try (cases h;done)
 rename_i hz
 cases h
 exact⟨_,_,_,_,_,_,_,_,_,_,_,_,_,az,tf,ry,hx,hy,hz⟩
theorem jtB{lo:Int}(hl:0≤lo∧lo≤hi∧hi≤b.size)(hj:J X (ku (.string (b.extract lo.toNat hi.toNat)) o))(hv:dL X.n (aeR X.P X.n) o=some (b,some lo,some hi):=by kernel_rfl):J X o:=by
 refine T4 hv (fun s p e _ hf=>?_) hj
 obtain⟨T,x,y,z,sz,bE,zz,ag,az,tf,hx,hy,hz⟩:=ND hf
 obtain⟨y,k,rfl,HG⟩:=nV hy
 obtain⟨z,k',rfl,hz1⟩:=nV hz
 rcases p with ⟨dst,op,ty,pos,dg,g⟩
 dsimp only at az;subst az
 exact fun s0 ops i tF rest hw s' hs todo Q hk=>Vh X.hC tF hw tf (bk hx) (bk HG) (bk hz1) hl hk
theorem jtH(hl:0≤hi∧hi≤b.size)(hj:J X (ku (.string (b.extract 0 hi.toNat)) o))(hv:dL X.n (aeR X.P X.n) o=some (b,none,some hi):=by kernel_rfl):J X o:=by
 refine T4 hv (fun s p e _ hf=>?_) hj
 obtain⟨T,x,y,z,sz,bE,zz,ag,az,tf,hx,hy,hz⟩:=ND hf
 have hy:=CW hy;subst hy
 obtain⟨z,k',rfl,hz1⟩:=nV hz
 rcases p with ⟨dst,op,ty,pos,dg,g⟩
 dsimp only at az;subst az
 exact fun s0 ops i tF rest hw s' hs todo Q hk=>RB X.hC tF hw tf (bk hx) (bk hz1) hl hk
theorem jtL{lo:Int}(hl:0≤lo∧lo≤b.size)(hj:J X (ku (.string (b.extract lo.toNat b.size)) o))(hv:dL X.n (aeR X.P X.n) o=some (b,some lo,none):=by kernel_rfl):J X o:=by
 refine T4 hv (fun s p e _ hf=>?_) hj
 obtain⟨T,x,y,z,sz,bE,zz,ag,az,tf,hx,hy,hz⟩:=ND hf
 have hz:=CW hz;subst hz
 obtain⟨y,k,rfl,HG⟩:=nV hy
 rcases p with ⟨dst,op,ty,pos,dg,g⟩
 dsimp only at az;subst az
 exact fun s0 ops i tF rest hw s' hs todo Q hk=>RA X.hC tF hw tf (bk hx) (bk HG) hl hk
theorem jcH{v:Value}{enc:α→List Value}{ps:List α}(hs:bD X.ro v sz enc ps)(hl:0≤hi∧hi≤ps.length)(hj:∀v',bD X.ro v' sz enc (ps.take hi.toNat)→J X (ku v' o))(hv:dL X.n (amZ X.P X.n) o=some (v,none,some hi,sz):=by kernel_rfl):J X o:=by
 obtain⟨a,b,off,cap,rfl,h2,h3,h4⟩:=id hs
 have hp:=bD.part hs (l:=0) (h:=hi.toNat) (by omega) (by omega)
 rw[List.drop_zero] at hp
 refine T4 hv (fun s p e _ hf=>?_) (hj _ hp)
 obtain⟨T,x,y,z,E,s1,bE,zz,ag,d,B7,z2,ag2,az,tf,ry,hx,hy,hz⟩:=Yp hf
 have hy:=CW hy;subst hy
 obtain⟨z,k',rfl,hz1⟩:=nV hz
 rcases p with ⟨dst,op,ty,pos,dg,g⟩
 dsimp only at az;subst az
 intro s0 ops i tF rest hw s' ny todo Q hk
 refine bV X.hC tF hw (by simp) ?_
 have hb:0≤hi∧hi≤(cap:Int):=by omega
 have fT:(0:Int)≤0∧(0:Int)≤(hi.toNat:Int):=by omega
 rw[←aZ] at hk
 simp only[execOp,Option.map_some,Option.map_none,Instr.sliceAt,Instr.slice,aG (bk (rest:=rest) hx),aG (bk (rest:=rest) hz1),aa,ba tf,Instr.sliceBounds,Instr.sliceBound,asIntOf,ae,hb,fT,and_self,if_true,cz ry]
 exact hk
theorem jcB{v:Value}{enc:α→List Value}{ps:List α}{lo:Int}(hs:bD X.ro v sz enc ps)(hl:0≤lo∧lo≤hi∧hi≤ps.length)(hj:∀v',bD X.ro v' sz enc ((ps.take hi.toNat).drop lo.toNat)→J X (ku v' o))(hv:dL X.n (amZ X.P X.n) o=some (v,some lo,some hi,sz):=by kernel_rfl):J X o:=by
 obtain⟨a,b,off,cap,rfl,h2,h3,h4⟩:=id hs
 have hp:=bD.part hs (l:=lo.toNat) (h:=hi.toNat) (by omega) (by omega)
 refine T4 hv (fun s p e _ hf=>?_) (hj _ hp)
 obtain⟨T,x,y,z,E,s1,bE,zz,ag,d,B7,z2,ag2,az,tf,ry,hx,hy,hz⟩:=Yp hf
 obtain⟨y,k,rfl,HG⟩:=nV hy
 obtain⟨z,k',rfl,hz1⟩:=nV hz
 rcases p with ⟨dst,op,ty,pos,dg,g⟩
 dsimp only at az;subst az
 intro s0 ops i tF rest hw s' ny todo Q hk
 refine bV X.hC tF hw (by simp) ?_
 have hb:0≤hi∧hi≤(cap:Int):=by omega
 have fT:0≤lo∧lo≤(hi.toNat:Int):=by omega
 rw[←aZ] at hk
 simp only[execOp,Option.map_some,Option.map_none,Instr.sliceAt,Instr.slice,aG (bk (rest:=rest) hx),aG (bk (rest:=rest) HG),aG (bk (rest:=rest) hz1),aa,ba tf,Instr.sliceBounds,Instr.sliceBound,asIntOf,ae,hb,fT,and_self,if_true,cz ry]
 exact hk
def lnV(P:Program)(n:Nat)(p:Oper)(e:Env):Option Value:=match p.op with
 | .call ⟨.builtin .len,⟨[x]⟩,⟨[T]⟩⟩=>bif HF P T then bu n e x else none
 |_=>none
theorem yJ{v:Value}{T2:TypeId}{enc:α→List Value}{ps:List α}{L:Cells}(kR:ay v sz T2 enc ps L)(hj:J X (ku (.int .i64 ps.length) o))(hv:dL X.n (lnV X.P X.n) o=some v:=by kernel_rfl):J X o:=by
 refine T4 hv (fun s p e _ hf=>?_) hj
 unfold lnV at hf
 split at hf<;>try (cases hf;done)
 rename_i x T az
 cases hT:HF X.P T with
 |false=>rw[hT] at hf;cases hf
 |true=>
  rw[hT] at hf;simp only[cond_true] at hf
  obtain⟨E,s1,bE,z,ag,tf⟩:=HE hT
  rcases p with ⟨dst,op,ty,pos,dg,g⟩
  dsimp only at az;subst az
  exact fun s0 ops i tF rest hw s' hs todo Q hk=>af2 X.hC tF hw tf (bk hf) kR hk
def abI(ps:List Nat)(v:Value)(L':Cells):Option JS→Option JS:=nA ps v L'
theorem YT{ops:Array Oper}{k:List KI}{w:List Sg}{kn:Kn}{ps:List Nat}{v:Value}{L':Cells}(ho:ops[i]?=some p):abI ps v L' (some ⟨.ops ops (i::todo) k,e,w,kn⟩)=some ⟨.ops ops todo k,upd p.dst v e,.l L'::dI ps 0 w,kn⟩:=by
 unfold abI
 simp only[oF ho]
def amW(P:Program)(n:Nat)(p:Oper)(e:Env):Option (Addr×List Value×Nat):=match p.op with
 | .store T x y=>match a8 P T with
  |some ti=>match bu n e x with
   |some (.pointer (some a))=>match bu n e y with
    |some v=>some (a,dZ v,ti.size)
    |none=>none
   |_=>none
  |none=>none
 |_=>none
theorem Yn{a:Addr}(h:amW P n p e=some (a,l,sz)):∃T x y d bE z ag v,p.op= .store T x y∧TF P T d sz bE z ag∧bu n e x=some (.pointer (some a))∧bu n e y=some v∧v.cells=⟨l⟩:=by
 unfold amW at h
 split at h<;>try (cases h;done)
 rename_i az
 split at h<;>try (cases h;done)
 rename_i ti dQ
 obtain⟨bE,tf⟩:=aw dQ
 split at h<;>try (cases h;done)
 rename_i hx
 split at h<;>try (cases h;done)
 rename_i hy
 cases h
 exact⟨_,_,_,_,_,_,_,_,az,tf,hx,hy,by rw[my]⟩
theorem MC{v:Value}{enc:α→List Value}{ps:List α}{L:Cells}{b k:Nat}{a:α}(i f:Nat)(c:List Value)(e:α)(kR:ay v sz E enc ps L)(hb:PV v b)(hk:ps[k]?=some a) (he:enc e=dE (enc a) f c) (h1:c.all single=true) (hf:f+c.length≤sz) (hj:∀L',ay v sz E enc (ps.set k e) L'→J X (abI [i] undef L' o)) (hv:eY X.n (amW X.P X.n) o=some (⟨b,k*sz+f,none⟩,c,c.length):=by kernel_rfl) (h2:dS [i] o=some L:=by kernel_rfl):J X o:=by
 obtain⟨ops,i0,todo,kk,ev,w,kn,p,rfl,ho,hw,hc⟩:=dD hv
 obtain⟨T,x,y,d,bE,z,ag,u,az,tf,hx,hy,hu⟩:=Yn hc
 intro bY
 rcases p with ⟨dst,op,ty,pos,dg,g⟩
 dsimp only at az;subst az
 refine wE X.hC (bN h2)<|aD2 X.hC ho hw tf hx hy hu rfl (List.all_eq_true.1 h1) kR hb hk he hf fun L' hL'=>?_
 have:=hj L' hL'
 rw[YT ho] at this
 have:=this bY
 simp only[JP,gA] at this
 exact this
def apV(P:Program)(n:Nat)(p:Oper)(e:Env):Option (Value×Value×TypeId×Nat):=match p.op with
 | .call ⟨.builtin .append,⟨[x,y]⟩,⟨[T,U]⟩⟩=>match a8 P T with
  |some ⟨.slice E,_,_,_⟩=>bif HF P U then (match a8 P E with
   |some te=>match P.info? E with
    |some ie=>bif Nat.beq te.zero.length te.size&&Nat.ble ie.bytes 65536 then (match bu n e x with
     |some v=>match bu n e y with
      |some w=>some (v,w,E,te.size)
      |none=>none
     |none=>none) else none
    |none=>none
   |none=>none) else none
  |_=>none
 |_=>none
theorem azF{v w:Value}(h:apV P n p e=some (v,w,E,sz)):∃x y T U s1 b1 z1 a1 E2 s2 b2 z2 a2 d bE z ag,p.op= .call ⟨.builtin .append,#[x,y],#[T,U]⟩∧TF P T (.slice E) s1 b1 z1 a1∧TF P U (.slice E2) s2 b2 z2 a2∧TF P E d sz bE z ag∧z.length=sz∧bE≤65536∧bu n e x=some v∧bu n e y=some w:=by
 unfold apV at h
 split at h<;>try (cases h;done)
 rename_i x y T U az
 split at h<;>try (cases h;done)
 rename_i E' _ _ _ dQ
 obtain⟨b1,tf1⟩:=aw dQ
 cases hU:HF P U with
 |false=>rw[hU] at h;cases h
 |true=>
  rw[hU] at h;simp only[cond_true] at h
  obtain⟨E2,s2,b2,z2,a2,ry⟩:=HE hU
  split at h<;>try (cases h;done)
  rename_i te uG
  obtain⟨b3,tf3⟩:=aw uG
  split at h<;>try (cases h;done)
  rename_i ie hie
  cases hb:(Nat.beq te.zero.length te.size&&Nat.ble ie.bytes 65536) with
  |false=>rw[hb] at h;cases h
  |true=>
   rw[hb] at h;simp only[cond_true] at h
   split at h<;>try (cases h;done)
   rename_i hx
   split at h<;>try (cases h;done)
   rename_i hy
   simp only[Option.some.injEq,Prod.mk.injEq] at h
   obtain⟨rfl,rfl,rfl,rfl⟩:=h
   simp only[Bool.and_eq_true,Nat.ble_eq] at hb
   obtain⟨i2,g1,_,g3,_⟩:=tf3.info
   rw[hie] at g1;cases g1
   exact⟨x,y,T,U,_,b1,_,_,E2,s2,b2,z2,a2,_,b3,_,_,az,tf1,ry,tf3,Nat.eq_of_beq_eq_true hb.1,by omega,hx,hy⟩
theorem iC{v w:Value}{enc:α→List Value}{ps qs:List α}{L:Cells}(is lp:List Nat)(B:Cells)(kR:ay v sz E enc ps L)(MI:∀s:St,Ext ⟨X.ro,[]⟩ s→(∀x∈B,s.has x.1 x.2)→Sl s w sz enc qs)(hq:∀p∈qs,∀c∈enc p,single c=true)(hb:ps.length+qs.length≤1048576)(hj:∀v' L',ay v' sz E enc (ps++qs) L'→J X (abI is v' L' o))
 (hv:eY X.n (apV X.P X.n) o=some (v,w,E,sz):=by kernel_rfl)(h2:dS is o=some L:=by kernel_rfl)(h3:dS lp o=some B:=by kernel_rfl):J X o:=by
 obtain⟨ops,i0,todo,kk,ev,w0,kn,p,rfl,ho,hw,hc⟩:=dD hv
 obtain⟨x,y,T,U,s1,b1,z1,a1,E2,s2,b2,z2,a2,d,bE,z,ag,az,tf1,ry,tf3,hz,hby,hx,hy⟩:=azF hc
 intro bY
 rcases p with ⟨dst,op,ty,pos,dg,g⟩
 dsimp only at az;subst az
 have hp:=bN h2
 refine wE X.hC hp<|oap X.hC ho hw tf1 ry tf3 hz hx hy kR (MI _ Pf fun u hu=>?_) hq ⟨hb,hby⟩ fun v' L' hL'=>?_
 ·rcases Tp (X:=X) h3 u hu with h|h
  ·exact .inl h
  exact .inr (hp.mem_iff.1 h)
 have:=hj v' L' hL'
 rw[YT ho] at this
 have:=this bY
 simp only[JP,gA] at this
 exact this
theorem aEU{w:Value}(enc:α→List Value){qs:List α}(lp:List Nat)(B:Cells)(MI:∀s:St,Ext ⟨X.ro,[]⟩ s→(∀x∈B,s.has x.1 x.2)→Sl s w sz enc qs)(hq:∀p∈qs,∀c∈enc p,single c=true)(hb:qs.length≤1048576)(hj:∀v' L',ay v' sz E enc qs L'→J X (abI [] v' L' o))
 (hv:eY X.n (apV X.P X.n) o=some (.slice none 0 0,w,E,sz):=by kernel_rfl)(h3:dS lp o=some B:=by kernel_rfl)(h2:dS [] o=some []:=by kernel_rfl):J X o:=
 iC (ps:=[]) [] lp B (ay.nil sz E enc) MI hq (by simpa using hb) (fun v' L' h=>hj v' L' h) hv h2 h3
end
attribute [irreducible] abI
section
variable {X:Cx} {o:Option JS}
def nxV(n:Nat)(p:Oper)(e:Env):Option Nat:=match p.op with
 | .next x true=>match bu n e x with
  |some (.pointer (some ⟨r,0,none⟩))=>some r
  |_=>none
 |_=>none
theorem af8(h:nxV n p e=some r):∃x,p.op= .next x true∧bu n e x=some (.pointer (some ⟨r,0,none⟩)):=by
 unfold nxV at h
 split at h<;>try (cases h;done)
 rename_i az
 split at h<;>try (cases h;done)
 rename_i hx
 cases h
 exact⟨_,az,hx⟩
def UN(i:Nat)(v:Value)(b:Nat)(ob:Obj):Option JS→Option JS
 |some ⟨.ops ops (j::todo) k,e,w,kn⟩=>match ops[j]? with
  |some p=>some ⟨.ops ops todo k,upd p.dst v e,.b b ob::dI [i] 0 w,kn⟩
  |none=>none
 |_=>none
theorem jnA{p:Nat}{c:UInt8}(r i:Nat)(hp:b.data.toList[p]?=some c) (ha:c.toNat <128) (hj:J X (UN i (.tuple ⟨[.bool true,.int .i64 p,.int .i32 c.toNat]⟩) r (.stringIter b (p+1)) o))
 (hv:eY X.n (nxV X.n) o=some r:=by kernel_rfl) (hB:dS [i] o=some [(r,.stringIter b p)]:=by kernel_rfl):J X o:=by
 obtain⟨ops,i0,todo,kk,ev,w0,kn,q,rfl,ho,hw,hc⟩:=dD hv
 obtain⟨x,az,hx⟩:=af8 hc
 intro bY
 rcases q with ⟨dst,op,ty,pos,dg,g⟩
 dsimp only at az;subst az
 refine wE X.hC (bN hB) (anG X.hC ho hw hx hp ha ?_)
 simp only[UN,ho] at hj
 have:=hj bY
 simp only[JP,iK] at this
 exact this
theorem jnZ{p:Nat}(r i:Nat)(hp:b.data.toList[p]?=none) (hj:J X (UN i (.tuple ⟨[.bool false]⟩) r (.stringIter b p) o))
 (hv:eY X.n (nxV X.n) o=some r:=by kernel_rfl) (hB:dS [i] o=some [(r,.stringIter b p)]:=by kernel_rfl):J X o:=by
 obtain⟨ops,i0,todo,kk,ev,w0,kn,q,rfl,ho,hw,hc⟩:=dD hv
 obtain⟨x,az,hx⟩:=af8 hc
 intro bY
 rcases q with ⟨dst,op,ty,pos,dg,g⟩
 dsimp only at az;subst az
 refine wE X.hC (bN hB) (anF X.hC ho hw hx hp ?_)
 simp only[UN,ho] at hj
 have:=hj bY
 simp only[JP,iK] at this
 exact this
theorem jcG{own:Cells}{Φ:Value→(Nat→Option Obj)→Cells→Prop}(ps:List Nat)(hf:FnG X.P f vs X.ro own Φ)(hj:∀v aJ Y,Sub X.ro aJ→Φ v aJ Y→J (X.at aJ) (nA ps v Y o))(h1:eY X.n (yW X.P X.n) o=some (f,vs):=by kernel_rfl)(h2:dS ps o=some own:=by kernel_rfl):J X o:=by
 obtain⟨ops,i,todo,k,e,w,kn,p,rfl,ho,hw,hc⟩:=dD h1
 obtain⟨ff,x,xs,at_,fi,ca,ws,az,hx,sM,rfl⟩:=q7 hc
 intro bY
 rcases p with ⟨dst,op,ty,pos,dg,g⟩
 dsimp only at az;subst az
 have hp:=bN h2
 refine uA (fi:=⟨fi⟩) (ca:=⟨ca⟩) (ws:=fi++ws++ca) X.hC ho hw hx ff sM (TK fi ws ca) (Fn.weaken X.hC (FnG.use (s:=⟨X.ro,den w⟩) hp hf)) (fun v' s' hr=>?_) (fun ch s' hr=>by obtain⟨_,_,_,e,_⟩:=hr;cases e) (fun s' hr=>by obtain⟨_,_,_,e,_⟩:=hr;cases e)
 obtain⟨v,aJ,Y,hv,hs,qH,hle⟩:=hr
 cases hv
 have:=hj _ aJ Y hs qH
 rw[oF ho] at this
 have:=this (bY.up hs)
 simp only[JP,gA,Jx] at this
 exact this.more X.hC hle
def akd(n:Nat)(p:Oper)(e:Env):Option (FuncId×List Value):=match p.op with
 | .call ⟨.value (.func f),xs,_⟩=>match yC n e xs.toList with
  |some vs=>some (f,vs)
  |none=>none
 |_=>none
theorem Pg(h:akd n p e=some (f,vs)):∃xs at_,p.op= .call ⟨.value (.func f),xs,at_⟩∧yC n e xs.toList=some vs:=by
 unfold akd at h
 split at h<;>try (cases h;done)
 rename_i az
 split at h<;>try (cases h;done)
 rename_i hx
 cases h
 exact⟨_,_,az,hx⟩
theorem jib{a:ByteArray}{b:Int}(ef:EF X.P f Extern.BytealgIndexByte.indexByte)(hj:J X (ku (.int .i64 (Se a b.toNat.toUInt8)) o))(hv:dL X.n (akd X.n) o=some (f,[.string a,.int .u8 b]):=by kernel_rfl):J X o:=by
 refine jGS hv (fun s p e _ hf=>?_) hj
 obtain⟨xs,at_,az,hx⟩:=Pg hf
 rcases p with ⟨dst,op,ty,pos,dg,g⟩
 dsimp only at az;subst az
 exact⟨fun ops i tF rest hw s' hs todo Q hk=>af3 X.hC tF hw ef (x5 hx) hk,fun hk=>by cases hk⟩
theorem aOB{v:Value}(ef:EF X.P f Extern.AbiNoEscape.same)(hj:J X (ku v o))(hv:dL X.n (akd X.n) o=some (f,[v]):=by kernel_rfl):J X o:=by
 refine jGS hv (fun s p e _ hf=>?_) hj
 obtain⟨xs,at_,az,hx⟩:=Pg hf
 rcases p with ⟨dst,op,ty,pos,dg,g⟩
 dsimp only at az;subst az
 exact⟨fun ops i tF rest hw s' hs todo Q hk=>anE X.hC tF hw ef (x5 hx) hk,fun hk=>by cases hk⟩
def mmV(n:Nat)(p:Oper)(e:Env):Option (Bool×Value×Value):=match p.op with
 | .call ⟨.builtin .min,⟨[x,y]⟩,⟨[_,_]⟩⟩=>match bu n e x with
  |some v=>match bu n e y with
   |some w=>some (true,v,w)
   |none=>none
  |none=>none
 | .call ⟨.builtin .max,⟨[x,y]⟩,⟨[_,_]⟩⟩=>match bu n e x with
  |some v=>match bu n e y with
   |some w=>some (false,v,w)
   |none=>none
  |none=>none
 |_=>none
theorem jmn{k:IntKind}{a b:Int}(hj:J X (ku (.int k (min a b)) o))(hv:dL X.n (mmV X.n) o=some (true,.int k a,.int k b):=by kernel_rfl):J X o:=by
 refine T4 hv (fun s p e _ hf=>?_) hj
 unfold mmV at hf
 split at hf<;>try (cases hf;done)
 ·rename_i az
  split at hf<;>try (cases hf;done)
  rename_i hx
  split at hf<;>try (cases hf;done)
  rename_i hy
  cases hf
  rcases p with ⟨dst,op,ty,pos,dg,g⟩
  dsimp only at az;subst az
  exact fun s0 ops i tF rest hw s' hs todo Q hk=>au4 X.hC tF hw (bk hx) (bk hy) hk
 split at hf<;>try (cases hf;done)
 split at hf<;>cases hf
theorem jmx{k:IntKind}{a b:Int}(hj:J X (ku (.int k (max a b)) o))(hv:dL X.n (mmV X.n) o=some (false,.int k a,.int k b):=by kernel_rfl):J X o:=by
 refine T4 hv (fun s p e _ hf=>?_) hj
 unfold mmV at hf
 split at hf<;>try (cases hf;done)
 ·split at hf<;>try (cases hf;done)
  split at hf<;>cases hf
 rename_i az
 split at hf<;>try (cases hf;done)
 rename_i hx
 split at hf<;>try (cases hf;done)
 rename_i hy
 cases hf
 rcases p with ⟨dst,op,ty,pos,dg,g⟩
 dsimp only at az;subst az
 exact fun s0 ops i tF rest hw s' hs todo Q hk=>au5 X.hC tF hw (bk hx) (bk hy) hk
theorem jsx(i b off:Nat)(c l:List Value)(t:TypeId)(h1:∀v∈l,single v=true)(hb:Nat.ble (off+l.length) c.length=true)(hj:J X (UN i undef b (.cells ⟨dE c off l⟩ t (0,0)) o))(hv:eY X.n (amW X.P X.n) o=some (⟨b,off,none⟩,l,l.length):=by kernel_rfl)(h2:dS [i] o=some [(b,.cells ⟨c⟩ t (0,0))]:=by kernel_rfl):J X o:=by
 obtain⟨ops,i0,todo,kk,ev,w,kn,p,rfl,ho,hw,hc⟩:=dD hv
 obtain⟨T,x,y,d,bE,z,ag,u,az,tf,hx,hy,hu⟩:=Yn hc
 intro bY
 rcases p with ⟨dst,op,ty,pos,dg,g⟩
 dsimp only at az;subst az
 refine wE X.hC (bN h2)<|ost X.hC ho hw tf hx hy hu rfl h1 (Nat.le_of_ble_eq_true hb) ?_
 simp only[UN,ho] at hj
 have:=hj bY
 simp only[JP,iK] at this
 exact this
def aiV(P:Program)(n:Nat)(p:Oper)(e:Env):Option (List Value×Int×Nat×Nat×Bool):=match p.op with
 | .index T x y=>match a8 P T with
  |some ⟨.array len E,_,_,_⟩=>match a8 P E with
   |some te=>match bu n e x with
    |some (.agg ⟨l⟩)=>match bu n e y with
     |some (.int _ ix)=>some (l,ix,len,te.size,te.agg)
     |_=>none
    |_=>none
   |none=>none
  |_=>none
 |_=>none
theorem jai{v:Value}(ix:Int)(len sz:Nat)(ag:Bool)(hi:0≤ix∧ix <len)(hp:Hd ag l (ix.toNat*sz) sz=some v)(hj:J X (ku v o))(hv:dL X.n (aiV X.P X.n) o=some (l,ix,len,sz,ag):=by kernel_rfl):J X o:=by
 refine T4 hv (fun s p e _ hf=>?_) hj
 unfold aiV at hf
 split at hf<;>try (cases hf;done)
 rename_i az
 split at hf<;>try (cases hf;done)
 rename_i dQ
 split at hf<;>try (cases hf;done)
 rename_i te uG
 split at hf<;>try (cases hf;done)
 rename_i hx
 split at hf<;>try (cases hf;done)
 rename_i hy
 cases hf
 obtain⟨b1,tf⟩:=aw dQ
 obtain⟨b2,ry⟩:=aw uG
 rcases p with ⟨dst,op,ty,pos,dg,g⟩
 dsimp only at az;subst az
 exact fun s0 ops i tF rest hw s' hs todo Q hk=>af4 X.hC tF hw tf ry (bk hx) (bk hy) hi hp hk
def tM(m:Nat)(e:Env):Option JS→Option JS
 |some ⟨.ops ops todo k,_,w,kn⟩=>some ⟨.ops ops (todo.drop m) k,e,w,kn⟩
 |_=>none
theorem jj(m:Nat)(e:Env)(hj:∀rest,J X (tM m (e++rest) o))(h:(∀o',tM 0 [] o'=tM m [] o→rP (nE e) o'=some e→J X o')→J X o)(hd:lkE (nE e) e=some e:=by kernel_rfl):J X o:=by
 refine h fun o' h1 h2=>?_
 cases o' with
 |none=>simp[rP] at h2
 |some s'=>
  rcases s' with ⟨p',e',w',kn'⟩
  cases o with
  |none=>exact(hj []).elim
  |some s=>
   rcases s with ⟨p,e0,w,kn⟩
   cases p' with
   |ops aZx aeu k'=>
    cases p with
    |ops ops todo k=>
     simp only[tM,Option.some.injEq,JS.mk.injEq,Pos.ops.injEq,List.drop_zero,true_and] at h1
     obtain⟨⟨rfl,rfl,rfl⟩,rfl,rfl⟩:=h1
     rw[tC] at h2
     obtain⟨r,hr⟩:=fY (n:=X.n) (D:=X.D) (kP h2) (kP hd)
     intro bY
     have:=hj r bY
     show ab _ _ _ _ _ _ (A X.n e' X.D) _
     rw[hr]
     exact this
    |_=>simp[tM] at h1
   |_=>cases p<;>simp[tM] at h1<;>exact(hj []).elim
end
attribute [irreducible] tM UN
section
variable {X:Cx} {o:Option JS}
def avm(i:Nat)(rest:Env)(todo:List Nat):Option JS→Option JS
 |some ⟨.IU ops base Pl _ k,_,w,kn⟩=>some ⟨.ops ops (i::todo) k,cA ops base i Pl++rest,w,kn⟩
 |_=>none
def LK(X:Cx)(i:Nat)(o:Option JS)(rest:Env)(todo:List Nat):Prop:=match o with
 |some ⟨.IU ops base Pl Sl k,_,w,kn⟩=>∀v s',(∀j u,(j,u)∈pending ops i Sl→tw ops X.n base Pl j=false→(∀B,(j,B)∈kn.nd→Ext ⟨X.ro,[]⟩ s'→(∀x∈B,s'.has x.1 x.2)→eL X.C X.fn X.aA ops X.n X.D j u (cA ops base j Pl) s')→eL X.C X.fn X.aA ops X.n X.D j u (cA ops base j Pl) ⟨X.ro,den w⟩→eL X.C X.fn X.aA ops X.n X.D j u (cA ops base j Pl) s')→
  (PF X kn.nd ops base ((i,v)::Pl) (pending ops i Sl)→tT X.C X.fn X.aA ops X.n X.D base ((i,v)::Pl) (pending ops i Sl) (KQ X k) s')→ab X.C X.fn X.aA ops todo (KQ X k) (A X.n (upd (aR ops i) v (cA ops base i Pl++rest)) X.D) s'
 |_=>True
def Zb(is:List Nat):Option JS→Bool
 |some ⟨.IU ops _ Pl Sl _,_,_,_⟩=>fF ops&&((is.all fun i=>Nat.blt i ops.size&& !bh i (an Pl))&&(nodupB (an Pl)&&(pH ops (an Pl)&&(fG (an Sl) (an Pl)&&(afX ops (an Pl) is&& !is.isEmpty)))))
 |_=>false
def alu(X:Cx)(o:Option JS):List Nat→Prop
 | []=>True
 |i::is=>(∀rest todo,LK X i o rest todo→J X (avm i rest todo o))∧alu X o is
theorem Ez(is:List Nat)(h:alu X o is)(hb:Zb is o=true:=by kernel_rfl):J X o:=by
 unfold Zb at hb
 split at hb<;>try (cases hb;done)
 rename_i ops base Pl Sl k e w kn
 simp only[Bool.and_eq_true,Bool.not_eq_true'] at hb
 obtain⟨h1,h2,h3,h4,h5,h6,h7⟩:=hb
 intro bY hpf
 refine ac5 is h1 h2 h3 h4 h5 h6 ?_ h7
 clear h6 h7
 induction is with
 |nil=>trivial
 |cons i is ih=>
  simp only[List.all_cons,Bool.and_eq_true,Bool.not_eq_true'] at h2
  refine⟨fun rest todo hk=>h.1 rest todo (fun v s' hp ha=>?_) bY,ih h.2 h2.2⟩
  have jm:∀x,x∈pending ops i Sl→x∈Sl:=fun x hx=>(List.mem_filter.1 hx).1
  refine hk v s' (fun j u JL bW=>?_) (ha ⟨fun j u JL hpb s0=>?_,fun j u B JL hB s0 HO vx=>?_⟩)
  ·cases hpb:tw ops X.n base Pl j with
   |true=>exact hpf.1 j u (jm _ JL) hpb s'
   |false=>exact hp j u JL hpb (fun B hB hx hb=>hpf.2 j u B (jm _ JL) hB s' hx hb) bW
  ·have Qg:j∈an Sl:=aP.2 ⟨u,jm _ JL⟩
   have rn:i∉bw ops j:=fun hd=>by
    have h8:=bQ.1 h5 j Qg
    have h9:=bQ.1 (List.all_eq_true.1 h4 j h8) i hd
    rw[aL.2 h9] at h2;exact absurd h2.1.2 (by simp)
   rw[c8 rn]
   exact hpf.1 j u (jm _ JL) (by simp only[tw,c8 rn] at hpb;exact hpb) s0
  have Qg:j∈an Sl:=aP.2 ⟨u,jm _ JL⟩
  have rn:i∉bw ops j:=fun hd=>by
   have h8:=bQ.1 h5 j Qg
   have h9:=bQ.1 (List.all_eq_true.1 h4 j h8) i hd
   rw[aL.2 h9] at h2;exact absurd h2.1.2 (by simp)
  rw[c8 rn]
  exact hpf.2 j u B (jm _ JL) hB s0 HO vx
theorem aQ(i:Nat)(h:∀rest todo,LK X i o rest todo→J X (avm i rest todo o))(hb:Zb [i] o=true:=by kernel_rfl):J X o:=Ez [i] ⟨h,trivial⟩ hb
def Xr(i:Nat):Option JS→Option JS→Option JS
 |some ⟨.IU ops base Pl Sl k,e,_,kn⟩,some ⟨.ops _ _ _,e',w',kn'⟩=>some ⟨.IU ops base ((i,match aR ops i with
  |some d=>(gQ e' d).getD undef
  |none=>undef)::Pl) (pending ops i Sl) k,e,w',⟨kn'.c,kn.nd⟩⟩
 |_,_=>none
def bkL(i:Nat)(rest:Env)(todo:List Nat):Option JS→Option JS→Option JS
 |some ⟨.IU ops base Pl _ k,_,_,_⟩,some ⟨_,e',w',kn'⟩=>some ⟨.ops ops todo k,upd (aR ops i) (match aR ops i with
  |some d=>(gQ e' d).getD undef
  |none=>undef) (cA ops base i Pl++rest),w',kn'⟩
 |_,_=>none
theorem Xn(h:bkL i rest todo o o1=o1)(h1:o1≠none):∃ops base Pl Sl k e w kn v w' kn',o=some ⟨.IU ops base Pl Sl k,e,w,kn⟩∧o1=some ⟨.ops ops todo k,upd (aR ops i) v (cA ops base i Pl++rest),w',kn'⟩:=by
 unfold bkL at h
 split at h
 ·simp only[Option.some.injEq,JS.mk.injEq] at h
  obtain⟨rfl,h,_⟩:=h
  exact⟨_,_,_,_,_,_,_,_,_,_,_,rfl,by rw[h]⟩
 exact(h1 h.symm).elim
def rwO:Option JS→List Sg
 |some s=>s.rw
 |none=>[]
theorem eo(hK:LK X i o rest todo)(is:List Nat)(hj:J X (Xr i o o1))(hc:bkL i rest todo o o1=o1:=by kernel_rfl)(h2:rJ is o1=some (rwO o):=by kernel_rfl):J X o1:=by
 by_cases dR:o1=none
 ·subst dR
  cases o with
  |none=>exact hj
  |some s=>rcases s with ⟨p,e,w,kn⟩;cases p<;>exact hj
 obtain⟨kB,base,Pl,Sl,k,e,w,kn,v,w',kn',rfl,rfl⟩:=Xn hc dR
 intro bY
 have hp:=lS h2
 have hv:(match aR kB i with
  |some d=>(gQ (upd (aR kB i) v (cA kB base i Pl++rest)) d).getD undef
  |none=>undef)=v∨aR kB i=none:=by
  cases hd:aR kB i with
  |none=>exact .inr rfl
  |some d=>left;simp[upd,gQ]
 have hj:=hj bY
 simp only[Xr,JP] at hj
 have key:=hK (match aR kB i with
  |some d=>(gQ (upd (aR kB i) v (cA kB base i Pl++rest)) d).getD undef
  |none=>undef) ⟨X.ro,den w'⟩ (fun j u _ _ _ hs=>hs.ext fun b ob hb=>?_) hj
 ·show ab _ _ _ _ _ _ _ _
  rcases hv with hv|hv
  ·rw[hv] at key;exact key
  rw[hv] at key ⊢;exact key
 rcases hb with hb|hb
 ·exact .inl hb
 exact .inr (hp.mem_iff.2 (List.mem_append_left _ hb))
def afF(i:Nat):Option JS→Bool
 |some ⟨.IU ops _ _ Sl _,_,_,_⟩=>(pending ops i Sl).isEmpty
 |_=>false
theorem fp(hK:LK X i o rest todo)(hj:J X (Xr i o o1))(hc:bkL i rest todo o o1=o1:=by kernel_rfl)(h2:afF i o=true:=by kernel_rfl):J X o1:=by
 by_cases dR:o1=none
 ·subst dR
  cases o with
  |none=>exact hj
  |some s=>rcases s with ⟨p,e,w,kn⟩;cases p<;>exact hj
 obtain⟨kB,base,Pl,Sl,k,e,w,kn,v,w',kn',rfl,rfl⟩:=Xn hc dR
 intro bY
 have hv:(match aR kB i with
  |some d=>(gQ (upd (aR kB i) v (cA kB base i Pl++rest)) d).getD undef
  |none=>undef)=v∨aR kB i=none:=by
  cases hd:aR kB i with
  |none=>exact .inr rfl
  |some d=>left;simp[upd,gQ]
 have hj:=hj bY
 simp only[Xr,JP] at hj
 have hpe:pending kB i Sl=[]:=by simpa [afF] using h2
 have key:=hK (match aR kB i with
  |some d=>(gQ (upd (aR kB i) v (cA kB base i Pl++rest)) d).getD undef
  |none=>undef) ⟨X.ro,den w'⟩ (fun j u JL=>by rw[hpe] at JL;cases JL) hj
 show ab _ _ _ _ _ _ _ _
 rcases hv with hv|hv
 ·rw[hv] at key;exact key
 rw[hv] at key ⊢;exact key
def ndG:List (Nat×Cells)→Nat→Option Cells
 | [],_=>none
 | (i,B)::l,j=>bif Nat.beq i j then some B else ndG l j
theorem YU{j:Nat}{B:Cells}:∀ {l:List (Nat×Cells)},ndG l j=some B→(j,B)∈l
 | (i,C)::l,h=>by
  simp only[ndG] at h
  cases hb:Nat.beq i j with
  |true=>
   rw[hb] at h;simp only[cond_true,Option.some.injEq] at h;subst h
   have:=Nat.eq_of_beq_eq_true hb;subst this
   exact List.mem_cons_self
  |false=>rw[hb] at h;simp only[cond_false] at h;exact List.mem_cons_of_mem _ (YU h)
structure Rk where
 a:List Value
 b:List Value
 c:List (Option Cells)
 d:List (Option Cells)
def aIg(ps:List Nat)(w:List Sg):Option Cells:=bif Hh ps then (match Ri ps w with
 |some x=>some (den x)
 |none=>none) else none
def rkL(P:Program)(n:Nat)(ops:Array Oper)(base:Env)(Pl:List (Nat×Value))(nd:List (Nat×Cells))(w:List Sg)(kn:Cells):List (List Nat)→List (Nat×Value)→Option Rk
 |_,[]=>some ⟨[],[],[],[]⟩
 |hs,(j,u)::r=>bif tw ops n base Pl j then rkL P n ops base Pl nd w kn hs r else (match hs with
  |h::hs=>match ndG nd j with
   |some B=>match rkL P n ops base Pl nd w kn hs r with
    |some ⟨a,b,c,d⟩=>some ⟨a,b,aIg h w::c,some B::d⟩
    |none=>none
   |none=>match ops[j]? with
    |some p=>match xe ops n (cA ops base j Pl) p.guard with
     |some true=>match p.op with
      | .load T x=>match bu n (cA ops base j Pl) x with
       |some (.pointer (some ⟨b,off,none⟩))=>match B5 w kn (h.headD 0) with
        |some (b',l)=>match ldv P T l off with
         |some v=>match rkL P n ops base Pl nd w kn hs r with
          |some ⟨a1,b1,c,d⟩=>some ⟨v:: .int .i64 b'::a1,u:: .int .i64 b::b1,c,d⟩
          |none=>none
         |none=>none
        |none=>none
       |_=>none
      |_=>none
     |_=>none
    |none=>none
  | []=>none)
theorem NJ{ops:Array Oper}{base:Env}{Pl:List (Nat×Value)}{nd:List (Nat×Cells)}{w:List Sg}{kn:Cells}(bY:Knows X.ro kn):∀ {l:List (Nat×Value)} {hs:List (List Nat)} {k:Rk},rkL X.P X.n ops base Pl nd w kn hs l=some k→k.a=k.b→k.c=k.d→∀j u,(j,u)∈l→tw ops X.n base Pl j=false→
 (∀B,(j,B)∈nd→Ext ⟨X.ro,[]⟩ ⟨X.ro,den w⟩→(∀x∈B,(⟨X.ro,den w⟩:St).has x.1 x.2)→eL X.C X.fn X.aA ops X.n X.D j u (cA ops base j Pl) ⟨X.ro,den w⟩)→eL X.C X.fn X.aA ops X.n X.D j u (cA ops base j Pl) ⟨X.ro,den w⟩
 | [],_,_,_,_,_,j,u,h,_,_=>by cases h
 | (j0,u0)::r,hs,k,h,xZ,hcd,j,u,hm,hpj,mo=>by
  simp only[rkL] at h
  cases hpb:tw ops X.n base Pl j0 with
  |true=>
   rw[hpb] at h;simp only[cond_true] at h
   rcases List.mem_cons.1 hm with h1|h1
   ·cases h1;rw[hpb] at hpj;cases hpj
   exact NJ bY h xZ hcd j u h1 hpj mo
  |false=>
   rw[hpb] at h;simp only[cond_false] at h
   split at h<;>try (cases h;done)
   rename_i h0 bH
   split at h
   ·rename_i B hB
    split at h<;>try (cases h;done)
    rename_i a b c d hr
    cases h
    simp only[List.cons.injEq] at hcd
    rcases List.mem_cons.1 hm with h1|h1
    ·cases h1
     refine mo B (YU hB) Pf fun x hx=> .inr ?_
     have hw:=hcd.1
     unfold aIg at hw
     cases ho:Hh h0 with
     |false=>rw[ho] at hw;cases hw
     |true=>
      rw[ho] at hw;simp only[cond_true] at hw
      split at hw<;>try (cases hw;done)
      rename_i y hy
      simp only[Option.some.injEq] at hw;subst hw
      exact(xU hy ho).mem_iff.2 (List.mem_append_left _ hx)
    exact NJ bY hr xZ hcd.2 j u h1 hpj mo
   split at h<;>try (cases h;done)
   rename_i p hp
   have Fo:aR ops j0=p.dst:=by simp only[aR,hp,Option.bind_some]
   split at h<;>try (cases h;done)
   rename_i hg
   split at h<;>try (cases h;done)
   rename_i T x az
   split at h<;>try (cases h;done)
   rename_i b0 off hx
   split at h<;>try (cases h;done)
   rename_i b' l hc
   split at h<;>try (cases h;done)
   rename_i v hv
   split at h<;>try (cases h;done)
   rename_i a1 b1 c d hr
   cases h
   simp only[List.cons.injEq,Value.int.injEq,true_and] at xZ
   obtain⟨rfl,hb,xZ⟩:=xZ
   have hb:b'=b0:=by omega
   subst hb
   rcases List.mem_cons.1 hm with h1|h1
   ·cases h1
    obtain⟨t,fz,hh⟩:=Az (X:=X) bY hc
    intro s1 hx1 rest todo Q hk
    rw[Fo] at hk
    exact lT X.hC hp rest (n8 hg rest) (by rw[az];rfl) (agH az hx hh hv) hx1 hk
   exact NJ bY hr xZ hcd j u h1 hpj mo
def rkO(P:Program)(n i:Nat)(hs:List (List Nat)):Option JS→Option JS→Option Rk
 |some ⟨.IU ops base Pl Sl _,_,_,kn⟩,some s1=>rkL P n ops base Pl kn.nd s1.rw s1.kn.c hs (pending ops i Sl)
 |_,_=>none
def rkA:Option Rk→Option (List Value×List (Option Cells))
 |some k=>some (k.a,k.c)
 |none=>some ([],[])
def rkB:Option Rk→Option (List Value×List (Option Cells))
 |some k=>some (k.b,k.d)
 |none=>none
theorem fJ(hK:LK X i o rest todo)(hs:List (List Nat))(hj:J X (Xr i o o1))(hc:bkL i rest todo o o1=o1:=by kernel_rfl)(h2:rkA (rkO X.P X.n i hs o o1)=rkB (rkO X.P X.n i hs o o1):=by kernel_rfl):J X o1:=by
 by_cases dR:o1=none
 ·subst dR
  cases o with
  |none=>exact hj
  |some s=>rcases s with ⟨p,e,w,kn⟩;cases p<;>exact hj
 obtain⟨kB,base,Pl,Sl,k,e,w,kn,v,w',kn',rfl,rfl⟩:=Xn hc dR
 intro bY
 have hv:(match aR kB i with
  |some d=>(gQ (upd (aR kB i) v (cA kB base i Pl++rest)) d).getD undef
  |none=>undef)=v∨aR kB i=none:=by
  cases hd:aR kB i with
  |none=>exact .inr rfl
  |some d=>left;simp[upd,gQ]
 have hj:=hj bY
 simp only[Xr,JP] at hj
 have bW:∀j u,(j,u)∈pending kB i Sl→tw kB X.n base Pl j=false→(∀B,(j,B)∈kn.nd→Ext ⟨X.ro,[]⟩ ⟨X.ro,den w'⟩→(∀x∈B,(⟨X.ro,den w'⟩:St).has x.1 x.2)→eL X.C X.fn X.aA kB X.n X.D j u (cA kB base j Pl) ⟨X.ro,den w'⟩)→eL X.C X.fn X.aA kB X.n X.D j u (cA kB base j Pl) ⟨X.ro,den w'⟩:=by
  simp only[rkO] at h2
  cases hr:rkL X.P X.n kB base Pl kn.nd w' kn'.c hs (pending kB i Sl) with
  |none=>rw[hr] at h2;cases h2
  |some x=>
   rw[hr] at h2
   simp only[rkA,rkB,Option.some.injEq,Prod.mk.injEq] at h2
   exact NJ bY hr h2.1 h2.2
 have key:=hK (match aR kB i with
  |some d=>(gQ (upd (aR kB i) v (cA kB base i Pl++rest)) d).getD undef
  |none=>undef) ⟨X.ro,den w'⟩ (fun j u JL hpb hn _=>bW j u JL hpb hn) hj
 show ab _ _ _ _ _ _ _ _
 rcases hv with hv|hv
 ·rw[hv] at key;exact key
 rw[hv] at key ⊢;exact key
end
attribute [irreducible] rkO rkA rkB avm Zb Xr bkL rwO afF
abbrev RY(ro:Nat→Option Obj)(Φ:Value→Cells→Prop):Ending→St→Prop:=fun en s'=>∃v X,en= .returned v∧(⟨ro,X⟩:St).le s'∧Φ v X
theorem Round.mono{l:Nat}{bd:Code}{R':Ending→St→Prop}(h:Round C l f tm as bd s R)(hr:∀e s,R e s→R' e s):Round C l f tm as bd s R':=
 fun main T hT c cs k1 k2=>h main T hT c cs (fun v s' hv=>k1 v s' (hr _ _ hv)) (fun ch s' hv=>k2 ch s' (hr _ _ hv))
theorem Round.weaken{C':Class}(hc:∀main T,C' main T→C main T){l:Nat}{bd:Code}(h:Round C l f tm as bd s R):Round C' l f tm as bd s R:=
 fun main T hT=>h main T (hc main T hT)
theorem Round.frame{l:Nat}{bd:Code}{s1:St}{B:Cells}(hf:Round (CP P) l f tm as bd s1 R)(hB:∀x∈B,x∈fr)(hc:adk fr B ro s1 s):
 Round (CP P) l f tm as bd s (fun en s'=>∃zl,R en zl∧adk fr B ro zl s'):=
 fun main T hT c cs k1 k2=>hf main _ (BQ hT hB ro) c cs (fun v zl hv _ s' tI=>k1 v s' ⟨zl,hv,tI⟩) (fun ch zl hv _ s' tI=>k2 ch s' ⟨zl,hv,tI⟩) rfl s hc
def adT(r:Loop)(vs:List Value):Array Value:=(r.params.zip ⟨vs⟩).foldl (fun tmps (x:Tmp×Value)=>tmps.setIfInBounds x.1 x.2) r.tmps
def YX(P:Program)(bl:Nat)(vs:List Value)(ro:Nat→Option Obj)(own:Cells)(Φ:Value→Cells→Prop):Prop:=
 ∃r,(bl,.loop r)∈own∧vs.length=r.params.size∧Round (CP P) bl r.fn (adT r vs) r.assign r.body ⟨ro,own⟩ (RY ro Φ)
theorem YX.use{own:Cells}(hy:YX P bl vs ro own Φ)(hs:Sub ro s.ro)(hp:s.rw.Perm (own++fr)){Q:Next→St→Prop}{E:Halt→St→Prop}
 (h:∀l f tm as bd,Round (CP P) l f tm as bd s (fun en s'=>∃v X,en= .returned v∧Φ v X∧(⟨s.ro,X++fr⟩:St).le s')→Q (.round l f tm as bd) s):bS P (Instr.yield bl ⟨vs⟩) s Q E:=by
 obtain⟨r,h1,h2,h3⟩:=hy
 simp only[Instr.yield,Instr.getLoop,aa]
 refine cJ (o:= .loop r) (.inr (hp.mem_iff.2 (List.mem_append_left _ h1))) rfl rfl ?_
 have uI:¬(⟨vs⟩:Array Value).size≠r.params.size:=by simpa using h2
 simp only[ae,if_neg uI]
 refine h _ _ _ _ _ (Round.mono (Round.frame (fr:=fr) (B:=[]) (ro:=s.ro) (s:=s) h3 (fun _ h=>(by cases h)) ⟨hp,fun b o hb=> .inl (hs b o hb),Sub.refl _⟩) fun en s' EB=>?_)
 obtain⟨zl,⟨v,X,rfl,⟨R,hR1,hR2⟩,qH⟩,hc⟩:=EB
 refine⟨v,X,rfl,qH,R,?_,fun b o hb=> .inl (hc.keep b o hb)⟩
 refine hc.rw.trans ((hR1.append_right fr).trans ?_)
 simp only[List.append_assoc]
 exact List.Perm.append_left _ List.perm_append_comm
section
variable {X:Cx} {o:Option JS}
def asU(n:Nat)(p:Oper)(e:Env):Option (Nat×List Value):=match p.op with
 | .call ⟨.value x,xs,_⟩=>match bu n e x with
  |some (.func (.yield bl) ⟨[]⟩ ⟨[]⟩)=>match yC n e xs.toList with
   |some vs=>some (bl,vs)
   |none=>none
  |_=>none
 |_=>none
theorem jyc{own:Cells}(ps:List Nat)(hy:YX X.P bl vs pW own Φ)(fD:Sub pW X.ro)(hj:∀v Y,Φ v Y→J X (nA ps v Y o))(h1:eY X.n (asU X.n) o=some (bl,vs):=by kernel_rfl)(h2:dS ps o=some own:=by kernel_rfl):J X o:=by
 obtain⟨ops,i,todo,k,e,w,kn,p,rfl,ho,hw,hc⟩:=dD h1
 intro bY
 unfold asU at hc
 split at hc<;>try (cases hc;done)
 rename_i x xs at_ az
 split at hc<;>try (cases hc;done)
 rename_i bl' hx
 split at hc<;>try (cases hc;done)
 rename_i oJ Fg
 cases hc
 rcases p with ⟨dst,op,ty,pos,dg,g⟩
 dsimp only at az;subst az
 have hp:=bN h2
 refine bV X.hC ho hw (by simp) ?_
 have Uc:xs.map (ev X.n e)=⟨vs⟩:=sQ Fg
 simp only[execOp,resolve,aG hx,Deferred.ofValue,ae,Uc]
 have hiv:(invoke (.fn (.yield bl) ⟨[]⟩) (⟨[]⟩++⟨vs⟩):Sem Next)=Instr.yield bl ⟨vs⟩:=by simp[invoke]
 rw[hiv]
 refine YX.use hy fD hp fun l f tm as bd hR=>?_
 show Round X.C l f tm as bd _ _
 refine Round.mono (Round.weaken X.hC hR) fun en s' EB=>?_
 obtain⟨v,Y,rfl,qH,hle⟩:=EB
 have:=hj v Y qH
 rw[oF ho] at this
 have:=this bY
 simp only[JP,gA] at this
 have:=this.more X.hC hle
 show ab _ _ _ _ _ _ _ _
 rw[aZ]
 exact this
end
attribute [irreducible] asU
def mk:List Nat→Cells
 | []=>[]
 |b::r=>(b,.deferred (some []))::mk r
def ags(P:Program)(fn:Func)(R:Ending→St→Prop):Post
 | .normal,a,s| .ret,a,s=>∃uV rest,a.defers=uV.map ek∧s.rw.Perm (mk uV++rest)∧bS P (results fn a.tmps) ⟨s.ro,rest⟩ (fun v s'=>∃s0,s0.le s'∧R (.returned v) s0) (fun _ _=>False)
 |_,_,_=>False
section
variable {P:Program} {C:Class}
theorem A7(hC:∀main T,C main T→Closed P main T)(hT:C main T){rest:Cells}:∀(uV:List Nat) (fr:Frame) (s:St),fr.mode= .returning→fr.defers=uV.map ek→s.rw.Perm (mk uV++rest)→T (G {fr with defers:=[]} cs) ⟨s.ro,rest⟩→T (G fr cs) s
 | [],fr,s,_,hd,hp,h=>by
  have:fr={fr with defers:=[]}:=by rcases fr with ⟨a,b,c,d,e,f,g⟩;simp only[List.map_nil] at hd;subst hd;rfl
  rw[this]
  exact(hC main T hT).mono _ ⟨s.ro,rest⟩ _ ⟨[],by simpa [mk] using hp,fun b o hb=> .inl hb⟩ h
 |b::r,fr,s,hm,hd,hp,h=>by
  obtain⟨L,Rr,hs⟩:=List.append_of_mem (hp.mem_iff.2 (List.mem_append_left _ List.mem_cons_self))
  refine unwind_mark hC hT (.inl hm) (ds:=r.map ek) (by simpa using hd) hs ?_
  have OS:(L++Rr).Perm (mk r++rest):=by
   rw[hs] at hp
   exact(List.perm_middle.symm.trans hp).cons_inv
  refine(hC main T hT).mono _ ⟨s.ro,L++Rr⟩ _ ⟨[(b,.deferred none)],?_,fun b o hb=> .inl hb⟩ (A7 hC hT r _ _ hm rfl OS h)
  exact List.perm_middle.trans (List.perm_append_singleton _ _).symm
theorem MZ(hC:∀main T,C main T→Closed P main T){c:Code}{args:Array Value} 
 (hf:P.funcs[f]?=some fn) (hb:fn.body=some c) (h:Wp C f none c (ags P fn R) ⟨args++Array.replicate (fn.ntmps-args.size) undef,[]⟩ s):Fn C P f args s R:=by
 intro main T hT cl cs k1 k2
 let b:Frame:={(default:Frame) with fn:=f,kind:= .normal,roundOf:=none}
 have gZ:Frame.enter P f args .normal=aM b ⟨args++Array.replicate (fn.ntmps-args.size) undef,[]⟩ [.code c]:=by
  simp[Frame.enter,aM,hf,hb,b]
 rw[gZ]
 refine h main T hT b [] (cl::cs) rfl (by simp[b]) rfl fun e a' s' q=>?_
 have sN:∀(todo:List Item),(∃uV rest,a'.defers=uV.map ek∧s'.rw.Perm (mk uV++rest)∧bS P (results fn a'.tmps) ⟨s'.ro,rest⟩ (fun v s'=>∃s0,s0.le s'∧R (.returned v) s0) (fun _ _=>False))→T (G {aM b a' todo with mode:= .returning} (cl::cs)) s':=by
  intro todo ⟨uV,rest,hd,hp,hr⟩
  exact A7 hC hT uV _ _ rfl hd hp (tj hC hT hf rfl rfl rfl rfl hr k1)
 cases e with
 |normal=>
  exact(hC main T hT).go rfl rfl (g':=G {aM b a' [] with mode:= .returning} (cl::cs)) (fun w=>by simp[G,stepG,stepG.exec,aM,b]) (sN _ q)
 |ret=>
  exact fun todo=>(hC main T hT).go rfl rfl (g':=G {aM b a' (.code .ret::todo) with mode:= .returning} (cl::cs)) (fun w=>by simp[G,stepG,stepG.exec,aM,b]) (sN _ q)
 |panic ch=>exact q.elim
 |exit id=>exact q.elim
 |goto l=>exact q.elim
 |outgrown=>exact q.elim
end
def XM(P:Program)(hm:P.follows .mixedOrders=true)(f:FuncId)(ro:Nat→Option Obj)(R:Ending→St→Prop):Cx:=⟨P,CP P,eP,hm,f,none,(qW P f).ntmps,[],ro,ags P (qW P f) R⟩
theorem aop(hm:P.follows .mixedOrders=true){L:Cells}(own:List Sg)(kn:Cells)(hk:Knows ro kn)(h:J (XM P hm f ro (RX ro Φ)) (jI P f args own kn))(hL:den own=L:=by rfl):eg P f args ro L Φ:=by
 subst hL
 unfold jI at h
 split at h<;>try exact h.elim
 rename_i fn hf
 split at h<;>try exact h.elim
 rename_i c hc
 cases hl:Nat.ble args.length fn.ntmps with
 |false=>rw[hl] at h;exact h.elim
 |true=>
  rw[hl] at h
  have u9:qW P f=fn:=by simp only[qW,hf]
  have:=h hk
  simp only[JP,XM,KQ,u9] at this
  refine MZ eP hf hc ?_
  have he:=kT args fn.ntmps (Nat.le_of_ble_eq_true hl)
  rw[←he] at this
  exact this
structure QM(X:Cx)(R:Ending→St→Prop)(uV:List Nat):Prop where
 q:X.Q=ags X.P (qW X.P X.fn) R
 d:X.D=uV.map ek
def Cx.dm(X:Cx)(bd:Nat):Cx:={X with D:=ek bd::X.D}
theorem qm0{hm:P.follows .mixedOrders=true}:QM (XM P hm f ro R) R []:=⟨rfl,rfl⟩
theorem QM.a(h:QM X R uV):QM (X.at ro) R uV:=⟨h.q,h.d⟩
theorem QM.m(h:QM X R uV):QM (X.dm bd) R (bd::uV):=⟨h.q,by simp[Cx.dm,h.d]⟩
theorem QM.w{aIw:List Nat}(h:QM X R uV):QM (X.wd (aIw.map ek)) R aIw:=⟨h.q,rfl⟩
def Dz(pm:List Nat):Option JS→Option JS
 |some ⟨p,e,w,kn⟩=>some ⟨p,e,dI pm 0 w,kn⟩
 |none=>none
section
variable {X:Cx} {o:Option JS}
theorem jrM(hq:QM X (RX pW Φ) uV)(v:Value)(pm hs ps:List Nat)(Y:Cells)(fD:Sub pW X.ro)(hR:Φ v Y)(h0:dS pm o=some (mk uV):=by kernel_rfl)(h1:rB (iy X.P X.n X.fn hs (Dz pm o))=some v:=by kernel_rfl)(h2:Qk (iy X.P X.n X.fn hs (Dz pm o))=Qj (iy X.P X.n X.fn hs (Dz pm o)):=by kernel_rfl)(h3:dS ps (Dz pm o)=some Y:=by kernel_rfl)(h4:Ar o=true:=by kernel_rfl):J X o:=by
 obtain⟨ex,e,w,kn,rfl,hex⟩:=tL h4
 simp only[Dz,iy] at h1 h2 h3
 cases hr:CC X.P X.n e (dI pm 0 w) kn.c hs (qW X.P X.fn).results.toList with
 |none=>simp only[hr,rB] at h1;cases h1
 |some x=>
  rcases x with ⟨vs,q⟩
  simp only[hr,rB,Option.some.injEq,Qk,Qj] at h1 h2
  intro bY
  have sN:=uf bY hr (mv h2)
  have hp:=bN h3
  have FU:=Q3 (s0:=⟨pW,Y⟩) (R:=RX pW Φ) hex sN h1 (dP hp fD) ⟨v,Y,rfl,rfl,hR⟩
  have ht:bS X.P (results (qW X.P X.fn) (A X.n e X.D).tmps) ⟨X.ro,den (dI pm 0 w)⟩ (fun v s'=>∃s0,s0.le s'∧RX pW Φ (.returned v) s0) (fun _ _=>False):=by
   rcases hex with rfl|rfl<;>exact FU.2
  show X.Q ex (A X.n e X.D) ⟨X.ro,den w⟩
  rw[hq.q]
  have hm:∃uV rest,(A X.n e X.D).defers=uV.map ek∧(den w).Perm (mk uV++rest)∧bS X.P (results (qW X.P X.fn) (A X.n e X.D).tmps) ⟨X.ro,rest⟩ (fun v s'=>∃s0,s0.le s'∧RX pW Φ (.returned v) s0) (fun _ _=>False):=⟨uV,_,hq.d,bN h0,ht⟩
  rcases hex with rfl|rfl<;>exact hm
end
attribute [irreducible] Dz
def upQ(Q:Post):Post:=fun e a s=>∃s0,s0.le s∧Q e a s0
theorem jT.more(hT:Closed P main T){b:Frame}(hl:s.le s'):∀ {e:Exit} {a:Act},jT T b k cs e a s→jT T b k cs e a s'
 | .normal,_,h=>hT.mono _ _ _ hl h
 | .exit id,a,h=>by
  simp only[jT] at h ⊢
  cases hk:exitTo id k with
  |some k'=>rw[hk] at h;exact hT.mono _ _ _ hl h
  |none=>rw[hk] at h;exact fun todo ht=>hT.mono _ _ _ hl (h todo ht)
 | .ret,_,h=>fun todo=>hT.mono _ _ _ hl (h todo)
 | .panic _,_,h=>fun todo=>hT.mono _ _ _ hl (h todo)
 | .goto _,_,h=>h.elim
 | .outgrown,_,h=>h.elim
theorem aBL(hC:∀main T,C main T→Closed P main T){fn:FuncId}{aA:Option Nat}{c:Code}{Q:Post}{a:Act}(h:Wp C fn aA c (upQ Q) a s):Wp C fn aA c Q a s:=
 fun main T hT b k cs h1 h2 h3 h4=>h main T hT b k cs h1 h2 h3 fun _ _ _ ⟨_,hl,hq⟩=>jT.more (hC _ _ hT) hl (h4 _ _ _ hq)
def ItX(P:Program)(g:FuncId)(fi ca:List Value)(ro:Nat→Option Obj)(own:Cells)(N:Nat)(El:(Nat→Option Obj)→Nat→List Value→Cells→Prop)(Ψ:Cells→Prop):Prop:=
 ∀(bl:Nat) (aH:Nat→Option Obj) (Inv:Nat→Cells→Prop) (Stop:Cells→Prop),Sub ro aH→
  (∀k vs LL B jW,k <N→El jW k vs LL→Inv k B→Sub aH jW→YX P bl vs jW (LL++B) (fun r B'=>(r= .bool true∧Inv (k+1) B')∨(r= .bool false∧Stop B')))→
  ∀B,Inv 0 B→eg P g (fi++[.func (.yield bl) #[] #[]]++ca) aH (own++B) (fun _ Y=>∃Z B',Y=Z++B'∧Ψ Z∧(Inv N B'∨Stop B'))
theorem Round.more(hC:∀main T,C main T→Closed P main T){l:Nat}{bd:Code}(hl:s.le s')(h:Round C l f tm as bd s R):Round C l f tm as bd s' R:=
 fun main T hT c cs k1 k2=>(hC _ _ hT).mono _ _ _ hl (h main T hT c cs k1 k2)
def rfV(P:Program)(n:Nat):Option JS→Option (FuncId×List Value×List Value×Nat)
 |some ⟨.code (.rangeFunc x ps _ _) _,e,_,_⟩=>match bu n e x with
  |some (.func (.func g) ⟨fi⟩ ⟨ca⟩)=>bif Co P g then some (g,fi,ca,ps.size) else none
  |_=>none
 |_=>none
def lpO(X:Cx)(bd:Nat):Option JS→Loop
 |some ⟨.code (.rangeFunc _ ps a b) _,e,_,_⟩=>iB X.fn (A X.n e X.D).tmps ps a b bd
 |_=>iB X.fn #[] #[] .ret .ret bd
def aIs:Option JS→Code
 |some ⟨.code (.rangeFunc _ _ _ b) _,_,_,_⟩=>b
 |_=> .ret
def QV:List Tmp→List Value→Env→Env
 |t::ts,v::vs,e=>QV ts vs (upd (some t) v e)
 |_,_,e=>e
theorem QU{D:List Deferred}:∀(ts:List Tmp) (vs:List Value) (e:Env),(ts.zip vs).foldl (fun(tm:Array Value) (x:Tmp×Value)=>tm.setIfInBounds x.1 x.2) (A n e D).tmps=(A n (QV ts vs e) D).tmps
 | [],_,_=>rfl
 |_::_,[],_=>rfl
 |t::ts,v::vs,e=>by
  have:=aZ n e D (some t) v
  simp only[Act.put] at this
  simp only[List.zip_cons_cons,List.foldl_cons,QV]
  rw[←QU ts vs,←this]
def rdO(X:Cx)(bl bd:Nat)(vs:List Value)(w:List Sg)(o:Option JS):Option JS:=match o with
 |some ⟨.code (.rangeFunc _ ps a _) _,e,_,kn⟩=>some ⟨.code a [],QV ps.toList vs e,.b bl (.loop (lpO X bd o))::w,⟨kn.c,[]⟩⟩
 |_=>none
def afO(jump:Option Code)(bd:Nat)(Z:Cells)(wi:List Sg)(is:List Nat):Option JS→Option JS
 |some ⟨.code _ k,e,w,kn⟩=>match jump with
  |none=>some ⟨Rg k,e,.b bd (.deferred (some [])):: .l Z::(wi++dI is 0 w),⟨kn.c,[]⟩⟩
  |some .ret=>some ⟨.fin .ret,e,.b bd (.deferred (some [])):: .l Z::(wi++dI is 0 w),⟨kn.c,[]⟩⟩
  |some (.exit id)=>match BW id k with
   |some p=>some ⟨p,e,.b bd (.deferred (some [])):: .l Z::(wi++dI is 0 w),⟨kn.c,[]⟩⟩
   |none=>none
  |_=>none
 |_=>none
def asV(bl:Nat)(Lp:Loop)(wf:ι→List Sg)(Inv:Nat→ι→Prop)(Sp:Code→ι→Prop)(k:Nat):Value→Cells→Prop:=fun r B=>
 (r= .bool true∧∃j,Inv (k+1) j∧B=(bl,.loop Lp)::den (wf j))∨(r= .bool false∧∃jump j,Sp jump j∧B=(bl,.loop {Lp with state:= .done,pending:=some jump})::den (wf j))
def Cx.rd(X:Cx)(bl:Nat)(ro:Nat→Option Obj)(Φ:Value→Cells→Prop)(body:Code):Cx:=⟨X.P,CP X.P,eP,X.hm,X.fn,some bl,X.n,[],ro,Jk (CP X.P) (RY ro Φ) bl X.fn body⟩
def Cx.re(X:Cx)(bl:Nat)(ro:Nat→Option Obj)(Φ:Value→Cells→Prop):Cx:=⟨X.P,CP X.P,eP,X.hm,X.fn,some bl,X.n,[],ro,Cz (RY ro Φ) bl⟩
theorem Ni:∀(k:List KI),KQ (X.dm bd) k=KQ X k
 | []=>rfl
 | .seq _::k=>by simp only[KQ,Ni k];rfl
 | .block _::k=>by simp only[KQ,Ni k]
 | .next _::k=>by simp only[KQ,Ni k]
theorem Mb(Z W R:List α)(x y:α):((Z++x::W)++y::R).Perm (x::y::(Z++(W++R))):=by
 refine List.perm_middle.trans ?_
 rw[List.append_assoc,List.cons_append]
 exact(List.Perm.cons y List.perm_middle).trans (List.Perm.swap _ _ _)
section
variable {X:Cx} {o:Option JS}
theorem jrf{np:Nat}{Ψ:Cells→Prop}(ow:List Sg)(hit:ItX X.P g fi ca X.ro (den ow) N El Ψ)(hel:∀ro k vs LL,El ro k vs LL→vs.length=np)
 (wf:ι→List Sg)(Inv:Nat→ι→Prop)(Sp:Code→ι→Prop)(i0:ι)(h0:Inv 0 i0)(is:List Nat)
 (hb:∀bl bd k vs LL i jW,k <N→El jW k vs LL→Inv k i→Sub X.ro jW→J (X.rd bl jW (asV bl (lpO X bd o) wf Inv Sp k) (aIs o)) (rdO X bl bd vs (wf i++[.l LL]) o))
 (hN:∀bd i Z,Inv N i→Ψ Z→J (X.dm bd) (afO none bd Z (wf i) is o))(hS:∀bd i Z jump,Sp jump i→Ψ Z→J (X.dm bd) (afO (some jump) bd Z (wf i) is o))
 (h1:rfV X.P X.n o=some (g,fi,ca,np):=by kernel_rfl)(h2:rJ is o=some (ow++wf i0):=by kernel_rfl)(hf:(X.P.funcs[X.fn]?).isSome=true:=by kernel_rfl) (hr:X.aA=none:=by rfl):J X o:=by
 unfold rfV at h1
 split at h1<;>try (cases h1;done)
 rename_i x params assign body k e w kn
 split at h1<;>try (cases h1;done)
 rename_i g' W5 AA hx
 cases Ia:Co X.P g' with
 |false=>rw[Ia] at h1;cases h1
 |true=>
  rw[Ia] at h1
  simp only[cond_true,Option.some.injEq,Prod.mk.injEq] at h1
  obtain⟨rfl,rfl,rfl,hnp⟩:=h1
  have ff:=k9 Ia
  intro bY
  have hp:=lS h2
  rw[lJ] at hp
  obtain⟨fn',u9⟩:=Option.isSome_iff_exists.1 hf
  show Wp X.C X.fn X.aA (.rangeFunc x params assign body) (KQ X k) (A X.n e X.D) ⟨X.ro,den w⟩
  rw[hr]
  refine aBL X.hC (A2 X.hC (fi:=⟨W5⟩) (ca:=⟨AA⟩) (by rw[ez];exact aG hx) ff fun bd bl _ _=>?_)
  rw[TK]
  have hy:=hit bl X.ro (fun k B=>∃i,Inv k i∧B=(bl,.loop (iB X.fn (A X.n e X.D).tmps params assign body bd))::den (wf i))
   (fun B=>∃jump i,Sp jump i∧B=(bl,.loop {iB X.fn (A X.n e X.D).tmps params assign body bd with state:= .done,pending:=some jump})::den (wf i)) (Sub.refl _) (fun k vs LL B jW hk hv hi hs=>?_) _ ⟨i0,h0,rfl⟩
  rotate_left
  ·obtain⟨i,hi,rfl⟩:=hi
   refine⟨iB X.fn (A X.n e X.D).tmps params assign body bd,List.mem_append_right _ List.mem_cons_self,(hel _ _ _ _ hv).trans hnp.symm,Round.more eP (s:=⟨jW,((bl,.loop (iB X.fn (A X.n e X.D).tmps params assign body bd))::den (wf i))++LL⟩) ⟨[],by rw[List.append_nil];exact List.perm_append_comm,fun b o hb=> .inl hb⟩ (Ei eP u9 ?_)⟩
   have:=hb bl bd k vs LL i jW hk hv hi hs fun y hy=>hs _ _ (bY y hy)
   have OY:den (.b bl (.loop (iB X.fn (A X.n e X.D).tmps params assign body bd))::(wf i++[.l LL]))=((bl,.loop (iB X.fn (A X.n e X.D).tmps params assign body bd))::den (wf i))++LL:=by rw[iK,lJ];rfl
   rw[←OY]
   have hyt:adT (iB X.fn (A X.n e X.D).tmps params assign body bd) vs=(A X.n (QV params.toList vs e) X.D).tmps:=by
    rw[←QU]
    simp only[adT,iB]
    rw[←Array.foldl_toList,Array.toList_zip]
   rw[hyt]
   exact this
  refine Fn.weaken X.hC (Fn.mono (Fn.frame (fr:=(bd,.deferred (some []))::den (dI is 0 w)) (B:=[]) (ro:=X.ro) hy (fun _ h=>(by cases h)) ⟨?_,fun b o hb=> .inl hb,Sub.refl _⟩) fun en s' EB=>?_)
  ·refine List.Perm.trans (.cons _ (.cons _ ?_)) (Mb _ _ _ _ _).symm
   rw[←List.append_assoc]
   exact hp
  obtain⟨zl,⟨v,Y,rfl,rfl,Z,B',rfl,hΨ,hI⟩,hc⟩:=EB
  have hc1:s'.rw.Perm ((Z++B')++(bd,.deferred (some []))::den (dI is 0 w)):=hc.rw
  have key:∀(r0:Loop) (i:ι),B'=(bl,.loop r0)::den (wf i)→∃L Rr,s'.rw=L++(bl,.loop r0)::Rr∧∀r1,(⟨X.ro,den (.b bd (.deferred (some [])):: .l Z::(wf i++dI is 0 w))⟩:St).le ⟨s'.ro,L++(bl,.loop r1)::Rr⟩:=by
   intro r0 i hB
   subst hB
   have SM:=hc1.trans (Mb _ _ _ _ _)
   obtain⟨L,Rr,hs⟩:=List.append_of_mem (SM.mem_iff.2 List.mem_cons_self)
   refine⟨L,Rr,hs,fun r1=>dP (J:=[(bl,.loop r1)]) ?_ hc.keep⟩
   rw[hs] at SM
   have hc3:=(List.perm_middle.symm.trans SM).cons_inv
   rw[iK,gA,lJ]
   exact List.perm_middle.trans ((List.Perm.cons _ hc3).trans (List.perm_append_singleton _ _).symm)
  rcases hI with ⟨i,hi,hB⟩| ⟨jump,i,hi,hB⟩
  ·obtain⟨L,Rr,hs,hle⟩:=key _ i hB
   refine⟨L,_,Rr,hs,by simp[iB],?_⟩
   refine⟨_,hle _,?_⟩
   have:=hN bd i Z hi hΨ bY
   rw[←Ni (bd:=bd)]
   exact uo (X:=X.dm bd) (kn:=⟨kn.c,[]⟩) this
  obtain⟨L,Rr,hs,hle⟩:=key _ i hB
  refine⟨L,_,Rr,hs,by simp,?_⟩
  have:=hS bd i Z jump hi hΨ
  cases jump with
  |ret=>
   refine⟨_,hle _,?_⟩
   rw[←Ni (bd:=bd)]
   exact Bd (X:=X.dm bd) (this bY) k
  |exit id=>
   simp only[afO] at this
   cases hk:BW id k with
   |none=>rw[hk] at this;exact this.elim
   |some p=>
    rw[hk] at this
    refine⟨_,hle _,?_⟩
    rw[←Ni (bd:=bd)]
    exact xo (X:=X.dm bd) (kn:=⟨kn.c,[]⟩) hk (this bY)
  |_=>exact this.elim
end
theorem aEv:(lpO X bd o).state= .ready∧(lpO X bd o).pending=none:=by
 unfold lpO
 split<;>exact⟨rfl,rfl⟩
attribute [irreducible] rfV lpO aIs rdO afO
def bgO(body:Code):Option JS→Option (JS×Nat)
 |some ⟨.fin .normal,e,.b b (.loop r)::w,kn⟩=>match r.state with
  | .ready=>some (⟨.code body [],e,.b b (.loop {r with state:= .busy})::w,kn⟩,b)
  |_=>none
 |_=>none
def Fu:Option (JS×Nat)→Option JS
 |some (s,_)=>some s
 |none=>none
def UI:Option (JS×Nat)→Option Nat
 |some (_,b)=>some b
 |none=>none
def Sc:Option JS→Option (Option Code)
 |some ⟨.fin .normal,_,_,_⟩=>some none
 |some ⟨.fin .ret,_,_,_⟩=>some (some .ret)
 |some ⟨.fin (.exit id),_,_,_⟩=>some (some (.exit id))
 |_=>none
structure QY(X:Cx)(bl:Nat)(ro:Nat→Option Obj)(Φ:Value→Cells→Prop):Prop where
 q:X.Q=Cz (RY ro Φ) bl
theorem qy0:QY (X.re bl ro Φ) bl ro Φ:=⟨rfl⟩
section
variable {X:Cx} {o:Option JS} {bl:Nat} {ro:Nat→Option Obj}
theorem jbg(h:J (X.re bl ro Φ) (Fu (bgO body o)))(h1:UI (bgO body o)=some bl:=by kernel_rfl):J (X.rd bl ro Φ body) o:=by
 unfold bgO at h h1
 split at h<;>try exact h.elim
 rename_i e b r w kn
 split at h<;>try exact h.elim
 rename_i bW
 simp only[bW,UI,Option.some.injEq] at h1
 subst h1
 simp only[Fu] at h
 intro bY
 have hw:=h bY
 simp only[JP,Cx.rd,Jk,DT]
 refine⟨[],r,den w,by rw[iK];rfl,bW,?_⟩
 simp only[JP,iK] at hw
 exact hw
theorem jyR{Lp:Loop}{jump:Option Code}{Y:Cells}(hq:QY X bl ro Φ)(fD:Sub ro X.ro)(ps:List Nat)(qH:Φ (.bool jump.isNone) ((bl,.loop {Lp with state:=if jump.isNone then .ready else .done,pending:=jump})::Y))(h1:dS ps o=some ((bl,.loop {Lp with state:= .busy})::Y):=by kernel_rfl)(h2:Sc o=some jump:=by kernel_rfl):J X o:=by
 have main:∀s w kn e,o=some ⟨s,e,w,kn⟩→Xb (RY ro Φ) bl jump ⟨X.ro,den w⟩:=by
  intro s w kn e ho
  subst ho
  have hp:=bN h1
  obtain⟨L,Rr,hs⟩:=List.append_of_mem (hp.mem_iff.2 (List.mem_append_left _ List.mem_cons_self))
  refine⟨L,_,Rr,hs,_,_,rfl,?_,qH⟩
  have ny:den w=L++(bl,.loop {Lp with state:= .busy})::Rr:=hs
  have hp':(den w).Perm (((bl,.loop {Lp with state:= .busy})::Y)++den (dI ps 0 w)):=hp
  rw[ny] at hp'
  have OS:=(List.perm_middle.symm.trans hp').cons_inv
  exact dP (J:=den (dI ps 0 w)) (List.perm_middle.trans (.cons _ OS)) fD
 unfold Sc at h2
 split at h2<;>try (cases h2;done)
 ·rename_i e w kn;cases h2;intro _;show X.Q .normal _ _;rw[hq.q];exact main _ _ _ _ rfl
 ·rename_i e w kn;cases h2;intro _;show X.Q .ret _ _;rw[hq.q];exact main _ _ _ _ rfl
 rename_i id e w kn;cases h2;intro _;show X.Q (.exit id) _ _;rw[hq.q];exact main _ _ _ _ rfl
theorem jyn{Lp:Loop}{wf:ι→List Sg}{Inv:Nat→ι→Prop}{Sp:Code→ι→Prop}{k:Nat}(hq:QY X bl ro (asV bl Lp wf Inv Sp k))(fD:Sub ro X.ro)(j:ι)(h:Inv (k+1) j)(ps:List Nat)(hl:Lp.state= .ready∧Lp.pending=none:=by exact aEv)(h1:dS ps o=some ((bl,.loop {Lp with state:= .busy})::den (wf j)):=by kernel_rfl)(h2:Sc o=some none:=by kernel_rfl):J X o:=
 jyR hq fD ps (.inl ⟨rfl,j,h,by rcases Lp with ⟨a,b,c,d,e,f,g,i⟩;obtain⟨h1,h2⟩:=hl;dsimp only at h1 h2;subst h1 h2;rfl⟩) h1 h2
theorem jys{Lp:Loop}{wf:ι→List Sg}{Inv:Nat→ι→Prop}{Sp:Code→ι→Prop}{k:Nat}(hq:QY X bl ro (asV bl Lp wf Inv Sp k))(fD:Sub ro X.ro)(jump:Code)(j:ι)(h:Sp jump j)(ps:List Nat)(h1:dS ps o=some ((bl,.loop {Lp with state:= .busy})::den (wf j)):=by kernel_rfl)(h2:Sc o=some (some jump):=by kernel_rfl):J X o:=
 jyR hq fD ps (.inr ⟨rfl,jump,j,h,rfl⟩) h1 h2
end
attribute [irreducible] bgO Fu UI Sc
def sV[DecidableEq κ](k:κ):List (κ×Value)→Nat→Option (Nat×Value)
 | [],_=>none
 |x::l,i=>if k=x.1 then some (i,x.2) else sV k l (i+1)
def lkM[DecidableEq κ](k:κ)(F:List (κ×Value)):Option Value:=(sV k F 0).map (·.2)
def ud(k:κ)(v:Value):List (κ×Value)→Nat→List (κ×Value)
 | [],_=>[]
 |_::l,0=>(k,v)::l
 |x::l,i+1=>x::ud k v l i
def mA[DecidableEq κ](k:κ)(v:Value)(F:List (κ×Value)):List (κ×Value):=match sV k F 0 with
 |some (i,_)=>ud k v F i
 |none=>F++[(k,v)]
structure TW(P:Program)(T:TypeId){κ:Type}[DecidableEq κ](kv:κ→Value):Prop where
 chk:∀(b:Bool) (k:κ) {α:Type} {K:Unit→Sem α} {s:St} {Q:α→St→Prop} {E:Halt→St→Prop},bS P (K ()) s Q E→bS P (Instr.checkKey b 10000 T (kv k) >>= K) s Q E
 find:∀(k:κ) (es:List MapEntry) (F:List (κ×Value)),es.map (fun e=>(e.key,e.val))=F.map (fun x=>(kv x.1,x.2))→∀ {α:Type} {K:Option (Nat×Value)→Sem α} {s:St} {Q:α→St→Prop} {E:Halt→St→Prop},bS P (K (sV k F 0)) s Q E→bS P (Instr.findKey T (kv k) es >>= K) s Q E
 stay:∀k,Instr.sameBits 10000 (kv k) (kv k)=true
theorem qV[DecidableEq κ]{k:κ}:∀ {F:List (κ×Value)} {i j:Nat} {v:Value},sV k F i=some (j,v)→i≤j∧F[j-i]?=some (k,v)
 | [],_,_,_,h=>by cases h
 |x::l,i,j,v,h=>by
  simp only[sV] at h
  split at h
  ·rename_i hk
   cases h
   exact⟨Nat.le_refl _,by simp[hk]⟩
  obtain⟨h1,h2⟩:=qV h
  refine⟨by omega,?_⟩
  rw[show j-i=(j-(i+1))+1 by omega,List.getElem?_cons_succ];exact h2
theorem PJ(a b:ByteArray):(a==b)=decide (a=b):=by
 have h:(a==b)=(a.data==b.data):=by cases a;cases b;rfl
 rw[h,Bool.eq_iff_iff]
 cases a;cases b
 simp
theorem EH(a:ByteArray):∀(es:List MapEntry) (F:List (ByteArray×Value)) (i:Nat),es.map (fun e=>(e.key,e.val))=F.map (fun x=>(Value.string x.1,x.2))→Instr.findNow .string (.string a) es i=some (sV a F i)
 | [],[],_,_=>rfl
 | [],_::_,_,h=>by simp at h
 |_::_,[],_,h=>by simp at h
 |e::es,x::F,i,h=>by
  simp only[List.map_cons,List.cons.injEq,Prod.mk.injEq] at h
  obtain⟨⟨h1,h2⟩,h3⟩:=h
  simp only[Instr.findNow,h1,Instr.sameNow,sV,PJ]
  by_cases hk:a=x.1
  ·simp[hk,h2]
  simp only[hk,decide_false,if_false]
  exact EH a es F (i+1) h3
def CkD(P:Program)(dep:Nat)(T:TypeId)(v:Value):Prop:=∀(b:Bool) {α:Type} {K:Unit→Sem α} {s:St} {Q:α→St→Prop} {E:Halt→St→Prop},bS P (Instr.checkKey b dep T v >>= K) s Q E=bS P (K ()) s Q E
theorem aIk{T:TypeId}(tf:TF P T .string sz bE z ag)(a:ByteArray):CkD P (dep+1) T (.string a):=by
 intro b α K s Q E
 simp only[Instr.checkKey,aa,ba tf,ae]
theorem avs{T:TypeId}(tf:TF P T .string sz bE z ag):TW P T (fun(a:ByteArray)=>Value.string a) where
 chk b k α K s Q E h:=by rw[aIk (dep:=9999) tf k b];exact h
 find k es F he α K s Q E h:=by
  simp only[Instr.findKey,aa,ba tf,EH k es F 0 he,ae]
  exact h
 stay k:=by simp[Instr.sameBits,PJ]
def ahg(P:Program)(T:TypeId):Bool:=match a8 P T with
 |some ⟨.string,_,_,_⟩=>true
 |_=>false
theorem Zj{T:TypeId}(h:ahg P T=true):TW P T (fun(a:ByteArray)=>Value.string a):=by
 unfold ahg at h
 split at h
 ·rename_i dQ
  obtain⟨bE,tf⟩:=aw dQ
  exact avs tf
 cases h
theorem ItX.up{own:Cells}{Ψ:Cells→Prop}(h:ItX P g fi ca ro own N El Ψ)(hs:Sub ro aJ):ItX P g fi ca aJ own N El Ψ:=
 fun bl aH Inv Stop h1=>h bl aH Inv Stop (hs.trans h1)
def YOK(P:Program)(bl:Nat)(ro:Nat→Option Obj)(N:Nat)(El:(Nat→Option Obj)→Nat→List Value→Cells→Prop)(Inv:Nat→Cells→Prop)(Stop:Cells→Prop):Prop:=
 ∀k vs LL B jW,k <N→El jW k vs LL→Inv k B→Sub ro jW→YX P bl vs jW (LL++B) (fun r B'=>(r= .bool true∧Inv (k+1) B')∨(r= .bool false∧Stop B'))
theorem YOK.up{Inv:Nat→Cells→Prop}{Stop:Cells→Prop}(h:YOK P bl ro N El Inv Stop)(hs:Sub ro aJ):YOK P bl aJ N El Inv Stop:=
 fun k vs LL B jW h1 h2 h3 h4=>h k vs LL B jW h1 h2 h3 (hs.trans h4)
def Part(L:List α)(p:Nat)(m:List α):Prop:=∃a b,L=a++m++b∧a.length=p
theorem Part.get{L m:List α}{p:Nat}{x:α}(h:Part L p m)(hx:m[i]?=some x):p+i <L.length∧L[p+i]?=some x:=by
 obtain⟨a,b,rfl,rfl⟩:=h
 have hi:=(List.getElem?_eq_some_iff.1 hx).1
 have:(a++m++b)[a.length+i]?=some x:=by
  rw[List.append_assoc,List.getElem?_append_right (by omega),List.getElem?_append_left (by omega),show a.length+i-a.length=i by omega];exact hx
 exact⟨(List.getElem?_eq_some_iff.1 this).1,this⟩
theorem Part.flat{β:Type}{L:List β}{p:Nat}{G:α→List β}{l a b:List α}{s:α}(h:Part L p (l.flatMap G))(hl:l=a++[s]++b):Part L (p+(a.flatMap G).length) (G s):=by
 obtain⟨u,v,rfl,rfl⟩:=h
 subst hl
 exact⟨u++a.flatMap G,b.flatMap G++v,by simp[List.flatMap_append],by simp⟩
theorem QI{T:TypeId}[DecidableEq κ]{kv:κ→Value}(he:∀a b,EqD P 10000 T (kv a) (kv b) (decide (a=b)))(k:κ):∀(es:List MapEntry) (F:List (κ×Value)) (i:Nat),es.map (fun e=>(e.key,e.val))=F.map (fun x=>(kv x.1,x.2))→∀ {α:Type} {K:Option (Nat×Value)→Sem α} {s:St} {Q:α→St→Prop} {E:Halt→St→Prop},bS P (K (sV k F i)) s Q E→bS P (Instr.findAsking T (kv k) es i >>= K) s Q E
 | [],[],_,_,_,_,_,_,_,h=>h
 | [],_::_,_,h,_,_,_,_,_,_=>by simp at h
 |_::_,[],_,h,_,_,_,_,_,_=>by simp at h
 |e::es,x::F,i,h,α,K,s,Q,E,hK=>by
  simp only[List.map_cons,List.cons.injEq,Prod.mk.injEq] at h
  obtain⟨⟨h1,h2⟩,h3⟩:=h
  simp only[Instr.findAsking,aa,h1,Op.equal]
  rw[show Op.maxDepth=10000 from rfl,he k x.1]
  simp only[sV] at hK
  by_cases hk:k=x.1
  ·rw[if_pos hk] at hK
   simp only[hk,decide_true,if_true,ae,h2]
   exact hK
  rw[if_neg hk] at hK
  simp only[hk,decide_false,Bool.false_eq_true,if_false]
  exact QI he k es F (i+1) h3 hK
theorem I3{T:TypeId}{k:IntKind}(tf:TF P T (.int k) sz bE z ag)(a:Int):CkD P (dep+1) T (.int k a):=by
 intro b α K s Q E
 simp only[Instr.checkKey,aa,ba tf,ae]
inductive Cf(P:Program)(dep:Nat)(l:List Value):List Field→Prop
 |nil:Cf P dep l []
 |cons {f:Field} {fs:List Field} {v:Value} (hn:f.name≠ "_") (hv:Ju P f.type l f.offset v) (he:CkD P dep f.type v) (ht:Cf P dep l fs):Cf P dep l (f::fs)
theorem Ty{T:TypeId}{fields:Array Field}(tf:TF P T (.struct fields) sz bE z true)(hf:Cf P dep l fields.toList):CkD P (dep+1) T (.agg ⟨l⟩):=by
 intro b α K s Q E
 simp only[Instr.checkKey,aa,ba tf]
 rw[←Array.forIn_toList]
 generalize fields.toList=fl at hf
 clear tf
 induction hf with
 |nil=>simp only[List.forIn_nil,ae,aa]
 | @cons f fs v hn hv he ht ih=>
  simp only[List.forIn_cons,hn,ne_eq,not_false_eq_true,if_true,aa]
  rw[hv]
  simp only[aa]
  rw[he]
  simp only[ae]
  exact ih
theorem agQ{T:TypeId}[DecidableEq κ]{kv:κ→Value}{d:TypeDesc}(tf:TF P T d sz bE z ag)(hl:∀k,∃l,kv k= .agg l)(hc:∀k,CkD P 10000 T (kv k))(he:∀a b,EqD P 10000 T (kv a) (kv b) (decide (a=b)))(hs:∀k,Instr.sameBits 10000 (kv k) (kv k)=true):TW P T kv where
 chk b k α K s Q E h:=by rw[hc k b];exact h
 find k es F hm α K s Q E h:=by
  simp only[Instr.findKey,aa,ba tf]
  cases es with
  |nil=>
   cases F with
   |nil=>exact h
   |cons x F=>simp at hm
  |cons e es=>
   have:Instr.findNow d (kv k) (e::es) 0=none:=by
    cases F with
    |nil=>simp at hm
    |cons x F=>
     simp only[List.map_cons,List.cons.injEq,Prod.mk.injEq] at hm
     obtain⟨l,Dl⟩:=hl k
     obtain⟨l2,rq⟩:=hl x.1
     simp only[Instr.findNow,hm.1.1,Dl,rq]
     cases d<;>rfl
   rw[this]
   exact QI he k _ F 0 hm h
 stay:=hs
def tS(kv:κ→Value)(F:List (κ×Value))(es:Array MapEntry)(ck:Nat):Prop:=
 es.toList.map (fun e=>(e.key,e.val))=F.map (fun x=>(kv x.1,x.2))∧(es.toList.map (·.born)).Nodup∧∀e∈es.toList,e.born <ck
def j5(r:Nat)(kv:κ→Value)(F:List (κ×Value))(L:Cells):Prop:=∃es ck,L=[(r,.map es ck)]∧tS kv F es ck
def alA(s:St)(r:Nat)(kv:κ→Value)(F:List (κ×Value)):Prop:=∃es ck,s.has r (.map es ck)∧tS kv F es ck
theorem j5.has{kv:κ→Value}{F:List (κ×Value)}{L:Cells}(h:j5 r kv F L)(hs:∀x∈L,s.has x.1 x.2):alA s r kv F:=by
 obtain⟨es,ck,rfl,hm⟩:=h
 exact⟨es,ck,hs _ List.mem_cons_self,hm⟩
theorem alA.ext{kv:κ→Value}{F:List (κ×Value)}(h:alA s r kv F)(hs:Ext s s'):alA s' r kv F:=by
 obtain⟨es,ck,h1,h2⟩:=h
 exact⟨es,ck,hs _ _ h1,h2⟩
theorem j5.nil(r:Nat)(kv:κ→Value):j5 r kv [] [(r,.map #[] 0)]:=⟨#[],0,rfl,rfl,List.nodup_nil,fun _ h=>(by cases h)⟩
section
variable {X:Cx} {o:Option JS}
def R3[DecidableEq κ](z:Value)(ok:Bool)(k:κ)(F:List (κ×Value)):Value:=match lkM k F with
 |some v=>bif ok then .tuple ⟨[v,.bool true]⟩ else v
 |none=>bif ok then .tuple ⟨[z,.bool false]⟩ else z
def luV(P:Program)(n:Nat)(p:Oper)(e:Env):Option (TypeId×Value×Value×Value×Bool):=match p.op with
 | .lookup T x y ok=>match a8 P T with
  |some ⟨.map K E,_,_,_⟩=>match a8 P E with
   |some te=>match bu n e x with
    |some m=>match bu n e y with
     |some k=>some (K,m,k,Qn te.zero te.agg,ok)
     |none=>none
    |none=>none
   |none=>none
  |_=>none
 |_=>none
theorem jlu[DecidableEq κ]{kv:κ→Value}{F:List (κ×Value)}{K:TypeId}(k:κ)(z:Value)(ok:Bool)(ps:List Nat)(B:Cells)(hk:TW X.P K kv)(hm:∀s:St,Ext ⟨X.ro,[]⟩ s→(∀x∈B,s.has x.1 x.2)→alA s r kv F)(hj:J X (Ob B (R3 z ok k F) o))
 (hv:dL X.n (luV X.P X.n) o=some (K,.map (some r),kv k,z,ok):=by kernel_rfl)(hB:dS ps o=some B:=by kernel_rfl):J X o:=by
 refine jGN hv hB (fun s p e ho hh hf=>?_) hj
 subst ho
 unfold luV at hf
 split at hf<;>try (cases hf;done)
 rename_i T x y ok' az
 split at hf<;>try (cases hf;done)
 rename_i K' E' _ _ _ dQ
 split at hf<;>try (cases hf;done)
 rename_i te uG
 split at hf<;>try (cases hf;done)
 rename_i m hx
 split at hf<;>try (cases hf;done)
 rename_i k' hy
 simp only[Option.some.injEq,Prod.mk.injEq] at hf
 obtain⟨rfl,rfl,rfl,rfl,rfl⟩:=hf
 obtain⟨bE,tf⟩:=aw dQ
 obtain⟨B7,ry⟩:=aw uG
 refine⟨by rw[az];rfl,fun s0 HO vx ops i ho rest hwt s' hs todo Q jN=>lT X.hC ho rest hwt (by rw[az];rfl) ?_ hs jN⟩
 intro s1 bH f hf K2 E2 hK
 obtain⟨es,ck,jF,Di⟩:=(hm s0 HO vx).ext bH
 simp only[execOp,az,hf _ _ hx,hf _ _ hy,Instr.lookup,aa,ba tf]
 refine cJ jF rfl rfl ?_
 simp only[ae,aa]
 refine hk.chk _ _ ?_
 simp only[aa]
 refine hk.find k _ F Di.1 ?_
 simp only[R3,lkM] at hK
 cases yB:sV k F 0 with
 |none=>
  rw[yB] at hK
  simp only[aa,ko ry,ae]
  cases ok'<;>exact hK
 |some u=>
  obtain⟨i,v⟩:=u
  rw[yB] at hK
  simp only[ae]
  cases ok'<;>exact hK
def ave(p:Oper):Option Unit:=match p.op with
 | .makeMap _ none=>some ()
 |_=>none
theorem jmk(kv:κ→Value)(hj:∀r L,j5 r kv [] L→J X (nA [] (.map (some r)) L o))(hv:eY X.n (fun p _=>ave p) o=some ():=by kernel_rfl):J X o:=by
 obtain⟨ops,i,todo,k,e,w,kn,p,rfl,ho,hw,hc⟩:=dD hv
 intro bY
 unfold ave at hc
 split at hc<;>try (cases hc;done)
 rename_i T az
 rcases p with ⟨dst,op,ty,pos,dg,g⟩
 dsimp only at az;subst az
 refine bV X.hC ho hw (by simp) ?_
 simp only[execOp,Instr.makeMap,Option.map_none,aa,oK,ae]
 intro b hb
 have:=hj b _ (j5.nil b kv)
 rw[oF ho] at this
 have:=this bY
 simp only[JP,gA,ya] at this
 show ab _ _ _ _ _ _ _ _
 rw[aZ]
 exact this
def muV(P:Program)(n:Nat)(p:Oper)(e:Env):Option (TypeId×Value×Value×Value):=match p.op with
 | .mapUpdate T x y z| .insert T x y z=>match a8 P T with
  |some ⟨.map K _,_,_,_⟩=>match bu n e x with
   |some m=>match bu n e y with
    |some k=>match bu n e z with
     |some v=>some (K,m,k,v)
     |none=>none
    |none=>none
   |none=>none
  |_=>none
 |_=>none
theorem FM(k:κ)(v:Value):∀(F:List (κ×Value)) (i:Nat),ud k v F i=F.set i (k,v)
 | [],_=>rfl
 |_::_,0=>rfl
 |x::l,i+1=>by simp only[ud,FM k v l i,List.set_cons_succ]
theorem Hr{kv:κ→Value}{k:κ}{v:Value}:∀(es:List MapEntry) (F:List (κ×Value)) (i:Nat),es.map (fun e=>(e.key,e.val))=F.map (fun x=>(kv x.1,x.2))→(es.modify i fun e=>{e with key:=kv k,val:=v}).map (fun e=>(e.key,e.val))=(ud k v F i).map (fun x=>(kv x.1,x.2))
 | [],[],_,_=>by simp[ud]
 | [],_::_,_,h=>by simp at h
 |_::_,[],_,h=>by simp at h
 |e::es,x::F,0,h=>by
  simp only[List.map_cons,List.cons.injEq] at h
  simp[ud,h.2]
 |e::es,x::F,i+1,h=>by
  simp only[List.map_cons,List.cons.injEq] at h
  simp[ud,h.1,Hr es F i h.2]
theorem xB{kx v:Value}:∀(es:List MapEntry) (i:Nat),(es.modify i fun e=>{e with key:=kx,val:=v}).map (·.born)=es.map (·.born)
 | [],i=>by simp
 |e::es,0=>by simp
 |e::es,i+1=>by simp[xB es i]
theorem jmu[DecidableEq κ]{kv:κ→Value}{F:List (κ×Value)}{K:TypeId}{L:Cells}(i:Nat)(k:κ)(v:Value)(hk:TW X.P K kv)(hm:j5 r kv F L)(hj:∀L',j5 r kv (mA k v F) L'→J X (nA [i] undef L' o))
 (hv:eY X.n (muV X.P X.n) o=some (K,.map (some r),kv k,v):=by kernel_rfl)(hB:dS [i] o=some L:=by kernel_rfl):J X o:=by
 obtain⟨ops,i0,todo,kk,e,w,kn,p,rfl,ho,hw,hc⟩:=dD hv
 intro bY
 rcases p with ⟨dst,op,ty,pos,dg,g⟩
 have main:∀T x y z,(op= .mapUpdate T x y z∨op= .insert T x y z)→muV X.P X.n ⟨dst,.mapUpdate T x y z,ty,pos,dg,g⟩ e=some (K,.map (some r),kv k,v)→ab X.C X.fn X.aA ops (i0::todo) (KQ X kk) (A X.n e X.D) ⟨X.ro,den w⟩:=by
  intro T x y z heq hc
  simp only[muV] at hc
  split at hc<;>try (cases hc;done)
  rename_i K' E' _ _ _ dQ
  split at hc<;>try (cases hc;done)
  rename_i m hx
  split at hc<;>try (cases hc;done)
  rename_i k' hy
  split at hc<;>try (cases hc;done)
  rename_i v' hz
  simp only[Option.some.injEq,Prod.mk.injEq] at hc
  obtain⟨rfl,rfl,rfl,rfl⟩:=hc
  obtain⟨bE,tf⟩:=aw dQ
  have hp:=bN hB
  obtain⟨es,ck,rfl,Di⟩:=hm
  obtain⟨L1,R1,bH⟩:=List.append_of_mem (hp.mem_iff.2 (List.mem_append_left _ List.mem_cons_self))
  have hle:∀L',j5 r kv (mA k v' F) [(r,L')]→ab X.C X.fn X.aA ops todo (KQ X kk) (A X.n (upd dst undef e) X.D) ⟨X.ro,L1++(r,L')::R1⟩:=by
   intro L' hL
   have:=hj _ hL
   rw[oF ho] at this
   have:=this bY
   simp only[JP,gA] at this
   refine this.more X.hC (dP (J:=[]) ?_ (Sub.refl _))
   have hp':(den w).Perm ([(r,.map es ck)]++den (dI [i] 0 w)):=hp
   have aPG:den w=L1++(r,.map es ck)::R1:=bH
   rw[aPG] at hp'
   have OS:=(List.perm_middle.symm.trans hp').cons_inv
   rw[List.append_nil]
   exact List.perm_middle.trans (List.Perm.cons _ OS)
  have jF:(⟨X.ro,den w⟩:St).has r (.map es ck):= .inr (by show _∈den w;rw[show den w=_ from bH];exact fA)
  refine bV X.hC ho hw (by rcases heq with rfl|rfl<;>simp) ?_
  have hex:∀f:Operand→Value,execOp f ⟨dst,op,ty,pos,dg,g⟩=(do Instr.mapUpdate T (f x) (f y) (f z);pure .skip:Sem Next):=by
   intro f;rcases heq with rfl|rfl<;>simp only[execOp]
  rw[hex,aG hx,aG hy,aG hz]
  simp only[Instr.mapUpdate,aa,ba tf]
  refine cJ jF rfl rfl ?_
  simp only[aa]
  refine hk.chk _ _ ?_
  simp only[aa]
  refine hk.find k _ F Di.1 ?_
  have fin:∀ob,j5 r kv (mA k v' F) [(r,ob)]→upon X.C X.P X.aA dst (A X.n e X.D) (fun a' s'=>ab X.C X.fn X.aA ops todo (KQ X kk) a' s') (KQ X kk) .skip ⟨X.ro,L1++(r,ob)::R1⟩:=by
   intro ob hL
   show ab _ _ _ _ _ _ _ _
   have:=hle ob hL
   rw[←aZ] at this
   exact this
  cases yB:sV k F 0 with
  |some u=>
   obtain⟨j,u⟩:=u
   have Ub:=qV yB
   simp only[Nat.sub_zero] at Ub
   have aQG:((es[j]?).map (·.key)).getD (kv k)=kv k:=by
    have h1:(es.toList.map (fun e=>(e.key,e.val)))[j]?=some (kv k,u):=by rw[Di.1];simp[Ub.2]
    simp only[List.getElem?_map,Array.getElem?_toList] at h1
    cases he:es[j]? with
    |none=>rfl
    |some e1=>rw[he] at h1;simp at h1;simp[h1.1]
   simp only[aa,Instr.keyThatStays,aQG,hk.stay,if_true,ae]
   refine eB rfl bH rfl<|fin _ ⟨_,_,rfl,?_,?_,?_⟩
   ·simp only[Array.toList_modify,mA,yB]
    exact Hr _ _ _ Di.1
   ·simp only[Array.toList_modify,xB];exact Di.2.1
   intro e1 h1
   have:e1.born∈((es.toList.modify j fun e=>{e with key:=kv k,val:=v'}).map (·.born)):=List.mem_map_of_mem (by simpa using h1)
   rw[xB] at this
   obtain⟨e2,h3,h4⟩:=List.mem_map.1 this
   rw[←h4];exact Di.2.2 e2 h3
  |none=>
   refine eB rfl bH rfl<|fin _ ⟨_,_,rfl,?_,?_,?_⟩
   ·simp only[Array.toList_push,List.map_append,mA,yB,Di.1];rfl
   ·simp only[Array.toList_push,List.map_append,List.map_cons,List.map_nil]
    refine List.nodup_append.2 ⟨Di.2.1,by simp,?_⟩
    intro a ha b hb
    obtain⟨e2,h3,rfl⟩:=List.mem_map.1 ha
    have:=Di.2.2 e2 h3
    simp only[List.mem_singleton] at hb
    omega
   intro e1 h1
   simp only[Array.toList_push,List.mem_append,List.mem_singleton] at h1
   rcases h1 with h1|rfl
   ·have:=Di.2.2 e1 h1;omega
   exact Nat.lt_succ_self _
 have SM:=hc
 unfold muV at hc
 split at hc<;>try (cases hc;done)
 ·rename_i T x y z az
  dsimp only at az
  exact main T x y z (.inl az) (by rw[←SM,az])
 rename_i T x y z az
 dsimp only at az
 refine main T x y z (.inr az) ?_
 rw[←SM,az];rfl
end
attribute [irreducible] luV ave muV
section
variable {X:Cx} {o:Option JS}
def Nf(P:Program)(n:Nat)(p:Oper)(e:Env):Option (FuncId×List Value):=match p.op with
 | .call ⟨.invoke x name,xs,_⟩=>match bu n e x with
  |some (.iface t v)=>match bx P (method (P.types.size+Made.depth) t v name) with
   |some (f,r)=>match yC n e xs.toList with
    |some vs=>bif Co P f then some (f,r::vs) else none
    |none=>none
   |none=>none
  |_=>none
 |_=>none
theorem ak0(h:Nf P n p e=some (f,vs)):FF P f∧∃x name xs at_ t v r ws,p.op= .call ⟨.invoke x name,xs,at_⟩∧bu n e x=some (.iface t v)∧bx P (method (P.types.size+Made.depth) t v name)=some (f,r)∧yC n e xs.toList=some ws∧vs=r::ws:=by
 unfold Nf at h
 split at h<;>try (cases h;done)
 rename_i x name xs at_ az
 split at h<;>try (cases h;done)
 rename_i t v hx
 split at h<;>try (cases h;done)
 rename_i f0 r hm
 split at h<;>try (cases h;done)
 rename_i ws sM
 cases hb:Co P f0 with
 |false=>rw[hb] at h;cases h
 |true=>
  rw[hb] at h
  simp only[cond_true,Option.some.injEq,Prod.mk.injEq] at h
  obtain⟨rfl,rfl⟩:=h
  exact⟨k9 hb,x,name,xs,at_,t,v,r,ws,az,hx,hm,sM,rfl⟩
theorem jpI{V:Value}(hf:∀aH,Sub X.ro aH→dK X.P f vs aH V)(hj:J X (Ob [] V o))(h1:dL X.n (Nf X.P X.n) o=some (f,vs):=by kernel_rfl)(h3:dS [] o=some []:=by kernel_rfl):J X o:=by
 refine jGN h1 h3 (fun s p e ho hh hc=>?_) hj
 obtain⟨ff,x,name,xs,at_,t,v,r,ws,az,hx,hm,sM,rfl⟩:=ak0 hc
 rcases p with ⟨dst,op,ty,pos,dg,g⟩
 dsimp only at az;subst az
 refine⟨rfl,fun s0 HO vx ops i tF rest hw s' hs todo Q hk=>?_⟩
 refine bV X.hC tF hw (by simp) ?_
 have e1:=aG (bk (rest:=rest) hx)
 have e2:xs.map (ev X.n (e++rest))=⟨ws⟩:=sQ (x5 sM)
 simp only[execOp,resolve,e1,e2,ae]
 have hex:((#[Value.iface t v]++(⟨ws⟩:Array Value)).extract 1 (#[Value.iface t v]++(⟨ws⟩:Array Value)).size)=⟨ws⟩:=by simp
 have h0:(#[Value.iface t v]++(⟨ws⟩:Array Value))[0]?=some (.iface t v):=by simp
 simp only[invoke,h0,hex,callMethod,aa,eN]
 refine aX hm ?_
 have mW:(#[r]++⟨ws⟩:Array Value)=⟨r::ws⟩:=by simp
 rw[mW]
 refine kp ff ?_
 have hu:=(dK.use (s:=⟨X.ro,[]⟩) (sz:=s') (fun b o hb=>hs _ _ (HO _ _ hb)) (fun aH h1=>hf aH fun b ob hb=>h1 b ob (.inl hb))).weaken X.hC
 refine Fn.mono hu fun en s1 EB=>?_
 obtain⟨rfl,hle⟩:=EB
 show ab _ _ _ _ _ _ _ _
 rw[aZ]
 exact hk.more X.hC hle
theorem jS{β:Type}{f:Oper→Env→Option β}{r:β}(ps:List Nat)(B:Cells)(hv:eY X.n f o=some r)(hB:dS ps o=some B)
 (hy:∀p e,f p e=some r→(∀c,p.op≠ .defer c)∧∀(R:Cells) (Q:Next→St→Prop) (E:Halt→St→Prop),(∀v L',Φ v L'→Q (.value v) ⟨X.ro,L'++R⟩)→bS X.P (execOp (ev X.n e) p) ⟨X.ro,B++R⟩ Q E)
 (hj:∀v L',Φ v L'→J X (nA ps v L' o)):J X o:=by
 obtain⟨ops,i,todo,k,e,w,kn,p,rfl,ho,hw,hc⟩:=dD hv
 intro bY
 have hp:=bN hB
 obtain⟨hd,ht⟩:=hy p e hc
 have:ab X.C X.fn X.aA ops (i::todo) (KQ X k) (A X.n e X.D) ⟨X.ro,B++den (dI ps 0 w)⟩:=by
  refine bV X.hC ho hw hd<|ht _ _ _ fun v L' qH=>?_
  have:=hj v L' qH
  rw[oF ho] at this
  have:=this bY
  simp only[JP,gA] at this
  show ab _ _ _ _ _ _ _ _
  rw[aZ]
  exact this
 have hle:(⟨X.ro,B++den (dI ps 0 w)⟩:St).le ⟨X.ro,den w⟩:=⟨[],by rw[List.append_nil];exact hp,fun b o hb=> .inl hb⟩
 exact this.more X.hC hle
end
attribute [irreducible] Nf
section
variable {X:Cx} {o:Option JS}
def iaA(P:Program)(n:Nat)(p:Oper)(e:Env):Option (Nat×Nat×Int×Nat×Nat):=match p.op with
 | .indexAddr T x y=>match a8 P T with
  |some ⟨.array len E,_,_,_⟩=>match a8 P E with
   |some te=>match bu n e x with
    |some (.pointer (some ⟨b,off,none⟩))=>match bu n e y with
     |some (.int _ ix)=>some (b,off,ix,len,te.size)
     |_=>none
    |_=>none
   |none=>none
  |_=>none
 |_=>none
theorem ME{b len:Nat}(ix:Int)(hi:0≤ix∧ix <len)(hj:J X (ku (.pointer (some ⟨b,off+ix.toNat*sz,none⟩)) o))(hv:dL X.n (iaA X.P X.n) o=some (b,off,ix,len,sz):=by kernel_rfl):J X o:=by
 refine jG hv (fun s p e ho hh hf=>?_) hj
 unfold iaA at hf
 split at hf<;>try (cases hf;done)
 rename_i T x y az
 split at hf<;>try (cases hf;done)
 rename_i aEA E _ _ _ dQ
 split at hf<;>try (cases hf;done)
 rename_i te uG
 split at hf<;>try (cases hf;done)
 rename_i b' au0 hx
 split at hf<;>try (cases hf;done)
 rename_i ik ix' hy
 simp only[Option.some.injEq,Prod.mk.injEq] at hf
 obtain⟨rfl,rfl,rfl,rfl,rfl⟩:=hf
 obtain⟨bE,tf⟩:=aw dQ
 obtain⟨B7,ry⟩:=aw uG
 have key:∀s,Yields X.P X.n e p s (.pointer (some ⟨b',au0+ix'.toNat*te.size,none⟩)):=by
  intro s s' ny f hf K E hK
  simp only[execOp,az,Instr.indexAt,Instr.sureAddr,hf _ _ hx,hf _ _ hy,asIntOf,aa,ae,ba tf,hi,and_self,if_true,cz ry,dO]
  exact hK
 exact⟨by rw[az];rfl,fun _=>key _,fun _=>key⟩
def saV(P:Program)(n:Nat)(p:Oper)(e:Env):Option (Nat×Nat×Int×Nat):=match p.op with
 | .slice T x none (some z) none=>match a8 P T with
  |some ⟨.array len E,_,_,_⟩=>match a8 P E with
   |some _=>match bu n e x with
    |some (.pointer (some ⟨b,off,none⟩))=>match bu n e z with
     |some (.int _ ix)=>some (b,off,ix,len)
     |_=>none
    |_=>none
   |none=>none
  |_=>none
 |_=>none
theorem jah{b len:Nat}(hi:Int)(hl:0≤hi∧hi≤len)(hj:J X (ku (.slice (some ⟨b,off,none⟩) hi.toNat len) o))(hv:dL X.n (saV X.P X.n) o=some (b,off,hi,len):=by kernel_rfl):J X o:=by
 refine jG hv (fun s p e ho hh hf=>?_) hj
 unfold saV at hf
 split at hf<;>try (cases hf;done)
 rename_i T x z az
 split at hf<;>try (cases hf;done)
 rename_i aEA E _ _ _ dQ
 split at hf<;>try (cases hf;done)
 rename_i te uG
 split at hf<;>try (cases hf;done)
 rename_i b' au0 hx
 split at hf<;>try (cases hf;done)
 rename_i ik ix' hy
 simp only[Option.some.injEq,Prod.mk.injEq] at hf
 obtain⟨rfl,rfl,rfl,rfl⟩:=hf
 obtain⟨bE,tf⟩:=aw dQ
 obtain⟨B7,ry⟩:=aw uG
 have key:∀s,Yields X.P X.n e p s (.slice (some ⟨b',au0,none⟩) ix'.toNat aEA):=by
  intro s s' ny f hf K E hK
  simp only[execOp,az,Option.map_some,Option.map_none,Instr.sliceAt,Instr.sliceBounds,Instr.sliceBound,Instr.sureAddr,hf _ _ hx,hf _ _ hy,asIntOf,aa,ae,ba tf,Option.isSome_none,Bool.false_eq_true,if_false,hl,and_self,if_true,cz ry,Nat.zero_mul,dO,Nat.add_zero,ite_self,Nat.sub_zero]
  exact hK
 exact⟨by rw[az];rfl,fun _=>key _,fun _=>key⟩
end
theorem tt{b:Nat}{v:Value}(h:s.has b (.cells ⟨l⟩ t fz))(hv:nth l off=some v):cE s b off 1 [v]:=
 ⟨_,_,_,h,by rw[sH] at hv;simp[iV (show off+1≤l.length by have:=(List.getElem?_eq_some_iff.1 hv).1;omega),List.drop_eq_getElem_cons (List.getElem?_eq_some_iff.1 hv).1,(List.getElem?_eq_some_iff.1 hv).2]⟩
theorem afi{b o m:Nat}{v:Value}(h:cE s b o m l)(hv:nth l off=some v):cE s b (o+off) 1 [v]:=
 h.part off 1 (by rw[sH] at hv;simp[iV (show off+1≤l.length by have:=(List.getElem?_eq_some_iff.1 hv).1;omega),List.drop_eq_getElem_cons (List.getElem?_eq_some_iff.1 hv).1,(List.getElem?_eq_some_iff.1 hv).2])
open Go.ConcR (KK wgBlock WgAt stA smA rd wr)
def TT(T:Goroutine→St→Prop)(b:Frame)(AP:List Item)(cs:List Frame)(n:Nat)(D:List Deferred)(ro:Nat→Option Obj)(o:Option JS):Prop:=
 ∀e w kn,o=some ⟨.fin .normal,e,w,kn⟩→Knows ro kn.c→T (G (aM b (A n e D) AP) cs) ⟨ro,den w⟩
def CT(hm:P.follows .mixedOrders=true)(hT:Closed P main T)(b:Frame)(AP:List Item)(cs:List Frame)(n:Nat)(D:List Deferred)(ro:Nat→Option Obj):Cx:=
 ⟨P,fun m T'=>m=main∧T'=T,by rintro _ _ ⟨rfl,rfl⟩;exact hT,hm,b.fn,none,n,D,ro,jT T b AP cs⟩
def WZ:Option JS→Bool
 |some ⟨.fin .normal,_,_,_⟩=>true
 |_=>false
def opO(ops:Array Oper)(todo:List Nat):Option JS→Option JS
 |some ⟨.fin .normal,e,w,kn⟩=>some ⟨.ops ops todo [],e,w,⟨kn.c,[]⟩⟩
 |_=>none
def cdO(c:Code):Option JS→Option JS
 |some ⟨.fin .normal,e,w,kn⟩=>some ⟨.code c [],e,w,⟨kn.c,[]⟩⟩
 |_=>none
def stO(dst:Option Tmp)(v:Value):Option JS→Option JS
 |some ⟨p,e,w,kn⟩=>some ⟨p,upd dst v e,w,kn⟩
 |none=>none
def nwO(dst:Option Tmp)(v:Value)(q:Nat)(ob:Obj):Option JS→Option JS
 |some ⟨p,e,w,kn⟩=>some ⟨p,upd dst v e,.b q ob::w,kn⟩
 |none=>none
def adO(L:Cells):Option JS→Option JS
 |some ⟨p,e,w,kn⟩=>some ⟨p,e,.l L::w,kn⟩
 |none=>none
def evO(n:Nat)(x:Operand):Option JS→Option Value
 |some ⟨_,e,_,_⟩=>bu n e x
 |none=>none
def aTh(n:Nat)(xs:List Operand):Option JS→Option (List Value)
 |some ⟨_,e,_,_⟩=>yC n e xs
 |none=>none
def vaO(P:Program)(n:Nat)(a:Oper):Option JS→Option Value
 |some ⟨_,e,_,_⟩=>aef P n e a
 |none=>none
theorem acB(h:WZ o=true):∃e w kn,o=some ⟨.fin .normal,e,w,kn⟩:=by
 unfold WZ at h
 split at h
 ·exact⟨_,_,_,rfl⟩
 cases h
def fr0(f:FuncId)(k:CallKind):Frame:={(default:Frame) with fn:=f,kind:=k,roundOf:=none}
section
variable {P:Program} {main:Bool} {T:Goroutine→St→Prop} {b:Frame} {AP:List Item} {cs:List Frame} {n:Nat} {D:List Deferred} {ro:Nat→Option Obj} {o:Option JS} {ops:Array Oper}
theorem aeK(h:TT T b AP cs n D ro o)(hQ:X.Q=jT T b AP cs)(hn:X.n=n)(hD:X.D=D)(BA:X.ro=ro)(h1:WZ o=true):J X o:=by
 subst hn hD BA
 obtain⟨e,w,kn,rfl⟩:=acB h1
 intro bY
 show X.Q .normal _ _
 rw[hQ]
 exact h _ _ _ rfl bY
theorem yp{hm:P.follows .mixedOrders=true}{hT:Closed P main T}(h:TT T b AP cs n D ro o)(h1:WZ o=true:=by kernel_rfl):J (CT hm hT b AP cs n D ro) o:=aeK h rfl rfl rfl rfl h1
theorem aCH{hm:P.follows .mixedOrders=true}{hT:Closed P main T}(h:TT T b AP cs n D ro o)(h1:WZ o=true:=by kernel_rfl):J ((CT hm hT b AP cs n D pW).at ro) o:=aeK h rfl rfl rfl rfl h1
theorem aCG{hm:P.follows .mixedOrders=true}{hT:Closed P main T}(h:TT T b AP cs n (ek bd::D) ro o)(h1:WZ o=true:=by kernel_rfl):J ((CT hm hT b AP cs n D ro).dm bd) o:=aeK h rfl rfl rfl rfl h1
theorem wj(hm:P.follows .mixedOrders=true)(hT:Closed P main T)(hj:J (CT hm hT b AP cs n D ro) (opO ops todo o))(hk:b.kind≠ .early:=by decide)(hr:b.roundOf=none:=by rfl):TT T b (.inRegion ops todo::AP) cs n D ro o:=by
 rintro e w kn rfl bY
 exact hj bY main T ⟨rfl,rfl⟩ b AP cs rfl hk hr fun e a s q=>q
theorem aCI(hm:P.follows .mixedOrders=true)(hT:Closed P main T){c:Code}(hj:J (CT hm hT b AP cs n D ro) (cdO c o))(hk:b.kind≠ .early:=by decide)(hr:b.roundOf=none:=by rfl):TT T b (.code c::AP) cs n D ro o:=by
 rintro e w kn rfl bY
 exact hj bY main T ⟨rfl,rfl⟩ b AP cs rfl hk hr fun e a s q=>q
theorem tSt(hT:Closed P main T)(ef:Env)(wf:List Sg)(ps:List Nat)(h:∀rest,TT T b AP cs n D ro (some ⟨.fin .normal,ef++rest,wf,⟨[],[]⟩⟩))(h1:rP (nE ef) o=some ef:=by kernel_rfl)(h2:rJ ps o=some wf:=by kernel_rfl)(h3:lkE (nE ef) ef=some ef:=by kernel_rfl):TT T b AP cs n D ro o:=by
 rintro e w kn rfl bY
 obtain⟨rest,he⟩:=fY (n:=n) (D:=D) (kP (by rw[tC] at h1;exact h1)) (kP h3)
 rw[he]
 exact hT.mono _ ⟨ro,den wf⟩ _ (dP (lS h2) (Sub.refl _)) (h rest _ _ _ rfl fun _ h=>(by cases h))
section
variable {k:List Item} {rest l:List Code} (hT:Closed P main T)
include hT
theorem qx(hl:gJ l= .region id ops false::rest)(h:∀l',gJ l'=rest→TT T b (.inRegion ops (List.range ops.size)::(l'.map .code++k)) cs n D ro o):TT T b (l.map .code++k) cs n D ro o:=
 fun e w kn ho bY=>dM hT hl fun l' Ah=>h l' Ah e w kn ho bY
theorem Yi{c:Operand}{x y:Code}{t q:Bool}(hl:gJ l= .cond c x y::rest)(hq:q=t)(h:∀l',gJ l'=rest→TT T b (.code (if t then x else y)::(l'.map .code++k)) cs n D ro o)(hc:evO n c o=some (.bool q):=by kernel_rfl):TT T b (l.map .code++k) cs n D ro o:=by
 subst hq
 rintro e w kn rfl bY
 exact Bo hT hl (by rw[ez];exact aG hc) fun l' Ah=>h l' Ah e w kn rfl bY
theorem NC{c:Code}(hl:gJ l= .block id c::rest)(h:∀l',gJ l'=rest→TT T b ([c].map .code++(.inBlock id::(l'.map .code++k))) cs n D ro o):TT T b (l.map .code++k) cs n D ro o:=
 fun e w kn ho bY=>wF hT hl fun l' Ah=>h l' Ah e w kn ho bY
theorem aqV{c:Code}(hl:gJ l= .loop c::rest)(h:∀l',gJ l'=rest→TT T b ([c].map .code++(.inLoop c::(l'.map .code++k))) cs n D ro o):TT T b (l.map .code++k) cs n D ro o:=
 fun e w kn ho bY=>Oi hT hl fun l' Ah=>h l' Ah e w kn ho bY
theorem aqW{c:Code}(hl:gJ l=c::rest)(h:∀l',gJ l'=rest→TT T b (.code c::(l'.map .code++k)) cs n D ro o):TT T b (l.map .code++k) cs n D ro o:=
 fun e w kn ho bY=>oe hT hl fun l' Ah=>h l' Ah e w kn ho bY
theorem aqT(h:TT T b k cs n D ro o):TT T b (.code .skip::k) cs n D ro o:=fun e w kn ho bY=>Pr hT (h e w kn ho bY)
theorem aqX{k':List Item}(hk:exitTo id k=some k')(h:TT T b k' cs n D ro o):TT T b (.code (.exit id)::k) cs n D ro o:=fun e w kn ho bY=>Ps hT hk (h e w kn ho bY)
theorem aqY(h:TT T b k cs n D ro o):TT T b (.inBlock id::k) cs n D ro o:=fun e w kn ho bY=>Dy hT (h e w kn ho bY)
theorem Yh(h:TT T b k cs n D ro o):TT T b (.inRegion ops []::k) cs n D ro o:=fun e w kn ho bY=>ia hT (h e w kn ho bY)
theorem aeL{c:Code}(h:TT T b ([c].map .code++(.inLoop c::k)) cs n D ro o):TT T b (.inLoop c::k) cs n D ro o:=fun e w kn ho bY=>AD hT (h e w kn ho bY)
theorem aCC{a:Oper}{f:Nat→Value}{ob:Obj}(ho:ops[i]?=some a) (hg:a.guard=none) (tG:∀e q,Vk P (execOp (ev n e) a) q=some (ob,f q)) (hk:b.kind≠ .early) (hr:b.roundOf=none)
 (h:∀q,TT T b (.inRegion ops todo::k) cs n D ro (nwO a.dst (f q) q ob o)):TT T b (.inRegion ops (i::todo)::k) cs n D ro o:=by
 rintro e w kn rfl bY
 refine tx hT ho (dC _ _ hg) hk hr ?_
 rw[ez]
 refine Hm (f:=f) (fun q _=>⟨_,rfl,?_⟩) _ (tG e)
 rw[aZ]
 have:=h q _ _ _ rfl bY
 rw[iK] at this
 exact this
theorem aCz{a:Oper}(v:Value)(ho:ops[i]?=some a) (hg:a.guard=none) (hk:b.kind≠ .early) (hr:b.roundOf=none) (h:TT T b (.inRegion ops todo::k) cs n D ro (stO a.dst v o)) (hv:vaO P n a o=some v:=by kernel_rfl):TT T b (.inRegion ops (i::todo)::k) cs n D ro o:=by
 rintro e w kn rfl bY
 refine tx hT ho (dC _ _ hg) hk hr ?_
 rw[ez]
 refine A4 hv _ (Ext.refl _) _ (fun _ _ h=>aG h) _ _ ⟨v,rfl,?_⟩
 rw[aZ]
 exact h _ _ _ rfl bY
theorem tLd{a:Oper}(v:Value)(ho:ops[i]?=some a) (hg:a.guard=none) (az:a.op= .load U x) (ht:(a8 P U).map (·.agg)=some false) (hk:b.kind≠ .early) (hr:b.roundOf=none) (hb:∀e w kn,o=some ⟨.fin .normal,e,w,kn⟩→(⟨ro,den w⟩:St).has q (.cells ⟨[v]⟩ t fz))
 (h:TT T b (.inRegion ops todo::k) cs n D ro (stO a.dst v o)) (hx:evO n x o=some (.pointer (some ⟨q,0,none⟩)):=by kernel_rfl):TT T b (.inRegion ops (i::todo)::k) cs n D ro o:=by
 rintro e w kn rfl bY
 refine tx hT ho (dC _ _ hg) hk hr ?_
 rw[ez]
 cases dQ:a8 P U with
 |none=>rw[dQ] at ht;cases ht
 |some z=>
 rw[dQ] at ht
 simp only[Option.map_some,Option.some.injEq] at ht
 obtain⟨bE,tf⟩:=aw dQ
 rw[ht] at tf
 simp only[execOp,az,Instr.loadAt,aG hx,Instr.sureAddr,loadVar,aa,ae,kK tf,Bool.false_eq_true,if_false]
 refine wh ⟨[v],t,fz,hb _ _ _ rfl,rfl⟩ ⟨v,rfl,?_⟩
 rw[aZ]
 exact h _ _ _ rfl bY
theorem aMp{a:Oper}(v:Value)(ho:ops[i]?=some a) (hg:a.guard=none) (az:a.op= .load U x) (ht:(a8 P U).map (·.agg)=some false) (hk:b.kind≠ .early) (hr:b.roundOf=none) (ps:List Nat) (t:TypeId)
 (h:TT T b (.inRegion ops todo::k) cs n D ro (stO a.dst v o)) (hx:evO n x o=some (.pointer (some ⟨q,0,none⟩)):=by kernel_rfl) (hd:dS ps o=some [(q,.cells ⟨[v]⟩ t (0,0))]:=by kernel_rfl):TT T b (.inRegion ops (i::todo)::k) cs n D ro o:=
 tLd hT v ho hg az ht hk hr (fz:=(0,0)) (t:=t) (q:=q) (fun e w kn he=>by
  subst he
  exact .inr ((bN hd).mem_iff.2 (List.mem_append_left _ (List.mem_singleton.2 rfl)))) h hx
end
theorem atY(hT:Closed P main T){a:Oper}{xs:Array Operand}(ho:ops[i]?=some a) (hg:a.guard=none) (az:a.op= .defer ⟨.value (.func f),xs,ats⟩) (hk:b.kind≠ .early) (hr:b.roundOf=none)
 (h:TT T b k cs n ({target:= .fn (.func f) ⟨[]⟩,args:=⟨vs⟩}::D) ro (stO a.dst undef o)) (hx:aTh n xs.toList o=some vs:=by kernel_rfl):TT T b (.inRegion ops [i]::k) cs n D ro o:=by
 rintro e w kn rfl bY
 have hC:∀m T',(fun m T'=>m=main∧T'=T:Class) m T'→Closed P m T':=by rintro _ _ ⟨rfl,rfl⟩;exact hT
 have key:ab (fun m T'=>m=main∧T'=T) b.fn none ops [i] (jT T b k cs) (A n e D) ⟨ro,den w⟩:=by
  refine Oh (P:=P) hC ho (dC _ _ hg) (.inl rfl) ?_
  rw[ez]
  have e1:ev n e (.func f)= .func (.func f) #[] #[]:=rfl
  have e2:xs.map (ev n e)=⟨vs⟩:=sQ hx
  simp only[execOp,az,resolve,e1,Deferred.ofValue,ae,e2]
  refine⟨rfl,?_⟩
  have hA:({A n e D with defers:={target:= .fn (.func f) ⟨[]⟩,args:=⟨vs⟩}::(A n e D).defers}:Act).put a.dst undef=A n (upd a.dst undef e) ({target:= .fn (.func f) ⟨[]⟩,args:=⟨vs⟩}::D):=by
   rw[←aZ];rfl
  have he:(⟨[]⟩:Array Value)++(⟨vs⟩:Array Value)=⟨vs⟩:=by simp
  rw[he]
  have:=h _ _ _ rfl bY
  rw[←hA] at this
  exact fun m T' hc b' k' JX h1 h2 h3 h4=>by
   obtain⟨rfl,rfl⟩:=hc
   exact ia hT (h4 .normal _ _ this)
 exact key main T ⟨rfl,rfl⟩ b k cs rfl hk hr fun e a s q=>q
end
attribute [irreducible] WZ opO cdO
structure alv(L:Nat→Option Obj)(X:Cells)(ro aJ:Nat→Option Obj):Prop where
 of:∀q o,L q=some o→(q,o)∈X
 on:∀q o,(q,o)∈X→L q=some o
 sub:Sub ro aJ
 kn:Knows aJ X
 nd:(X.map (·.1)).Nodup
 ap:∀q o,(q,o)∈X→ro q=none
def bkO(L:Cells):Option JS→Option JS
 |some ⟨p,e,w,_⟩=>some ⟨p,e,.l L::w,⟨[],[]⟩⟩
 |none=>none
def UP(ps:List Nat):Option JS→Option Cells
 |some ⟨_,_,w,_⟩=>some (den (dI ps 0 w))
 |none=>none
def Ze:Option JS→Option JS
 |some ⟨p,e,_,kn⟩=>some ⟨p,e,[],⟨kn.c,[]⟩⟩
 |none=>none
theorem DC:∀(w:List Sg) (k:Nat),dI [] k w=w
 | [],_=>rfl
 |x::w,k=>by
  simp only[dI,bh]
  rw[DC w]
  rfl
theorem alv.back{L:Nat→Option Obj}{X:Cells}{roK:Nat→Option Obj}{rwK:Cells}(h:alv L X ro aJ)(hs:Sub aJ roK):
 (∀w,aS ⟨roK,rwK⟩ w→(∀b o,L b=some o→w.heap[b]?=some o)→aS ⟨ro,X++rwK⟩ w)∧∀b,(⟨ro,X++rwK⟩:St).knows b→L b≠none∨(⟨roK,rwK⟩:St).knows b:=by
 refine⟨fun w hw hL=>⟨fun q o hq=>hw.ro q o (hs _ _ (h.sub _ _ hq)),fun q o hq=>?_,?_,fun q o hq=>?_⟩,fun q hq=>?_⟩
 ·rcases List.mem_append.1 hq with hq|hq
  ·exact hL q o (h.on q o hq)
  exact hw.rw q o hq
 ·show ((X++rwK).map (·.1)).Nodup
  rw[List.map_append,List.nodup_append]
  refine⟨h.nd,hw.nodup,fun q hq q' FU e=>?_⟩
  subst e
  obtain⟨⟨q1,o1⟩,h1,rfl⟩:=List.mem_map.1 hq
  obtain⟨⟨q2,o2⟩,h2,e2⟩:=List.mem_map.1 FU
  simp only at e2
  subst e2
  have h3:=hs _ _ (h.kn _ h1)
  have h4:=hw.apart _ _ h2
  dsimp only at h3 h4
  rw[h4] at h3
  cases h3
 ·show ro q=none
  rcases List.mem_append.1 hq with hq|hq
  ·exact h.ap q o hq
  have h2:roK q=none:=hw.apart q o hq
  cases hr:ro q with
  |none=>rfl
  |some o'=>rw[hs _ _ (h.sub _ _ hr)] at h2;cases h2
 rcases hq with hq| ⟨o,hq⟩
 ·have hq:ro q≠none:=hq
  cases hr:ro q with
  |none=>exact absurd hr hq
  |some o'=>exact .inr (.inl (by show roK q≠none;rw[hs _ _ (h.sub _ _ hr)];simp))
 rcases List.mem_append.1 hq with h'|h'
 ·exact .inl (by rw[h.on q o h'];simp)
 exact .inr (.inr ⟨o,h'⟩)
section
variable {ι:Type} {E:dW ι} {Q:Machine→Outcome→World→Trace→Prop} {b:Frame} {AP:List Item} {cs:List Frame} {n:Nat} {D:List Deferred} {ro:Nat→Option Obj} {o:Option JS} {ops:Array Oper} {L:Nat→Option Obj}
theorem atX{tm:Bool}(iw ic:Nat)(X:Cells)(iR:Closed E.P true (TL E.P eF (fun _=>none) (Calm E.os E.out) Q))
 (h:∀L aJ,alv L X ro aJ→E.Wg≠E.Ch→L E.Ch=none→TT (TM E L Q 0 false [] 0) b AP cs n D aJ (Ze o))
 (hW:dS [iw,ic] o=some [(E.Wg,wgBlock E.ty 0 0),(E.Ch,.chan 0 #[] false 0 0 tm)]:=by kernel_rfl)(hX:UP [iw,ic] o=some X:=by kernel_rfl):TT (TL E.P eF (fun _=>none) (Calm E.os E.out) Q) b AP cs n D ro o:=by
 rintro e w kn rfl bY
 refine Closed.jP iR rfl fun⟨w0,Zz⟩=>?_
 have hp:=bN hW
 simp only[UP,Option.some.injEq] at hX
 have OS:=hp
 dsimp only at OS
 rw[hX] at OS
 have hm:∀x,x∈den w↔x=(E.Wg,wgBlock E.ty 0 0)∨x=(E.Ch,.chan 0 #[] false 0 0 tm)∨x∈X:=fun x=>by
  rw[OS.mem_iff]
  simp
 have mo:=(OS.map (·.1)).nodup_iff.1 Zz.nodup
 simp only[List.cons_append,List.nil_append,List.map_cons,List.nodup_cons,List.mem_cons,not_or] at mo
 obtain⟨⟨dR,hW1⟩,hC1,Sw⟩:=mo
 have AT:∀x∈X,x∈den w:=fun x hx=>(hm x).2 (.inr (.inr hx))
 have aHo:(E.Wg,wgBlock E.ty 0 0)∈den w:=(hm _).2 (.inl rfl)
 have ajr:(E.Ch,Obj.chan 0 #[] false 0 0 tm)∈den w:=(hm _).2 (.inr (.inl rfl))
 have OT:∀y∈X,y.1≠E.Wg∧y.1≠E.Ch:=fun y hy=>⟨fun e=>hW1 (e▸List.mem_map.2 ⟨_,hy,rfl⟩),fun e=>hC1 (e▸List.mem_map.2 ⟨_,hy,rfl⟩)⟩
 let L:Nat→Option Obj:=fun q=>(X.find? fun y=>y.1==q).map (·.2)
 have Wj:∀q o,L q=some o→(q,o)∈X:=fun q o hq=>by
  obtain⟨y,hy,rfl⟩:=Option.map_eq_some_iff.1 hq
  obtain⟨h1,h2⟩:=oY hy
  subst h2
  exact h1
 have aSn:∀q o,(q,o)∈X→L q=some o:=fun q o hq=>by
  show (X.find? fun y=>y.1==q).map (·.2)=some o
  rw[xk Sw hq];rfl
 have Wk:L E.Ch=none:=by
  cases hq:L E.Ch with
  |none=>rfl
  |some o=>exact absurd rfl (OT _ (Wj _ _ hq)).2
 have mW:∀q o,(q,o)∈X→ro q=none:=fun q o hq=>Zz.apart q o (AT _ hq)
 have fD:Sub ro (St.freeze ⟨ro,X⟩).ro:=fun q o hq=>St.n9 (s:=⟨ro,X⟩) hq fun q o hq=>mW q o hq
 have aio:∀q,(∃o,(q,o)∈den w)→(q=E.Wg∨q=E.Ch)→¬(St.freeze ⟨ro,X⟩).knows q:=by
  rintro q ⟨o,ho⟩ hq (hk| ⟨o',FV⟩)
  ·simp only[St.freeze] at hk
   split at hk
   ·rename_i y hy
    obtain⟨h1,h2⟩:=oY hy
    have:=OT _ h1
    rcases hq with e|e
    ·exact this.1 (h2.trans e)
    exact this.2 (h2.trans e)
   exact hk (Zz.apart q o ho)
  cases FV
 have aGs:alv L X ro (St.freeze ⟨ro,X⟩).ro:=⟨Wj,aSn,fD,fun x hx=>St.tJ (s:=⟨ro,X⟩) (by rcases x with ⟨q,o⟩;exact hx) Sw,Sw,mW⟩
 refine QE (E:=E) (L:=L) (s':=St.freeze ⟨ro,X⟩) rfl dR aHo ⟨tm,ajr⟩ ?_ (aio _ ⟨_,aHo⟩ (.inl rfl)) (aio _ ⟨_,ajr⟩ (.inr rfl)) (fun q ⟨o,ho⟩=>by cases ho) (fun q o hq=>⟨.inr (AT _ (Wj _ _ hq)),OT _ (Wj _ _ hq)⟩) ?_
 ·refine⟨den w,by simp[St.freeze],fun q o hq=>?_⟩
  simp only[St.freeze] at hq
  split at hq
  ·rename_i y hy
   obtain⟨h1,h2⟩:=oY hy
   cases hq
   subst h2
   exact .inr (AT _ h1)
  exact .inl hq
 exact(h L _ aGs dR Wk _ _ _ rfl (bY.up fD)).1
theorem aMs{os:List ι}{a:Oper}{bs:List Nat}(h:TT (TM E L Q 1 false os 0) b k cs n D ro (stO a.dst (.tuple #[]) o))(ho:ops[0]?=some a) (hg:a.guard=none) (az:a.op= .call ⟨.value (.func f),#[x,.const (.int .i64 1)],ats⟩) (hf:FF E.P f) (hk:b.kind≠ .early) (hr:b.roundOf=none) (Kq:os.length <E.max)
 (aiS:I7 E.P E.ty os.length (Frame.enter E.P f #[.pointer (some ⟨E.Wg,0,none⟩),.int .i64 1] .normal)=some bs) (hbs:∀b∈bs,b=E.Wg) (hx:evO n x o=some (.pointer (some ⟨E.Wg,0,none⟩)):=by kernel_rfl):TT (TM E L Q 0 false os 0) b (.inRegion ops [0]::k) cs n D ro o:=by
 rintro e w kn rfl bY
 have hT:Closed E.P true (TM E L Q 0 false os 0):=fg (E:=E) false os (fun e=>(by cases e))
 have Wi:Closed E.P true (TM E L Q 1 false os 0):=fg (E:=E) false os (fun e=>(by cases e))
 refine Ru (rest:=[]) hT ho hg hk hr az hf ?_
 have nF:(#[x,.const (.int .i64 1)]:Array Operand).map (A n e D).eval= #[.pointer (some ⟨E.Wg,0,none⟩),.int .i64 1]:=by
  rw[ez]
  simp only[List.map_toArray,List.map_cons,List.map_nil,aG hx]
  rfl
 rw[nF]
 refine⟨Nd (E:=E) aiS hbs Kq ?_,fun e=>(by cases e)⟩
 rw[fK,ho]
 simp only[Option.bind_some]
 rw[aZ]
 exact(ia Wi (h _ _ _ rfl bY)).1
theorem tGo{os:List ι}(oo:ι){a:Oper}(L1:Cells)(ho:ops[i]?=some a) (hg:a.guard=none) (az:a.op= .go ⟨.value y,#[],ats⟩) (hk:b.kind≠ .early) (hr:b.roundOf=none)
 (h:∀aJ,Sub ro aJ→Knows aJ L1→eJ E.P false (E.KP oo) (born E.P {target:= .fn (.func f) ⟨ca⟩,args:= #[]}) ⟨aJ,[]⟩∧TT (TM E L Q 0 false (os++[oo]) 0) b (.inRegion ops todo::k) cs n D aJ (Ze (stO a.dst undef o)))
 (hy:evO n y o=some (.func (.func f) ⟨[]⟩ ⟨ca⟩):=by kernel_rfl) (hL:UP [] o=some L1:=by kernel_rfl):TT (TM E L Q 1 false os 0) b (.inRegion ops (i::todo)::k) cs n D ro o:=by
 rintro e w kn rfl bY
 have Wi:Closed E.P true (TM E L Q 1 false os 0):=fg (E:=E) false os (fun e=>(by cases e))
 refine Closed.jP Wi rfl fun p6=>?_
 obtain⟨w0,Zz⟩:=p6
 have mo:((den w).map (·.1)).Nodup:=Zz.nodup
 have mW:∀q o,(q,o)∈den w→ro q=none:=Zz.apart
 have fD:Sub ro (St.freeze ⟨ro,den w⟩).ro:=fun q o hq=>St.n9 (s:=⟨ro,den w⟩) hq mW
 have axd:Knows (St.freeze ⟨ro,den w⟩).ro L1:=fun x hx=>St.tJ (s:=⟨ro,den w⟩) (by rcases x with ⟨q,o⟩;simp only[UP,Option.some.injEq] at hL;rw[←hL,DC] at hx;exact hx) mo
 obtain⟨h1,h2⟩:=h _ fD axd
 have bW:=fun w'=>F5 (P:=E.P) (main:=true) (b:=b) (a:=A n e D) (k:=k) (cs:=cs) (rest:=todo) ho hg hk hr az (by rw[ez];exact aG hy) w'
 have:=h2 _ _ _ rfl (bY.up fD)
 rw[←aZ] at this
 exact⟨TC.mono (St.Ds ⟨ro,den w⟩) (Lc (E:=E) (o:=oo) (s:=St.freeze ⟨ro,den w⟩) rfl rfl (fun w' _=>bW w') h1 this.1),fun e=>(by cases e)⟩
theorem at1{os:List ι}{a:Oper}(L1:Cells)(ho:ops[i]?=some a) (hg:a.guard=none) (az:a.op= .go ⟨.value y,#[],ats⟩) (hk:b.kind≠ .early) (hr:b.roundOf=none)
 (h:∀aJ,Sub ro aJ→Knows aJ L1→E.closes ⟨aJ,[]⟩ (born E.P {target:= .fn (.func f) ⟨ca⟩,args:= #[]})∧TT (TM E L Q 0 true os 0) b (.inRegion ops todo::k) cs n D aJ (Ze (stO a.dst undef o)))
 (hy:evO n y o=some (.func (.func f) ⟨[]⟩ ⟨ca⟩):=by kernel_rfl) (hL:UP [] o=some L1:=by kernel_rfl):TT (TM E L Q 0 false os 0) b (.inRegion ops (i::todo)::k) cs n D ro o:=by
 rintro e w kn rfl bY
 have Wi:Closed E.P true (TM E L Q 0 false os 0):=fg (E:=E) false os (fun e=>(by cases e))
 refine Closed.jP Wi rfl fun p6=>?_
 obtain⟨w0,Zz⟩:=p6
 have mo:((den w).map (·.1)).Nodup:=Zz.nodup
 have mW:∀q o,(q,o)∈den w→ro q=none:=Zz.apart
 have fD:Sub ro (St.freeze ⟨ro,den w⟩).ro:=fun q o hq=>St.n9 (s:=⟨ro,den w⟩) hq mW
 have axd:Knows (St.freeze ⟨ro,den w⟩).ro L1:=fun x hx=>St.tJ (s:=⟨ro,den w⟩) (by rcases x with ⟨q,o⟩;simp only[UP,Option.some.injEq] at hL;rw[←hL,DC] at hx;exact hx) mo
 obtain⟨h1,h2⟩:=h _ fD axd
 have bW:=fun w'=>F5 (P:=E.P) (main:=true) (b:=b) (a:=A n e D) (k:=k) (cs:=cs) (rest:=todo) ho hg hk hr az (by rw[ez];exact aG hy) w'
 have:=h2 _ _ _ rfl (bY.up fD)
 rw[←aZ] at this
 exact⟨TC.mono (St.Ds ⟨ro,den w⟩) (Ld (E:=E) (s:=St.freeze ⟨ro,den w⟩) rfl rfl (fun w' _=>bW w') h1 this.1),fun e=>(by cases e)⟩
theorem aqU{os:List ι}{a:Oper}{rc:Operand}{z:Value}{X:Cells}{aH:Nat→Option Obj}(hl:alv L X pW aH)(bH:Sub aH ro)(Wk:L E.Ch=none)(ho:ops[0]?=some a) (hg:a.guard=none) (T6:∀ρ,bx E.P (execOp ρ a)=some (.comm #[{chan:=ρ rc,send:=none,zero:=z}] true (.recv true))) (hk:b.kind≠ .early) (hr:b.roundOf=none)
 (MJ:∀a' oo b' v Y,os=a'++oo::b'→E.XI oo v Y→TT (TM E L Q 0 true (a'++b') 0) b (.inRegion ops todo::k) cs n D ro (adO Y (stO a.dst (.tuple #[v,.bool true]) o)))
 (qN:os=[]→TT (TL E.P eF (fun _=>none) (Calm E.os E.out) Q) b (.inRegion ops todo::k) cs n D pW (bkO X (stO a.dst (.tuple #[z,.bool false]) o)))
 (hx:evO n rc o=some (.chan (some E.Ch)):=by kernel_rfl):TT (TM E L Q 0 true os 0) b (.inRegion ops (0::todo)::k) cs n D ro o:=by
 rintro e w kn rfl bY
 have hT:Closed E.P true (TM E L Q 0 true os 0):=fg (E:=E) true os (fun _=>rfl)
 refine Closed.jP hT rfl fun p6=>?_
 have hvc:ev n e rc= .chan (some E.Ch):=aG hx
 have bW:∀w',stepG E.P true (G (aM b (A n e D) (.inRegion ops (0::todo)::k)) cs) w'= .comm (G (aM b (A n e D) (.inRegion ops (0::todo)::k)) cs) #[rcase E.Ch z] true (.recv true) w' #[]:=by
  intro w'
  have AU:=kS b (A n e D) (.inRegion ops (0::todo)::k)
  simp only[aM] at AU
  have hw:Region.wanted a (yielded ops (A n e D).tmps)=true:=dC _ _ hg
  have jN:(b.kind==CallKind.early)=false:=by simpa using hk
  have gF:stepG E.P true (G (aM b (A n e D) (.inRegion ops (0::todo)::k)) cs) w'=stepG.apply E.P true (aM b (A n e D) (.inRegion ops (0::todo)::k)) cs none (execOp (A n e D).eval a) w':=by
   simp only[G,stepG,stepG.exec,aM,ho,Option.map_some,Option.getD_some,hw,if_true,stepG.oper,Frame.oper?,AU]
   rw[hr]
  have bX:=ue (T6 (ev n e)) w' #[]
  rw[hvc] at bX
  rw[gF,ez]
  simp only[stepG.apply,if_true,bX,aM,jN,Bool.false_eq_true,if_false]
  simp[seen_none,GStep.after,G,rcase]
 have p5:∀v,Conc.served (G (aM b (A n e D) (.inRegion ops (0::todo)::k)) cs) v=G (aM b (A n (upd a.dst v e) D) (.inRegion ops todo::k)) cs:=by
  intro v
  have:=fK b (A n e D) ops 0 todo k v
  rw[ho] at this
  simp only[Option.bind_some] at this
  rw[aZ] at this
  simp only[Conc.served,G] at this ⊢
  rw[this]
 have uM:os=[]→∀pc (g:Goroutine),g.status= .running→(∀w',stepG E.P true g w'= .comm (G (aM b (A n e D) (.inRegion ops (0::todo)::k)) cs) #[rcase E.Ch z] true (.recv true) w' #[])→
  TL E.P (jB pc) L (Jy E pc) Q g ⟨ro,den w⟩:=by
  intro tV pc g hg' awq
  obtain⟨hb1,fT⟩:=hl.back (rwK:=den w) bH
  refine X6 (E:=E) (z:=z) (s':=⟨pW,X++den w⟩) Wk hg' (fun w' _=>awq w') hb1 fT ?_
  rw[p5]
  have:=qN tV _ _ _ rfl fun x hx=>(by cases hx)
  rw[gA] at this
  exact this
 refine⟨Yd (E:=E) (z:=z) rfl (fun w' _=>bW w') (fun a' oo b' v Y tV oR=>?_) fun tV pc=>⟨uM tV pc _ rfl bW,uM tV pc _ rfl fun w'=>bW w'⟩,fun _ tV pc=>uM tV pc _ rfl bW⟩
 rw[p5]
 have:=MJ a' oo b' v Y tV oR _ _ _ rfl bY
 rw[gA] at this
 exact this.1
theorem aCB{oo:ι}{a:Oper}{sc sv:Operand}{v:Value}{Y:Cells}(ys:List Nat)(ho:ops[i]?=some a) (hg:a.guard=none) (hse:∀ρ,execOp ρ a=Sem.pure (.comm #[{chan:=ρ sc,send:=some (ρ sv),zero:= .tuple #[]}] true .send)) (hk:b.kind≠ .early) (hr:b.roundOf=none)
 (hs:E.XI oo v Y) (h:TT (eJ E.P false E.JA) b (.inRegion ops todo::k) cs n D ro (Dz ys (stO a.dst undef o)))
 (hx:evO n sc o=some (.chan (some E.Ch)):=by kernel_rfl) (hv:evO n sv o=some v:=by kernel_rfl) (hY:dS ys o=some Y:=by kernel_rfl):TT (eJ E.P false (E.KP oo)) b (.inRegion ops (i::todo)::k) cs n D ro o:=by
 rintro e w kn rfl bY
 refine eJ.stop ?_
 have:=h e w kn
 refine⟨rfl,G (aM b (A n e D) (.inRegion ops (i::todo)::k)) cs,v,.tuple #[],Y,den (dI ys 0 w),bN hY,hs,fun w' p6=>?_,?_⟩
 ·have he:=kS b (A n e D) (.inRegion ops (i::todo)::k)
  simp only[aM] at he
  have axx:ev n e sc= .chan (some E.Ch):=aG hx
  have axw:ev n e sv=v:=aG hv
  have hw:Region.wanted a (yielded ops (A n e D).tmps)=true:=dC _ _ hg
  have jN:(b.kind==CallKind.early)=false:=by simpa using hk
  have aFA:=hse (ev n e)
  rw[axx,axw] at aFA
  have gF:stepG E.P false (G (aM b (A n e D) (.inRegion ops (i::todo)::k)) cs) w'=stepG.apply E.P true (aM b (A n e D) (.inRegion ops (i::todo)::k)) cs none (execOp (A n e D).eval a) w':=by
   simp only[G,stepG,stepG.exec,aM,ho,Option.map_some,Option.getD_some,hw,if_true,stepG.oper,Frame.oper?,he]
   rw[hr]
  rw[gF,ez,aFA]
  simp only[stepG.apply,if_true,Sem.runT,aM,jN,Bool.false_eq_true,if_false]
  simp[seen_none,GStep.after,G,scase]
 have p5:Conc.served (G (aM b (A n e D) (.inRegion ops (i::todo)::k)) cs) undef=G (aM b (A n (upd a.dst undef e) D) (.inRegion ops todo::k)) cs:=by
  have:=fK b (A n e D) ops i todo k undef
  rw[ho] at this
  simp only[Option.bind_some] at this
  rw[aZ] at this
  simp only[Conc.served,G] at this ⊢
  rw[this]
 rw[p5]
 exact h _ _ _ (by simp only[Dz,stO]) bY
theorem atU{dn:Nat}{bs:List Nat}(hf:E.P.funcs[b.fn]?=some fn) (BB:fn.results= #[]) (Am:Co E.P dn=true) (EC:yd E.P E.ty E.max (Frame.enter E.P dn #[.pointer (some ⟨E.Wg,0,none⟩)] .deferred)=some bs) (hbs:∀b∈bs,b=E.Wg) (ps:List Nat) (hk:b.kind= .deferred) (hr:b.roundOf=none)
 (hd:dS ps o=some [(bd,.deferred (some []))]:=by kernel_rfl):TT (eJ E.P false E.JA) b [] [cS E.P] n [ek bd,{target:= .fn (.func dn) ⟨[]⟩,args:=⟨[.pointer (some ⟨E.Wg,0,none⟩)]⟩}] ro o:=by
 rintro e w kn rfl bY
 have hT2:=dY E.P false E.JA
 refine hT2.go rfl rfl (g':=G {aM b (A n e [ek bd,{target:= .fn (.func dn) ⟨[]⟩,args:=⟨[.pointer (some ⟨E.Wg,0,none⟩)]⟩}]) [] with mode:= .returning} [cS E.P]) (fun w=>by simp[G,stepG,stepG.exec,aM,hr]) ?_
 have hp:=bN hd
 obtain⟨Lw,Rr,hs⟩:=List.append_of_mem (hp.mem_iff.2 (List.mem_append_left _ (List.mem_singleton.2 rfl)))
 refine unwind_mark (C:=CA E.P) (fun _ _ h=>h) hT2 (.inl rfl) (fr:={aM b (A n e [ek bd,{target:= .fn (.func dn) ⟨[]⟩,args:=⟨[.pointer (some ⟨E.Wg,0,none⟩)]⟩}]) [] with mode:= .returning}) rfl hs<|jH (C:=CA E.P) (fun _ _ h=>h) hT2 (.inl rfl) (k9 Am) (ds:=[]) rfl<|eJ.stop ?_
 have hq:QuitsD E.P 2 0 (G {aM b (A n e []) [] with mode:= .returning} [cS E.P]):=oB rfl rfl hk hf BB
 exact I6 (E:=E) (c:={aM b (A n e []) [] with mode:= .returning}) (.inl rfl) hq EC hbs
end
theorem aCJ{S:Goroutine→St→Prop}{c:Code}(hf:P.funcs[f]?=some fn) (hb:fn.body=some c) (hn:fn.ntmps=n) (ff:Co P f=true) (hle:Nat.ble ca.length n=true)
 (h:TT (eJ P false S) (fr0 f .deferred) ([c].map .code++[]) [cS P] n [] ro (some ⟨.fin .normal,fO 0 ca,[],⟨[],[]⟩⟩)):eJ P false S (born P {target:= .fn (.func f) ⟨ca⟩,args:= #[]}) ⟨ro,[]⟩:=by
 have hT:=dY P false S
 refine jH (C:=CA P) (fun _ _ h=>h) hT (fr:={(default:Frame) with fn:=P.funcs.size,defers:=[{target:= .fn (.func f) ⟨ca⟩,args:= #[]}],mode:= .panicking [goexitEntry]}) (.inr ⟨_,rfl⟩) (k9 ff) rfl ?_
 show eJ P false S (G (Frame.enter P f (#[]++⟨ca⟩) .deferred) [cS P]) ⟨ro,[]⟩
 have gZ:Frame.enter P f (#[]++⟨ca⟩) .deferred=aM (fr0 f .deferred) (A n (fO 0 ca) []) [.code c]:=by
  rw[←kT ca n (Nat.le_of_ble_eq_true hle)]
  simp[Frame.enter,aM,hf,hb,hn,fr0]
 rw[gZ]
 exact h _ _ _ rfl fun x hx=>(by cases hx)
theorem amV{E:dW ι}{x:Nl}(hx:x.OK E.P E.ty){bs:List Nat}(Sm:B2 E.P E.ty E.max (Frame.enter E.P x.wait #[.pointer (some ⟨E.Wg,0,none⟩)] .normal)=some bs)(hbs:∀b∈bs,b=E.Wg)
 {a:Oper}(hq:ro q=some (.cells ⟨[.chan (some E.Ch)]⟩ t fz))(ho0:x.q1[0]?=some a) (hg0:a.guard=none) (aP1:a.op= .load U y) (ht:(a8 E.P U).map (·.agg)=some false)
 (hy:evO x.n y (some ⟨.fin .normal,eZ x.o0.dst (.tuple #[]) (fO 0 [.pointer (some ⟨E.Wg,0,none⟩),.pointer (some ⟨q,0,none⟩)]),[],⟨[],[]⟩⟩)=some (.pointer (some ⟨q,0,none⟩)))
 (hc:evO x.n x.cx (stO a.dst (.chan (some E.Ch)) (some ⟨.fin .normal,eZ x.o0.dst (.tuple #[]) (fO 0 [.pointer (some ⟨E.Wg,0,none⟩),.pointer (some ⟨q,0,none⟩)]),[],⟨[],[]⟩⟩))=some (.chan (some E.Ch))):
 E.closes ⟨ro,[]⟩ (born E.P {target:= .fn (.func x.f) ⟨[.pointer (some ⟨E.Wg,0,none⟩),.pointer (some ⟨q,0,none⟩)]⟩,args:= #[]}):=by
 obtain⟨fn,hf,BB,T7⟩:=hx.fn
 obtain⟨hbf,sO,rz⟩:=hx.bf
 have hk:x.b.kind≠ .early:=by rw[sO];simp
 have Sr:∀g g',g.status= .running→g'.status= .running→(∀w,stepG E.P false g w= .go g' w #[])→E.closes ⟨ro,[]⟩ g'→E.closes ⟨ro,[]⟩ g:=
  fun g g' hg _ bW ⟨q,hq⟩=>⟨q+1,hg,g',fun w _=>bW w,hq⟩
 refine Sr _ _ rfl rfl (Jf (k9 hx.ff) _) ?_
 have Ik:(#[]++(⟨[.pointer (some ⟨E.Wg,0,none⟩),.pointer (some ⟨q,0,none⟩)]⟩:Array Value))= #[.pointer (some ⟨E.Wg,0,none⟩),.pointer (some ⟨q,0,none⟩)]:=by simp
 rw[Ik]
 refine WT (iv:=[]) (cs:=[cS E.P]) Sr (hx.enter _ _)<|I4 (E:=E) ?_ Sm hbs
 have hT:=dY E.P false E.KO
 show eJ E.P false E.KO (G ((aM x.b (A x.n (fO 0 [.pointer (some ⟨E.Wg,0,none⟩),.pointer (some ⟨q,0,none⟩)]) []) (.inRegion x.q0 (0::[])::[.code x.rest])).finish (.tuple #[])) [cS E.P]) ⟨ro,[]⟩
 rw[fK,hx.op0,aZ]
 simp only[Option.bind_some]
 rw[kg]
 refine ia hT ?_
 obtain⟨id,ahH⟩:=hx.rest
 refine dM (l:=[x.rest]) (k:=[]) hT ahH fun l2 rq=>?_
 have:=gv rq
 subst this
 rw[hx.size]
 have key:TT (eJ E.P false E.KO) x.b (.inRegion x.q1 (0::[1])::[]) [cS E.P] x.n [] ro (some ⟨.fin .normal,eZ x.o0.dst (.tuple #[]) (fO 0 [.pointer (some ⟨E.Wg,0,none⟩),.pointer (some ⟨q,0,none⟩)]),[],⟨[],[]⟩⟩):=by
  refine tLd hT (.chan (some E.Ch)) ho0 hg0 aP1 ht hk rz (q:=q) (t:=t) (fz:=fz) (fun _ _ _ _=> .inl hq) ?_ hy
  intro e w kn he bY
  refine eJ.stop ?_
  have hx2:ev x.n e x.cx= .chan (some E.Ch):=by
   rw[he] at hc
   exact aG hc
  obtain⟨ho,hg,ats,az⟩:=hx.op
  have hq:(E.P.funcs[x.b.fn]?).any (·.norace)=false:=by rw[hbf,hf];simpa using T7
  refine⟨rfl,?_,G (x.b.at (Act.put (A x.n e []) x.oc.dst (.tuple #[])) (.inRegion x.q1 []::[])) [cS E.P],fun w s r tm hc=>?_,4,?_⟩
  ·simp[mayWake,G,aM,ho,az]
  ·rw[Dw rz]
   have:=stepG_close (P:=E.P) (main:=false) (b:=x.b) (a:=A x.n e []) (kk:=[]) (cs:=[cS E.P]) (rest:=[]) ho (dC x.oc _ hg) hk az (by rw[ez];exact hx2) hc hq
   exact this
  rw[←Dw rz]
  refine .ctl (g':=G (aM x.b (Act.put (A x.n e []) x.oc.dst (.tuple #[])) []) [cS E.P]) rfl (fun w=>by simp[G,stepG,stepG.exec,aM])<|.ctl (g':=G {aM x.b (Act.put (A x.n e []) x.oc.dst (.tuple #[])) [] with mode:= .returning} [cS E.P]) rfl (fun w=>by simp[G,stepG,stepG.exec,aM,rz])<|oB rfl ?_ sO (by show E.P.funcs[x.b.fn]?=_;rw[hbf];exact hf) BB
  show (Act.put (A x.n e []) x.oc.dst (.tuple #[])).defers=[]
  rw[aZ];rfl
 exact key _ _ _ rfl fun x hx=>(by cases hx)
theorem jpF{V:Value}(lp:List Nat)(B:Cells)(Ia:Co X.P f=true)(hf:∀aH,Sub X.ro aH→Knows aH B→dK X.P f vs aH V)(hj:J X (Ob B V o))(h1:dL X.n (akZ X.n) o=some (f,vs):=by kernel_rfl)(h3:dS lp o=some B:=by kernel_rfl):J X o:=by
 refine jGN h1 h3 (fun s p e ho hh hc=>?_) hj
 have hcb:yW X.P X.n p e=some (f,vs):=by unfold yW;rw[hc];simp only[Ia,cond_true]
 obtain⟨ff,x,xs,at_,fi,ca,ws,az,hx,sM,rfl⟩:=q7 hcb
 rcases p with ⟨dst,op,ty,pos,dg,g⟩
 dsimp only at az;subst az
 refine⟨rfl,fun s0 HO vx ops i tF rest hw s' hs todo Q hk=>?_⟩
 have hez:Ext ⟨X.ro,B⟩ s':=fun b ob hb=>hs _ _ (hb.elim (fun h=>HO _ _ (.inl h)) fun h=>vx (b,ob) h)
 exact RF X.hC tF hw (bk hx) ff (x5 sM) (TK fi ws ca) hez (fun aH h1=>hf aH (GG h1) fun y hy=>h1 _ _ (.inr hy)) hk
def bgI(body:Code)(i:Nat):Option JS→Option (JS×Nat)
 |some ⟨.fin .normal,e,w,kn⟩=>match zt w i with
  |some (.b b (.loop r))=>match r.state with
   | .ready=>some (⟨.code body [],e,UK w i (.b b (.loop {r with state:= .busy})),kn⟩,b)
   |_=>none
  |_=>none
 |_=>none
theorem jbI(i:Nat)(h:J (X.re bl ro Φ) (Fu (bgI body i o)))(h1:UI (bgI body i o)=some bl:=by kernel_rfl):J (X.rd bl ro Φ body) o:=by
 unfold bgI at h h1
 split at h<;>try (simp only[Fu] at h;exact h.elim)
 rename_i e w kn
 split at h<;>try (simp only[Fu] at h;exact h.elim)
 rename_i b r hn
 split at h<;>try (simp only[Fu] at h;exact h.elim)
 rename_i bW
 simp only[hn,bW,UI,Option.some.injEq] at h1
 subst h1
 simp only[Fu] at h
 intro bY
 have hw:=h bY
 obtain⟨L,R,h2,h3⟩:=Bc hn
 simp only[JP,Cx.rd,Jk,DT]
 refine⟨L,r,R,h2,bW,?_⟩
 simp only[JP,h3] at hw
 exact hw
theorem tGe{b:Frame}{D:List Deferred}(h:TT T b AP cs n D ro (geO o)):TT T b AP cs n D ro o:=by
 rintro e w kn rfl bY
 have:=h e (.l []::w) kn (by simp only[geO]) bY
 rw[gA] at this
 exact this
def ae9:Option JS→Option JS
 |some ⟨.fin .normal,e,w,kn⟩=>some ⟨.fin .ret,e,w,kn⟩
 |_=>none
theorem atT{c:Code}{L:Cells}(hf:P.funcs[f]?=some fn) (hb:fn.body=some c) (hn:fn.ntmps=n) (hle:Nat.ble args.length n=true)
 (h:TT T (fr0 f .normal) ([c].map .code++[]) cs n [] ro (some ⟨.fin .normal,fO 0 args,[.l L],⟨[],[]⟩⟩)):T (G (Frame.enter P f ⟨args⟩ .normal) cs) ⟨ro,L⟩:=by
 have gZ:Frame.enter P f ⟨args⟩ .normal=aM (fr0 f .normal) (A n (fO 0 args) []) [.code c]:=by
  rw[←kT args n (Nat.le_of_ble_eq_true hle)]
  simp[Frame.enter,aM,hf,hb,hn,fr0]
 rw[gZ]
 exact h _ _ _ rfl fun x hx=>(by cases hx)
theorem aMo(hm:P.follows .mixedOrders=true)(hT:Closed P main T){cl:Frame}{Pu:List Frame}(v:Value)(hs ps:List Nat)(Y:Cells)(hf:P.funcs[f]?=some fn)
 (hk:T (G (cl.finish v) Pu) ⟨ro,Y⟩) (h1:rB (iy P n f hs (ae9 o))=some v:=by kernel_rfl) (h2:Qk (iy P n f hs (ae9 o))=Qj (iy P n f hs (ae9 o)):=by kernel_rfl) (h3:dS ps o=some Y:=by kernel_rfl):TT T (fr0 f .normal) (.code .ret::AP) (cl::Pu) n [] ro o:=by
 rintro e w kn rfl bY
 simp only[ae9] at h1 h2
 simp only[iy] at h1 h2
 cases hr:CC P n e w kn.c hs (qW P f).results.toList with
 |none=>simp only[hr,rB] at h1;cases h1
 |some x=>
  rcases x with ⟨vs,q⟩
  simp only[hr,rB,Option.some.injEq,Qk,Qj] at h1 h2
  have sN:=uf (X:=⟨P,fun m T'=>m=main∧T'=T,by rintro _ _ ⟨rfl,rfl⟩;exact hT,hm,f,none,n,[],ro,fun _ _ _=>True⟩) bY hr (mv h2)
  have hp:=bN h3
  have u9:qW P f=fn:=by simp only[qW,hf]
  have FU:=Q3 (s0:=⟨ro,Y⟩) (R:=fun en s'=>∃v,en= .returned v∧T (G (cl.finish v) Pu) s') (.inl rfl) sN h1 (dP hp (Sub.refl _)) ⟨v,rfl,hk⟩
  rw[u9] at FU
  refine hT.go rfl rfl (g':=G {aM (fr0 f .normal) (A n e []) (.code .ret::AP) with mode:= .returning} (cl::Pu)) (fun w=>by simp[G,stepG,stepG.exec,aM,fr0])<|tj (C:=CA P) (fun _ _ h=>h) (T:=T) hT hf (fr:={aM (fr0 f .normal) (A n e []) (.code .ret::AP) with mode:= .returning}) rfl rfl rfl rfl (R:=fun en s'=>∃v,en= .returned v∧T (G (cl.finish v) Pu) s') FU.2 (fun v s' hv=>?_)
  obtain⟨v',hv',ht⟩:=hv
  cases hv'
  exact ht
attribute [irreducible] Ze bkO bgI UP ae9
def Gb(P:Program)(f:FuncId)(args:List Value)(ro:Nat→Option Obj)(own:Cells)(Φ:Value→Cells→Prop):Prop:=
 ∀fr,Fn (C0 P) P f ⟨args⟩ ⟨ro,own++fr⟩ (fun en s'=>∃v Y,en= .returned v∧(⟨ro,Y++fr⟩:St).le s'∧Φ v Y)
theorem Gb.mono{own:Cells}{Φ':Value→Cells→Prop}(h:Gb P f args ro own Φ)(hk:∀v X,Φ v X→Φ' v X):Gb P f args ro own Φ':=
 fun fr=>Fn.mono (h fr) fun _ _ ⟨v,X,h1,h2,h3⟩=>⟨v,X,h1,h2,hk v X h3⟩
abbrev RC(ro:Nat→Option Obj)(fr:Cells)(Φ:Value→Cells→Prop):Ending→St→Prop:=fun en s'=>∃v Y,en= .returned v∧(⟨ro,Y++fr⟩:St).le s'∧Φ v Y
def XC(P:Program)(hm:P.follows .mixedOrders=true)(f:FuncId)(ro:Nat→Option Obj)(R:Ending→St→Prop):Cx:=⟨P,C0 P,ye,hm,f,none,(qW P f).ntmps,[],ro,r5 P (qW P f) R⟩
theorem qC{hm:P.follows .mixedOrders=true}:QR (XC P hm f ro R) R:=⟨rfl,rfl⟩
theorem MY(hC:∀main T,C main T→Closed P main T){c:Code}(hf:P.funcs[f]?=some fn) (hb:fn.body=some c) (hl:Nat.ble args.length fn.ntmps=true) (h:Wp C f none c (r5 P fn R) (A fn.ntmps (fO 0 args) []) s):Fn C P f ⟨args⟩ s R:=by
 refine Ta hC hf hb ?_
 have he:=kT args fn.ntmps (Nat.le_of_ble_eq_true hl)
 rw[←he] at h
 exact h
theorem HD(hm:P.follows .mixedOrders=true){L:Cells}(own:List Sg)(kn:Cells)(hk:Knows ro kn)(h:∀fr,J (XC P hm f ro (RC ro fr Φ)) (jI P f args (own++[.l fr]) kn))(hL:den own=L:=by rfl):Gb P f args ro L Φ:=by
 subst hL
 intro fr
 have h:=h fr
 unfold jI at h
 split at h<;>try exact h.elim
 rename_i fn hf
 split at h<;>try exact h.elim
 rename_i c hc
 cases hl:Nat.ble args.length fn.ntmps with
 |false=>rw[hl] at h;exact h.elim
 |true=>
  rw[hl] at h
  have u9:qW P f=fn:=by simp only[qW,hf]
  have:=h hk
  simp only[JP,XC,KQ,u9] at this
  have hd:den (own++[.l fr])=den own++fr:=by rw[lJ];rfl
  rw[hd] at this
  exact MY ye hf hc hl this
section
variable {X:Cx} {o:Option JS}
theorem P7{own:Cells}(ps:List Nat)(hC:∀main T,X.C main T→C0 X.P main T)(hf:Gb X.P f vs X.ro own Φ)(hj:∀v Y,Φ v Y→J X (nA ps v Y o))(h1:eY X.n (yW X.P X.n) o=some (f,vs):=by kernel_rfl)(h2:dS ps o=some own:=by kernel_rfl):J X o:=by
 obtain⟨ops,i,todo,k,e,w,kn,p,rfl,ho,hw,hc⟩:=dD h1
 obtain⟨ff,x,xs,at_,fi,ca,ws,az,hx,sM,rfl⟩:=q7 hc
 intro bY
 rcases p with ⟨dst,op,ty,pos,dg,g⟩
 dsimp only at az;subst az
 have hp:=bN h2
 have u9:Fn X.C X.P f ⟨fi++ws++ca⟩ ⟨X.ro,den w⟩ (fun en s'=>∃v Y,en= .returned v∧(⟨X.ro,Y++den (dI ps 0 w)⟩:St).le s'∧Φ v Y):=fun main T hT c cs k1 k2=>
  (X.hC main T hT).mono _ ⟨X.ro,own++den (dI ps 0 w)⟩ _ (dP (J:=[]) (by rw[List.append_nil];exact hp) (Sub.refl _)) (Fn.weaken hC (hf _) main T hT c cs k1 k2)
 refine uA (fi:=⟨fi⟩) (ca:=⟨ca⟩) (ws:=fi++ws++ca) X.hC ho hw hx ff sM (TK fi ws ca) u9 (fun v' s' hr=>?_) (fun ch s' hr=>by obtain⟨_,_,e,_⟩:=hr;cases e) (fun s' hr=>by obtain⟨_,_,e,_⟩:=hr;cases e)
 obtain⟨v,Y,hv,hle,qH⟩:=hr
 cases hv
 have:=hj _ Y qH
 rw[oF ho] at this
 have:=this bY
 simp only[JP,gA] at this
 exact this.more X.hC hle
theorem Vz(hq:QR X (RC pW fr Φ))(v:Value)(ps:List Nat)(Y:Cells)(fD:Sub pW X.ro)(hR:Φ v Y)(h1:rB (iy X.P X.n X.fn [] o)=some v:=by kernel_rfl)(h2:Qk (iy X.P X.n X.fn [] o)=Qj (iy X.P X.n X.fn [] o):=by kernel_rfl)(h3:dS ps o=some (Y++fr):=by kernel_rfl)(h4:Ar o=true:=by kernel_rfl):J X o:=
 aO hq v [] ps (Y++fr) fD ⟨v,Y,rfl,St.le_refl _,hR⟩ h1 h2 h3 h4
end
noncomputable def GR(P:Program)(g:FuncId):Func:=match J8 P g with
 |some (gn,_,_)=>gn
 |none=>default
noncomputable def J7(P:Program)(g:FuncId):Tmp:=match J8 P g with
 |some (_,t,_)=>t
 |none=>0
noncomputable def recC(P:Program)(g:FuncId):Code:=match J8 P g with
 |some (_,_,c)=>c
 |none=> .skip
def auo(P:Program)(g:FuncId):Bool:=(J8 P g).isSome
theorem anc(h:auo P g=true):J8 P g=some (GR P g,J7 P g,recC P g):=by
 unfold auo at h
 unfold GR J7 recC
 cases hr:J8 P g with
 |none=>rw[hr] at h;cases h
 |some x=>rcases x with ⟨a,b,c⟩;rfl
noncomputable def XD(P:Program)(hm:P.follows .mixedOrders=true)(f:FuncId)(ro:Nat→Option Obj)(R:Ending→St→Prop)(g:FuncId):Cx:=⟨P,CP P,eP,hm,f,none,(qW P f).ntmps,[],ro,Xc (CP P) P (qW P f) g (GR P g) (J7 P g) (recC P g) R⟩
theorem aOx(hm:P.follows .mixedOrders=true){L:Cells}(g:FuncId)(own:List Sg)(kn:Cells)(hk:Knows ro kn)(h:J (XD P hm f ro (RX ro Φ) g) (jI P f args own kn))(hL:den own=L:=by rfl)(ahI:auo P g=true:=by kernel_rfl):eg P f args ro L Φ:=by
 subst hL
 unfold jI at h
 split at h<;>try exact h.elim
 rename_i fn hf
 split at h<;>try exact h.elim
 rename_i c hc
 cases hl:Nat.ble args.length fn.ntmps with
 |false=>rw[hl] at h;exact h.elim
 |true=>
  rw[hl] at h
  have u9:qW P f=fn:=by simp only[qW,hf]
  have:=h hk
  simp only[JP,XD,KQ,u9] at this
  exact IG eP hf hc rfl hl (anc ahI) this
def dfV(n:Nat)(p:Oper)(e:Env):Option (FuncId×List Value):=match p.op with
 | .defer ⟨.value x,⟨[]⟩,⟨[]⟩⟩=>match bu n e x with
  |some (.func (.func f) ⟨[]⟩ ⟨ca⟩)=>some (f,ca)
  |_=>none
 |_=>none
theorem azi(h:dfV n p e=some (f,ca)):∃x,p.op= .defer ⟨.value x,#[],#[]⟩∧bu n e x=some (.func (.func f) ⟨[]⟩ ⟨ca⟩):=by
 unfold dfV at h
 split at h<;>try (cases h;done)
 rename_i x az
 split at h<;>try (cases h;done)
 rename_i hx
 cases h
 exact⟨x,az,hx⟩
def skO:Option JS→Option JS
 |some ⟨.ops ops (i::todo) k,e,w,kn⟩=>match ops[i]? with
  |some p=>some ⟨.ops ops todo k,upd p.dst undef e,w,kn⟩
  |none=>none
 |_=>none
def Si(t:Tmp)(rest:Code)(ca:List Value):Option JS→Option JS
 |some ⟨.fin _,_,w,kn⟩=>some ⟨.code rest [],upd (some t) .nilIface (fO 0 ca),w,⟨kn.c,[]⟩⟩
 |_=>none
def rwS:Option JS→Option (List Sg)
 |some s=>some s.rw
 |none=>none
section
variable {X:Cx} {o:Option JS}
theorem jdf(hj:J (X.wd ({target:= .fn (.func f) ⟨ca⟩,args:= #[]}::X.D)) (skO o))(h1:eY X.n (dfV X.n) o=some (f,ca):=by kernel_rfl)(hr:X.aA=none:=by rfl):J X o:=by
 obtain⟨ops,i,todo,k,e,w,kn,p,rfl,ho,hw,hc⟩:=dD h1
 obtain⟨x,az,hx⟩:=azi hc
 intro bY
 rcases p with ⟨dst,op,ty,pos,dg,g⟩
 dsimp only at az;subst az
 simp only[skO,ho] at hj
 have:=hj bY
 simp only[JP,TX] at this
 show ab X.C X.fn X.aA ops (i::todo) (KQ X k) (A X.n e X.D) ⟨X.ro,den w⟩
 rw[hr]
 have h2:(X.wd ({target:= .fn (.func f) ⟨ca⟩,args:= #[]}::X.D)).aA=none:=hr
 rw[h2] at this
 exact anI X.hC ho hw hx this
structure QD(X:Cx)(g:FuncId)(R:Ending→St→Prop)(ca:List Value):Prop where
 q:X.Q=Xc X.C X.P (qW X.P X.fn) g (GR X.P g) (J7 X.P g) (recC X.P g) R
 d:X.D=[{target:= .fn (.func g) ⟨ca⟩,args:= #[]}]
theorem jrD(hq:QD X g R ca)(v:Value)(hs ps:List Nat)(Y:Cells)(k:Nat)(fD:Sub pW X.ro)(hR:R (.returned v) ⟨pW,Y⟩)(hl:Nat.ble ca.length (GR X.P g).ntmps=true:=by kernel_rfl)
 (h1:rB (iy X.P X.n X.fn hs o)=some v:=by kernel_rfl)(h2:Qk (iy X.P X.n X.fn hs o)=Qj (iy X.P X.n X.fn hs o):=by kernel_rfl)(h3:dS ps o=some Y:=by kernel_rfl)(h4:Ar o=true:=by kernel_rfl)
 (h5:Ar (res (adv X.P (GR X.P g).ntmps k [] (Si (J7 X.P g) (recC X.P g) ca o)))=true:=by kernel_rfl)(h6:rwS (res (adv X.P (GR X.P g).ntmps k [] (Si (J7 X.P g) (recC X.P g) ca o)))=rwS o:=by kernel_rfl)
 (h7:lhs (adv X.P (GR X.P g).ntmps k [] (Si (J7 X.P g) (recC X.P g) ca o))=rhs (adv X.P (GR X.P g).ntmps k [] (Si (J7 X.P g) (recC X.P g) ca o)):=by kernel_rfl):J X o:=by
 obtain⟨ex,e,w,kn,rfl,hex⟩:=tL h4
 simp only[iy] at h1 h2
 cases hr:CC X.P X.n e w kn.c hs (qW X.P X.fn).results.toList with
 |none=>simp only[hr,rB] at h1;cases h1
 |some x=>
  rcases x with ⟨vs,q⟩
  simp only[hr,rB,Option.some.injEq,Qk,Qj] at h1 h2
  intro bY
  have sN:=uf bY hr (mv h2)
  have hp:=bN h3
  have FU:=Q3 (s0:=⟨pW,Y⟩) (R:=R) hex sN h1 (dP hp fD) hR
  have ht:bS X.P (results (qW X.P X.fn) (A X.n e X.D).tmps) ⟨X.ro,den w⟩ (fun v s'=>∃s0,s0.le s'∧R (.returned v) s0) (fun _ _=>False):=by
   rcases hex with rfl|rfl<;>exact FU.2
  show X.Q ex (A X.n e X.D) ⟨X.ro,den w⟩
  rw[hq.q]
  refine⟨hex.symm,ca,hl,hq.d,?_⟩
  let X2:Cx:=⟨X.P,X.C,X.hC,X.hm,g,none,(GR X.P g).ntmps,[],X.ro,fun e2 a2 s2=>(e2= .normal∨e2= .ret)∧a2.defers=[]∧bS X.P (results (qW X.P X.fn) (A X.n e X.D).tmps) s2 (fun v s3=>∃s0,s0.le s3∧R (.returned v) s0) (fun _ _=>False)⟩
  have hj:J X2 (Si (J7 X.P g) (recC X.P g) ca (some ⟨.fin ex,e,w,kn⟩)):=by
   refine jd k [] ?_ h7
   have h5':=h5
   have h6':=h6
   obtain⟨ex2,e2,w2,kn2,uJ,aQ0⟩:=tL h5'
   show J X2 (res (adv X.P (GR X.P g).ntmps k [] (Si (J7 X.P g) (recC X.P g) ca (some ⟨.fin ex,e,w,kn⟩))))
   rw[uJ] at h6' ⊢
   simp only[rwS,Option.some.injEq] at h6'
   subst h6'
   exact fun _=>⟨aQ0.symm,rfl,ht⟩
  simp only[Si] at hj
  exact hj bY
end
attribute [irreducible] skO Si rwS dfV
end Go.L
