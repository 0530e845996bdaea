/- Part 5 of the proof. -/
import Derived.Test.YtknkndglfcfhkaaGreatDoorQ4
set_option maxRecDepth 100000
set_option linter.all false
namespace Go.L
open Go Go.Conc
variable {ro px aD:Nat→Option Obj} {P:Program} {Φ:Value→Cells→Prop} {f g:FuncId} {R:Ending→St→Prop} {todo uy:List Nat} {El:(Nat→Option Obj)→Nat→List Value→Cells→Prop} {κ α ι:Type} {T:Goroutine→St→Prop} {vs ca args l z fi:List Value} {n sz i bD bl bd off r id dep N q:Nat} {b:ByteArray} {o o1:Option JS} {k Ag:List Item} {e rest:Env} {p:Oper} {s s':St} {ats:Array TypeId} {tm:Array Value} {cs:List Frame} {fn:Func} {X:Cx} {C:Class} {main ag:Bool} {fz:Nat×Nat} {E t U:TypeId} {as body:Code} {x y:Operand} {hi:Int} {lo:Option Int} {fr:Cells}
section
variable {X:Cx} {o:Option JS}
def Ow(n:Nat)(p:Oper)(e:Env):Option (BinOp×TypeId×Value×Value):=match p.op with
 | .binOp op T x y _=>match bp n e x with
  |some v=>match bp n e y with
   |some w=>some (op,T,v,w)
   |none=>none
  |none=>none
 |_=>none
theorem ux{op:BinOp}{T:TypeId}{v w:Value}(h:Ow n p e=some (op,T,v,w)):∃x y T',p.op= .binOp op T x y T'∧bp n e x=some v∧bp n e y=some w:=by
 unfold Ow at h
 split at h<;>try (cases h;done)
 rename_i ay
 split at h<;>try (cases h;done)
 rename_i hx
 split at h<;>try (cases h;done)
 rename_i hy
 cases h
 exact⟨_,_,_,ay,hx,hy⟩
theorem jsa{a:ByteArray}(T:TypeId)(hb:(a.size:Int)+b.size≤9223372036854775807)(hj:J X (jZ (.string (a++b)) o))(hv:dF X.n (Ow X.n) o=some (.add,T,.string a,.string b):=by kernel_rfl):J X o:=by
 refine Ts hv (fun s p e _ hf=>?_) hj
 obtain⟨x,y,T',ay,hx,hy⟩:=ux hf
 rcases p with ⟨dst,op,ty,pos,cZ,g⟩
 dsimp only at ay;subst ay
 exact fun s0 ops i s9 rest hw s' hs todo Q hk=>auF X.hC s9 hw (bh hx) (bh hy) hb hk
theorem jrm{k:IntKind}{a b:Int}(T:TypeId)(hb:b≠0)(hj:J X (jZ (.int k (a.tmod b)) o))(hv:dF X.n (Ow X.n) o=some (.rem,T,.int k a,.int k b):=by kernel_rfl):J X o:=by
 refine Ts hv (fun s p e _ hf=>?_) hj
 obtain⟨x,y,T',ay,hx,hy⟩:=ux hf
 rcases p with ⟨dst,op,ty,pos,cZ,g⟩
 dsimp only at ay;subst ay
 exact fun s0 ops i s9 rest hw s' hs todo Q hk=>aDn X.hC s9 hw (bh hx) (bh hy) hb hk
theorem jsr{k k':IntKind}{a b:Int}(T:TypeId)(hb:0≤b)(hj:J X (jZ (.int k (aT k a b)) o))(hv:dF X.n (Ow X.n) o=some (.shr,T,.int k a,.int k' b):=by kernel_rfl):J X o:=by
 refine Ts hv (fun s p e _ hf=>?_) hj
 obtain⟨x,y,T',ay,hx,hy⟩:=ux hf
 rcases p with ⟨dst,op,ty,pos,cZ,g⟩
 dsimp only at ay;subst ay
 exact fun s0 ops i s9 rest hw s' hs todo Q hk=>aDl X.hC s9 hw (bh hx) (bh hy) hb hk
theorem jsh{k k':IntKind}{a b:Int}(T:TypeId)(hb:0≤b)(hj:J X (jZ (.int k (dv k a b)) o))(hv:dF X.n (Ow X.n) o=some (.shl,T,.int k a,.int k' b):=by kernel_rfl):J X o:=by
 refine Ts hv (fun s p e _ hf=>?_) hj
 obtain⟨x,y,T',ay,hx,hy⟩:=ux hf
 rcases p with ⟨dst,op,ty,pos,cZ,g⟩
 dsimp only at ay;subst ay
 exact fun s0 ops i s9 rest hw s' hs todo Q hk=>aDm X.hC s9 hw (bh hx) (bh hy) hb hk
theorem jeq{T:TypeId}{m:List Value}{r:Bool}(hg:og X.P T)(he:EqV X.P T (.agg ⟨l⟩) (.agg ⟨m⟩) r)(hj:J X (jZ (.bool r) o))(hv:dF X.n (Ow X.n) o=some (.eql,T,.agg ⟨l⟩,.agg ⟨m⟩):=by kernel_rfl):J X o:=by
 refine Ts hv (fun s p e _ hf=>?_) hj
 obtain⟨x,y,T',ay,hx,hy⟩:=ux hf
 rcases p with ⟨dst,op,ty,pos,cZ,g⟩
 dsimp only at ay;subst ay
 exact fun s0 ops i s9 rest hw s' hs todo Q hk=>am2 X.hC s9 hw (bh hx) (bh hy) hg he hk
theorem jne{T:TypeId}{m:List Value}{r:Bool}(hg:og X.P T)(he:EqV X.P T (.agg ⟨l⟩) (.agg ⟨m⟩) r)(hj:J X (jZ (.bool !r) o))(hv:dF X.n (Ow X.n) o=some (.neq,T,.agg ⟨l⟩,.agg ⟨m⟩):=by kernel_rfl):J X o:=by
 refine Ts hv (fun s p e _ hf=>?_) hj
 obtain⟨x,y,T',ay,hx,hy⟩:=ux hf
 rcases p with ⟨dst,op,ty,pos,cZ,g⟩
 dsimp only at ay;subst ay
 exact fun s0 ops i s9 rest hw s' hs todo Q hk=>afD X.hC s9 hw (bh hx) (bh hy) hg he hk
def G5(P:Program)(T:TypeId):Bool:=match aZ P T with
 |some ⟨.slice _,_,_,_⟩=>true
 |_=>false
theorem G4{T:TypeId}(h:G5 P T=true):∃E sz bD z ag,TF P T (.slice E) sz bD z ag:=by
 unfold G5 at h
 split at h<;>try (cases h;done)
 rename_i dL
 obtain⟨bD,tf⟩:=av dL
 exact⟨_,_,_,_,_,tf⟩
theorem jsn{a:Option Addr}{l c:Nat}(T:TypeId)(hj:J X (jZ (.bool a.isNone) o))(hv:dF X.n (Ow X.n) o=some (.eql,T,.slice a l c,.slice none 0 0):=by kernel_rfl)(hT:G5 X.P T=true:=by kernel_rfl):J X o:=by
 refine Ts hv (fun s p e _ hf=>?_) hj
 obtain⟨x,y,T',ay,hx,hy⟩:=ux hf
 obtain⟨E,sz,bD,z,ag,tf⟩:=G4 hT
 rcases p with ⟨dst,op,ty,pos,cZ,g⟩
 dsimp only at ay;subst ay
 exact fun s0 ops i s9 rest hw s' hs todo Q hk=>amX X.hC s9 hw tf (bh hx) (bh hy) hk
def En(n:Nat)(e:Env):Option Operand→Option (Option Int)
 |none=>some none
 |some x=>match bp n e x with
  |some (.int _ a)=>some (some a)
  |_=>none
def aem(P:Program)(n:Nat)(p:Oper)(e:Env):Option (ByteArray×Option Int×Option Int):=match p.op with
 | .slice T x y z none=>match aZ P T with
  |some ⟨.string,_,_,_⟩=>match bp n e x with
   |some (.string b)=>match En n e y with
    |some lo=>match En n e z with
     |some hi=>some (b,lo,hi)
     |none=>none
    |none=>none
   |_=>none
  |_=>none
 |_=>none
def amk(P:Program)(n:Nat)(p:Oper)(e:Env):Option (Value×Option Int×Option Int×Nat):=match p.op with
 | .slice T x y z none=>match aZ P T with
  |some ⟨.slice E,_,_,_⟩=>match aZ P E with
   |some te=>match bp n e x with
    |some v=>match En n e y with
     |some lo=>match En n e z with
      |some hi=>some (v,lo,hi,te.size)
      |none=>none
     |none=>none
    |none=>none
   |none=>none
  |_=>none
 |_=>none
theorem nF{x:Option Operand}{a:Int}(h:En n e x=some (some a)):∃y k,x=some y∧bp n e y=some (.int k a):=by
 unfold En at h
 split at h
 ·cases h
 split at h<;>try (cases h;done)
 rename_i hx
 cases h
 exact⟨_,_,rfl,hx⟩
theorem Cj{x:Option Operand}(h:En n e x=some none):x=none:=by
 unfold En at h
 split at h
 ·rfl
 split at h<;>cases h
theorem Mw{hi:Option Int}(h:aem P n p e=some (b,lo,hi)):∃T x y z sz bD zz ag,p.op= .slice T x y z none∧TF P T .string sz bD zz ag∧bp n e x=some (.string b)∧En n e y=some lo∧En n e z=some hi:=by
 unfold aem at h
 split at h<;>try (cases h;done)
 rename_i ay
 split at h<;>try (cases h;done)
 rename_i dL
 obtain⟨bD,tf⟩:=av dL
 split at h<;>try (cases h;done)
 rename_i hx
 split at h<;>try (cases h;done)
 rename_i hy
 split at h<;>try (cases h;done)
 rename_i hz
 cases h
 exact⟨_,_,_,_,_,_,_,_,ay,tf,hx,hy,hz⟩
theorem Xy{v:Value}{hi:Option Int}{k:Nat}(h:amk P n p e=some (v,lo,hi,k)):∃T x y z E sz bD zz ag d Bx z2 ag2,p.op= .slice T x y z none∧TF P T (.slice E) sz bD zz ag∧TF P E d k Bx z2 ag2∧bp n e x=some v∧En n e y=some lo∧En n e z=some hi:=by
 unfold amk at h
 split at h<;>try (cases h;done)
 rename_i ay
 split at h<;>try (cases h;done)
 rename_i dL
 obtain⟨bD,tf⟩:=av dL
 split at h<;>try (cases h;done)
 rename_i te ug
 obtain⟨Bx,qP⟩:=av ug
 split at h<;>try (cases h;done)
 rename_i hx
 split at h<;>try (cases h;done)
 rename_i hy
 split at h<;>try (cases h;done)
 rename_i hz
 cases h
 exact⟨_,_,_,_,_,_,_,_,_,_,_,_,_,ay,tf,qP,hx,hy,hz⟩
theorem jtB{lo:Int}(hl:0≤lo∧lo≤hi∧hi≤b.size)(hj:J X (jZ (.string (b.extract lo.toNat hi.toNat)) o))(hv:dF X.n (aem X.P X.n) o=some (b,some lo,some hi):=by kernel_rfl):J X o:=by
 refine Ts hv (fun s p e _ hf=>?_) hj
 obtain⟨T,x,y,z,sz,bD,zz,ag,ay,tf,hx,hy,hz⟩:=Mw hf
 obtain⟨y,k,rfl,G6⟩:=nF hy
 obtain⟨z,k',rfl,hz1⟩:=nF hz
 rcases p with ⟨dst,op,ty,pos,cZ,g⟩
 dsimp only at ay;subst ay
 exact fun s0 ops i s9 rest hw s' hs todo Q hk=>UP X.hC s9 hw tf (bh hx) (bh G6) (bh hz1) hl hk
theorem jtH(hl:0≤hi∧hi≤b.size)(hj:J X (jZ (.string (b.extract 0 hi.toNat)) o))(hv:dF X.n (aem X.P X.n) o=some (b,none,some hi):=by kernel_rfl):J X o:=by
 refine Ts hv (fun s p e _ hf=>?_) hj
 obtain⟨T,x,y,z,sz,bD,zz,ag,ay,tf,hx,hy,hz⟩:=Mw hf
 have hy:=Cj hy;subst hy
 obtain⟨z,k',rfl,hz1⟩:=nF hz
 rcases p with ⟨dst,op,ty,pos,cZ,g⟩
 dsimp only at ay;subst ay
 exact fun s0 ops i s9 rest hw s' hs todo Q hk=>QJ X.hC s9 hw tf (bh hx) (bh hz1) hl hk
theorem jtL{lo:Int}(hl:0≤lo∧lo≤b.size)(hj:J X (jZ (.string (b.extract lo.toNat b.size)) o))(hv:dF X.n (aem X.P X.n) o=some (b,some lo,none):=by kernel_rfl):J X o:=by
 refine Ts hv (fun s p e _ hf=>?_) hj
 obtain⟨T,x,y,z,sz,bD,zz,ag,ay,tf,hx,hy,hz⟩:=Mw hf
 have hz:=Cj hz;subst hz
 obtain⟨y,k,rfl,G6⟩:=nF hy
 rcases p with ⟨dst,op,ty,pos,cZ,g⟩
 dsimp only at ay;subst ay
 exact fun s0 ops i s9 rest hw s' hs todo Q hk=>QI X.hC s9 hw tf (bh hx) (bh G6) hl hk
theorem jcH{v:Value}{enc:α→List Value}{ps:List α}(hs:bC X.ro v sz enc ps)(hl:0≤hi∧hi≤ps.length)(hj:∀v',bC X.ro v' sz enc (ps.take hi.toNat)→J X (jZ v' o))(hv:dF X.n (amk X.P X.n) o=some (v,none,some hi,sz):=by kernel_rfl):J X o:=by
 obtain⟨a,b,off,cap,rfl,h2,h3,h4⟩:=id hs
 have hp:=bC.part hs (l:=0) (h:=hi.toNat) (by omega) (by omega)
 rw[List.drop_zero] at hp
 refine Ts hv (fun s p e _ hf=>?_) (hj _ hp)
 obtain⟨T,x,y,z,E,s1,bD,zz,ag,d,Bx,z2,ag2,ay,tf,qP,hx,hy,hz⟩:=Xy hf
 have hy:=Cj hy;subst hy
 obtain⟨z,k',rfl,hz1⟩:=nF hz
 rcases p with ⟨dst,op,ty,pos,cZ,g⟩
 dsimp only at ay;subst ay
 intro s0 ops i s9 rest hw s' mX todo Q hk
 refine bV X.hC s9 hw (by simp) ?_
 have hb:0≤hi∧hi≤(cap:Int):=by omega
 have fP:(0:Int)≤0∧(0:Int)≤(hi.toNat:Int):=by omega
 rw[←aY] at hk
 simp only[execOp,Option.map_some,Option.map_none,Instr.sliceAt,Instr.slice,aH (bh (rest:=rest) hx),aH (bh (rest:=rest) hz1),aa,a8 tf,Instr.sliceBounds,Instr.sliceBound,asIntOf,ae,hb,fP,and_self,if_true,cv qP]
 exact hk
theorem jcB{v:Value}{enc:α→List Value}{ps:List α}{lo:Int}(hs:bC X.ro v sz enc ps)(hl:0≤lo∧lo≤hi∧hi≤ps.length)(hj:∀v',bC X.ro v' sz enc ((ps.take hi.toNat).drop lo.toNat)→J X (jZ v' o))(hv:dF X.n (amk X.P X.n) o=some (v,some lo,some hi,sz):=by kernel_rfl):J X o:=by
 obtain⟨a,b,off,cap,rfl,h2,h3,h4⟩:=id hs
 have hp:=bC.part hs (l:=lo.toNat) (h:=hi.toNat) (by omega) (by omega)
 refine Ts hv (fun s p e _ hf=>?_) (hj _ hp)
 obtain⟨T,x,y,z,E,s1,bD,zz,ag,d,Bx,z2,ag2,ay,tf,qP,hx,hy,hz⟩:=Xy hf
 obtain⟨y,k,rfl,G6⟩:=nF hy
 obtain⟨z,k',rfl,hz1⟩:=nF hz
 rcases p with ⟨dst,op,ty,pos,cZ,g⟩
 dsimp only at ay;subst ay
 intro s0 ops i s9 rest hw s' mX todo Q hk
 refine bV X.hC s9 hw (by simp) ?_
 have hb:0≤hi∧hi≤(cap:Int):=by omega
 have fP:0≤lo∧lo≤(hi.toNat:Int):=by omega
 rw[←aY] at hk
 simp only[execOp,Option.map_some,Option.map_none,Instr.sliceAt,Instr.slice,aH (bh (rest:=rest) hx),aH (bh (rest:=rest) G6),aH (bh (rest:=rest) hz1),aa,a8 tf,Instr.sliceBounds,Instr.sliceBound,asIntOf,ae,hb,fP,and_self,if_true,cv qP]
 exact hk
def lnV(P:Program)(n:Nat)(p:Oper)(e:Env):Option Value:=match p.op with
 | .call ⟨.builtin .len,⟨[x]⟩,⟨[T]⟩⟩=>bif G5 P T then bp n e x else none
 |_=>none
theorem CG{v:Value}{T2:TypeId}{enc:α→List Value}{ps:List α}{L:Cells}(kK:aw v sz T2 enc ps L)(hj:J X (jZ (.int .i64 ps.length) o))(hv:dF X.n (lnV X.P X.n) o=some v:=by kernel_rfl):J X o:=by
 refine Ts hv (fun s p e _ hf=>?_) hj
 unfold lnV at hf
 split at hf<;>try (cases hf;done)
 rename_i x T ay
 cases hT:G5 X.P T with
 |false=>rw[hT] at hf;cases hf
 |true=>
  rw[hT] at hf;simp only[cond_true] at hf
  obtain⟨E,s1,bD,z,ag,tf⟩:=G4 hT
  rcases p with ⟨dst,op,ty,pos,cZ,g⟩
  dsimp only at ay;subst ay
  exact fun s0 ops i s9 rest hw s' hs todo Q hk=>afE X.hC s9 hw tf (bh hf) kK hk
def abf(ps:List Nat)(v:Value)(L':Cells):Option JS→Option JS:=m9 ps v L'
theorem Ya{ops:Array Oper}{k:List KI}{w:List Sg}{kn:Kn}{ps:List Nat}{v:Value}{L':Cells}(ho:ops[i]?=some p):abf ps v L' (some ⟨.ops ops (i::todo) k,e,w,kn⟩)=some ⟨.ops ops todo k,upd p.dst v e,.l L'::dC ps 0 w,kn⟩:=by
 unfold abf
 simp only[oe ho]
def amh(P:Program)(n:Nat)(p:Oper)(e:Env):Option (Addr×List Value×Nat):=match p.op with
 | .store T x y=>match aZ P T with
  |some ti=>match bp n e x with
   |some (.pointer (some a))=>match bp n e y with
    |some v=>some (a,dP v,ti.size)
    |none=>none
   |_=>none
  |none=>none
 |_=>none
theorem Xw{a:Addr}(h:amh P n p e=some (a,l,sz)):∃T x y d bD z ag v,p.op= .store T x y∧TF P T d sz bD z ag∧bp n e x=some (.pointer (some a))∧bp n e y=some v∧v.cells=⟨l⟩:=by
 unfold amh at h
 split at h<;>try (cases h;done)
 rename_i ay
 split at h<;>try (cases h;done)
 rename_i ti dL
 obtain⟨bD,tf⟩:=av dL
 split at h<;>try (cases h;done)
 rename_i hx
 split at h<;>try (cases h;done)
 rename_i hy
 cases h
 exact⟨_,_,_,_,_,_,_,_,ay,tf,hx,hy,by rw[mg]⟩
theorem E8{v:Value}{enc:α→List Value}{ps:List α}{L:Cells}{b k:Nat}{a:α}(i f:Nat)(c:List Value)(e:α)(kK:aw v sz E enc ps L)(hb:OJ v b)(hk:ps[k]?=some a) (he:enc e=dA (enc a) f c) (h1:c.all single=true) (hf:f+c.length≤sz) (hj:∀L',aw v sz E enc (ps.set k e) L'→J X (abf [i] undef L' o)) (hv:eR X.n (amh X.P X.n) o=some (⟨b,k*sz+f,none⟩,c,c.length):=by kernel_rfl) (h2:dM [i] o=some L:=by kernel_rfl):J X o:=by
 obtain⟨ops,i0,todo,kk,ev,w,kn,p,rfl,ho,hw,hc⟩:=dz hv
 obtain⟨T,x,y,d,bD,z,ag,u,ay,tf,hx,hy,hu⟩:=Xw hc
 intro bY
 rcases p with ⟨dst,op,ty,pos,cZ,g⟩
 dsimp only at ay;subst ay
 refine wj X.hC (bJ h2)<|aDh X.hC ho hw tf hx hy hu rfl (List.all_eq_true.1 h1) kK hb hk he hf fun L' hL'=>?_
 have:=hj L' hL'
 rw[Ya ho] at this
 have:=this bY
 simp only[JP,gp] at this
 exact this
def apV(P:Program)(n:Nat)(p:Oper)(e:Env):Option (Value×Value×TypeId×Nat):=match p.op with
 | .call ⟨.builtin .append,⟨[x,y]⟩,⟨[T,U]⟩⟩=>match aZ P T with
  |some ⟨.slice E,_,_,_⟩=>bif G5 P U then (match aZ P E with
   |some te=>match P.info? E with
    |some ie=>bif Nat.beq te.zero.length te.size&&Nat.ble ie.bytes 65536 then (match bp n e x with
     |some v=>match bp n e y with
      |some w=>some (v,w,E,te.size)
      |none=>none
     |none=>none) else none
    |none=>none
   |none=>none) else none
  |_=>none
 |_=>none
theorem ay7{v w:Value}(h:apV P n p e=some (v,w,E,sz)):∃x y T U s1 b1 z1 a1 E2 s2 b2 z2 a2 d bD z ag,p.op= .call ⟨.builtin .append,#[x,y],#[T,U]⟩∧TF P T (.slice E) s1 b1 z1 a1∧TF P U (.slice E2) s2 b2 z2 a2∧TF P E d sz bD z ag∧z.length=sz∧bD≤65536∧bp n e x=some v∧bp n e y=some w:=by
 unfold apV at h
 split at h<;>try (cases h;done)
 rename_i x y T U ay
 split at h<;>try (cases h;done)
 rename_i E' _ _ _ dL
 obtain⟨b1,tf1⟩:=av dL
 cases hU:G5 P U with
 |false=>rw[hU] at h;cases h
 |true=>
  rw[hU] at h;simp only[cond_true] at h
  obtain⟨E2,s2,b2,z2,a2,qP⟩:=G4 hU
  split at h<;>try (cases h;done)
  rename_i te ug
  obtain⟨b3,tf3⟩:=av ug
  split at h<;>try (cases h;done)
  rename_i ie hie
  cases hb:(Nat.beq te.zero.length te.size&&Nat.ble ie.bytes 65536) with
  |false=>rw[hb] at h;cases h
  |true=>
   rw[hb] at h;simp only[cond_true] at h
   split at h<;>try (cases h;done)
   rename_i hx
   split at h<;>try (cases h;done)
   rename_i hy
   simp only[Option.some.injEq,Prod.mk.injEq] at h
   obtain⟨rfl,rfl,rfl,rfl⟩:=h
   simp only[Bool.and_eq_true,Nat.ble_eq] at hb
   obtain⟨i2,g1,_,g3,_⟩:=tf3.info
   rw[hie] at g1;cases g1
   exact⟨x,y,T,U,_,b1,_,_,E2,s2,b2,z2,a2,_,b3,_,_,ay,tf1,qP,tf3,Nat.eq_of_beq_eq_true hb.1,by omega,hx,hy⟩
theorem iE{v w:Value}{enc:α→List Value}{ps qs:List α}{L:Cells}(is lp:List Nat)(B:Cells)(kK:aw v sz E enc ps L)(He:∀s:St,Ext ⟨X.ro,[]⟩ s→(∀x∈B,s.has x.1 x.2)→Sl s w sz enc qs)(hq:∀p∈qs,∀c∈enc p,single c=true)(hb:ps.length+qs.length≤1048576)(hj:∀v' L',aw v' sz E enc (ps++qs) L'→J X (abf is v' L' o))
 (hv:eR X.n (apV X.P X.n) o=some (v,w,E,sz):=by kernel_rfl)(h2:dM is o=some L:=by kernel_rfl)(h3:dM lp o=some B:=by kernel_rfl):J X o:=by
 obtain⟨ops,i0,todo,kk,ev,w0,kn,p,rfl,ho,hw,hc⟩:=dz hv
 obtain⟨x,y,T,U,s1,b1,z1,a1,E2,s2,b2,z2,a2,d,bD,z,ag,ay,tf1,qP,tf3,hz,hby,hx,hy⟩:=ay7 hc
 intro bY
 rcases p with ⟨dst,op,ty,pos,cZ,g⟩
 dsimp only at ay;subst ay
 have hp:=bJ h2
 refine wj X.hC hp<|oap X.hC ho hw tf1 qP tf3 hz hx hy kK (He _ N7 fun u hu=>?_) hq ⟨hb,hby⟩ fun v' L' hL'=>?_
 ·rcases SL (X:=X) h3 u hu with h|h
  ·exact .inl h
  exact .inr (hp.mem_iff.1 h)
 have:=hj v' L' hL'
 rw[Ya ho] at this
 have:=this bY
 simp only[JP,gp] at this
 exact this
theorem aOC{w:Value}(enc:α→List Value){qs:List α}(lp:List Nat)(B:Cells)(He:∀s:St,Ext ⟨X.ro,[]⟩ s→(∀x∈B,s.has x.1 x.2)→Sl s w sz enc qs)(hq:∀p∈qs,∀c∈enc p,single c=true)(hb:qs.length≤1048576)(hj:∀v' L',aw v' sz E enc qs L'→J X (abf [] v' L' o))
 (hv:eR X.n (apV X.P X.n) o=some (.slice none 0 0,w,E,sz):=by kernel_rfl)(h3:dM lp o=some B:=by kernel_rfl)(h2:dM [] o=some []:=by kernel_rfl):J X o:=
 iE (ps:=[]) [] lp B (aw.nil sz E enc) He hq (by simpa using hb) (fun v' L' h=>hj v' L' h) hv h2 h3
end
attribute [irreducible] abf
section
variable {X:Cx} {o:Option JS}
def nxV(n:Nat)(p:Oper)(e:Env):Option Nat:=match p.op with
 | .next x true=>match bp n e x with
  |some (.pointer (some ⟨r,0,none⟩))=>some r
  |_=>none
 |_=>none
theorem afK(h:nxV n p e=some r):∃x,p.op= .next x true∧bp n e x=some (.pointer (some ⟨r,0,none⟩)):=by
 unfold nxV at h
 split at h<;>try (cases h;done)
 rename_i ay
 split at h<;>try (cases h;done)
 rename_i hx
 cases h
 exact⟨_,ay,hx⟩
def Un(i:Nat)(v:Value)(b:Nat)(ob:Obj):Option JS→Option JS
 |some ⟨.ops ops (j::todo) k,e,w,kn⟩=>match ops[j]? with
  |some p=>some ⟨.ops ops todo k,upd p.dst v e,.b b ob::dC [i] 0 w,kn⟩
  |none=>none
 |_=>none
theorem jnA{p:Nat}{c:UInt8}(r i:Nat)(hp:b.data.toList[p]?=some c) (ha:c.toNat <128) (hj:J X (Un i (.tuple ⟨[.bool true,.int .i64 p,.int .i32 c.toNat]⟩) r (.stringIter b (p+1)) o))
 (hv:eR X.n (nxV X.n) o=some r:=by kernel_rfl) (hB:dM [i] o=some [(r,.stringIter b p)]:=by kernel_rfl):J X o:=by
 obtain⟨ops,i0,todo,kk,ev,w0,kn,q,rfl,ho,hw,hc⟩:=dz hv
 obtain⟨x,ay,hx⟩:=afK hc
 intro bY
 rcases q with ⟨dst,op,ty,pos,cZ,g⟩
 dsimp only at ay;subst ay
 refine wj X.hC (bJ hB) (am1 X.hC ho hw hx hp ha ?_)
 simp only[Un,ho] at hj
 have:=hj bY
 simp only[JP,iH] at this
 exact this
theorem jnZ{p:Nat}(r i:Nat)(hp:b.data.toList[p]?=none) (hj:J X (Un i (.tuple ⟨[.bool false]⟩) r (.stringIter b p) o))
 (hv:eR X.n (nxV X.n) o=some r:=by kernel_rfl) (hB:dM [i] o=some [(r,.stringIter b p)]:=by kernel_rfl):J X o:=by
 obtain⟨ops,i0,todo,kk,ev,w0,kn,q,rfl,ho,hw,hc⟩:=dz hv
 obtain⟨x,ay,hx⟩:=afK hc
 intro bY
 rcases q with ⟨dst,op,ty,pos,cZ,g⟩
 dsimp only at ay;subst ay
 refine wj X.hC (bJ hB) (am0 X.hC ho hw hx hp ?_)
 simp only[Un,ho] at hj
 have:=hj bY
 simp only[JP,iH] at this
 exact this
theorem jcG{own:Cells}{Φ:Value→(Nat→Option Obj)→Cells→Prop}(ps:List Nat)(hf:FnG X.P f vs X.ro own Φ)(hj:∀v aD Y,Sub X.ro aD→Φ v aD Y→J (X.at aD) (m9 ps v Y o))(h1:eR X.n (yz X.P X.n) o=some (f,vs):=by kernel_rfl)(h2:dM ps o=some own:=by kernel_rfl):J X o:=by
 obtain⟨ops,i,todo,k,e,w,kn,p,rfl,ho,hw,hc⟩:=dz h1
 obtain⟨ff,x,xs,at_,fi,ca,ws,ay,hx,rZ,rfl⟩:=qE hc
 intro bY
 rcases p with ⟨dst,op,ty,pos,cZ,g⟩
 dsimp only at ay;subst ay
 have hp:=bJ h2
 refine tY (fi:=⟨fi⟩) (ca:=⟨ca⟩) (ws:=fi++ws++ca) X.hC ho hw hx ff rZ (S7 fi ws ca) (Fn.weaken X.hC (FnG.use (s:=⟨X.ro,den w⟩) hp hf)) (fun v' s' hr=>?_) (fun ch s' hr=>by obtain⟨_,_,_,e,_⟩:=hr;cases e) (fun s' hr=>by obtain⟨_,_,_,e,_⟩:=hr;cases e)
 obtain⟨v,aD,Y,hv,hs,pz,hle⟩:=hr
 cases hv
 have:=hj _ aD Y hs pz
 rw[oe ho] at this
 have:=this (bY.up hs)
 simp only[JP,gp,IJ] at this
 exact this.more X.hC hle
def ajA(n:Nat)(p:Oper)(e:Env):Option (FuncId×List Value):=match p.op with
 | .call ⟨.value (.func f),xs,_⟩=>match yc n e xs.toList with
  |some vs=>some (f,vs)
  |none=>none
 |_=>none
theorem N8(h:ajA n p e=some (f,vs)):∃xs at_,p.op= .call ⟨.value (.func f),xs,at_⟩∧yc n e xs.toList=some vs:=by
 unfold ajA at h
 split at h<;>try (cases h;done)
 rename_i ay
 split at h<;>try (cases h;done)
 rename_i hx
 cases h
 exact⟨_,_,ay,hx⟩
theorem jib{a:ByteArray}{b:Int}(ef:EF X.P f Extern.BytealgIndexByte.indexByte)(hj:J X (jZ (.int .i64 (Ri a b.toNat.toUInt8)) o))(hv:dF X.n (ajA X.n) o=some (f,[.string a,.int .u8 b]):=by kernel_rfl):J X o:=by
 refine jGS hv (fun s p e _ hf=>?_) hj
 obtain⟨xs,at_,ay,hx⟩:=N8 hf
 rcases p with ⟨dst,op,ty,pos,cZ,g⟩
 dsimp only at ay;subst ay
 exact⟨fun ops i s9 rest hw s' hs todo Q hk=>afF X.hC s9 hw ef (xI hx) hk,fun hk=>by cases hk⟩
theorem aOs{v:Value}(ef:EF X.P f Extern.AbiNoEscape.same)(hj:J X (jZ v o))(hv:dF X.n (ajA X.n) o=some (f,[v]):=by kernel_rfl):J X o:=by
 refine jGS hv (fun s p e _ hf=>?_) hj
 obtain⟨xs,at_,ay,hx⟩:=N8 hf
 rcases p with ⟨dst,op,ty,pos,cZ,g⟩
 dsimp only at ay;subst ay
 exact⟨fun ops i s9 rest hw s' hs todo Q hk=>amZ X.hC s9 hw ef (xI hx) hk,fun hk=>by cases hk⟩
def mmV(n:Nat)(p:Oper)(e:Env):Option (Bool×Value×Value):=match p.op with
 | .call ⟨.builtin .min,⟨[x,y]⟩,⟨[_,_]⟩⟩=>match bp n e x with
  |some v=>match bp n e y with
   |some w=>some (true,v,w)
   |none=>none
  |none=>none
 | .call ⟨.builtin .max,⟨[x,y]⟩,⟨[_,_]⟩⟩=>match bp n e x with
  |some v=>match bp n e y with
   |some w=>some (false,v,w)
   |none=>none
  |none=>none
 |_=>none
theorem jmn{k:IntKind}{a b:Int}(hj:J X (jZ (.int k (min a b)) o))(hv:dF X.n (mmV X.n) o=some (true,.int k a,.int k b):=by kernel_rfl):J X o:=by
 refine Ts hv (fun s p e _ hf=>?_) hj
 unfold mmV at hf
 split at hf<;>try (cases hf;done)
 ·rename_i ay
  split at hf<;>try (cases hf;done)
  rename_i hx
  split at hf<;>try (cases hf;done)
  rename_i hy
  cases hf
  rcases p with ⟨dst,op,ty,pos,cZ,g⟩
  dsimp only at ay;subst ay
  exact fun s0 ops i s9 rest hw s' hs todo Q hk=>auI X.hC s9 hw (bh hx) (bh hy) hk
 split at hf<;>try (cases hf;done)
 split at hf<;>cases hf
theorem jmx{k:IntKind}{a b:Int}(hj:J X (jZ (.int k (max a b)) o))(hv:dF X.n (mmV X.n) o=some (false,.int k a,.int k b):=by kernel_rfl):J X o:=by
 refine Ts hv (fun s p e _ hf=>?_) hj
 unfold mmV at hf
 split at hf<;>try (cases hf;done)
 ·split at hf<;>try (cases hf;done)
  split at hf<;>cases hf
 rename_i ay
 split at hf<;>try (cases hf;done)
 rename_i hx
 split at hf<;>try (cases hf;done)
 rename_i hy
 cases hf
 rcases p with ⟨dst,op,ty,pos,cZ,g⟩
 dsimp only at ay;subst ay
 exact fun s0 ops i s9 rest hw s' hs todo Q hk=>auJ X.hC s9 hw (bh hx) (bh hy) hk
theorem jsx(i b off:Nat)(c l:List Value)(t:TypeId)(h1:∀v∈l,single v=true)(hb:Nat.ble (off+l.length) c.length=true)(hj:J X (Un i undef b (.cells ⟨dA c off l⟩ t (0,0)) o))(hv:eR X.n (amh X.P X.n) o=some (⟨b,off,none⟩,l,l.length):=by kernel_rfl)(h2:dM [i] o=some [(b,.cells ⟨c⟩ t (0,0))]:=by kernel_rfl):J X o:=by
 obtain⟨ops,i0,todo,kk,ev,w,kn,p,rfl,ho,hw,hc⟩:=dz hv
 obtain⟨T,x,y,d,bD,z,ag,u,ay,tf,hx,hy,hu⟩:=Xw hc
 intro bY
 rcases p with ⟨dst,op,ty,pos,cZ,g⟩
 dsimp only at ay;subst ay
 refine wj X.hC (bJ h2)<|ost X.hC ho hw tf hx hy hu rfl h1 (Nat.le_of_ble_eq_true hb) ?_
 simp only[Un,ho] at hj
 have:=hj bY
 simp only[JP,iH] at this
 exact this
def aiV(P:Program)(n:Nat)(p:Oper)(e:Env):Option (List Value×Int×Nat×Nat×Bool):=match p.op with
 | .index T x y=>match aZ P T with
  |some ⟨.array len E,_,_,_⟩=>match aZ P E with
   |some te=>match bp n e x with
    |some (.agg ⟨l⟩)=>match bp n e y with
     |some (.int _ ix)=>some (l,ix,len,te.size,te.agg)
     |_=>none
    |_=>none
   |none=>none
  |_=>none
 |_=>none
theorem jai{v:Value}(ix:Int)(len sz:Nat)(ag:Bool)(hi:0≤ix∧ix <len)(hp:GD ag l (ix.toNat*sz) sz=some v)(hj:J X (jZ v o))(hv:dF X.n (aiV X.P X.n) o=some (l,ix,len,sz,ag):=by kernel_rfl):J X o:=by
 refine Ts hv (fun s p e _ hf=>?_) hj
 unfold aiV at hf
 split at hf<;>try (cases hf;done)
 rename_i ay
 split at hf<;>try (cases hf;done)
 rename_i dL
 split at hf<;>try (cases hf;done)
 rename_i te ug
 split at hf<;>try (cases hf;done)
 rename_i hx
 split at hf<;>try (cases hf;done)
 rename_i hy
 cases hf
 obtain⟨b1,tf⟩:=av dL
 obtain⟨b2,qP⟩:=av ug
 rcases p with ⟨dst,op,ty,pos,cZ,g⟩
 dsimp only at ay;subst ay
 exact fun s0 ops i s9 rest hw s' hs todo Q hk=>afG X.hC s9 hw tf qP (bh hx) (bh hy) hi hp hk
def tt(m:Nat)(e:Env):Option JS→Option JS
 |some ⟨.ops ops todo k,_,w,kn⟩=>some ⟨.ops ops (todo.drop m) k,e,w,kn⟩
 |_=>none
theorem jj(m:Nat)(e:Env)(hj:∀rest,J X (tt m (e++rest) o))(h:(∀o',tt 0 [] o'=tt m [] o→ri (nn e) o'=some e→J X o')→J X o)(hd:lkE (nn e) e=some e:=by kernel_rfl):J X o:=by
 refine h fun o' h1 h2=>?_
 cases o' with
 |none=>simp[ri] at h2
 |some s'=>
  rcases s' with ⟨p',e',w',kn'⟩
  cases o with
  |none=>exact(hj []).elim
  |some s=>
   rcases s with ⟨p,e0,w,kn⟩
   cases p' with
   |ops baH ad1 k'=>
    cases p with
    |ops ops todo k=>
     simp only[tt,Option.some.injEq,JS.mk.injEq,Pos.ops.injEq,List.drop_zero,true_and] at h1
     obtain⟨⟨rfl,rfl,rfl⟩,rfl,rfl⟩:=h1
     rw[sX] at h2
     obtain⟨r,hr⟩:=fW (n:=X.n) (D:=X.D) (kH h2) (kH hd)
     intro bY
     have:=hj r bY
     show ab _ _ _ _ _ _ (A X.n e' X.D) _
     rw[hr]
     exact this
    |_=>simp[tt] at h1
   |_=>cases p<;>simp[tt] at h1<;>exact(hj []).elim
end
attribute [irreducible] tt Un
section
variable {X:Cx} {o:Option JS}
def au2(i:Nat)(rest:Env)(todo:List Nat):Option JS→Option JS
 |some ⟨.H4 ops base Pl _ k,_,w,kn⟩=>some ⟨.ops ops (i::todo) k,cw ops base i Pl++rest,w,kn⟩
 |_=>none
def LK(X:Cx)(i:Nat)(o:Option JS)(rest:Env)(todo:List Nat):Prop:=match o with
 |some ⟨.H4 ops base Pl Sl k,_,w,kn⟩=>∀v s',(∀j u,(j,u)∈pending ops i Sl→sQ ops X.n base Pl j=false→(∀B,(j,B)∈kn.nd→Ext ⟨X.ro,[]⟩ s'→(∀x∈B,s'.has x.1 x.2)→eI X.C X.fn X.az ops X.n X.D j u (cw ops base j Pl) s')→eI X.C X.fn X.az ops X.n X.D j u (cw ops base j Pl) ⟨X.ro,den w⟩→eI X.C X.fn X.az ops X.n X.D j u (cw ops base j Pl) s')→
  (PF X kn.nd ops base ((i,v)::Pl) (pending ops i Sl)→tB X.C X.fn X.az ops X.n X.D base ((i,v)::Pl) (pending ops i Sl) (KQ X k) s')→ab X.C X.fn X.az ops todo (KQ X k) (A X.n (upd (aQ ops i) v (cw ops base i Pl++rest)) X.D) s'
 |_=>True
def Yl(is:List Nat):Option JS→Bool
 |some ⟨.H4 ops _ Pl Sl _,_,_,_⟩=>fB ops&&((is.all fun i=>Nat.blt i ops.size&& !ba i (ak Pl))&&(nodupB (ak Pl)&&(oV ops (ak Pl)&&(fC (ak Sl) (ak Pl)&&(afw ops (ak Pl) is&& !is.isEmpty)))))
 |_=>false
def akJ(X:Cx)(o:Option JS):List Nat→Prop
 | []=>True
 |i::is=>(∀rest todo,LK X i o rest todo→J X (au2 i rest todo o))∧akJ X o is
theorem IV(is:List Nat)(h:akJ X o is)(hb:Yl is o=true:=by kernel_rfl):J X o:=by
 unfold Yl at hb
 split at hb<;>try (cases hb;done)
 rename_i ops base Pl Sl k e w kn
 simp only[Bool.and_eq_true,Bool.not_eq_true'] at hb
 obtain⟨h1,h2,h3,h4,h5,h6,h7⟩:=hb
 intro bY hpf
 refine acH is h1 h2 h3 h4 h5 h6 ?_ h7
 clear h6 h7
 induction is with
 |nil=>trivial
 |cons i is ih=>
  simp only[List.all_cons,Bool.and_eq_true,Bool.not_eq_true'] at h2
  refine⟨fun rest todo hk=>h.1 rest todo (fun v s' hp ha=>?_) bY,ih h.2 h2.2⟩
  have iW:∀x,x∈pending ops i Sl→x∈Sl:=fun x hx=>(List.mem_filter.1 hx).1
  refine hk v s' (fun j u I0 bW=>?_) (ha ⟨fun j u I0 hpb s0=>?_,fun j u B I0 hB s0 Ew u9=>?_⟩)
  ·cases hpb:sQ ops X.n base Pl j with
   |true=>exact hpf.1 j u (iW _ I0) hpb s'
   |false=>exact hp j u I0 hpb (fun B hB hx hb=>hpf.2 j u B (iW _ I0) hB s' hx hb) bW
  ·have O9:j∈ak Sl:=aP.2 ⟨u,iW _ I0⟩
   have qN:i∉bu ops j:=fun hd=>by
    have h8:=bL.1 h5 j O9
    have h9:=bL.1 (List.all_eq_true.1 h4 j h8) i hd
    rw[aK.2 h9] at h2;exact absurd h2.1.2 (by simp)
   rw[cT qN]
   exact hpf.1 j u (iW _ I0) (by simp only[sQ,cT qN] at hpb;exact hpb) s0
  have O9:j∈ak Sl:=aP.2 ⟨u,iW _ I0⟩
  have qN:i∉bu ops j:=fun hd=>by
   have h8:=bL.1 h5 j O9
   have h9:=bL.1 (List.all_eq_true.1 h4 j h8) i hd
   rw[aK.2 h9] at h2;exact absurd h2.1.2 (by simp)
  rw[cT qN]
  exact hpf.2 j u B (iW _ I0) hB s0 Ew u9
theorem aS(i:Nat)(h:∀rest todo,LK X i o rest todo→J X (au2 i rest todo o))(hb:Yl [i] o=true:=by kernel_rfl):J X o:=IV [i] ⟨h,trivial⟩ hb
def WM(i:Nat):Option JS→Option JS→Option JS
 |some ⟨.H4 ops base Pl Sl k,e,_,kn⟩,some ⟨.ops _ _ _,e',w',kn'⟩=>some ⟨.H4 ops base ((i,match aQ ops i with
  |some d=>(gJ e' d).getD undef
  |none=>undef)::Pl) (pending ops i Sl) k,e,w',⟨kn'.c,kn.nd⟩⟩
 |_,_=>none
def bkL(i:Nat)(rest:Env)(todo:List Nat):Option JS→Option JS→Option JS
 |some ⟨.H4 ops base Pl _ k,_,_,_⟩,some ⟨_,e',w',kn'⟩=>some ⟨.ops ops todo k,upd (aQ ops i) (match aQ ops i with
  |some d=>(gJ e' d).getD undef
  |none=>undef) (cw ops base i Pl++rest),w',kn'⟩
 |_,_=>none
theorem WH(h:bkL i rest todo o o1=o1)(h1:o1≠none):∃ops base Pl Sl k e w kn v w' kn',o=some ⟨.H4 ops base Pl Sl k,e,w,kn⟩∧o1=some ⟨.ops ops todo k,upd (aQ ops i) v (cw ops base i Pl++rest),w',kn'⟩:=by
 unfold bkL at h
 split at h
 ·simp only[Option.some.injEq,JS.mk.injEq] at h
  obtain⟨rfl,h,_⟩:=h
  exact⟨_,_,_,_,_,_,_,_,_,_,_,rfl,by rw[h]⟩
 exact(h1 h.symm).elim
def rwO:Option JS→List Sg
 |some s=>s.rw
 |none=>[]
theorem eo(hK:LK X i o rest todo)(is:List Nat)(hj:J X (WM i o o1))(hc:bkL i rest todo o o1=o1:=by kernel_rfl)(h2:q6 is o1=some (rwO o):=by kernel_rfl):J X o1:=by
 by_cases dH:o1=none
 ·subst dH
  cases o with
  |none=>exact hj
  |some s=>rcases s with ⟨p,e,w,kn⟩;cases p<;>exact hj
 obtain⟨j8,base,Pl,Sl,k,e,w,kn,v,w',kn',rfl,rfl⟩:=WH hc dH
 intro bY
 have hp:=lQ h2
 have hv:(match aQ j8 i with
  |some d=>(gJ (upd (aQ j8 i) v (cw j8 base i Pl++rest)) d).getD undef
  |none=>undef)=v∨aQ j8 i=none:=by
  cases hd:aQ j8 i with
  |none=>exact .inr rfl
  |some d=>left;simp[upd,gJ]
 have hj:=hj bY
 simp only[WM,JP] at hj
 have key:=hK (match aQ j8 i with
  |some d=>(gJ (upd (aQ j8 i) v (cw j8 base i Pl++rest)) d).getD undef
  |none=>undef) ⟨X.ro,den w'⟩ (fun j u _ _ _ hs=>hs.ext fun b ob hb=>?_) hj
 ·show ab _ _ _ _ _ _ _ _
  rcases hv with hv|hv
  ·rw[hv] at key;exact key
  rw[hv] at key ⊢;exact key
 rcases hb with hb|hb
 ·exact .inl hb
 exact .inr (hp.mem_iff.2 (List.mem_append_left _ hb))
def aff(i:Nat):Option JS→Bool
 |some ⟨.H4 ops _ _ Sl _,_,_,_⟩=>(pending ops i Sl).isEmpty
 |_=>false
theorem fU(hK:LK X i o rest todo)(hj:J X (WM i o o1))(hc:bkL i rest todo o o1=o1:=by kernel_rfl)(h2:aff i o=true:=by kernel_rfl):J X o1:=by
 by_cases dH:o1=none
 ·subst dH
  cases o with
  |none=>exact hj
  |some s=>rcases s with ⟨p,e,w,kn⟩;cases p<;>exact hj
 obtain⟨j8,base,Pl,Sl,k,e,w,kn,v,w',kn',rfl,rfl⟩:=WH hc dH
 intro bY
 have hv:(match aQ j8 i with
  |some d=>(gJ (upd (aQ j8 i) v (cw j8 base i Pl++rest)) d).getD undef
  |none=>undef)=v∨aQ j8 i=none:=by
  cases hd:aQ j8 i with
  |none=>exact .inr rfl
  |some d=>left;simp[upd,gJ]
 have hj:=hj bY
 simp only[WM,JP] at hj
 have hpe:pending j8 i Sl=[]:=by simpa [aff] using h2
 have key:=hK (match aQ j8 i with
  |some d=>(gJ (upd (aQ j8 i) v (cw j8 base i Pl++rest)) d).getD undef
  |none=>undef) ⟨X.ro,den w'⟩ (fun j u I0=>by rw[hpe] at I0;cases I0) hj
 show ab _ _ _ _ _ _ _ _
 rcases hv with hv|hv
 ·rw[hv] at key;exact key
 rw[hv] at key ⊢;exact key
def ndG:List (Nat×Cells)→Nat→Option Cells
 | [],_=>none
 | (i,B)::l,j=>bif Nat.beq i j then some B else ndG l j
theorem Yb{j:Nat}{B:Cells}:∀ {l:List (Nat×Cells)},ndG l j=some B→(j,B)∈l
 | (i,C)::l,h=>by
  simp only[ndG] at h
  cases hb:Nat.beq i j with
  |true=>
   rw[hb] at h;simp only[cond_true,Option.some.injEq] at h;subst h
   have:=Nat.eq_of_beq_eq_true hb;subst this
   exact List.mem_cons_self
  |false=>rw[hb] at h;simp only[cond_false] at h;exact List.mem_cons_of_mem _ (Yb h)
structure Rk where
 a:List Value
 b:List Value
 c:List (Option Cells)
 d:List (Option Cells)
def aHR(ps:List Nat)(w:List Sg):Option Cells:=bif GI ps then (match Qq ps w with
 |some x=>some (den x)
 |none=>none) else none
def rkL(P:Program)(n:Nat)(ops:Array Oper)(base:Env)(Pl:List (Nat×Value))(nd:List (Nat×Cells))(w:List Sg)(kn:Cells):List (List Nat)→List (Nat×Value)→Option Rk
 |_,[]=>some ⟨[],[],[],[]⟩
 |hs,(j,u)::r=>bif sQ ops n base Pl j then rkL P n ops base Pl nd w kn hs r else (match hs with
  |h::hs=>match ndG nd j with
   |some B=>match rkL P n ops base Pl nd w kn hs r with
    |some ⟨a,b,c,d⟩=>some ⟨a,b,aHR h w::c,some B::d⟩
    |none=>none
   |none=>match ops[j]? with
    |some p=>match wI ops n (cw ops base j Pl) p.guard with
     |some true=>match p.op with
      | .load T x=>match bp n (cw ops base j Pl) x with
       |some (.pointer (some ⟨b,off,none⟩))=>match Bv w kn (h.headD 0) with
        |some (b',l)=>match ldv P T l off with
         |some v=>match rkL P n ops base Pl nd w kn hs r with
          |some ⟨a1,b1,c,d⟩=>some ⟨v:: .int .i64 b'::a1,u:: .int .i64 b::b1,c,d⟩
          |none=>none
         |none=>none
        |none=>none
       |_=>none
      |_=>none
     |_=>none
    |none=>none
  | []=>none)
theorem MD{ops:Array Oper}{base:Env}{Pl:List (Nat×Value)}{nd:List (Nat×Cells)}{w:List Sg}{kn:Cells}(bY:Knows X.ro kn):∀ {l:List (Nat×Value)} {hs:List (List Nat)} {k:Rk},rkL X.P X.n ops base Pl nd w kn hs l=some k→k.a=k.b→k.c=k.d→∀j u,(j,u)∈l→sQ ops X.n base Pl j=false→
 (∀B,(j,B)∈nd→Ext ⟨X.ro,[]⟩ ⟨X.ro,den w⟩→(∀x∈B,(⟨X.ro,den w⟩:St).has x.1 x.2)→eI X.C X.fn X.az ops X.n X.D j u (cw ops base j Pl) ⟨X.ro,den w⟩)→eI X.C X.fn X.az ops X.n X.D j u (cw ops base j Pl) ⟨X.ro,den w⟩
 | [],_,_,_,_,_,j,u,h,_,_=>by cases h
 | (j0,u0)::r,hs,k,h,xG,hcd,j,u,hm,hpj,mb=>by
  simp only[rkL] at h
  cases hpb:sQ ops X.n base Pl j0 with
  |true=>
   rw[hpb] at h;simp only[cond_true] at h
   rcases List.mem_cons.1 hm with h1|h1
   ·cases h1;rw[hpb] at hpj;cases hpj
   exact MD bY h xG hcd j u h1 hpj mb
  |false=>
   rw[hpb] at h;simp only[cond_false] at h
   split at h<;>try (cases h;done)
   rename_i h0 cg
   split at h
   ·rename_i B hB
    split at h<;>try (cases h;done)
    rename_i a b c d hr
    cases h
    simp only[List.cons.injEq] at hcd
    rcases List.mem_cons.1 hm with h1|h1
    ·cases h1
     refine mb B (Yb hB) N7 fun x hx=> .inr ?_
     have hw:=hcd.1
     unfold aHR at hw
     cases ho:GI h0 with
     |false=>rw[ho] at hw;cases hw
     |true=>
      rw[ho] at hw;simp only[cond_true] at hw
      split at hw<;>try (cases hw;done)
      rename_i y hy
      simp only[Option.some.injEq] at hw;subst hw
      exact(xz hy ho).mem_iff.2 (List.mem_append_left _ hx)
    exact MD bY hr xG hcd.2 j u h1 hpj mb
   split at h<;>try (cases h;done)
   rename_i p hp
   have EC:aQ ops j0=p.dst:=by simp only[aQ,hp,Option.bind_some]
   split at h<;>try (cases h;done)
   rename_i hg
   split at h<;>try (cases h;done)
   rename_i T x ay
   split at h<;>try (cases h;done)
   rename_i b0 off hx
   split at h<;>try (cases h;done)
   rename_i b' l hc
   split at h<;>try (cases h;done)
   rename_i v hv
   split at h<;>try (cases h;done)
   rename_i a1 b1 c d hr
   cases h
   simp only[List.cons.injEq,Value.int.injEq,true_and] at xG
   obtain⟨rfl,hb,xG⟩:=xG
   have hb:b'=b0:=by omega
   subst hb
   rcases List.mem_cons.1 hm with h1|h1
   ·cases h1
    obtain⟨t,fz,hh⟩:=zy (X:=X) bY hc
    intro s1 hx1 rest todo Q hk
    rw[EC] at hk
    exact lR X.hC hp rest (nK hg rest) (by rw[ay];rfl) (agl ay hx hh hv) hx1 hk
   exact MD bY hr xG hcd j u h1 hpj mb
def rkO(P:Program)(n i:Nat)(hs:List (List Nat)):Option JS→Option JS→Option Rk
 |some ⟨.H4 ops base Pl Sl _,_,_,kn⟩,some s1=>rkL P n ops base Pl kn.nd s1.rw s1.kn.c hs (pending ops i Sl)
 |_,_=>none
def rkA:Option Rk→Option (List Value×List (Option Cells))
 |some k=>some (k.a,k.c)
 |none=>some ([],[])
def rkB:Option Rk→Option (List Value×List (Option Cells))
 |some k=>some (k.b,k.d)
 |none=>none
theorem gx(hK:LK X i o rest todo)(hs:List (List Nat))(hj:J X (WM i o o1))(hc:bkL i rest todo o o1=o1:=by kernel_rfl)(h2:rkA (rkO X.P X.n i hs o o1)=rkB (rkO X.P X.n i hs o o1):=by kernel_rfl):J X o1:=by
 by_cases dH:o1=none
 ·subst dH
  cases o with
  |none=>exact hj
  |some s=>rcases s with ⟨p,e,w,kn⟩;cases p<;>exact hj
 obtain⟨j8,base,Pl,Sl,k,e,w,kn,v,w',kn',rfl,rfl⟩:=WH hc dH
 intro bY
 have hv:(match aQ j8 i with
  |some d=>(gJ (upd (aQ j8 i) v (cw j8 base i Pl++rest)) d).getD undef
  |none=>undef)=v∨aQ j8 i=none:=by
  cases hd:aQ j8 i with
  |none=>exact .inr rfl
  |some d=>left;simp[upd,gJ]
 have hj:=hj bY
 simp only[WM,JP] at hj
 have bW:∀j u,(j,u)∈pending j8 i Sl→sQ j8 X.n base Pl j=false→(∀B,(j,B)∈kn.nd→Ext ⟨X.ro,[]⟩ ⟨X.ro,den w'⟩→(∀x∈B,(⟨X.ro,den w'⟩:St).has x.1 x.2)→eI X.C X.fn X.az j8 X.n X.D j u (cw j8 base j Pl) ⟨X.ro,den w'⟩)→eI X.C X.fn X.az j8 X.n X.D j u (cw j8 base j Pl) ⟨X.ro,den w'⟩:=by
  simp only[rkO] at h2
  cases hr:rkL X.P X.n j8 base Pl kn.nd w' kn'.c hs (pending j8 i Sl) with
  |none=>rw[hr] at h2;cases h2
  |some x=>
   rw[hr] at h2
   simp only[rkA,rkB,Option.some.injEq,Prod.mk.injEq] at h2
   exact MD bY hr h2.1 h2.2
 have key:=hK (match aQ j8 i with
  |some d=>(gJ (upd (aQ j8 i) v (cw j8 base i Pl++rest)) d).getD undef
  |none=>undef) ⟨X.ro,den w'⟩ (fun j u I0 hpb hn _=>bW j u I0 hpb hn) hj
 show ab _ _ _ _ _ _ _ _
 rcases hv with hv|hv
 ·rw[hv] at key;exact key
 rw[hv] at key ⊢;exact key
end
attribute [irreducible] rkO rkA rkB au2 Yl WM bkL rwO aff
abbrev RY(ro:Nat→Option Obj)(Φ:Value→Cells→Prop):Ending→St→Prop:=fun en s'=>∃v X,en= .returned v∧(⟨ro,X⟩:St).le s'∧Φ v X
theorem Round.mono{l:Nat}{bd:Code}{R':Ending→St→Prop}(h:Round C l f tm as bd s R)(hr:∀e s,R e s→R' e s):Round C l f tm as bd s R':=
 fun main T hT c cs k1 k2=>h main T hT c cs (fun v s' hv=>k1 v s' (hr _ _ hv)) (fun ch s' hv=>k2 ch s' (hr _ _ hv))
theorem Round.weaken{C':Class}(hc:∀main T,C' main T→C main T){l:Nat}{bd:Code}(h:Round C l f tm as bd s R):Round C' l f tm as bd s R:=
 fun main T hT=>h main T (hc main T hT)
theorem Round.frame{l:Nat}{bd:Code}{s1:St}{B:Cells}(hf:Round (CP P) l f tm as bd s1 R)(hB:∀x∈B,x∈fr)(hc:acT fr B ro s1 s):
 Round (CP P) l f tm as bd s (fun en s'=>∃yP,R en yP∧acT fr B ro yP s'):=
 fun main T hT c cs k1 k2=>hf main _ (Bd hT hB ro) c cs (fun v yP hv _ s' th=>k1 v s' ⟨yP,hv,th⟩) (fun ch yP hv _ s' th=>k2 ch s' ⟨yP,hv,th⟩) rfl s hc
def adr(r:Loop)(vs:List Value):Array Value:=(r.params.zip ⟨vs⟩).foldl (fun tmps (x:Tmp×Value)=>tmps.setIfInBounds x.1 x.2) r.tmps
def YX(P:Program)(bl:Nat)(vs:List Value)(ro:Nat→Option Obj)(own:Cells)(Φ:Value→Cells→Prop):Prop:=
 ∃r,(bl,.loop r)∈own∧vs.length=r.params.size∧Round (CP P) bl r.fn (adr r vs) r.assign r.body ⟨ro,own⟩ (RY ro Φ)
theorem YX.use{own:Cells}(hy:YX P bl vs ro own Φ)(hs:Sub ro s.ro)(hp:s.rw.Perm (own++fr)){Q:Next→St→Prop}{E:Halt→St→Prop}
 (h:∀l f tm as bd,Round (CP P) l f tm as bd s (fun en s'=>∃v X,en= .returned v∧Φ v X∧(⟨s.ro,X++fr⟩:St).le s')→Q (.round l f tm as bd) s):bP P (Instr.yield bl ⟨vs⟩) s Q E:=by
 obtain⟨r,h1,h2,h3⟩:=hy
 simp only[Instr.yield,Instr.getLoop,aa]
 refine cG (o:= .loop r) (.inr (hp.mem_iff.2 (List.mem_append_left _ h1))) rfl rfl ?_
 have u7:¬(⟨vs⟩:Array Value).size≠r.params.size:=by simpa using h2
 simp only[ae,if_neg u7]
 refine h _ _ _ _ _ (Round.mono (Round.frame (fr:=fr) (B:=[]) (ro:=s.ro) (s:=s) h3 (fun _ h=>(by cases h)) ⟨hp,fun b o hb=> .inl (hs b o hb),Sub.refl _⟩) fun en s' DO=>?_)
 obtain⟨yP,⟨v,X,rfl,⟨R,hR1,hR2⟩,pz⟩,hc⟩:=DO
 refine⟨v,X,rfl,pz,R,?_,fun b o hb=> .inl (hc.keep b o hb)⟩
 refine hc.rw.trans ((hR1.append_right fr).trans ?_)
 simp only[List.append_assoc]
 exact List.Perm.append_left _ List.perm_append_comm
section
variable {X:Cx} {o:Option JS}
def asI(n:Nat)(p:Oper)(e:Env):Option (Nat×List Value):=match p.op with
 | .call ⟨.value x,xs,_⟩=>match bp n e x with
  |some (.func (.yield bl) ⟨[]⟩ ⟨[]⟩)=>match yc n e xs.toList with
   |some vs=>some (bl,vs)
   |none=>none
  |_=>none
 |_=>none
theorem jyc{own:Cells}(ps:List Nat)(hy:YX X.P bl vs px own Φ)(fx:Sub px X.ro)(hj:∀v Y,Φ v Y→J X (m9 ps v Y o))(h1:eR X.n (asI X.n) o=some (bl,vs):=by kernel_rfl)(h2:dM ps o=some own:=by kernel_rfl):J X o:=by
 obtain⟨ops,i,todo,k,e,w,kn,p,rfl,ho,hw,hc⟩:=dz h1
 intro bY
 unfold asI at hc
 split at hc<;>try (cases hc;done)
 rename_i x xs at_ ay
 split at hc<;>try (cases hc;done)
 rename_i bl' hx
 split at hc<;>try (cases hc;done)
 rename_i ou Ey
 cases hc
 rcases p with ⟨dst,op,ty,pos,cZ,g⟩
 dsimp only at ay;subst ay
 have hp:=bJ h2
 refine bV X.hC ho hw (by simp) ?_
 have TE:xs.map (ev X.n e)=⟨vs⟩:=sg Ey
 simp only[execOp,resolve,aH hx,Deferred.ofValue,ae,TE]
 have hiv:(invoke (.fn (.yield bl) ⟨[]⟩) (⟨[]⟩++⟨vs⟩):Sem Next)=Instr.yield bl ⟨vs⟩:=by simp[invoke]
 rw[hiv]
 refine YX.use hy fx hp fun l f tm as bd hR=>?_
 show Round X.C l f tm as bd _ _
 refine Round.mono (Round.weaken X.hC hR) fun en s' DO=>?_
 obtain⟨v,Y,rfl,pz,hle⟩:=DO
 have:=hj v Y pz
 rw[oe ho] at this
 have:=this bY
 simp only[JP,gp] at this
 have:=this.more X.hC hle
 show ab _ _ _ _ _ _ _ _
 rw[aY]
 exact this
end
attribute [irreducible] asI
def mk:List Nat→Cells
 | []=>[]
 |b::r=>(b,.deferred (some []))::mk r
def af3(P:Program)(fn:Func)(R:Ending→St→Prop):Post
 | .normal,a,s| .ret,a,s=>∃uy rest,a.defers=uy.map dW∧s.rw.Perm (mk uy++rest)∧bP P (results fn a.tmps) ⟨s.ro,rest⟩ (fun v s'=>∃s0,s0.le s'∧R (.returned v) s0) (fun _ _=>False)
 |_,_,_=>False
section
variable {P:Program} {C:Class}
theorem Aw(hC:∀main T,C main T→Closed P main T)(hT:C main T){rest:Cells}:∀(uy:List Nat) (fr:Frame) (s:St),fr.mode= .returning→fr.defers=uy.map dW→s.rw.Perm (mk uy++rest)→T (G {fr with defers:=[]} cs) ⟨s.ro,rest⟩→T (G fr cs) s
 | [],fr,s,_,hd,hp,h=>by
  have:fr={fr with defers:=[]}:=by rcases fr with ⟨a,b,c,d,e,f,g⟩;simp only[List.map_nil] at hd;subst hd;rfl
  rw[this]
  exact(hC main T hT).mono _ ⟨s.ro,rest⟩ _ ⟨[],by simpa [mk] using hp,fun b o hb=> .inl hb⟩ h
 |b::r,fr,s,hm,hd,hp,h=>by
  obtain⟨L,Rr,hs⟩:=List.append_of_mem (hp.mem_iff.2 (List.mem_append_left _ List.mem_cons_self))
  refine unwind_mark hC hT (.inl hm) (ds:=r.map dW) (by simpa using hd) hs ?_
  have Tw:(L++Rr).Perm (mk r++rest):=by
   rw[hs] at hp
   exact(List.perm_middle.symm.trans hp).cons_inv
  refine(hC main T hT).mono _ ⟨s.ro,L++Rr⟩ _ ⟨[(b,.deferred none)],?_,fun b o hb=> .inl hb⟩ (Aw hC hT r _ _ hm rfl Tw h)
  exact List.perm_middle.trans (List.perm_append_singleton _ _).symm
theorem LD(hC:∀main T,C main T→Closed P main T){c:Code}{args:Array Value} 
 (hf:P.funcs[f]?=some fn) (hb:fn.body=some c) (h:Wp C f none c (af3 P fn R) ⟨args++Array.replicate (fn.ntmps-args.size) undef,[]⟩ s):Fn C P f args s R:=by
 intro main T hT cl cs k1 k2
 let b:Frame:={(default:Frame) with fn:=f,kind:= .normal,roundOf:=none}
 have gT:Frame.enter P f args .normal=aM b ⟨args++Array.replicate (fn.ntmps-args.size) undef,[]⟩ [.code c]:=by
  simp[Frame.enter,aM,hf,hb,b]
 rw[gT]
 refine h main T hT b [] (cl::cs) rfl (by simp[b]) rfl fun e a' s' q=>?_
 have r8:∀(todo:List Item),(∃uy rest,a'.defers=uy.map dW∧s'.rw.Perm (mk uy++rest)∧bP P (results fn a'.tmps) ⟨s'.ro,rest⟩ (fun v s'=>∃s0,s0.le s'∧R (.returned v) s0) (fun _ _=>False))→T (G {aM b a' todo with mode:= .returning} (cl::cs)) s':=by
  intro todo ⟨uy,rest,hd,hp,hr⟩
  exact Aw hC hT uy _ _ rfl hd hp (sN hC hT hf rfl rfl rfl rfl hr k1)
 cases e with
 |normal=>
  exact(hC main T hT).go rfl rfl (g':=G {aM b a' [] with mode:= .returning} (cl::cs)) (fun w=>by simp[G,stepG,stepG.exec,aM,b]) (r8 _ q)
 |ret=>
  exact fun todo=>(hC main T hT).go rfl rfl (g':=G {aM b a' (.code .ret::todo) with mode:= .returning} (cl::cs)) (fun w=>by simp[G,stepG,stepG.exec,aM,b]) (r8 _ q)
 |panic ch=>exact q.elim
 |exit id=>exact q.elim
 |goto l=>exact q.elim
 |outgrown=>exact q.elim
end
def XM(P:Program)(hm:P.follows .mixedOrders=true)(f:FuncId)(ro:Nat→Option Obj)(R:Ending→St→Prop):Cx:=⟨P,CP P,eN,hm,f,none,(qx P f).ntmps,[],ro,af3 P (qx P f) R⟩
theorem anO(hm:P.follows .mixedOrders=true){L:Cells}(own:List Sg)(kn:Cells)(hk:Knows ro kn)(h:J (XM P hm f ro (RX ro Φ)) (jD P f args own kn))(hL:den own=L:=by rfl):dE P f args ro L Φ:=by
 subst hL
 unfold jD at h
 split at h<;>try exact h.elim
 rename_i fn hf
 split at h<;>try exact h.elim
 rename_i c hc
 cases hl:Nat.ble args.length fn.ntmps with
 |false=>rw[hl] at h;exact h.elim
 |true=>
  rw[hl] at h
  have uM:qx P f=fn:=by simp only[qx,hf]
  have:=h hk
  simp only[JP,XM,KQ,uM] at this
  refine LD eN hf hc ?_
  have he:=kN args fn.ntmps (Nat.le_of_ble_eq_true hl)
  rw[←he] at this
  exact this
structure QM(X:Cx)(R:Ending→St→Prop)(uy:List Nat):Prop where
 q:X.Q=af3 X.P (qx X.P X.fn) R
 d:X.D=uy.map dW
def Cx.dm(X:Cx)(bd:Nat):Cx:={X with D:=dW bd::X.D}
theorem qm0{hm:P.follows .mixedOrders=true}:QM (XM P hm f ro R) R []:=⟨rfl,rfl⟩
theorem QM.a(h:QM X R uy):QM (X.at ro) R uy:=⟨h.q,h.d⟩
theorem QM.m(h:QM X R uy):QM (X.dm bd) R (bd::uy):=⟨h.q,by simp[Cx.dm,h.d]⟩
theorem QM.w{aH7:List Nat}(h:QM X R uy):QM (X.wd (aH7.map dW)) R aH7:=⟨h.q,rfl⟩
def Dc(pm:List Nat):Option JS→Option JS
 |some ⟨p,e,w,kn⟩=>some ⟨p,e,dC pm 0 w,kn⟩
 |none=>none
section
variable {X:Cx} {o:Option JS}
theorem jrM(hq:QM X (RX px Φ) uy)(v:Value)(pm hs ps:List Nat)(Y:Cells)(fx:Sub px X.ro)(hR:Φ v Y)(h0:dM pm o=some (mk uy):=by kernel_rfl)(h1:qU (iu X.P X.n X.fn hs (Dc pm o))=some v:=by kernel_rfl)(h2:Pc (iu X.P X.n X.fn hs (Dc pm o))=Pb (iu X.P X.n X.fn hs (Dc pm o)):=by kernel_rfl)(h3:dM ps (Dc pm o)=some Y:=by kernel_rfl)(h4:zr o=true:=by kernel_rfl):J X o:=by
 obtain⟨ex,e,w,kn,rfl,hex⟩:=tq h4
 simp only[Dc,iu] at h1 h2 h3
 cases hr:B8 X.P X.n e (dC pm 0 w) kn.c hs (qx X.P X.fn).results.toList with
 |none=>simp only[hr,qU] at h1;cases h1
 |some x=>
  rcases x with ⟨vs,q⟩
  simp only[hr,qU,Option.some.injEq,Pc,Pb] at h1 h2
  intro bY
  have r8:=tM bY hr (me h2)
  have hp:=bJ h3
  have Fa:=P9 (s0:=⟨px,Y⟩) (R:=RX px Φ) hex r8 h1 (dK hp fx) ⟨v,Y,rfl,rfl,hR⟩
  have ht:bP X.P (results (qx X.P X.fn) (A X.n e X.D).tmps) ⟨X.ro,den (dC pm 0 w)⟩ (fun v s'=>∃s0,s0.le s'∧RX px Φ (.returned v) s0) (fun _ _=>False):=by
   rcases hex with rfl|rfl<;>exact Fa.2
  show X.Q ex (A X.n e X.D) ⟨X.ro,den w⟩
  rw[hq.q]
  have hm:∃uy rest,(A X.n e X.D).defers=uy.map dW∧(den w).Perm (mk uy++rest)∧bP X.P (results (qx X.P X.fn) (A X.n e X.D).tmps) ⟨X.ro,rest⟩ (fun v s'=>∃s0,s0.le s'∧RX px Φ (.returned v) s0) (fun _ _=>False):=⟨uy,_,hq.d,bJ h0,ht⟩
  rcases hex with rfl|rfl<;>exact hm
end
attribute [irreducible] Dc
def upQ(Q:Post):Post:=fun e a s=>∃s0,s0.le s∧Q e a s0
theorem jM.more(hT:Closed P main T){b:Frame}(hl:s.le s'):∀ {e:Exit} {a:Act},jM T b k cs e a s→jM T b k cs e a s'
 | .normal,_,h=>hT.mono _ _ _ hl h
 | .exit id,a,h=>by
  simp only[jM] at h ⊢
  cases hk:exitTo id k with
  |some k'=>rw[hk] at h;exact hT.mono _ _ _ hl h
  |none=>rw[hk] at h;exact fun todo ht=>hT.mono _ _ _ hl (h todo ht)
 | .ret,_,h=>fun todo=>hT.mono _ _ _ hl (h todo)
 | .panic _,_,h=>fun todo=>hT.mono _ _ _ hl (h todo)
 | .goto _,_,h=>h.elim
 | .outgrown,_,h=>h.elim
theorem aAQ(hC:∀main T,C main T→Closed P main T){fn:FuncId}{az:Option Nat}{c:Code}{Q:Post}{a:Act}(h:Wp C fn az c (upQ Q) a s):Wp C fn az c Q a s:=
 fun main T hT b k cs h1 h2 h3 h4=>h main T hT b k cs h1 h2 h3 fun _ _ _ ⟨_,hl,hq⟩=>jM.more (hC _ _ hT) hl (h4 _ _ _ hq)
def ItX(P:Program)(g:FuncId)(fi ca:List Value)(ro:Nat→Option Obj)(own:Cells)(N:Nat)(El:(Nat→Option Obj)→Nat→List Value→Cells→Prop)(Ψ:Cells→Prop):Prop:=
 ∀(bl:Nat) (aG:Nat→Option Obj) (Inv:Nat→Cells→Prop) (Stop:Cells→Prop),Sub ro aG→
  (∀k vs LL B lj,k <N→El lj k vs LL→Inv k B→Sub aG lj→YX P bl vs lj (LL++B) (fun r B'=>(r= .bool true∧Inv (k+1) B')∨(r= .bool false∧Stop B')))→
  ∀B,Inv 0 B→dE P g (fi++[.func (.yield bl) #[] #[]]++ca) aG (own++B) (fun _ Y=>∃Z B',Y=Z++B'∧Ψ Z∧(Inv N B'∨Stop B'))
theorem Round.more(hC:∀main T,C main T→Closed P main T){l:Nat}{bd:Code}(hl:s.le s')(h:Round C l f tm as bd s R):Round C l f tm as bd s' R:=
 fun main T hT c cs k1 k2=>(hC _ _ hT).mono _ _ _ hl (h main T hT c cs k1 k2)
def rfV(P:Program)(n:Nat):Option JS→Option (FuncId×List Value×List Value×Nat)
 |some ⟨.code (.rangeFunc x ps _ _) _,e,_,_⟩=>match bp n e x with
  |some (.func (.func g) ⟨fi⟩ ⟨ca⟩)=>bif BR P g then some (g,fi,ca,ps.size) else none
  |_=>none
 |_=>none
def lpO(X:Cx)(bd:Nat):Option JS→Loop
 |some ⟨.code (.rangeFunc _ ps a b) _,e,_,_⟩=>iy X.fn (A X.n e X.D).tmps ps a b bd
 |_=>iy X.fn #[] #[] .ret .ret bd
def aH3:Option JS→Code
 |some ⟨.code (.rangeFunc _ _ _ b) _,_,_,_⟩=>b
 |_=> .ret
def P2:List Tmp→List Value→Env→Env
 |t::ts,v::vs,e=>P2 ts vs (upd (some t) v e)
 |_,_,e=>e
theorem P1{D:List Deferred}:∀(ts:List Tmp) (vs:List Value) (e:Env),(ts.zip vs).foldl (fun(tm:Array Value) (x:Tmp×Value)=>tm.setIfInBounds x.1 x.2) (A n e D).tmps=(A n (P2 ts vs e) D).tmps
 | [],_,_=>rfl
 |_::_,[],_=>rfl
 |t::ts,v::vs,e=>by
  have:=aY n e D (some t) v
  simp only[Act.put] at this
  simp only[List.zip_cons_cons,List.foldl_cons,P2]
  rw[←P1 ts vs,←this]
def rdO(X:Cx)(bl bd:Nat)(vs:List Value)(w:List Sg)(o:Option JS):Option JS:=match o with
 |some ⟨.code (.rangeFunc _ ps a _) _,e,_,kn⟩=>some ⟨.code a [],P2 ps.toList vs e,.b bl (.loop (lpO X bd o))::w,⟨kn.c,[]⟩⟩
 |_=>none
def afO(jump:Option Code)(bd:Nat)(Z:Cells)(wi:List Sg)(is:List Nat):Option JS→Option JS
 |some ⟨.code _ k,e,w,kn⟩=>match jump with
  |none=>some ⟨Qo k,e,.b bd (.deferred (some [])):: .l Z::(wi++dC is 0 w),⟨kn.c,[]⟩⟩
  |some .ret=>some ⟨.fin .ret,e,.b bd (.deferred (some [])):: .l Z::(wi++dC is 0 w),⟨kn.c,[]⟩⟩
  |some (.exit id)=>match Bj id k with
   |some p=>some ⟨p,e,.b bd (.deferred (some [])):: .l Z::(wi++dC is 0 w),⟨kn.c,[]⟩⟩
   |none=>none
  |_=>none
 |_=>none
def asJ(bl:Nat)(Lp:Loop)(wf:ι→List Sg)(Inv:Nat→ι→Prop)(Sp:Code→ι→Prop)(k:Nat):Value→Cells→Prop:=fun r B=>
 (r= .bool true∧∃j,Inv (k+1) j∧B=(bl,.loop Lp)::den (wf j))∨(r= .bool false∧∃jump j,Sp jump j∧B=(bl,.loop {Lp with state:= .done,pending:=some jump})::den (wf j))
def Cx.rd(X:Cx)(bl:Nat)(ro:Nat→Option Obj)(Φ:Value→Cells→Prop)(body:Code):Cx:=⟨X.P,CP X.P,eN,X.hm,X.fn,some bl,X.n,[],ro,Iy (CP X.P) (RY ro Φ) bl X.fn body⟩
def Cx.re(X:Cx)(bl:Nat)(ro:Nat→Option Obj)(Φ:Value→Cells→Prop):Cx:=⟨X.P,CP X.P,eN,X.hm,X.fn,some bl,X.n,[],ro,B7 (RY ro Φ) bl⟩
theorem Mi:∀(k:List KI),KQ (X.dm bd) k=KQ X k
 | []=>rfl
 | .seq _::k=>by simp only[KQ,Mi k];rfl
 | .block _::k=>by simp only[KQ,Mi k]
 | .next _::k=>by simp only[KQ,Mi k]
theorem Kt(Z W R:List α)(x y:α):((Z++x::W)++y::R).Perm (x::y::(Z++(W++R))):=by
 refine List.perm_middle.trans ?_
 rw[List.append_assoc,List.cons_append]
 exact(List.Perm.cons y List.perm_middle).trans (List.Perm.swap _ _ _)
section
variable {X:Cx} {o:Option JS}
theorem jrf{np:Nat}{Ψ:Cells→Prop}(ow:List Sg)(hit:ItX X.P g fi ca X.ro (den ow) N El Ψ)(hel:∀ro k vs LL,El ro k vs LL→vs.length=np)
 (wf:ι→List Sg)(Inv:Nat→ι→Prop)(Sp:Code→ι→Prop)(i0:ι)(h0:Inv 0 i0)(is:List Nat)
 (hb:∀bl bd k vs LL i lj,k <N→El lj k vs LL→Inv k i→Sub X.ro lj→J (X.rd bl lj (asJ bl (lpO X bd o) wf Inv Sp k) (aH3 o)) (rdO X bl bd vs (wf i++[.l LL]) o))
 (hN:∀bd i Z,Inv N i→Ψ Z→J (X.dm bd) (afO none bd Z (wf i) is o))(hS:∀bd i Z jump,Sp jump i→Ψ Z→J (X.dm bd) (afO (some jump) bd Z (wf i) is o))
 (h1:rfV X.P X.n o=some (g,fi,ca,np):=by kernel_rfl)(h2:q6 is o=some (ow++wf i0):=by kernel_rfl)(hf:(X.P.funcs[X.fn]?).isSome=true:=by kernel_rfl) (hr:X.az=none:=by rfl):J X o:=by
 unfold rfV at h1
 split at h1<;>try (cases h1;done)
 rename_i x params assign body k e w kn
 split at h1<;>try (cases h1;done)
 rename_i g' Wk z0 hx
 cases Hv:BR X.P g' with
 |false=>rw[Hv] at h1;cases h1
 |true=>
  rw[Hv] at h1
  simp only[cond_true,Option.some.injEq,Prod.mk.injEq] at h1
  obtain⟨rfl,rfl,rfl,hnp⟩:=h1
  have ff:=k8 Hv
  intro bY
  have hp:=lQ h2
  rw[lI] at hp
  obtain⟨fn',uM⟩:=Option.isSome_iff_exists.1 hf
  show Wp X.C X.fn X.az (.rangeFunc x params assign body) (KQ X k) (A X.n e X.D) ⟨X.ro,den w⟩
  rw[hr]
  refine aAQ X.hC (Ar X.hC (fi:=⟨Wk⟩) (ca:=⟨z0⟩) (by rw[dY];exact aH hx) ff fun bd bl _ _=>?_)
  rw[S7]
  have hy:=hit bl X.ro (fun k B=>∃i,Inv k i∧B=(bl,.loop (iy X.fn (A X.n e X.D).tmps params assign body bd))::den (wf i))
   (fun B=>∃jump i,Sp jump i∧B=(bl,.loop {iy X.fn (A X.n e X.D).tmps params assign body bd with state:= .done,pending:=some jump})::den (wf i)) (Sub.refl _) (fun k vs LL B lj hk hv hi hs=>?_) _ ⟨i0,h0,rfl⟩
  rotate_left
  ·obtain⟨i,hi,rfl⟩:=hi
   refine⟨iy X.fn (A X.n e X.D).tmps params assign body bd,List.mem_append_right _ List.mem_cons_self,(hel _ _ _ _ hv).trans hnp.symm,Round.more eN (s:=⟨lj,((bl,.loop (iy X.fn (A X.n e X.D).tmps params assign body bd))::den (wf i))++LL⟩) ⟨[],by rw[List.append_nil];exact List.perm_append_comm,fun b o hb=> .inl hb⟩ (Dy eN uM ?_)⟩
   have:=hb bl bd k vs LL i lj hk hv hi hs fun y hy=>hs _ _ (bY y hy)
   have NP:den (.b bl (.loop (iy X.fn (A X.n e X.D).tmps params assign body bd))::(wf i++[.l LL]))=((bl,.loop (iy X.fn (A X.n e X.D).tmps params assign body bd))::den (wf i))++LL:=by rw[iH,lI];rfl
   rw[←NP]
   have hyt:adr (iy X.fn (A X.n e X.D).tmps params assign body bd) vs=(A X.n (P2 params.toList vs e) X.D).tmps:=by
    rw[←P1]
    simp only[adr,iy]
    rw[←Array.foldl_toList,Array.toList_zip]
   rw[hyt]
   exact this
  refine Fn.weaken X.hC (Fn.mono (Fn.frame (fr:=(bd,.deferred (some []))::den (dC is 0 w)) (B:=[]) (ro:=X.ro) hy (fun _ h=>(by cases h)) ⟨?_,fun b o hb=> .inl hb,Sub.refl _⟩) fun en s' DO=>?_)
  ·refine List.Perm.trans (.cons _ (.cons _ ?_)) (Kt _ _ _ _ _).symm
   rw[←List.append_assoc]
   exact hp
  obtain⟨yP,⟨v,Y,rfl,rfl,Z,B',rfl,hΨ,hI⟩,hc⟩:=DO
  have hc1:s'.rw.Perm ((Z++B')++(bd,.deferred (some []))::den (dC is 0 w)):=hc.rw
  have key:∀(r0:Loop) (i:ι),B'=(bl,.loop r0)::den (wf i)→∃L Rr,s'.rw=L++(bl,.loop r0)::Rr∧∀r1,(⟨X.ro,den (.b bd (.deferred (some [])):: .l Z::(wf i++dC is 0 w))⟩:St).le ⟨s'.ro,L++(bl,.loop r1)::Rr⟩:=by
   intro r0 i hB
   subst hB
   have TH:=hc1.trans (Kt _ _ _ _ _)
   obtain⟨L,Rr,hs⟩:=List.append_of_mem (TH.mem_iff.2 List.mem_cons_self)
   refine⟨L,Rr,hs,fun r1=>dK (J:=[(bl,.loop r1)]) ?_ hc.keep⟩
   rw[hs] at TH
   have hc3:=(List.perm_middle.symm.trans TH).cons_inv
   rw[iH,gp,lI]
   exact List.perm_middle.trans ((List.Perm.cons _ hc3).trans (List.perm_append_singleton _ _).symm)
  rcases hI with ⟨i,hi,hB⟩| ⟨jump,i,hi,hB⟩
  ·obtain⟨L,Rr,hs,hle⟩:=key _ i hB
   refine⟨L,_,Rr,hs,by simp[iy],?_⟩
   refine⟨_,hle _,?_⟩
   have:=hN bd i Z hi hΨ bY
   rw[←Mi (bd:=bd)]
   exact tQ (X:=X.dm bd) (kn:=⟨kn.c,[]⟩) this
  obtain⟨L,Rr,hs,hle⟩:=key _ i hB
  refine⟨L,_,Rr,hs,by simp,?_⟩
  have:=hS bd i Z jump hi hΨ
  cases jump with
  |ret=>
   refine⟨_,hle _,?_⟩
   rw[←Mi (bd:=bd)]
   exact AB (X:=X.dm bd) (this bY) k
  |exit id=>
   simp only[afO] at this
   cases hk:Bj id k with
   |none=>rw[hk] at this;exact this.elim
   |some p=>
    rw[hk] at this
    refine⟨_,hle _,?_⟩
    rw[←Mi (bd:=bd)]
    exact wO (X:=X.dm bd) (kn:=⟨kn.c,[]⟩) hk (this bY)
  |_=>exact this.elim
end
theorem aDO:(lpO X bd o).state= .ready∧(lpO X bd o).pending=none:=by
 unfold lpO
 split<;>exact⟨rfl,rfl⟩
attribute [irreducible] rfV lpO aH3 rdO afO
def bgO(body:Code):Option JS→Option (JS×Nat)
 |some ⟨.fin .normal,e,.b b (.loop r)::w,kn⟩=>match r.state with
  | .ready=>some (⟨.code body [],e,.b b (.loop {r with state:= .busy})::w,kn⟩,b)
  |_=>none
 |_=>none
def EI:Option (JS×Nat)→Option JS
 |some (s,_)=>some s
 |none=>none
def Uj:Option (JS×Nat)→Option Nat
 |some (_,b)=>some b
 |none=>none
def Rh:Option JS→Option (Option Code)
 |some ⟨.fin .normal,_,_,_⟩=>some none
 |some ⟨.fin .ret,_,_,_⟩=>some (some .ret)
 |some ⟨.fin (.exit id),_,_,_⟩=>some (some (.exit id))
 |_=>none
structure QY(X:Cx)(bl:Nat)(ro:Nat→Option Obj)(Φ:Value→Cells→Prop):Prop where
 q:X.Q=B7 (RY ro Φ) bl
theorem qy0:QY (X.re bl ro Φ) bl ro Φ:=⟨rfl⟩
section
variable {X:Cx} {o:Option JS} {bl:Nat} {ro:Nat→Option Obj}
theorem jbg(h:J (X.re bl ro Φ) (EI (bgO body o)))(h1:Uj (bgO body o)=some bl:=by kernel_rfl):J (X.rd bl ro Φ body) o:=by
 unfold bgO at h h1
 split at h<;>try exact h.elim
 rename_i e b r w kn
 split at h<;>try exact h.elim
 rename_i bW
 simp only[bW,Uj,Option.some.injEq] at h1
 subst h1
 simp only[EI] at h
 intro bY
 have hw:=h bY
 simp only[JP,Cx.rd,Iy,Dp]
 refine⟨[],r,den w,by rw[iH];rfl,bW,?_⟩
 simp only[JP,iH] at hw
 exact hw
theorem jyR{Lp:Loop}{jump:Option Code}{Y:Cells}(hq:QY X bl ro Φ)(fx:Sub ro X.ro)(ps:List Nat)(pz:Φ (.bool jump.isNone) ((bl,.loop {Lp with state:=if jump.isNone then .ready else .done,pending:=jump})::Y))(h1:dM ps o=some ((bl,.loop {Lp with state:= .busy})::Y):=by kernel_rfl)(h2:Rh o=some jump:=by kernel_rfl):J X o:=by
 have main:∀s w kn e,o=some ⟨s,e,w,kn⟩→Ws (RY ro Φ) bl jump ⟨X.ro,den w⟩:=by
  intro s w kn e ho
  subst ho
  have hp:=bJ h1
  obtain⟨L,Rr,hs⟩:=List.append_of_mem (hp.mem_iff.2 (List.mem_append_left _ List.mem_cons_self))
  refine⟨L,_,Rr,hs,_,_,rfl,?_,pz⟩
  have mX:den w=L++(bl,.loop {Lp with state:= .busy})::Rr:=hs
  have hp':(den w).Perm (((bl,.loop {Lp with state:= .busy})::Y)++den (dC ps 0 w)):=hp
  rw[mX] at hp'
  have Tw:=(List.perm_middle.symm.trans hp').cons_inv
  exact dK (J:=den (dC ps 0 w)) (List.perm_middle.trans (.cons _ Tw)) fx
 unfold Rh at h2
 split at h2<;>try (cases h2;done)
 ·rename_i e w kn;cases h2;intro _;show X.Q .normal _ _;rw[hq.q];exact main _ _ _ _ rfl
 ·rename_i e w kn;cases h2;intro _;show X.Q .ret _ _;rw[hq.q];exact main _ _ _ _ rfl
 rename_i id e w kn;cases h2;intro _;show X.Q (.exit id) _ _;rw[hq.q];exact main _ _ _ _ rfl
theorem jyn{Lp:Loop}{wf:ι→List Sg}{Inv:Nat→ι→Prop}{Sp:Code→ι→Prop}{k:Nat}(hq:QY X bl ro (asJ bl Lp wf Inv Sp k))(fx:Sub ro X.ro)(j:ι)(h:Inv (k+1) j)(ps:List Nat)(hl:Lp.state= .ready∧Lp.pending=none:=by exact aDO)(h1:dM ps o=some ((bl,.loop {Lp with state:= .busy})::den (wf j)):=by kernel_rfl)(h2:Rh o=some none:=by kernel_rfl):J X o:=
 jyR hq fx ps (.inl ⟨rfl,j,h,by rcases Lp with ⟨a,b,c,d,e,f,g,i⟩;obtain⟨h1,h2⟩:=hl;dsimp only at h1 h2;subst h1 h2;rfl⟩) h1 h2
theorem jys{Lp:Loop}{wf:ι→List Sg}{Inv:Nat→ι→Prop}{Sp:Code→ι→Prop}{k:Nat}(hq:QY X bl ro (asJ bl Lp wf Inv Sp k))(fx:Sub ro X.ro)(jump:Code)(j:ι)(h:Sp jump j)(ps:List Nat)(h1:dM ps o=some ((bl,.loop {Lp with state:= .busy})::den (wf j)):=by kernel_rfl)(h2:Rh o=some (some jump):=by kernel_rfl):J X o:=
 jyR hq fx ps (.inr ⟨rfl,jump,j,h,rfl⟩) h1 h2
end
attribute [irreducible] bgO EI Uj Rh
def su[DecidableEq κ](k:κ):List (κ×Value)→Nat→Option (Nat×Value)
 | [],_=>none
 |x::l,i=>if k=x.1 then some (i,x.2) else su k l (i+1)
def lkM[DecidableEq κ](k:κ)(F:List (κ×Value)):Option Value:=(su k F 0).map (·.2)
def tK(k:κ)(v:Value):List (κ×Value)→Nat→List (κ×Value)
 | [],_=>[]
 |_::l,0=>(k,v)::l
 |x::l,i+1=>x::tK k v l i
def mi[DecidableEq κ](k:κ)(v:Value)(F:List (κ×Value)):List (κ×Value):=match su k F 0 with
 |some (i,_)=>tK k v F i
 |none=>F++[(k,v)]
structure Tj(P:Program)(T:TypeId){κ:Type}[DecidableEq κ](kv:κ→Value):Prop where
 chk:∀(b:Bool) (k:κ) {α:Type} {K:Unit→Sem α} {s:St} {Q:α→St→Prop} {E:Halt→St→Prop},bP P (K ()) s Q E→bP P (Instr.checkKey b 10000 T (kv k) >>= K) s Q E
 find:∀(k:κ) (es:List MapEntry) (F:List (κ×Value)),es.map (fun e=>(e.key,e.val))=F.map (fun x=>(kv x.1,x.2))→∀ {α:Type} {K:Option (Nat×Value)→Sem α} {s:St} {Q:α→St→Prop} {E:Halt→St→Prop},bP P (K (su k F 0)) s Q E→bP P (Instr.findKey T (kv k) es >>= K) s Q E
 stay:∀k,Instr.sameBits 10000 (kv k) (kv k)=true
theorem qv[DecidableEq κ]{k:κ}:∀ {F:List (κ×Value)} {i j:Nat} {v:Value},su k F i=some (j,v)→i≤j∧F[j-i]?=some (k,v)
 | [],_,_,_,h=>by cases h
 |x::l,i,j,v,h=>by
  simp only[su] at h
  split at h
  ·rename_i hk
   cases h
   exact⟨Nat.le_refl _,by simp[hk]⟩
  obtain⟨h1,h2⟩:=qv h
  refine⟨by omega,?_⟩
  rw[show j-i=(j-(i+1))+1 by omega,List.getElem?_cons_succ];exact h2
theorem Oz(a b:ByteArray):(a==b)=decide (a=b):=by
 have h:(a==b)=(a.data==b.data):=by cases a;cases b;rfl
 rw[h,Bool.eq_iff_iff]
 cases a;cases b
 simp
theorem DW(a:ByteArray):∀(es:List MapEntry) (F:List (ByteArray×Value)) (i:Nat),es.map (fun e=>(e.key,e.val))=F.map (fun x=>(Value.string x.1,x.2))→Instr.findNow .string (.string a) es i=some (su a F i)
 | [],[],_,_=>rfl
 | [],_::_,_,h=>by simp at h
 |_::_,[],_,h=>by simp at h
 |e::es,x::F,i,h=>by
  simp only[List.map_cons,List.cons.injEq,Prod.mk.injEq] at h
  obtain⟨⟨h1,h2⟩,h3⟩:=h
  simp only[Instr.findNow,h1,Instr.sameNow,su,Oz]
  by_cases hk:a=x.1
  ·simp[hk,h2]
  simp only[hk,decide_false,if_false]
  exact DW a es F (i+1) h3
def CkD(P:Program)(dep:Nat)(T:TypeId)(v:Value):Prop:=∀(b:Bool) {α:Type} {K:Unit→Sem α} {s:St} {Q:α→St→Prop} {E:Halt→St→Prop},bP P (Instr.checkKey b dep T v >>= K) s Q E=bP P (K ()) s Q E
theorem aHU{T:TypeId}(tf:TF P T .string sz bD z ag)(a:ByteArray):CkD P (dep+1) T (.string a):=by
 intro b α K s Q E
 simp only[Instr.checkKey,aa,a8 tf,ae]
theorem ava{T:TypeId}(tf:TF P T .string sz bD z ag):Tj P T (fun(a:ByteArray)=>Value.string a) where
 chk b k α K s Q E h:=by rw[aHU (dep:=9999) tf k b];exact h
 find k es F he α K s Q E h:=by
  simp only[Instr.findKey,aa,a8 tf,DW k es F 0 he,ae]
  exact h
 stay k:=by simp[Instr.sameBits,Oz]
def agV(P:Program)(T:TypeId):Bool:=match aZ P T with
 |some ⟨.string,_,_,_⟩=>true
 |_=>false
theorem Ys{T:TypeId}(h:agV P T=true):Tj P T (fun(a:ByteArray)=>Value.string a):=by
 unfold agV at h
 split at h
 ·rename_i dL
  obtain⟨bD,tf⟩:=av dL
  exact ava tf
 cases h
theorem ItX.up{own:Cells}{Ψ:Cells→Prop}(h:ItX P g fi ca ro own N El Ψ)(hs:Sub ro aD):ItX P g fi ca aD own N El Ψ:=
 fun bl aG Inv Stop h1=>h bl aG Inv Stop (hs.trans h1)
def YOK(P:Program)(bl:Nat)(ro:Nat→Option Obj)(N:Nat)(El:(Nat→Option Obj)→Nat→List Value→Cells→Prop)(Inv:Nat→Cells→Prop)(Stop:Cells→Prop):Prop:=
 ∀k vs LL B lj,k <N→El lj k vs LL→Inv k B→Sub ro lj→YX P bl vs lj (LL++B) (fun r B'=>(r= .bool true∧Inv (k+1) B')∨(r= .bool false∧Stop B'))
theorem YOK.up{Inv:Nat→Cells→Prop}{Stop:Cells→Prop}(h:YOK P bl ro N El Inv Stop)(hs:Sub ro aD):YOK P bl aD N El Inv Stop:=
 fun k vs LL B lj h1 h2 h3 h4=>h k vs LL B lj h1 h2 h3 (hs.trans h4)
def Part(L:List α)(p:Nat)(m:List α):Prop:=∃a b,L=a++m++b∧a.length=p
theorem Part.get{L m:List α}{p:Nat}{x:α}(h:Part L p m)(hx:m[i]?=some x):p+i <L.length∧L[p+i]?=some x:=by
 obtain⟨a,b,rfl,rfl⟩:=h
 have hi:=(List.getElem?_eq_some_iff.1 hx).1
 have:(a++m++b)[a.length+i]?=some x:=by
  rw[List.append_assoc,List.getElem?_append_right (by omega),List.getElem?_append_left (by omega),show a.length+i-a.length=i by omega];exact hx
 exact⟨(List.getElem?_eq_some_iff.1 this).1,this⟩
theorem Part.flat{β:Type}{L:List β}{p:Nat}{G:α→List β}{l a b:List α}{s:α}(h:Part L p (l.flatMap G))(hl:l=a++[s]++b):Part L (p+(a.flatMap G).length) (G s):=by
 obtain⟨u,v,rfl,rfl⟩:=h
 subst hl
 exact⟨u++a.flatMap G,b.flatMap G++v,by simp[List.flatMap_append],by simp⟩
theorem PN{T:TypeId}[DecidableEq κ]{kv:κ→Value}(he:∀a b,EqD P 10000 T (kv a) (kv b) (decide (a=b)))(k:κ):∀(es:List MapEntry) (F:List (κ×Value)) (i:Nat),es.map (fun e=>(e.key,e.val))=F.map (fun x=>(kv x.1,x.2))→∀ {α:Type} {K:Option (Nat×Value)→Sem α} {s:St} {Q:α→St→Prop} {E:Halt→St→Prop},bP P (K (su k F i)) s Q E→bP P (Instr.findAsking T (kv k) es i >>= K) s Q E
 | [],[],_,_,_,_,_,_,_,h=>h
 | [],_::_,_,h,_,_,_,_,_,_=>by simp at h
 |_::_,[],_,h,_,_,_,_,_,_=>by simp at h
 |e::es,x::F,i,h,α,K,s,Q,E,hK=>by
  simp only[List.map_cons,List.cons.injEq,Prod.mk.injEq] at h
  obtain⟨⟨h1,h2⟩,h3⟩:=h
  simp only[Instr.findAsking,aa,h1,Op.equal]
  rw[show Op.maxDepth=10000 from rfl,he k x.1]
  simp only[su] at hK
  by_cases hk:k=x.1
  ·rw[if_pos hk] at hK
   simp only[hk,decide_true,if_true,ae,h2]
   exact hK
  rw[if_neg hk] at hK
  simp only[hk,decide_false,Bool.false_eq_true,if_false]
  exact PN he k es F (i+1) h3 hK
theorem Ie{T:TypeId}{k:IntKind}(tf:TF P T (.int k) sz bD z ag)(a:Int):CkD P (dep+1) T (.int k a):=by
 intro b α K s Q E
 simp only[Instr.checkKey,aa,a8 tf,ae]
inductive BJ(P:Program)(dep:Nat)(l:List Value):List Field→Prop
 |nil:BJ P dep l []
 |cons {f:Field} {fs:List Field} {v:Value} (hn:f.name≠ "_") (hv:II P f.type l f.offset v) (he:CkD P dep f.type v) (ht:BJ P dep l fs):BJ P dep l (f::fs)
theorem SS{T:TypeId}{fields:Array Field}(tf:TF P T (.struct fields) sz bD z true)(hf:BJ P dep l fields.toList):CkD P (dep+1) T (.agg ⟨l⟩):=by
 intro b α K s Q E
 simp only[Instr.checkKey,aa,a8 tf]
 rw[←Array.forIn_toList]
 generalize fields.toList=fl at hf
 clear tf
 induction hf with
 |nil=>simp only[List.forIn_nil,ae,aa]
 | @cons f fs v hn hv he ht ih=>
  simp only[List.forIn_cons,hn,ne_eq,not_false_eq_true,if_true,aa]
  rw[hv]
  simp only[aa]
  rw[he]
  simp only[ae]
  exact ih
theorem agv{T:TypeId}[DecidableEq κ]{kv:κ→Value}{d:TypeDesc}(tf:TF P T d sz bD z ag)(hl:∀k,∃l,kv k= .agg l)(hc:∀k,CkD P 10000 T (kv k))(he:∀a b,EqD P 10000 T (kv a) (kv b) (decide (a=b)))(hs:∀k,Instr.sameBits 10000 (kv k) (kv k)=true):Tj P T kv where
 chk b k α K s Q E h:=by rw[hc k b];exact h
 find k es F hm α K s Q E h:=by
  simp only[Instr.findKey,aa,a8 tf]
  cases es with
  |nil=>
   cases F with
   |nil=>exact h
   |cons x F=>simp at hm
  |cons e es=>
   have:Instr.findNow d (kv k) (e::es) 0=none:=by
    cases F with
    |nil=>simp at hm
    |cons x F=>
     simp only[List.map_cons,List.cons.injEq,Prod.mk.injEq] at hm
     obtain⟨l,CX⟩:=hl k
     obtain⟨l2,qO⟩:=hl x.1
     simp only[Instr.findNow,hm.1.1,CX,qO]
     cases d<;>rfl
   rw[this]
   exact PN he k _ F 0 hm h
 stay:=hs
def tA(kv:κ→Value)(F:List (κ×Value))(es:Array MapEntry)(ck:Nat):Prop:=
 es.toList.map (fun e=>(e.key,e.val))=F.map (fun x=>(kv x.1,x.2))∧(es.toList.map (·.born)).Nodup∧∀e∈es.toList,e.born <ck
def jP(r:Nat)(kv:κ→Value)(F:List (κ×Value))(L:Cells):Prop:=∃es ck,L=[(r,.map es ck)]∧tA kv F es ck
def akP(s:St)(r:Nat)(kv:κ→Value)(F:List (κ×Value)):Prop:=∃es ck,s.has r (.map es ck)∧tA kv F es ck
theorem jP.has{kv:κ→Value}{F:List (κ×Value)}{L:Cells}(h:jP r kv F L)(hs:∀x∈L,s.has x.1 x.2):akP s r kv F:=by
 obtain⟨es,ck,rfl,hm⟩:=h
 exact⟨es,ck,hs _ List.mem_cons_self,hm⟩
theorem akP.ext{kv:κ→Value}{F:List (κ×Value)}(h:akP s r kv F)(hs:Ext s s'):akP s' r kv F:=by
 obtain⟨es,ck,h1,h2⟩:=h
 exact⟨es,ck,hs _ _ h1,h2⟩
theorem jP.nil(r:Nat)(kv:κ→Value):jP r kv [] [(r,.map #[] 0)]:=⟨#[],0,rfl,rfl,List.nodup_nil,fun _ h=>(by cases h)⟩
section
variable {X:Cx} {o:Option JS}
def Q7[DecidableEq κ](z:Value)(ok:Bool)(k:κ)(F:List (κ×Value)):Value:=match lkM k F with
 |some v=>bif ok then .tuple ⟨[v,.bool true]⟩ else v
 |none=>bif ok then .tuple ⟨[z,.bool false]⟩ else z
def luV(P:Program)(n:Nat)(p:Oper)(e:Env):Option (TypeId×Value×Value×Value×Bool):=match p.op with
 | .lookup T x y ok=>match aZ P T with
  |some ⟨.map K E,_,_,_⟩=>match aZ P E with
   |some te=>match bp n e x with
    |some m=>match bp n e y with
     |some k=>some (K,m,k,Pf te.zero te.agg,ok)
     |none=>none
    |none=>none
   |none=>none
  |_=>none
 |_=>none
theorem jlu[DecidableEq κ]{kv:κ→Value}{F:List (κ×Value)}{K:TypeId}(k:κ)(z:Value)(ok:Bool)(ps:List Nat)(B:Cells)(hk:Tj X.P K kv)(hm:∀s:St,Ext ⟨X.ro,[]⟩ s→(∀x∈B,s.has x.1 x.2)→akP s r kv F)(hj:J X (M4 B (Q7 z ok k F) o))
 (hv:dF X.n (luV X.P X.n) o=some (K,.map (some r),kv k,z,ok):=by kernel_rfl)(hB:dM ps o=some B:=by kernel_rfl):J X o:=by
 refine jGN hv hB (fun s p e ho hh hf=>?_) hj
 subst ho
 unfold luV at hf
 split at hf<;>try (cases hf;done)
 rename_i T x y ok' ay
 split at hf<;>try (cases hf;done)
 rename_i K' E' _ _ _ dL
 split at hf<;>try (cases hf;done)
 rename_i te ug
 split at hf<;>try (cases hf;done)
 rename_i m hx
 split at hf<;>try (cases hf;done)
 rename_i k' hy
 simp only[Option.some.injEq,Prod.mk.injEq] at hf
 obtain⟨rfl,rfl,rfl,rfl,rfl⟩:=hf
 obtain⟨bD,tf⟩:=av dL
 obtain⟨Bx,qP⟩:=av ug
 refine⟨by rw[ay];rfl,fun s0 Ew u9 ops i ho rest hwt s' hs todo Q jI=>lR X.hC ho rest hwt (by rw[ay];rfl) ?_ hs jI⟩
 intro s1 cg f hf K2 E2 hK
 obtain⟨es,ck,jv,CU⟩:=(hm s0 Ew u9).ext cg
 simp only[execOp,ay,hf _ _ hx,hf _ _ hy,Instr.lookup,aa,a8 tf]
 refine cG jv rfl rfl ?_
 simp only[ae,aa]
 refine hk.chk _ _ ?_
 simp only[aa]
 refine hk.find k _ F CU.1 ?_
 simp only[Q7,lkM] at hK
 cases x6:su k F 0 with
 |none=>
  rw[x6] at hK
  simp only[aa,jT qP,ae]
  cases ok'<;>exact hK
 |some u=>
  obtain⟨i,v⟩:=u
  rw[x6] at hK
  simp only[ae]
  cases ok'<;>exact hK
def auS(p:Oper):Option Unit:=match p.op with
 | .makeMap _ none=>some ()
 |_=>none
theorem jmk(kv:κ→Value)(hj:∀r L,jP r kv [] L→J X (m9 [] (.map (some r)) L o))(hv:eR X.n (fun p _=>auS p) o=some ():=by kernel_rfl):J X o:=by
 obtain⟨ops,i,todo,k,e,w,kn,p,rfl,ho,hw,hc⟩:=dz hv
 intro bY
 unfold auS at hc
 split at hc<;>try (cases hc;done)
 rename_i T ay
 rcases p with ⟨dst,op,ty,pos,cZ,g⟩
 dsimp only at ay;subst ay
 refine bV X.hC ho hw (by simp) ?_
 simp only[execOp,Instr.makeMap,Option.map_none,aa,ox,ae]
 intro b hb
 have:=hj b _ (jP.nil b kv)
 rw[oe ho] at this
 have:=this bY
 simp only[JP,gp,xK] at this
 show ab _ _ _ _ _ _ _ _
 rw[aY]
 exact this
def muV(P:Program)(n:Nat)(p:Oper)(e:Env):Option (TypeId×Value×Value×Value):=match p.op with
 | .mapUpdate T x y z| .insert T x y z=>match aZ P T with
  |some ⟨.map K _,_,_,_⟩=>match bp n e x with
   |some m=>match bp n e y with
    |some k=>match bp n e z with
     |some v=>some (K,m,k,v)
     |none=>none
    |none=>none
   |none=>none
  |_=>none
 |_=>none
theorem E1(k:κ)(v:Value):∀(F:List (κ×Value)) (i:Nat),tK k v F i=F.set i (k,v)
 | [],_=>rfl
 |_::_,0=>rfl
 |x::l,i+1=>by simp only[tK,E1 k v l i,List.set_cons_succ]
theorem GS{kv:κ→Value}{k:κ}{v:Value}:∀(es:List MapEntry) (F:List (κ×Value)) (i:Nat),es.map (fun e=>(e.key,e.val))=F.map (fun x=>(kv x.1,x.2))→(es.modify i fun e=>{e with key:=kv k,val:=v}).map (fun e=>(e.key,e.val))=(tK k v F i).map (fun x=>(kv x.1,x.2))
 | [],[],_,_=>by simp[tK]
 | [],_::_,_,h=>by simp at h
 |_::_,[],_,h=>by simp at h
 |e::es,x::F,0,h=>by
  simp only[List.map_cons,List.cons.injEq] at h
  simp[tK,h.2]
 |e::es,x::F,i+1,h=>by
  simp only[List.map_cons,List.cons.injEq] at h
  simp[tK,h.1,GS es F i h.2]
theorem wX{kx v:Value}:∀(es:List MapEntry) (i:Nat),(es.modify i fun e=>{e with key:=kx,val:=v}).map (·.born)=es.map (·.born)
 | [],i=>by simp
 |e::es,0=>by simp
 |e::es,i+1=>by simp[wX es i]
theorem jmu[DecidableEq κ]{kv:κ→Value}{F:List (κ×Value)}{K:TypeId}{L:Cells}(i:Nat)(k:κ)(v:Value)(hk:Tj X.P K kv)(hm:jP r kv F L)(hj:∀L',jP r kv (mi k v F) L'→J X (m9 [i] undef L' o))
 (hv:eR X.n (muV X.P X.n) o=some (K,.map (some r),kv k,v):=by kernel_rfl)(hB:dM [i] o=some L:=by kernel_rfl):J X o:=by
 obtain⟨ops,i0,todo,kk,e,w,kn,p,rfl,ho,hw,hc⟩:=dz hv
 intro bY
 rcases p with ⟨dst,op,ty,pos,cZ,g⟩
 have main:∀T x y z,(op= .mapUpdate T x y z∨op= .insert T x y z)→muV X.P X.n ⟨dst,.mapUpdate T x y z,ty,pos,cZ,g⟩ e=some (K,.map (some r),kv k,v)→ab X.C X.fn X.az ops (i0::todo) (KQ X kk) (A X.n e X.D) ⟨X.ro,den w⟩:=by
  intro T x y z heq hc
  simp only[muV] at hc
  split at hc<;>try (cases hc;done)
  rename_i K' E' _ _ _ dL
  split at hc<;>try (cases hc;done)
  rename_i m hx
  split at hc<;>try (cases hc;done)
  rename_i k' hy
  split at hc<;>try (cases hc;done)
  rename_i v' hz
  simp only[Option.some.injEq,Prod.mk.injEq] at hc
  obtain⟨rfl,rfl,rfl,rfl⟩:=hc
  obtain⟨bD,tf⟩:=av dL
  have hp:=bJ hB
  obtain⟨es,ck,rfl,CU⟩:=hm
  obtain⟨L1,R1,cg⟩:=List.append_of_mem (hp.mem_iff.2 (List.mem_append_left _ List.mem_cons_self))
  have hle:∀L',jP r kv (mi k v' F) [(r,L')]→ab X.C X.fn X.az ops todo (KQ X kk) (A X.n (upd dst undef e) X.D) ⟨X.ro,L1++(r,L')::R1⟩:=by
   intro L' hL
   have:=hj _ hL
   rw[oe ho] at this
   have:=this bY
   simp only[JP,gp] at this
   refine this.more X.hC (dK (J:=[]) ?_ (Sub.refl _))
   have hp':(den w).Perm ([(r,.map es ck)]++den (dC [i] 0 w)):=hp
   have aPy:den w=L1++(r,.map es ck)::R1:=cg
   rw[aPy] at hp'
   have Tw:=(List.perm_middle.symm.trans hp').cons_inv
   rw[List.append_nil]
   exact List.perm_middle.trans (List.Perm.cons _ Tw)
  have jv:(⟨X.ro,den w⟩:St).has r (.map es ck):= .inr (by show _∈den w;rw[show den w=_ from cg];exact fo)
  refine bV X.hC ho hw (by rcases heq with rfl|rfl<;>simp) ?_
  have hex:∀f:Operand→Value,execOp f ⟨dst,op,ty,pos,cZ,g⟩=(do Instr.mapUpdate T (f x) (f y) (f z);pure .skip:Sem Next):=by
   intro f;rcases heq with rfl|rfl<;>simp only[execOp]
  rw[hex,aH hx,aH hy,aH hz]
  simp only[Instr.mapUpdate,aa,a8 tf]
  refine cG jv rfl rfl ?_
  simp only[aa]
  refine hk.chk _ _ ?_
  simp only[aa]
  refine hk.find k _ F CU.1 ?_
  have fin:∀ob,jP r kv (mi k v' F) [(r,ob)]→upon X.C X.P X.az dst (A X.n e X.D) (fun a' s'=>ab X.C X.fn X.az ops todo (KQ X kk) a' s') (KQ X kk) .skip ⟨X.ro,L1++(r,ob)::R1⟩:=by
   intro ob hL
   show ab _ _ _ _ _ _ _ _
   have:=hle ob hL
   rw[←aY] at this
   exact this
  cases x6:su k F 0 with
  |some u=>
   obtain⟨j,u⟩:=u
   have TD:=qv x6
   simp only[Nat.sub_zero] at TD
   have aQu:((es[j]?).map (·.key)).getD (kv k)=kv k:=by
    have h1:(es.toList.map (fun e=>(e.key,e.val)))[j]?=some (kv k,u):=by rw[CU.1];simp[TD.2]
    simp only[List.getElem?_map,Array.getElem?_toList] at h1
    cases he:es[j]? with
    |none=>rfl
    |some e1=>rw[he] at h1;simp at h1;simp[h1.1]
   simp only[aa,Instr.keyThatStays,aQu,hk.stay,if_true,ae]
   refine ee rfl cg rfl<|fin _ ⟨_,_,rfl,?_,?_,?_⟩
   ·simp only[Array.toList_modify,mi,x6]
    exact GS _ _ _ CU.1
   ·simp only[Array.toList_modify,wX];exact CU.2.1
   intro e1 h1
   have:e1.born∈((es.toList.modify j fun e=>{e with key:=kv k,val:=v'}).map (·.born)):=List.mem_map_of_mem (by simpa using h1)
   rw[wX] at this
   obtain⟨e2,h3,h4⟩:=List.mem_map.1 this
   rw[←h4];exact CU.2.2 e2 h3
  |none=>
   refine ee rfl cg rfl<|fin _ ⟨_,_,rfl,?_,?_,?_⟩
   ·simp only[Array.toList_push,List.map_append,mi,x6,CU.1];rfl
   ·simp only[Array.toList_push,List.map_append,List.map_cons,List.map_nil]
    refine List.nodup_append.2 ⟨CU.2.1,by simp,?_⟩
    intro a ha b hb
    obtain⟨e2,h3,rfl⟩:=List.mem_map.1 ha
    have:=CU.2.2 e2 h3
    simp only[List.mem_singleton] at hb
    omega
   intro e1 h1
   simp only[Array.toList_push,List.mem_append,List.mem_singleton] at h1
   rcases h1 with h1|rfl
   ·have:=CU.2.2 e1 h1;omega
   exact Nat.lt_succ_self _
 have TH:=hc
 unfold muV at hc
 split at hc<;>try (cases hc;done)
 ·rename_i T x y z ay
  dsimp only at ay
  exact main T x y z (.inl ay) (by rw[←TH,ay])
 rename_i T x y z ay
 dsimp only at ay
 refine main T x y z (.inr ay) ?_
 rw[←TH,ay];rfl
end
attribute [irreducible] luV auS muV
section
variable {X:Cx} {o:Option JS}
def Me(P:Program)(n:Nat)(p:Oper)(e:Env):Option (FuncId×List Value):=match p.op with
 | .call ⟨.invoke x name,xs,_⟩=>match bp n e x with
  |some (.iface t v)=>match bx P (method (P.types.size+Made.depth) t v name) with
   |some (f,r)=>match yc n e xs.toList with
    |some vs=>bif BR P f then some (f,r::vs) else none
    |none=>none
   |none=>none
  |_=>none
 |_=>none
theorem akk(h:Me P n p e=some (f,vs)):FF P f∧∃x name xs at_ t v r ws,p.op= .call ⟨.invoke x name,xs,at_⟩∧bp n e x=some (.iface t v)∧bx P (method (P.types.size+Made.depth) t v name)=some (f,r)∧yc n e xs.toList=some ws∧vs=r::ws:=by
 unfold Me at h
 split at h<;>try (cases h;done)
 rename_i x name xs at_ ay
 split at h<;>try (cases h;done)
 rename_i t v hx
 split at h<;>try (cases h;done)
 rename_i f0 r hm
 split at h<;>try (cases h;done)
 rename_i ws rZ
 cases hb:BR P f0 with
 |false=>rw[hb] at h;cases h
 |true=>
  rw[hb] at h
  simp only[cond_true,Option.some.injEq,Prod.mk.injEq] at h
  obtain⟨rfl,rfl⟩:=h
  exact⟨k8 hb,x,name,xs,at_,t,v,r,ws,ay,hx,hm,rZ,rfl⟩
theorem jpI{V:Value}(hf:∀aG,Sub X.ro aG→dr X.P f vs aG V)(hj:J X (M4 [] V o))(h1:dF X.n (Me X.P X.n) o=some (f,vs):=by kernel_rfl)(h3:dM [] o=some []:=by kernel_rfl):J X o:=by
 refine jGN h1 h3 (fun s p e ho hh hc=>?_) hj
 obtain⟨ff,x,name,xs,at_,t,v,r,ws,ay,hx,hm,rZ,rfl⟩:=akk hc
 rcases p with ⟨dst,op,ty,pos,cZ,g⟩
 dsimp only at ay;subst ay
 refine⟨rfl,fun s0 Ew u9 ops i s9 rest hw s' hs todo Q hk=>?_⟩
 refine bV X.hC s9 hw (by simp) ?_
 have e1:=aH (bh (rest:=rest) hx)
 have e2:xs.map (ev X.n (e++rest))=⟨ws⟩:=sg (xI rZ)
 simp only[execOp,resolve,e1,e2,ae]
 have hex:((#[Value.iface t v]++(⟨ws⟩:Array Value)).extract 1 (#[Value.iface t v]++(⟨ws⟩:Array Value)).size)=⟨ws⟩:=by simp
 have h0:(#[Value.iface t v]++(⟨ws⟩:Array Value))[0]?=some (.iface t v):=by simp
 simp only[invoke,h0,hex,callMethod,aa,eJ]
 refine aX hm ?_
 have mL:(#[r]++⟨ws⟩:Array Value)=⟨r::ws⟩:=by simp
 rw[mL]
 refine jU ff ?_
 have hu:=(dr.use (s:=⟨X.ro,[]⟩) (sz:=s') (fun b o hb=>hs _ _ (Ew _ _ hb)) (fun aG h1=>hf aG fun b ob hb=>h1 b ob (.inl hb))).weaken X.hC
 refine Fn.mono hu fun en s1 DO=>?_
 obtain⟨rfl,hle⟩:=DO
 show ab _ _ _ _ _ _ _ _
 rw[aY]
 exact hk.more X.hC hle
theorem jS{β:Type}{f:Oper→Env→Option β}{r:β}(ps:List Nat)(B:Cells)(hv:eR X.n f o=some r)(hB:dM ps o=some B)
 (hy:∀p e,f p e=some r→(∀c,p.op≠ .defer c)∧∀(R:Cells) (Q:Next→St→Prop) (E:Halt→St→Prop),(∀v L',Φ v L'→Q (.value v) ⟨X.ro,L'++R⟩)→bP X.P (execOp (ev X.n e) p) ⟨X.ro,B++R⟩ Q E)
 (hj:∀v L',Φ v L'→J X (m9 ps v L' o)):J X o:=by
 obtain⟨ops,i,todo,k,e,w,kn,p,rfl,ho,hw,hc⟩:=dz hv
 intro bY
 have hp:=bJ hB
 obtain⟨hd,ht⟩:=hy p e hc
 have:ab X.C X.fn X.az ops (i::todo) (KQ X k) (A X.n e X.D) ⟨X.ro,B++den (dC ps 0 w)⟩:=by
  refine bV X.hC ho hw hd<|ht _ _ _ fun v L' pz=>?_
  have:=hj v L' pz
  rw[oe ho] at this
  have:=this bY
  simp only[JP,gp] at this
  show ab _ _ _ _ _ _ _ _
  rw[aY]
  exact this
 have hle:(⟨X.ro,B++den (dC ps 0 w)⟩:St).le ⟨X.ro,den w⟩:=⟨[],by rw[List.append_nil];exact hp,fun b o hb=> .inl hb⟩
 exact this.more X.hC hle
end
attribute [irreducible] Me
section
variable {X:Cx} {o:Option JS}
def iaA(P:Program)(n:Nat)(p:Oper)(e:Env):Option (Nat×Nat×Int×Nat×Nat):=match p.op with
 | .indexAddr T x y=>match aZ P T with
  |some ⟨.array len E,_,_,_⟩=>match aZ P E with
   |some te=>match bp n e x with
    |some (.pointer (some ⟨b,off,none⟩))=>match bp n e y with
     |some (.int _ ix)=>some (b,off,ix,len,te.size)
     |_=>none
    |_=>none
   |none=>none
  |_=>none
 |_=>none
theorem KZ{b len:Nat}(ix:Int)(hi:0≤ix∧ix <len)(hj:J X (jZ (.pointer (some ⟨b,off+ix.toNat*sz,none⟩)) o))(hv:dF X.n (iaA X.P X.n) o=some (b,off,ix,len,sz):=by kernel_rfl):J X o:=by
 refine jG hv (fun s p e ho hh hf=>?_) hj
 unfold iaA at hf
 split at hf<;>try (cases hf;done)
 rename_i T x y ay
 split at hf<;>try (cases hf;done)
 rename_i aDT E _ _ _ dL
 split at hf<;>try (cases hf;done)
 rename_i te ug
 split at hf<;>try (cases hf;done)
 rename_i b' auE hx
 split at hf<;>try (cases hf;done)
 rename_i ik ix' hy
 simp only[Option.some.injEq,Prod.mk.injEq] at hf
 obtain⟨rfl,rfl,rfl,rfl,rfl⟩:=hf
 obtain⟨bD,tf⟩:=av dL
 obtain⟨Bx,qP⟩:=av ug
 have key:∀s,Yields X.P X.n e p s (.pointer (some ⟨b',auE+ix'.toNat*te.size,none⟩)):=by
  intro s s' mX f hf K E hK
  simp only[execOp,ay,Instr.indexAt,Instr.sureAddr,hf _ _ hx,hf _ _ hy,asIntOf,aa,ae,a8 tf,hi,and_self,if_true,cv qP,dJ]
  exact hK
 exact⟨by rw[ay];rfl,fun _=>key _,fun _=>key⟩
def saV(P:Program)(n:Nat)(p:Oper)(e:Env):Option (Nat×Nat×Int×Nat):=match p.op with
 | .slice T x none (some z) none=>match aZ P T with
  |some ⟨.array len E,_,_,_⟩=>match aZ P E with
   |some _=>match bp n e x with
    |some (.pointer (some ⟨b,off,none⟩))=>match bp n e z with
     |some (.int _ ix)=>some (b,off,ix,len)
     |_=>none
    |_=>none
   |none=>none
  |_=>none
 |_=>none
theorem jah{b len:Nat}(hi:Int)(hl:0≤hi∧hi≤len)(hj:J X (jZ (.slice (some ⟨b,off,none⟩) hi.toNat len) o))(hv:dF X.n (saV X.P X.n) o=some (b,off,hi,len):=by kernel_rfl):J X o:=by
 refine jG hv (fun s p e ho hh hf=>?_) hj
 unfold saV at hf
 split at hf<;>try (cases hf;done)
 rename_i T x z ay
 split at hf<;>try (cases hf;done)
 rename_i aDT E _ _ _ dL
 split at hf<;>try (cases hf;done)
 rename_i te ug
 split at hf<;>try (cases hf;done)
 rename_i b' auE hx
 split at hf<;>try (cases hf;done)
 rename_i ik ix' hy
 simp only[Option.some.injEq,Prod.mk.injEq] at hf
 obtain⟨rfl,rfl,rfl,rfl⟩:=hf
 obtain⟨bD,tf⟩:=av dL
 obtain⟨Bx,qP⟩:=av ug
 have key:∀s,Yields X.P X.n e p s (.slice (some ⟨b',auE,none⟩) ix'.toNat aDT):=by
  intro s s' mX f hf K E hK
  simp only[execOp,ay,Option.map_some,Option.map_none,Instr.sliceAt,Instr.sliceBounds,Instr.sliceBound,Instr.sureAddr,hf _ _ hx,hf _ _ hy,asIntOf,aa,ae,a8 tf,Option.isSome_none,Bool.false_eq_true,if_false,hl,and_self,if_true,cv qP,Nat.zero_mul,dJ,Nat.add_zero,ite_self,Nat.sub_zero]
  exact hK
 exact⟨by rw[ay];rfl,fun _=>key _,fun _=>key⟩
end
theorem sP{b:Nat}{v:Value}(h:s.has b (.cells ⟨l⟩ t fz))(hv:nth l off=some v):cA s b off 1 [v]:=
 ⟨_,_,_,h,by rw[rS] at hv;simp[iP (show off+1≤l.length by have:=(List.getElem?_eq_some_iff.1 hv).1;omega),List.drop_eq_getElem_cons (List.getElem?_eq_some_iff.1 hv).1,(List.getElem?_eq_some_iff.1 hv).2]⟩
theorem aeP{b o m:Nat}{v:Value}(h:cA s b o m l)(hv:nth l off=some v):cA s b (o+off) 1 [v]:=
 h.part off 1 (by rw[rS] at hv;simp[iP (show off+1≤l.length by have:=(List.getElem?_eq_some_iff.1 hv).1;omega),List.drop_eq_getElem_cons (List.getElem?_eq_some_iff.1 hv).1,(List.getElem?_eq_some_iff.1 hv).2])
open Go.ConcR (KK wgBlock WgAt stA smA rd wr)
def TT(T:Goroutine→St→Prop)(b:Frame)(Ag:List Item)(cs:List Frame)(n:Nat)(D:List Deferred)(ro:Nat→Option Obj)(o:Option JS):Prop:=
 ∀e w kn,o=some ⟨.fin .normal,e,w,kn⟩→Knows ro kn.c→T (G (aM b (A n e D) Ag) cs) ⟨ro,den w⟩
def CT(hm:P.follows .mixedOrders=true)(hT:Closed P main T)(b:Frame)(Ag:List Item)(cs:List Frame)(n:Nat)(D:List Deferred)(ro:Nat→Option Obj):Cx:=
 ⟨P,fun m T'=>m=main∧T'=T,by rintro _ _ ⟨rfl,rfl⟩;exact hT,hm,b.fn,none,n,D,ro,jM T b Ag cs⟩
def Wi:Option JS→Bool
 |some ⟨.fin .normal,_,_,_⟩=>true
 |_=>false
def opO(ops:Array Oper)(todo:List Nat):Option JS→Option JS
 |some ⟨.fin .normal,e,w,kn⟩=>some ⟨.ops ops todo [],e,w,⟨kn.c,[]⟩⟩
 |_=>none
def cdO(c:Code):Option JS→Option JS
 |some ⟨.fin .normal,e,w,kn⟩=>some ⟨.code c [],e,w,⟨kn.c,[]⟩⟩
 |_=>none
def stO(dst:Option Tmp)(v:Value):Option JS→Option JS
 |some ⟨p,e,w,kn⟩=>some ⟨p,upd dst v e,w,kn⟩
 |none=>none
def nwO(dst:Option Tmp)(v:Value)(q:Nat)(ob:Obj):Option JS→Option JS
 |some ⟨p,e,w,kn⟩=>some ⟨p,upd dst v e,.b q ob::w,kn⟩
 |none=>none
def adO(L:Cells):Option JS→Option JS
 |some ⟨p,e,w,kn⟩=>some ⟨p,e,.l L::w,kn⟩
 |none=>none
def evO(n:Nat)(x:Operand):Option JS→Option Value
 |some ⟨_,e,_,_⟩=>bp n e x
 |none=>none
def aTu(n:Nat)(xs:List Operand):Option JS→Option (List Value)
 |some ⟨_,e,_,_⟩=>yc n e xs
 |none=>none
def vaO(P:Program)(n:Nat)(a:Oper):Option JS→Option Value
 |some ⟨_,e,_,_⟩=>adQ P n e a
 |none=>none
theorem aca(h:Wi o=true):∃e w kn,o=some ⟨.fin .normal,e,w,kn⟩:=by
 unfold Wi at h
 split at h
 ·exact⟨_,_,_,rfl⟩
 cases h
def fr0(f:FuncId)(k:CallKind):Frame:={(default:Frame) with fn:=f,kind:=k,roundOf:=none}
section
variable {P:Program} {main:Bool} {T:Goroutine→St→Prop} {b:Frame} {Ag:List Item} {cs:List Frame} {n:Nat} {D:List Deferred} {ro:Nat→Option Obj} {o:Option JS} {ops:Array Oper}
theorem aef(h:TT T b Ag cs n D ro o)(hQ:X.Q=jM T b Ag cs)(hn:X.n=n)(hD:X.D=D)(A3:X.ro=ro)(h1:Wi o=true):J X o:=by
 subst hn hD A3
 obtain⟨e,w,kn,rfl⟩:=aca h1
 intro bY
 show X.Q .normal _ _
 rw[hQ]
 exact h _ _ _ rfl bY
theorem xW{hm:P.follows .mixedOrders=true}{hT:Closed P main T}(h:TT T b Ag cs n D ro o)(h1:Wi o=true:=by kernel_rfl):J (CT hm hT b Ag cs n D ro) o:=aef h rfl rfl rfl rfl h1
theorem aBN{hm:P.follows .mixedOrders=true}{hT:Closed P main T}(h:TT T b Ag cs n D ro o)(h1:Wi o=true:=by kernel_rfl):J ((CT hm hT b Ag cs n D px).at ro) o:=aef h rfl rfl rfl rfl h1
theorem aBM{hm:P.follows .mixedOrders=true}{hT:Closed P main T}(h:TT T b Ag cs n (dW bd::D) ro o)(h1:Wi o=true:=by kernel_rfl):J ((CT hm hT b Ag cs n D ro).dm bd) o:=aef h rfl rfl rfl rfl h1
theorem vN(hm:P.follows .mixedOrders=true)(hT:Closed P main T)(hj:J (CT hm hT b Ag cs n D ro) (opO ops todo o))(hk:b.kind≠ .early:=by decide)(hr:b.roundOf=none:=by rfl):TT T b (.inRegion ops todo::Ag) cs n D ro o:=by
 rintro e w kn rfl bY
 exact hj bY main T ⟨rfl,rfl⟩ b Ag cs rfl hk hr fun e a s q=>q
theorem aBO(hm:P.follows .mixedOrders=true)(hT:Closed P main T){c:Code}(hj:J (CT hm hT b Ag cs n D ro) (cdO c o))(hk:b.kind≠ .early:=by decide)(hr:b.roundOf=none:=by rfl):TT T b (.code c::Ag) cs n D ro o:=by
 rintro e w kn rfl bY
 exact hj bY main T ⟨rfl,rfl⟩ b Ag cs rfl hk hr fun e a s q=>q
theorem tSt(hT:Closed P main T)(ef:Env)(wf:List Sg)(ps:List Nat)(h:∀rest,TT T b Ag cs n D ro (some ⟨.fin .normal,ef++rest,wf,⟨[],[]⟩⟩))(h1:ri (nn ef) o=some ef:=by kernel_rfl)(h2:q6 ps o=some wf:=by kernel_rfl)(h3:lkE (nn ef) ef=some ef:=by kernel_rfl):TT T b Ag cs n D ro o:=by
 rintro e w kn rfl bY
 obtain⟨rest,he⟩:=fW (n:=n) (D:=D) (kH (by rw[sX] at h1;exact h1)) (kH h3)
 rw[he]
 exact hT.mono _ ⟨ro,den wf⟩ _ (dK (lQ h2) (Sub.refl _)) (h rest _ _ _ rfl fun _ h=>(by cases h))
section
variable {k:List Item} {rest l:List Code} (hT:Closed P main T)
include hT
theorem p7(hl:gD l= .region id ops false::rest)(h:∀l',gD l'=rest→TT T b (.inRegion ops (List.range ops.size)::(l'.map .code++k)) cs n D ro o):TT T b (l.map .code++k) cs n D ro o:=
 fun e w kn ho bY=>dG hT hl fun l' zg=>h l' zg e w kn ho bY
theorem Xs{c:Operand}{x y:Code}{t q:Bool}(hl:gD l= .cond c x y::rest)(hq:q=t)(h:∀l',gD l'=rest→TT T b (.code (if t then x else y)::(l'.map .code++k)) cs n D ro o)(hc:evO n c o=some (.bool q):=by kernel_rfl):TT T b (l.map .code++k) cs n D ro o:=by
 subst hq
 rintro e w kn rfl bY
 exact AS hT hl (by rw[dY];exact aH hc) fun l' zg=>h l' zg e w kn rfl bY
theorem Mv{c:Code}(hl:gD l= .block id c::rest)(h:∀l',gD l'=rest→TT T b ([c].map .code++(.inBlock id::(l'.map .code++k))) cs n D ro o):TT T b (l.map .code++k) cs n D ro o:=
 fun e w kn ho bY=>wm hT hl fun l' zg=>h l' zg e w kn ho bY
theorem aqs{c:Code}(hl:gD l= .loop c::rest)(h:∀l',gD l'=rest→TT T b ([c].map .code++(.inLoop c::(l'.map .code++k))) cs n D ro o):TT T b (l.map .code++k) cs n D ro o:=
 fun e w kn ho bY=>Nc hT hl fun l' zg=>h l' zg e w kn ho bY
theorem aqt{c:Code}(hl:gD l=c::rest)(h:∀l',gD l'=rest→TT T b (.code c::(l'.map .code++k)) cs n D ro o):TT T b (l.map .code++k) cs n D ro o:=
 fun e w kn ho bY=>nO hT hl fun l' zg=>h l' zg e w kn ho bY
theorem aqq(h:TT T b k cs n D ro o):TT T b (.code .skip::k) cs n D ro o:=fun e w kn ho bY=>Of hT (h e w kn ho bY)
theorem aqu{k':List Item}(hk:exitTo id k=some k')(h:TT T b k' cs n D ro o):TT T b (.code (.exit id)::k) cs n D ro o:=fun e w kn ho bY=>Og hT hk (h e w kn ho bY)
theorem aqv(h:TT T b k cs n D ro o):TT T b (.inBlock id::k) cs n D ro o:=fun e w kn ho bY=>Db hT (h e w kn ho bY)
theorem Xr(h:TT T b k cs n D ro o):TT T b (.inRegion ops []::k) cs n D ro o:=fun e w kn ho bY=>gV hT (h e w kn ho bY)
theorem aeg{c:Code}(h:TT T b ([c].map .code++(.inLoop c::k)) cs n D ro o):TT T b (.inLoop c::k) cs n D ro o:=fun e w kn ho bY=>Ac hT (h e w kn ho bY)
theorem aBI{a:Oper}{f:Nat→Value}{ob:Obj}(ho:ops[i]?=some a) (hg:a.guard=none) (tb:∀e q,US P (execOp (ev n e) a) q=some (ob,f q)) (hk:b.kind≠ .early) (hr:b.roundOf=none)
 (h:∀q,TT T b (.inRegion ops todo::k) cs n D ro (nwO a.dst (f q) q ob o)):TT T b (.inRegion ops (i::todo)::k) cs n D ro o:=by
 rintro e w kn rfl bY
 refine sS hT ho (dw _ _ hg) hk hr ?_
 rw[dY]
 refine GN (f:=f) (fun q _=>⟨_,rfl,?_⟩) _ (tb e)
 rw[aY]
 have:=h q _ _ _ rfl bY
 rw[iH] at this
 exact this
theorem aBF{a:Oper}(v:Value)(ho:ops[i]?=some a) (hg:a.guard=none) (hk:b.kind≠ .early) (hr:b.roundOf=none) (h:TT T b (.inRegion ops todo::k) cs n D ro (stO a.dst v o)) (hv:vaO P n a o=some v:=by kernel_rfl):TT T b (.inRegion ops (i::todo)::k) cs n D ro o:=by
 rintro e w kn rfl bY
 refine sS hT ho (dw _ _ hg) hk hr ?_
 rw[dY]
 refine Av hv _ (Ext.refl _) _ (fun _ _ h=>aH h) _ _ ⟨v,rfl,?_⟩
 rw[aY]
 exact h _ _ _ rfl bY
theorem tLd{a:Oper}(v:Value)(ho:ops[i]?=some a) (hg:a.guard=none) (ay:a.op= .load U x) (ht:(aZ P U).map (·.agg)=some false) (hk:b.kind≠ .early) (hr:b.roundOf=none) (hb:∀e w kn,o=some ⟨.fin .normal,e,w,kn⟩→(⟨ro,den w⟩:St).has q (.cells ⟨[v]⟩ t fz))
 (h:TT T b (.inRegion ops todo::k) cs n D ro (stO a.dst v o)) (hx:evO n x o=some (.pointer (some ⟨q,0,none⟩)):=by kernel_rfl):TT T b (.inRegion ops (i::todo)::k) cs n D ro o:=by
 rintro e w kn rfl bY
 refine sS hT ho (dw _ _ hg) hk hr ?_
 rw[dY]
 cases dL:aZ P U with
 |none=>rw[dL] at ht;cases ht
 |some z=>
 rw[dL] at ht
 simp only[Option.map_some,Option.some.injEq] at ht
 obtain⟨bD,tf⟩:=av dL
 rw[ht] at tf
 simp only[execOp,ay,Instr.loadAt,aH hx,Instr.sureAddr,loadVar,aa,ae,kz tf,Bool.false_eq_true,if_false]
 refine vM ⟨[v],t,fz,hb _ _ _ rfl,rfl⟩ ⟨v,rfl,?_⟩
 rw[aY]
 exact h _ _ _ rfl bY
theorem aL5{a:Oper}(v:Value)(ho:ops[i]?=some a) (hg:a.guard=none) (ay:a.op= .load U x) (ht:(aZ P U).map (·.agg)=some false) (hk:b.kind≠ .early) (hr:b.roundOf=none) (ps:List Nat) (t:TypeId)
 (h:TT T b (.inRegion ops todo::k) cs n D ro (stO a.dst v o)) (hx:evO n x o=some (.pointer (some ⟨q,0,none⟩)):=by kernel_rfl) (hd:dM ps o=some [(q,.cells ⟨[v]⟩ t (0,0))]:=by kernel_rfl):TT T b (.inRegion ops (i::todo)::k) cs n D ro o:=
 tLd hT v ho hg ay ht hk hr (fz:=(0,0)) (t:=t) (q:=q) (fun e w kn he=>by
  subst he
  exact .inr ((bJ hd).mem_iff.2 (List.mem_append_left _ (List.mem_singleton.2 rfl)))) h hx
end
theorem atu(hT:Closed P main T){a:Oper}{xs:Array Operand}(ho:ops[i]?=some a) (hg:a.guard=none) (ay:a.op= .defer ⟨.value (.func f),xs,ats⟩) (hk:b.kind≠ .early) (hr:b.roundOf=none)
 (h:TT T b k cs n ({target:= .fn (.func f) ⟨[]⟩,args:=⟨vs⟩}::D) ro (stO a.dst undef o)) (hx:aTu n xs.toList o=some vs:=by kernel_rfl):TT T b (.inRegion ops [i]::k) cs n D ro o:=by
 rintro e w kn rfl bY
 have hC:∀m T',(fun m T'=>m=main∧T'=T:Class) m T'→Closed P m T':=by rintro _ _ ⟨rfl,rfl⟩;exact hT
 have key:ab (fun m T'=>m=main∧T'=T) b.fn none ops [i] (jM T b k cs) (A n e D) ⟨ro,den w⟩:=by
  refine Nb (P:=P) hC ho (dw _ _ hg) (.inl rfl) ?_
  rw[dY]
  have e1:ev n e (.func f)= .func (.func f) #[] #[]:=rfl
  have e2:xs.map (ev n e)=⟨vs⟩:=sg hx
  simp only[execOp,ay,resolve,e1,Deferred.ofValue,ae,e2]
  refine⟨rfl,?_⟩
  have hA:({A n e D with defers:={target:= .fn (.func f) ⟨[]⟩,args:=⟨vs⟩}::(A n e D).defers}:Act).put a.dst undef=A n (upd a.dst undef e) ({target:= .fn (.func f) ⟨[]⟩,args:=⟨vs⟩}::D):=by
   rw[←aY];rfl
  have he:(⟨[]⟩:Array Value)++(⟨vs⟩:Array Value)=⟨vs⟩:=by simp
  rw[he]
  have:=h _ _ _ rfl bY
  rw[←hA] at this
  exact fun m T' hc b' k' I9 h1 h2 h3 h4=>by
   obtain⟨rfl,rfl⟩:=hc
   exact gV hT (h4 .normal _ _ this)
 exact key main T ⟨rfl,rfl⟩ b k cs rfl hk hr fun e a s q=>q
end
attribute [irreducible] Wi opO cdO
structure akK(L:Nat→Option Obj)(X:Cells)(ro aD:Nat→Option Obj):Prop where
 of:∀q o,L q=some o→(q,o)∈X
 on:∀q o,(q,o)∈X→L q=some o
 sub:Sub ro aD
 kn:Knows aD X
 nd:(X.map (·.1)).Nodup
 ap:∀q o,(q,o)∈X→ro q=none
def bkO(L:Cells):Option JS→Option JS
 |some ⟨p,e,w,_⟩=>some ⟨p,e,.l L::w,⟨[],[]⟩⟩
 |none=>none
def Up(ps:List Nat):Option JS→Option Cells
 |some ⟨_,_,w,_⟩=>some (den (dC ps 0 w))
 |none=>none
def Yo:Option JS→Option JS
 |some ⟨p,e,_,kn⟩=>some ⟨p,e,[],⟨kn.c,[]⟩⟩
 |none=>none
theorem Dd:∀(w:List Sg) (k:Nat),dC [] k w=w
 | [],_=>rfl
 |x::w,k=>by
  simp only[dC,ba]
  rw[Dd w]
  rfl
theorem akK.back{L:Nat→Option Obj}{X:Cells}{roK:Nat→Option Obj}{rwK:Cells}(h:akK L X ro aD)(hs:Sub aD roK):
 (∀w,aR ⟨roK,rwK⟩ w→(∀b o,L b=some o→w.heap[b]?=some o)→aR ⟨ro,X++rwK⟩ w)∧∀b,(⟨ro,X++rwK⟩:St).knows b→L b≠none∨(⟨roK,rwK⟩:St).knows b:=by
 refine⟨fun w hw hL=>⟨fun q o hq=>hw.ro q o (hs _ _ (h.sub _ _ hq)),fun q o hq=>?_,?_,fun q o hq=>?_⟩,fun q hq=>?_⟩
 ·rcases List.mem_append.1 hq with hq|hq
  ·exact hL q o (h.on q o hq)
  exact hw.rw q o hq
 ·show ((X++rwK).map (·.1)).Nodup
  rw[List.map_append,List.nodup_append]
  refine⟨h.nd,hw.nodup,fun q hq q' Fa e=>?_⟩
  subst e
  obtain⟨⟨q1,o1⟩,h1,rfl⟩:=List.mem_map.1 hq
  obtain⟨⟨q2,o2⟩,h2,e2⟩:=List.mem_map.1 Fa
  simp only at e2
  subst e2
  have h3:=hs _ _ (h.kn _ h1)
  have h4:=hw.apart _ _ h2
  dsimp only at h3 h4
  rw[h4] at h3
  cases h3
 ·show ro q=none
  rcases List.mem_append.1 hq with hq|hq
  ·exact h.ap q o hq
  have h2:roK q=none:=hw.apart q o hq
  cases hr:ro q with
  |none=>rfl
  |some o'=>rw[hs _ _ (h.sub _ _ hr)] at h2;cases h2
 rcases hq with hq| ⟨o,hq⟩
 ·have hq:ro q≠none:=hq
  cases hr:ro q with
  |none=>exact absurd hr hq
  |some o'=>exact .inr (.inl (by show roK q≠none;rw[hs _ _ (h.sub _ _ hr)];simp))
 rcases List.mem_append.1 hq with h'|h'
 ·exact .inl (by rw[h.on q o h'];simp)
 exact .inr (.inr ⟨o,h'⟩)
section
variable {ι:Type} {E:dN ι} {Q:Machine→Outcome→World→Trace→Prop} {b:Frame} {Ag:List Item} {cs:List Frame} {n:Nat} {D:List Deferred} {ro:Nat→Option Obj} {o:Option JS} {ops:Array Oper} {L:Nat→Option Obj}
theorem att{tm:Bool}(iw ic:Nat)(X:Cells)(iL:Closed E.P true (TL E.P ez (fun _=>none) (Calm E.os E.out) Q))
 (h:∀L aD,akK L X ro aD→E.Wg≠E.Ch→L E.Ch=none→TT (TM E L Q 0 false [] 0) b Ag cs n D aD (Yo o))
 (hW:dM [iw,ic] o=some [(E.Wg,wgBlock E.ty 0 0),(E.Ch,.chan 0 #[] false 0 0 tm)]:=by kernel_rfl)(hX:Up [iw,ic] o=some X:=by kernel_rfl):TT (TL E.P ez (fun _=>none) (Calm E.os E.out) Q) b Ag cs n D ro o:=by
 rintro e w kn rfl bY
 refine Closed.jK iL rfl fun⟨w0,YN⟩=>?_
 have hp:=bJ hW
 simp only[Up,Option.some.injEq] at hX
 have Tw:=hp
 dsimp only at Tw
 rw[hX] at Tw
 have hm:∀x,x∈den w↔x=(E.Wg,wgBlock E.ty 0 0)∨x=(E.Ch,.chan 0 #[] false 0 0 tm)∨x∈X:=fun x=>by
  rw[Tw.mem_iff]
  simp
 have mb:=(Tw.map (·.1)).nodup_iff.1 YN.nodup
 simp only[List.cons_append,List.nil_append,List.map_cons,List.nodup_cons,List.mem_cons,not_or] at mb
 obtain⟨⟨dH,hW1⟩,hC1,RD⟩:=mb
 have Ak:∀x∈X,x∈den w:=fun x hx=>(hm x).2 (.inr (.inr hx))
 have aGG:(E.Wg,wgBlock E.ty 0 0)∈den w:=(hm _).2 (.inl rfl)
 have aiO:(E.Ch,Obj.chan 0 #[] false 0 0 tm)∈den w:=(hm _).2 (.inr (.inl rfl))
 have NJ:∀y∈X,y.1≠E.Wg∧y.1≠E.Ch:=fun y hy=>⟨fun e=>hW1 (e▸List.mem_map.2 ⟨_,hy,rfl⟩),fun e=>hC1 (e▸List.mem_map.2 ⟨_,hy,rfl⟩)⟩
 let L:Nat→Option Obj:=fun q=>(X.find? fun y=>y.1==q).map (·.2)
 have VU:∀q o,L q=some o→(q,o)∈X:=fun q o hq=>by
  obtain⟨y,hy,rfl⟩:=Option.map_eq_some_iff.1 hq
  obtain⟨h1,h2⟩:=oK hy
  subst h2
  exact h1
 have aSp:∀q o,(q,o)∈X→L q=some o:=fun q o hq=>by
  show (X.find? fun y=>y.1==q).map (·.2)=some o
  rw[wM RD hq];rfl
 have VV:L E.Ch=none:=by
  cases hq:L E.Ch with
  |none=>rfl
  |some o=>exact absurd rfl (NJ _ (VU _ _ hq)).2
 have mL:∀q o,(q,o)∈X→ro q=none:=fun q o hq=>YN.apart q o (Ak _ hq)
 have fx:Sub ro (St.freeze ⟨ro,X⟩).ro:=fun q o hq=>St.nM (s:=⟨ro,X⟩) hq fun q o hq=>mL q o hq
 have ah0:∀q,(∃o,(q,o)∈den w)→(q=E.Wg∨q=E.Ch)→¬(St.freeze ⟨ro,X⟩).knows q:=by
  rintro q ⟨o,ho⟩ hq (hk| ⟨o',Fb⟩)
  ·simp only[St.freeze] at hk
   split at hk
   ·rename_i y hy
    obtain⟨h1,h2⟩:=oK hy
    have:=NJ _ h1
    rcases hq with e|e
    ·exact this.1 (h2.trans e)
    exact this.2 (h2.trans e)
   exact hk (YN.apart q o ho)
  cases Fb
 have aFB:akK L X ro (St.freeze ⟨ro,X⟩).ro:=⟨VU,aSp,fx,fun x hx=>St.tj (s:=⟨ro,X⟩) (by rcases x with ⟨q,o⟩;exact hx) RD,RD,mL⟩
 refine PD (E:=E) (L:=L) (s':=St.freeze ⟨ro,X⟩) rfl dH aGG ⟨tm,aiO⟩ ?_ (ah0 _ ⟨_,aGG⟩ (.inl rfl)) (ah0 _ ⟨_,aiO⟩ (.inr rfl)) (fun q ⟨o,ho⟩=>by cases ho) (fun q o hq=>⟨.inr (Ak _ (VU _ _ hq)),NJ _ (VU _ _ hq)⟩) ?_
 ·refine⟨den w,by simp[St.freeze],fun q o hq=>?_⟩
  simp only[St.freeze] at hq
  split at hq
  ·rename_i y hy
   obtain⟨h1,h2⟩:=oK hy
   cases hq
   subst h2
   exact .inr (Ak _ h1)
  exact .inl hq
 exact(h L _ aFB dH VV _ _ _ rfl (bY.up fx)).1
theorem aL8{os:List ι}{a:Oper}{bs:List Nat}(h:TT (TM E L Q 1 false os 0) b k cs n D ro (stO a.dst (.tuple #[]) o))(ho:ops[0]?=some a) (hg:a.guard=none) (ay:a.op= .call ⟨.value (.func f),#[x,.const (.int .i64 1)],ats⟩) (hf:FF E.P f) (hk:b.kind≠ .early) (hr:b.roundOf=none) (Jx:os.length <E.max)
 (aio:Ij E.P E.ty os.length (Frame.enter E.P f #[.pointer (some ⟨E.Wg,0,none⟩),.int .i64 1] .normal)=some bs) (hbs:∀b∈bs,b=E.Wg) (hx:evO n x o=some (.pointer (some ⟨E.Wg,0,none⟩)):=by kernel_rfl):TT (TM E L Q 0 false os 0) b (.inRegion ops [0]::k) cs n D ro o:=by
 rintro e w kn rfl bY
 have hT:Closed E.P true (TM E L Q 0 false os 0):=eY (E:=E) false os (fun e=>(by cases e))
 have VT:Closed E.P true (TM E L Q 1 false os 0):=eY (E:=E) false os (fun e=>(by cases e))
 refine QA (rest:=[]) hT ho hg hk hr ay hf ?_
 have nq:(#[x,.const (.int .i64 1)]:Array Operand).map (A n e D).eval= #[.pointer (some ⟨E.Wg,0,none⟩),.int .i64 1]:=by
  rw[dY]
  simp only[List.map_toArray,List.map_cons,List.map_nil,aH hx]
  rfl
 rw[nq]
 refine⟨Mc (E:=E) aio hbs Jx ?_,fun e=>(by cases e)⟩
 rw[fE,ho]
 simp only[Option.bind_some]
 rw[aY]
 exact(gV VT (h _ _ _ rfl bY)).1
theorem tGo{os:List ι}(oo:ι){a:Oper}(L1:Cells)(ho:ops[i]?=some a) (hg:a.guard=none) (ay:a.op= .go ⟨.value y,#[],ats⟩) (hk:b.kind≠ .early) (hr:b.roundOf=none)
 (h:∀aD,Sub ro aD→Knows aD L1→eH E.P false (E.JM oo) (born E.P {target:= .fn (.func f) ⟨ca⟩,args:= #[]}) ⟨aD,[]⟩∧TT (TM E L Q 0 false (os++[oo]) 0) b (.inRegion ops todo::k) cs n D aD (Yo (stO a.dst undef o)))
 (hy:evO n y o=some (.func (.func f) ⟨[]⟩ ⟨ca⟩):=by kernel_rfl) (hL:Up [] o=some L1:=by kernel_rfl):TT (TM E L Q 1 false os 0) b (.inRegion ops (i::todo)::k) cs n D ro o:=by
 rintro e w kn rfl bY
 have VT:Closed E.P true (TM E L Q 1 false os 0):=eY (E:=E) false os (fun e=>(by cases e))
 refine Closed.jK VT rfl fun pF=>?_
 obtain⟨w0,YN⟩:=pF
 have mb:((den w).map (·.1)).Nodup:=YN.nodup
 have mL:∀q o,(q,o)∈den w→ro q=none:=YN.apart
 have fx:Sub ro (St.freeze ⟨ro,den w⟩).ro:=fun q o hq=>St.nM (s:=⟨ro,den w⟩) hq mL
 have awT:Knows (St.freeze ⟨ro,den w⟩).ro L1:=fun x hx=>St.tj (s:=⟨ro,den w⟩) (by rcases x with ⟨q,o⟩;simp only[Up,Option.some.injEq] at hL;rw[←hL,Dd] at hx;exact hx) mb
 obtain⟨h1,h2⟩:=h _ fx awT
 have bW:=fun w'=>Fj (P:=E.P) (main:=true) (b:=b) (a:=A n e D) (k:=k) (cs:=cs) (rest:=todo) ho hg hk hr ay (by rw[dY];exact aH hy) w'
 have:=h2 _ _ _ rfl (bY.up fx)
 rw[←aY] at this
 exact⟨TC.mono (St.C5 ⟨ro,den w⟩) (JU (E:=E) (o:=oo) (s:=St.freeze ⟨ro,den w⟩) rfl rfl (fun w' _=>bW w') h1 this.1),fun e=>(by cases e)⟩
theorem atx{os:List ι}{a:Oper}(L1:Cells)(ho:ops[i]?=some a) (hg:a.guard=none) (ay:a.op= .go ⟨.value y,#[],ats⟩) (hk:b.kind≠ .early) (hr:b.roundOf=none)
 (h:∀aD,Sub ro aD→Knows aD L1→E.closes ⟨aD,[]⟩ (born E.P {target:= .fn (.func f) ⟨ca⟩,args:= #[]})∧TT (TM E L Q 0 true os 0) b (.inRegion ops todo::k) cs n D aD (Yo (stO a.dst undef o)))
 (hy:evO n y o=some (.func (.func f) ⟨[]⟩ ⟨ca⟩):=by kernel_rfl) (hL:Up [] o=some L1:=by kernel_rfl):TT (TM E L Q 0 false os 0) b (.inRegion ops (i::todo)::k) cs n D ro o:=by
 rintro e w kn rfl bY
 have VT:Closed E.P true (TM E L Q 0 false os 0):=eY (E:=E) false os (fun e=>(by cases e))
 refine Closed.jK VT rfl fun pF=>?_
 obtain⟨w0,YN⟩:=pF
 have mb:((den w).map (·.1)).Nodup:=YN.nodup
 have mL:∀q o,(q,o)∈den w→ro q=none:=YN.apart
 have fx:Sub ro (St.freeze ⟨ro,den w⟩).ro:=fun q o hq=>St.nM (s:=⟨ro,den w⟩) hq mL
 have awT:Knows (St.freeze ⟨ro,den w⟩).ro L1:=fun x hx=>St.tj (s:=⟨ro,den w⟩) (by rcases x with ⟨q,o⟩;simp only[Up,Option.some.injEq] at hL;rw[←hL,Dd] at hx;exact hx) mb
 obtain⟨h1,h2⟩:=h _ fx awT
 have bW:=fun w'=>Fj (P:=E.P) (main:=true) (b:=b) (a:=A n e D) (k:=k) (cs:=cs) (rest:=todo) ho hg hk hr ay (by rw[dY];exact aH hy) w'
 have:=h2 _ _ _ rfl (bY.up fx)
 rw[←aY] at this
 exact⟨TC.mono (St.C5 ⟨ro,den w⟩) (JV (E:=E) (s:=St.freeze ⟨ro,den w⟩) rfl rfl (fun w' _=>bW w') h1 this.1),fun e=>(by cases e)⟩
theorem aqr{os:List ι}{a:Oper}{rc:Operand}{z:Value}{X:Cells}{aG:Nat→Option Obj}(hl:akK L X px aG)(cg:Sub aG ro)(VV:L E.Ch=none)(ho:ops[0]?=some a) (hg:a.guard=none) (Tu:∀ρ,bx E.P (execOp ρ a)=some (.comm #[{chan:=ρ rc,send:=none,zero:=z}] true (.recv true))) (hk:b.kind≠ .early) (hr:b.roundOf=none)
 (Ld:∀a' oo b' v Y,os=a'++oo::b'→E.W6 oo v Y→TT (TM E L Q 0 true (a'++b') 0) b (.inRegion ops todo::k) cs n D ro (adO Y (stO a.dst (.tuple #[v,.bool true]) o)))
 (ql:os=[]→TT (TL E.P ez (fun _=>none) (Calm E.os E.out) Q) b (.inRegion ops todo::k) cs n D px (bkO X (stO a.dst (.tuple #[z,.bool false]) o)))
 (hx:evO n rc o=some (.chan (some E.Ch)):=by kernel_rfl):TT (TM E L Q 0 true os 0) b (.inRegion ops (0::todo)::k) cs n D ro o:=by
 rintro e w kn rfl bY
 have hT:Closed E.P true (TM E L Q 0 true os 0):=eY (E:=E) true os (fun _=>rfl)
 refine Closed.jK hT rfl fun pF=>?_
 have hvc:ev n e rc= .chan (some E.Ch):=aH hx
 have bW:∀w',stepG E.P true (G (aM b (A n e D) (.inRegion ops (0::todo)::k)) cs) w'= .comm (G (aM b (A n e D) (.inRegion ops (0::todo)::k)) cs) #[rcase E.Ch z] true (.recv true) w' #[]:=by
  intro w'
  have Am:=kM b (A n e D) (.inRegion ops (0::todo)::k)
  simp only[aM] at Am
  have hw:Region.wanted a (yielded ops (A n e D).tmps)=true:=dw _ _ hg
  have jI:(b.kind==CallKind.early)=false:=by simpa using hk
  have gz:stepG E.P true (G (aM b (A n e D) (.inRegion ops (0::todo)::k)) cs) w'=stepG.apply E.P true (aM b (A n e D) (.inRegion ops (0::todo)::k)) cs none (execOp (A n e D).eval a) w':=by
   simp only[G,stepG,stepG.exec,aM,ho,Option.map_some,Option.getD_some,hw,if_true,stepG.oper,Frame.oper?,Am]
   rw[hr]
  have bX:=tL (Tu (ev n e)) w' #[]
  rw[hvc] at bX
  rw[gz,dY]
  simp only[stepG.apply,if_true,bX,aM,jI,Bool.false_eq_true,if_false]
  simp[seen_none,GStep.after,G,rcase]
 have pE:∀v,Conc.served (G (aM b (A n e D) (.inRegion ops (0::todo)::k)) cs) v=G (aM b (A n (upd a.dst v e) D) (.inRegion ops todo::k)) cs:=by
  intro v
  have:=fE b (A n e D) ops 0 todo k v
  rw[ho] at this
  simp only[Option.bind_some] at this
  rw[aY] at this
  simp only[Conc.served,G] at this ⊢
  rw[this]
 have uo:os=[]→∀pc (g:Goroutine),g.status= .running→(∀w',stepG E.P true g w'= .comm (G (aM b (A n e D) (.inRegion ops (0::todo)::k)) cs) #[rcase E.Ch z] true (.recv true) w' #[])→
  TL E.P (jh pc) L (IK E pc) Q g ⟨ro,den w⟩:=by
  intro tE pc g hg' av3
  obtain⟨hb1,fP⟩:=hl.back (rwK:=den w) cg
  refine Xl (E:=E) (z:=z) (s':=⟨px,X++den w⟩) VV hg' (fun w' _=>av3 w') hb1 fP ?_
  rw[pE]
  have:=ql tE _ _ _ rfl fun x hx=>(by cases hx)
  rw[gp] at this
  exact this
 refine⟨Xn (E:=E) (z:=z) rfl (fun w' _=>bW w') (fun a' oo b' v Y tE oG=>?_) fun tE pc=>⟨uo tE pc _ rfl bW,uo tE pc _ rfl fun w'=>bW w'⟩,fun _ tE pc=>uo tE pc _ rfl bW⟩
 rw[pE]
 have:=Ld a' oo b' v Y tE oG _ _ _ rfl bY
 rw[gp] at this
 exact this.1
theorem aBH{oo:ι}{a:Oper}{sc sv:Operand}{v:Value}{Y:Cells}(ys:List Nat)(ho:ops[i]?=some a) (hg:a.guard=none) (hse:∀ρ,execOp ρ a=Sem.pure (.comm #[{chan:=ρ sc,send:=some (ρ sv),zero:= .tuple #[]}] true .send)) (hk:b.kind≠ .early) (hr:b.roundOf=none)
 (hs:E.W6 oo v Y) (h:TT (eH E.P false E.IM) b (.inRegion ops todo::k) cs n D ro (Dc ys (stO a.dst undef o)))
 (hx:evO n sc o=some (.chan (some E.Ch)):=by kernel_rfl) (hv:evO n sv o=some v:=by kernel_rfl) (hY:dM ys o=some Y:=by kernel_rfl):TT (eH E.P false (E.JM oo)) b (.inRegion ops (i::todo)::k) cs n D ro o:=by
 rintro e w kn rfl bY
 refine eH.stop ?_
 have:=h e w kn
 refine⟨rfl,G (aM b (A n e D) (.inRegion ops (i::todo)::k)) cs,v,.tuple #[],Y,den (dC ys 0 w),bJ hY,hs,fun w' pF=>?_,?_⟩
 ·have he:=kM b (A n e D) (.inRegion ops (i::todo)::k)
  simp only[aM] at he
  have axa:ev n e sc= .chan (some E.Ch):=aH hx
  have aw9:ev n e sv=v:=aH hv
  have hw:Region.wanted a (yielded ops (A n e D).tmps)=true:=dw _ _ hg
  have jI:(b.kind==CallKind.early)=false:=by simpa using hk
  have aEI:=hse (ev n e)
  rw[axa,aw9] at aEI
  have gz:stepG E.P false (G (aM b (A n e D) (.inRegion ops (i::todo)::k)) cs) w'=stepG.apply E.P true (aM b (A n e D) (.inRegion ops (i::todo)::k)) cs none (execOp (A n e D).eval a) w':=by
   simp only[G,stepG,stepG.exec,aM,ho,Option.map_some,Option.getD_some,hw,if_true,stepG.oper,Frame.oper?,he]
   rw[hr]
  rw[gz,dY,aEI]
  simp only[stepG.apply,if_true,Sem.runT,aM,jI,Bool.false_eq_true,if_false]
  simp[seen_none,GStep.after,G,scase]
 have pE:Conc.served (G (aM b (A n e D) (.inRegion ops (i::todo)::k)) cs) undef=G (aM b (A n (upd a.dst undef e) D) (.inRegion ops todo::k)) cs:=by
  have:=fE b (A n e D) ops i todo k undef
  rw[ho] at this
  simp only[Option.bind_some] at this
  rw[aY] at this
  simp only[Conc.served,G] at this ⊢
  rw[this]
 rw[pE]
 exact h _ _ _ (by simp only[Dc,stO]) bY
theorem atp{dn:Nat}{bs:List Nat}(hf:E.P.funcs[b.fn]?=some fn) (A4:fn.results= #[]) (zl:BR E.P dn=true) (DR:xN E.P E.ty E.max (Frame.enter E.P dn #[.pointer (some ⟨E.Wg,0,none⟩)] .deferred)=some bs) (hbs:∀b∈bs,b=E.Wg) (ps:List Nat) (hk:b.kind= .deferred) (hr:b.roundOf=none)
 (hd:dM ps o=some [(bd,.deferred (some []))]:=by kernel_rfl):TT (eH E.P false E.IM) b [] [cN E.P] n [dW bd,{target:= .fn (.func dn) ⟨[]⟩,args:=⟨[.pointer (some ⟨E.Wg,0,none⟩)]⟩}] ro o:=by
 rintro e w kn rfl bY
 have hT2:=dO E.P false E.IM
 refine hT2.go rfl rfl (g':=G {aM b (A n e [dW bd,{target:= .fn (.func dn) ⟨[]⟩,args:=⟨[.pointer (some ⟨E.Wg,0,none⟩)]⟩}]) [] with mode:= .returning} [cN E.P]) (fun w=>by simp[G,stepG,stepG.exec,aM,hr]) ?_
 have hp:=bJ hd
 obtain⟨Lw,Rr,hs⟩:=List.append_of_mem (hp.mem_iff.2 (List.mem_append_left _ (List.mem_singleton.2 rfl)))
 refine unwind_mark (C:=CA E.P) (fun _ _ h=>h) hT2 (.inl rfl) (fr:={aM b (A n e [dW bd,{target:= .fn (.func dn) ⟨[]⟩,args:=⟨[.pointer (some ⟨E.Wg,0,none⟩)]⟩}]) [] with mode:= .returning}) rfl hs<|jC (C:=CA E.P) (fun _ _ h=>h) hT2 (.inl rfl) (k8 zl) (ds:=[]) rfl<|eH.stop ?_
 have hq:QuitsD E.P 2 0 (G {aM b (A n e []) [] with mode:= .returning} [cN E.P]):=n7 rfl rfl hk hf A4
 exact Ii (E:=E) (c:={aM b (A n e []) [] with mode:= .returning}) (.inl rfl) hq DR hbs
end
theorem aBP{S:Goroutine→St→Prop}{c:Code}(hf:P.funcs[f]?=some fn) (hb:fn.body=some c) (hn:fn.ntmps=n) (ff:BR P f=true) (hle:Nat.ble ca.length n=true)
 (h:TT (eH P false S) (fr0 f .deferred) ([c].map .code++[]) [cN P] n [] ro (some ⟨.fin .normal,fJ 0 ca,[],⟨[],[]⟩⟩)):eH P false S (born P {target:= .fn (.func f) ⟨ca⟩,args:= #[]}) ⟨ro,[]⟩:=by
 have hT:=dO P false S
 refine jC (C:=CA P) (fun _ _ h=>h) hT (fr:={(default:Frame) with fn:=P.funcs.size,defers:=[{target:= .fn (.func f) ⟨ca⟩,args:= #[]}],mode:= .panicking [goexitEntry]}) (.inr ⟨_,rfl⟩) (k8 ff) rfl ?_
 show eH P false S (G (Frame.enter P f (#[]++⟨ca⟩) .deferred) [cN P]) ⟨ro,[]⟩
 have gT:Frame.enter P f (#[]++⟨ca⟩) .deferred=aM (fr0 f .deferred) (A n (fJ 0 ca) []) [.code c]:=by
  rw[←kN ca n (Nat.le_of_ble_eq_true hle)]
  simp[Frame.enter,aM,hf,hb,hn,fr0]
 rw[gT]
 exact h _ _ _ rfl fun x hx=>(by cases hx)
theorem amg{E:dN ι}{x:Ml}(hx:x.OK E.P E.ty){bs:List Nat}(Rs:Bt E.P E.ty E.max (Frame.enter E.P x.wait #[.pointer (some ⟨E.Wg,0,none⟩)] .normal)=some bs)(hbs:∀b∈bs,b=E.Wg)
 {a:Oper}(hq:ro q=some (.cells ⟨[.chan (some E.Ch)]⟩ t fz))(ho0:x.q1[0]?=some a) (hg0:a.guard=none) (aPT:a.op= .load U y) (ht:(aZ E.P U).map (·.agg)=some false)
 (hy:evO x.n y (some ⟨.fin .normal,eS x.o0.dst (.tuple #[]) (fJ 0 [.pointer (some ⟨E.Wg,0,none⟩),.pointer (some ⟨q,0,none⟩)]),[],⟨[],[]⟩⟩)=some (.pointer (some ⟨q,0,none⟩)))
 (hc:evO x.n x.cx (stO a.dst (.chan (some E.Ch)) (some ⟨.fin .normal,eS x.o0.dst (.tuple #[]) (fJ 0 [.pointer (some ⟨E.Wg,0,none⟩),.pointer (some ⟨q,0,none⟩)]),[],⟨[],[]⟩⟩))=some (.chan (some E.Ch))):
 E.closes ⟨ro,[]⟩ (born E.P {target:= .fn (.func x.f) ⟨[.pointer (some ⟨E.Wg,0,none⟩),.pointer (some ⟨q,0,none⟩)]⟩,args:= #[]}):=by
 obtain⟨fn,hf,A4,Ty⟩:=hx.fn
 obtain⟨hbf,sa,qT⟩:=hx.bf
 have hk:x.b.kind≠ .early:=by rw[sa];simp
 have Ry:∀g g',g.status= .running→g'.status= .running→(∀w,stepG E.P false g w= .go g' w #[])→E.closes ⟨ro,[]⟩ g'→E.closes ⟨ro,[]⟩ g:=
  fun g g' hg _ bW ⟨q,hq⟩=>⟨q+1,hg,g',fun w _=>bW w,hq⟩
 refine Ry _ _ rfl rfl (It (k8 hx.ff) _) ?_
 have HD:(#[]++(⟨[.pointer (some ⟨E.Wg,0,none⟩),.pointer (some ⟨q,0,none⟩)]⟩:Array Value))= #[.pointer (some ⟨E.Wg,0,none⟩),.pointer (some ⟨q,0,none⟩)]:=by simp
 rw[HD]
 refine Wa (ir:=[]) (cs:=[cN E.P]) Ry (hx.enter _ _)<|Ig (E:=E) ?_ Rs hbs
 have hT:=dO E.P false E.JL
 show eH E.P false E.JL (G ((aM x.b (A x.n (fJ 0 [.pointer (some ⟨E.Wg,0,none⟩),.pointer (some ⟨q,0,none⟩)]) []) (.inRegion x.q0 (0::[])::[.code x.rest])).finish (.tuple #[])) [cN E.P]) ⟨ro,[]⟩
 rw[fE,hx.op0,aY]
 simp only[Option.bind_some]
 rw[jQ]
 refine gV hT ?_
 obtain⟨id,ahi⟩:=hx.rest
 refine dG (l:=[x.rest]) (k:=[]) hT ahi fun l2 qO=>?_
 have:=gi qO
 subst this
 rw[hx.size]
 have key:TT (eH E.P false E.JL) x.b (.inRegion x.q1 (0::[1])::[]) [cN E.P] x.n [] ro (some ⟨.fin .normal,eS x.o0.dst (.tuple #[]) (fJ 0 [.pointer (some ⟨E.Wg,0,none⟩),.pointer (some ⟨q,0,none⟩)]),[],⟨[],[]⟩⟩):=by
  refine tLd hT (.chan (some E.Ch)) ho0 hg0 aPT ht hk qT (q:=q) (t:=t) (fz:=fz) (fun _ _ _ _=> .inl hq) ?_ hy
  intro e w kn he bY
  refine eH.stop ?_
  have hx2:ev x.n e x.cx= .chan (some E.Ch):=by
   rw[he] at hc
   exact aH hc
  obtain⟨ho,hg,ats,ay⟩:=hx.op
  have hq:(E.P.funcs[x.b.fn]?).any (·.norace)=false:=by rw[hbf,hf];simpa using Ty
  refine⟨rfl,?_,G (x.b.at (Act.put (A x.n e []) x.oc.dst (.tuple #[])) (.inRegion x.q1 []::[])) [cN E.P],fun w s r tm hc=>?_,4,?_⟩
  ·simp[mayWake,G,aM,ho,ay]
  ·rw[C9 qT]
   have:=stepG_close (P:=E.P) (main:=false) (b:=x.b) (a:=A x.n e []) (kk:=[]) (cs:=[cN E.P]) (rest:=[]) ho (dw x.oc _ hg) hk ay (by rw[dY];exact hx2) hc hq
   exact this
  rw[←C9 qT]
  refine .ctl (g':=G (aM x.b (Act.put (A x.n e []) x.oc.dst (.tuple #[])) []) [cN E.P]) rfl (fun w=>by simp[G,stepG,stepG.exec,aM])<|.ctl (g':=G {aM x.b (Act.put (A x.n e []) x.oc.dst (.tuple #[])) [] with mode:= .returning} [cN E.P]) rfl (fun w=>by simp[G,stepG,stepG.exec,aM,qT])<|n7 rfl ?_ sa (by show E.P.funcs[x.b.fn]?=_;rw[hbf];exact hf) A4
  show (Act.put (A x.n e []) x.oc.dst (.tuple #[])).defers=[]
  rw[aY];rfl
 exact key _ _ _ rfl fun x hx=>(by cases hx)
theorem jpF{V:Value}(lp:List Nat)(B:Cells)(Hv:BR X.P f=true)(hf:∀aG,Sub X.ro aG→Knows aG B→dr X.P f vs aG V)(hj:J X (M4 B V o))(h1:dF X.n (akj X.n) o=some (f,vs):=by kernel_rfl)(h3:dM lp o=some B:=by kernel_rfl):J X o:=by
 refine jGN h1 h3 (fun s p e ho hh hc=>?_) hj
 have hcb:yz X.P X.n p e=some (f,vs):=by unfold yz;rw[hc];simp only[Hv,cond_true]
 obtain⟨ff,x,xs,at_,fi,ca,ws,ay,hx,rZ,rfl⟩:=qE hcb
 rcases p with ⟨dst,op,ty,pos,cZ,g⟩
 dsimp only at ay;subst ay
 refine⟨rfl,fun s0 Ew u9 ops i s9 rest hw s' hs todo Q hk=>?_⟩
 have hez:Ext ⟨X.ro,B⟩ s':=fun b ob hb=>hs _ _ (hb.elim (fun h=>Ew _ _ (.inl h)) fun h=>u9 (b,ob) h)
 exact QN X.hC s9 hw (bh hx) ff (xI rZ) (S7 fi ws ca) hez (fun aG h1=>hf aG (F7 h1) fun y hy=>h1 _ _ (.inr hy)) hk
def bgI(body:Code)(i:Nat):Option JS→Option (JS×Nat)
 |some ⟨.fin .normal,e,w,kn⟩=>match yY w i with
  |some (.b b (.loop r))=>match r.state with
   | .ready=>some (⟨.code body [],e,Ul w i (.b b (.loop {r with state:= .busy})),kn⟩,b)
   |_=>none
  |_=>none
 |_=>none
theorem jbI(i:Nat)(h:J (X.re bl ro Φ) (EI (bgI body i o)))(h1:Uj (bgI body i o)=some bl:=by kernel_rfl):J (X.rd bl ro Φ body) o:=by
 unfold bgI at h h1
 split at h<;>try (simp only[EI] at h;exact h.elim)
 rename_i e w kn
 split at h<;>try (simp only[EI] at h;exact h.elim)
 rename_i b r hn
 split at h<;>try (simp only[EI] at h;exact h.elim)
 rename_i bW
 simp only[hn,bW,Uj,Option.some.injEq] at h1
 subst h1
 simp only[EI] at h
 intro bY
 have hw:=h bY
 obtain⟨L,R,h2,h3⟩:=AA hn
 simp only[JP,Cx.rd,Iy,Dp]
 refine⟨L,r,R,h2,bW,?_⟩
 simp only[JP,h3] at hw
 exact hw
theorem tGe{b:Frame}{D:List Deferred}(h:TT T b Ag cs n D ro (geO o)):TT T b Ag cs n D ro o:=by
 rintro e w kn rfl bY
 have:=h e (.l []::w) kn (by simp only[geO]) bY
 rw[gp] at this
 exact this
def aeG:Option JS→Option JS
 |some ⟨.fin .normal,e,w,kn⟩=>some ⟨.fin .ret,e,w,kn⟩
 |_=>none
theorem ato{c:Code}{L:Cells}(hf:P.funcs[f]?=some fn) (hb:fn.body=some c) (hn:fn.ntmps=n) (hle:Nat.ble args.length n=true)
 (h:TT T (fr0 f .normal) ([c].map .code++[]) cs n [] ro (some ⟨.fin .normal,fJ 0 args,[.l L],⟨[],[]⟩⟩)):T (G (Frame.enter P f ⟨args⟩ .normal) cs) ⟨ro,L⟩:=by
 have gT:Frame.enter P f ⟨args⟩ .normal=aM (fr0 f .normal) (A n (fJ 0 args) []) [.code c]:=by
  rw[←kN args n (Nat.le_of_ble_eq_true hle)]
  simp[Frame.enter,aM,hf,hb,hn,fr0]
 rw[gT]
 exact h _ _ _ rfl fun x hx=>(by cases hx)
theorem aL4(hm:P.follows .mixedOrders=true)(hT:Closed P main T){cl:Frame}{Oh:List Frame}(v:Value)(hs ps:List Nat)(Y:Cells)(hf:P.funcs[f]?=some fn)
 (hk:T (G (cl.finish v) Oh) ⟨ro,Y⟩) (h1:qU (iu P n f hs (aeG o))=some v:=by kernel_rfl) (h2:Pc (iu P n f hs (aeG o))=Pb (iu P n f hs (aeG o)):=by kernel_rfl) (h3:dM ps o=some Y:=by kernel_rfl):TT T (fr0 f .normal) (.code .ret::Ag) (cl::Oh) n [] ro o:=by
 rintro e w kn rfl bY
 simp only[aeG] at h1 h2
 simp only[iu] at h1 h2
 cases hr:B8 P n e w kn.c hs (qx P f).results.toList with
 |none=>simp only[hr,qU] at h1;cases h1
 |some x=>
  rcases x with ⟨vs,q⟩
  simp only[hr,qU,Option.some.injEq,Pc,Pb] at h1 h2
  have r8:=tM (X:=⟨P,fun m T'=>m=main∧T'=T,by rintro _ _ ⟨rfl,rfl⟩;exact hT,hm,f,none,n,[],ro,fun _ _ _=>True⟩) bY hr (me h2)
  have hp:=bJ h3
  have uM:qx P f=fn:=by simp only[qx,hf]
  have Fa:=P9 (s0:=⟨ro,Y⟩) (R:=fun en s'=>∃v,en= .returned v∧T (G (cl.finish v) Oh) s') (.inl rfl) r8 h1 (dK hp (Sub.refl _)) ⟨v,rfl,hk⟩
  rw[uM] at Fa
  refine hT.go rfl rfl (g':=G {aM (fr0 f .normal) (A n e []) (.code .ret::Ag) with mode:= .returning} (cl::Oh)) (fun w=>by simp[G,stepG,stepG.exec,aM,fr0])<|sN (C:=CA P) (fun _ _ h=>h) (T:=T) hT hf (fr:={aM (fr0 f .normal) (A n e []) (.code .ret::Ag) with mode:= .returning}) rfl rfl rfl rfl (R:=fun en s'=>∃v,en= .returned v∧T (G (cl.finish v) Oh) s') Fa.2 (fun v s' hv=>?_)
  obtain⟨v',hv',ht⟩:=hv
  cases hv'
  exact ht
attribute [irreducible] Yo bkO bgI Up aeG
def BU(P:Program)(f:FuncId)(args:List Value)(ro:Nat→Option Obj)(own:Cells)(Φ:Value→Cells→Prop):Prop:=
 ∀fr,Fn (C0 P) P f ⟨args⟩ ⟨ro,own++fr⟩ (fun en s'=>∃v Y,en= .returned v∧(⟨ro,Y++fr⟩:St).le s'∧Φ v Y)
theorem asq:∀main T,C0 P main T→CP P main T:=xO
theorem BU.mono{own:Cells}{Φ':Value→Cells→Prop}(h:BU P f args ro own Φ)(hk:∀v X,Φ v X→Φ' v X):BU P f args ro own Φ':=
 fun fr=>Fn.mono (h fr) fun _ _ ⟨v,X,h1,h2,h3⟩=>⟨v,X,h1,h2,hk v X h3⟩
abbrev RC(ro:Nat→Option Obj)(fr:Cells)(Φ:Value→Cells→Prop):Ending→St→Prop:=fun en s'=>∃v Y,en= .returned v∧(⟨ro,Y++fr⟩:St).le s'∧Φ v Y
def XC(P:Program)(hm:P.follows .mixedOrders=true)(f:FuncId)(ro:Nat→Option Obj)(R:Ending→St→Prop):Cx:=⟨P,C0 P,xO,hm,f,none,(qx P f).ntmps,[],ro,rC P (qx P f) R⟩
theorem qC{hm:P.follows .mixedOrders=true}:QR (XC P hm f ro R) R:=⟨rfl,rfl⟩
theorem Lz(hC:∀main T,C main T→Closed P main T){c:Code}(hf:P.funcs[f]?=some fn) (hb:fn.body=some c) (hl:Nat.ble args.length fn.ntmps=true) (h:Wp C f none c (rC P fn R) (A fn.ntmps (fJ 0 args) []) s):Fn C P f ⟨args⟩ s R:=by
 refine Sv hC hf hb ?_
 have he:=kN args fn.ntmps (Nat.le_of_ble_eq_true hl)
 rw[←he] at h
 exact h
theorem G3(hm:P.follows .mixedOrders=true){L:Cells}(own:List Sg)(kn:Cells)(hk:Knows ro kn)(h:∀fr,J (XC P hm f ro (RC ro fr Φ)) (jD P f args (own++[.l fr]) kn))(hL:den own=L:=by rfl):BU P f args ro L Φ:=by
 subst hL
 intro fr
 have h:=h fr
 unfold jD at h
 split at h<;>try exact h.elim
 rename_i fn hf
 split at h<;>try exact h.elim
 rename_i c hc
 cases hl:Nat.ble args.length fn.ntmps with
 |false=>rw[hl] at h;exact h.elim
 |true=>
  rw[hl] at h
  have uM:qx P f=fn:=by simp only[qx,hf]
  have:=h hk
  simp only[JP,XC,KQ,uM] at this
  have hd:den (own++[.l fr])=den own++fr:=by rw[lI];rfl
  rw[hd] at this
  exact Lz xO hf hc hl this
section
variable {X:Cx} {o:Option JS}
theorem Tq{own:Cells}(ps:List Nat)(hC:∀main T,X.C main T→C0 X.P main T)(hf:BU X.P f vs X.ro own Φ)(hj:∀v Y,Φ v Y→J X (m9 ps v Y o))(h1:eR X.n (yz X.P X.n) o=some (f,vs):=by kernel_rfl)(h2:dM ps o=some own:=by kernel_rfl):J X o:=by
 obtain⟨ops,i,todo,k,e,w,kn,p,rfl,ho,hw,hc⟩:=dz h1
 obtain⟨ff,x,xs,at_,fi,ca,ws,ay,hx,rZ,rfl⟩:=qE hc
 intro bY
 rcases p with ⟨dst,op,ty,pos,cZ,g⟩
 dsimp only at ay;subst ay
 have hp:=bJ h2
 have uM:Fn X.C X.P f ⟨fi++ws++ca⟩ ⟨X.ro,den w⟩ (fun en s'=>∃v Y,en= .returned v∧(⟨X.ro,Y++den (dC ps 0 w)⟩:St).le s'∧Φ v Y):=fun main T hT c cs k1 k2=>
  (X.hC main T hT).mono _ ⟨X.ro,own++den (dC ps 0 w)⟩ _ (dK (J:=[]) (by rw[List.append_nil];exact hp) (Sub.refl _)) (Fn.weaken hC (hf _) main T hT c cs k1 k2)
 refine tY (fi:=⟨fi⟩) (ca:=⟨ca⟩) (ws:=fi++ws++ca) X.hC ho hw hx ff rZ (S7 fi ws ca) uM (fun v' s' hr=>?_) (fun ch s' hr=>by obtain⟨_,_,e,_⟩:=hr;cases e) (fun s' hr=>by obtain⟨_,_,e,_⟩:=hr;cases e)
 obtain⟨v,Y,hv,hle,pz⟩:=hr
 cases hv
 have:=hj _ Y pz
 rw[oe ho] at this
 have:=this bY
 simp only[JP,gp] at this
 exact this.more X.hC hle
theorem Tp(hq:QR X (RC px fr Φ))(v:Value)(ps:List Nat)(Y:Cells)(fx:Sub px X.ro)(hR:Φ v Y)(h1:qU (iu X.P X.n X.fn [] o)=some v:=by kernel_rfl)(h2:Pc (iu X.P X.n X.fn [] o)=Pb (iu X.P X.n X.fn [] o):=by kernel_rfl)(h3:dM ps o=some (Y++fr):=by kernel_rfl)(h4:zr o=true:=by kernel_rfl):J X o:=
 aL hq v [] ps (Y++fr) fx ⟨v,Y,rfl,St.le_refl _,hR⟩ h1 h2 h3 h4
end
noncomputable def Gk(P:Program)(g:FuncId):Func:=match Jj P g with
 |some (gn,_,_)=>gn
 |none=>default
noncomputable def Ji(P:Program)(g:FuncId):Tmp:=match Jj P g with
 |some (_,t,_)=>t
 |none=>0
noncomputable def recC(P:Program)(g:FuncId):Code:=match Jj P g with
 |some (_,_,c)=>c
 |none=> .skip
def at3(P:Program)(g:FuncId):Bool:=(Jj P g).isSome
theorem amz(h:at3 P g=true):Jj P g=some (Gk P g,Ji P g,recC P g):=by
 unfold at3 at h
 unfold Gk Ji recC
 cases hr:Jj P g with
 |none=>rw[hr] at h;cases h
 |some x=>rcases x with ⟨a,b,c⟩;rfl
noncomputable def XD(P:Program)(hm:P.follows .mixedOrders=true)(f:FuncId)(ro:Nat→Option Obj)(R:Ending→St→Prop)(g:FuncId):Cx:=⟨P,CP P,eN,hm,f,none,(qx P f).ntmps,[],ro,Wt (CP P) P (qx P f) g (Gk P g) (Ji P g) (recC P g) R⟩
theorem aOo(hm:P.follows .mixedOrders=true){L:Cells}(g:FuncId)(own:List Sg)(kn:Cells)(hk:Knows ro kn)(h:J (XD P hm f ro (RX ro Φ) g) (jD P f args own kn))(hL:den own=L:=by rfl)(ahj:at3 P g=true:=by kernel_rfl):dE P f args ro L Φ:=by
 subst hL
 unfold jD at h
 split at h<;>try exact h.elim
 rename_i fn hf
 split at h<;>try exact h.elim
 rename_i c hc
 cases hl:Nat.ble args.length fn.ntmps with
 |false=>rw[hl] at h;exact h.elim
 |true=>
  rw[hl] at h
  have uM:qx P f=fn:=by simp only[qx,hf]
  have:=h hk
  simp only[JP,XD,KQ,uM] at this
  exact HT eN hf hc rfl hl (amz ahj) this
def dfV(n:Nat)(p:Oper)(e:Env):Option (FuncId×List Value):=match p.op with
 | .defer ⟨.value x,⟨[]⟩,⟨[]⟩⟩=>match bp n e x with
  |some (.func (.func f) ⟨[]⟩ ⟨ca⟩)=>some (f,ca)
  |_=>none
 |_=>none
theorem ayJ(h:dfV n p e=some (f,ca)):∃x,p.op= .defer ⟨.value x,#[],#[]⟩∧bp n e x=some (.func (.func f) ⟨[]⟩ ⟨ca⟩):=by
 unfold dfV at h
 split at h<;>try (cases h;done)
 rename_i x ay
 split at h<;>try (cases h;done)
 rename_i hx
 cases h
 exact⟨x,ay,hx⟩
def skO:Option JS→Option JS
 |some ⟨.ops ops (i::todo) k,e,w,kn⟩=>match ops[i]? with
  |some p=>some ⟨.ops ops todo k,upd p.dst undef e,w,kn⟩
  |none=>none
 |_=>none
def Rl(t:Tmp)(rest:Code)(ca:List Value):Option JS→Option JS
 |some ⟨.fin _,_,w,kn⟩=>some ⟨.code rest [],upd (some t) .nilIface (fJ 0 ca),w,⟨kn.c,[]⟩⟩
 |_=>none
def rwS:Option JS→Option (List Sg)
 |some s=>some s.rw
 |none=>none
section
variable {X:Cx} {o:Option JS}
theorem jdf(hj:J (X.wd ({target:= .fn (.func f) ⟨ca⟩,args:= #[]}::X.D)) (skO o))(h1:eR X.n (dfV X.n) o=some (f,ca):=by kernel_rfl)(hr:X.az=none:=by rfl):J X o:=by
 obtain⟨ops,i,todo,k,e,w,kn,p,rfl,ho,hw,hc⟩:=dz h1
 obtain⟨x,ay,hx⟩:=ayJ hc
 intro bY
 rcases p with ⟨dst,op,ty,pos,cZ,g⟩
 dsimp only at ay;subst ay
 simp only[skO,ho] at hj
 have:=hj bY
 simp only[JP,Tk] at this
 show ab X.C X.fn X.az ops (i::todo) (KQ X k) (A X.n e X.D) ⟨X.ro,den w⟩
 rw[hr]
 have h2:(X.wd ({target:= .fn (.func f) ⟨ca⟩,args:= #[]}::X.D)).az=none:=hr
 rw[h2] at this
 exact am3 X.hC ho hw hx this
structure QD(X:Cx)(g:FuncId)(R:Ending→St→Prop)(ca:List Value):Prop where
 q:X.Q=Wt X.C X.P (qx X.P X.fn) g (Gk X.P g) (Ji X.P g) (recC X.P g) R
 d:X.D=[{target:= .fn (.func g) ⟨ca⟩,args:= #[]}]
theorem jrD(hq:QD X g R ca)(v:Value)(hs ps:List Nat)(Y:Cells)(k:Nat)(fx:Sub px X.ro)(hR:R (.returned v) ⟨px,Y⟩)(hl:Nat.ble ca.length (Gk X.P g).ntmps=true:=by kernel_rfl)
 (h1:qU (iu X.P X.n X.fn hs o)=some v:=by kernel_rfl)(h2:Pc (iu X.P X.n X.fn hs o)=Pb (iu X.P X.n X.fn hs o):=by kernel_rfl)(h3:dM ps o=some Y:=by kernel_rfl)(h4:zr o=true:=by kernel_rfl)
 (h5:zr (res (adv X.P (Gk X.P g).ntmps k [] (Rl (Ji X.P g) (recC X.P g) ca o)))=true:=by kernel_rfl)(h6:rwS (res (adv X.P (Gk X.P g).ntmps k [] (Rl (Ji X.P g) (recC X.P g) ca o)))=rwS o:=by kernel_rfl)
 (h7:lhs (adv X.P (Gk X.P g).ntmps k [] (Rl (Ji X.P g) (recC X.P g) ca o))=rhs (adv X.P (Gk X.P g).ntmps k [] (Rl (Ji X.P g) (recC X.P g) ca o)):=by kernel_rfl):J X o:=by
 obtain⟨ex,e,w,kn,rfl,hex⟩:=tq h4
 simp only[iu] at h1 h2
 cases hr:B8 X.P X.n e w kn.c hs (qx X.P X.fn).results.toList with
 |none=>simp only[hr,qU] at h1;cases h1
 |some x=>
  rcases x with ⟨vs,q⟩
  simp only[hr,qU,Option.some.injEq,Pc,Pb] at h1 h2
  intro bY
  have r8:=tM bY hr (me h2)
  have hp:=bJ h3
  have Fa:=P9 (s0:=⟨px,Y⟩) (R:=R) hex r8 h1 (dK hp fx) hR
  have ht:bP X.P (results (qx X.P X.fn) (A X.n e X.D).tmps) ⟨X.ro,den w⟩ (fun v s'=>∃s0,s0.le s'∧R (.returned v) s0) (fun _ _=>False):=by
   rcases hex with rfl|rfl<;>exact Fa.2
  show X.Q ex (A X.n e X.D) ⟨X.ro,den w⟩
  rw[hq.q]
  refine⟨hex.symm,ca,hl,hq.d,?_⟩
  let X2:Cx:=⟨X.P,X.C,X.hC,X.hm,g,none,(Gk X.P g).ntmps,[],X.ro,fun e2 a2 s2=>(e2= .normal∨e2= .ret)∧a2.defers=[]∧bP X.P (results (qx X.P X.fn) (A X.n e X.D).tmps) s2 (fun v s3=>∃s0,s0.le s3∧R (.returned v) s0) (fun _ _=>False)⟩
  have hj:J X2 (Rl (Ji X.P g) (recC X.P g) ca (some ⟨.fin ex,e,w,kn⟩)):=by
   refine jd k [] ?_ h7
   have h5':=h5
   have h6':=h6
   obtain⟨ex2,e2,w2,kn2,uh,aQV⟩:=tq h5'
   show J X2 (res (adv X.P (Gk X.P g).ntmps k [] (Rl (Ji X.P g) (recC X.P g) ca (some ⟨.fin ex,e,w,kn⟩))))
   rw[uh] at h6' ⊢
   simp only[rwS,Option.some.injEq] at h6'
   subst h6'
   exact fun _=>⟨aQV.symm,rfl,ht⟩
  simp only[Rl] at hj
  exact hj bY
end
attribute [irreducible] skO Rl rwS dfV
end Go.L
