/- Part 4 of the proof. -/
import Derived.Test.YtknkndglfcfhkaaGreatDoorW3
import Derived.KernelRfl
import GoSem.Extern.Table
set_option maxRecDepth 100000
set_option linter.all false
namespace Go.L
open Go Go.Conc
variable {ro aJ:Nat→Option Obj} {x y:Operand} {α ι β:Type} {vs l args z':List Value} {T E T' T2 U:TypeId} {f:FuncId} {e:Env} {b sz k n off i szo iu vz cap id:Nat} {P:Program} {R:Ending→St→Prop} {Φ:Value→Cells→Prop} {s:St} {todo ny hs ps:List Nat} {fz:Nat×Nat} {o p:Oper} {xs:Array Operand} {at_:Array TypeId} {Y B rw' fr:Cells} {g xH:Bool} {lo hi:Int}
theorem cE.part{o m:Nat}{ws:List Value}(h:cE s b o m vs)(j k:Nat)(hj:sub vs j k=some ws):cE s b (o+j) k ws:=by
 obtain⟨l,t,fz,h1,h2⟩:=h
 obtain⟨h3,h4⟩:=sub_eq _ _ _ _ h2
 obtain⟨h5,h6⟩:=sub_eq _ _ _ _ hj
 refine⟨l,t,fz,h1,?_⟩
 have hlen:(o+j)+k≤l.length:=by
  rcases Nat.eq_zero_or_pos k with h0|h0
  ·subst h0
   have:o+j≤l.length:=by
    have h7:sub vs j 0=some ws:=hj
    have hjl:j≤vs.length:=by
     have key:∀(l:List Value) (j:Nat) (ws:List Value),sub l j 0=some ws→j≤l.length:=by
      intro l
      induction l with
      |nil=>intro j ws h;cases j with
       |zero=>simp
       |succ j=>simp[sub] at h
      |cons x l ih=>intro j ws h;cases j with
       |zero=>simp
       |succ j=>have:=ih j ws (by simpa [sub] using h);simp;omega
     exact key _ _ _ h7
    have hol:o+m≤l.length∨m=0:=by
     rcases Nat.eq_zero_or_pos m with h8|h8
     ·exact .inr h8
     left
     have:=h4 (m-1) vs[m-1] (by rw[List.getElem?_eq_getElem])
     have:=(List.getElem?_eq_some_iff.1 this).1
     omega
    rcases hol with h9|h9
    ·omega
    have aOr:∀(l:List Value) (o:Nat) (ws:List Value),sub l o 0=some ws→o≤l.length:=by
     intro l
     induction l with
     |nil=>intro j ws h;cases j with
      |zero=>simp
      |succ j=>simp[sub] at h
     |cons x l ih=>intro j ws h;cases j with
      |zero=>simp
      |succ j=>have:=ih j ws (by simpa [sub] using h);simp;omega
    rw[h9] at h2
    have:=aOr _ _ _ h2
    omega
   omega
  have:=h6 (k-1) ws[k-1] (by rw[List.getElem?_eq_getElem])
  have:=h4 _ _ this
  have:=(List.getElem?_eq_some_iff.1 this).1
  omega
 rw[iV hlen]
 congr 1
 apply List.ext_getElem?
 intro i
 by_cases hi:i <k
 ·have h7:=h4 _ _ (h6 i ws[i] (by rw[List.getElem?_eq_getElem]))
  rw[List.getElem?_take_of_lt hi,List.getElem?_drop,List.getElem?_eq_getElem (show i <ws.length by omega),←h7,Nat.add_assoc]
 rw[List.getElem?_eq_none (by simp;omega),List.getElem?_eq_none (by omega)]
def Hd(ag:Bool)(l:List Value)(o sz:Nat):Option Value:=bif ag then (match sub l o sz with|some m=>some (.agg ⟨m⟩)|none=>none) else nth l o
theorem Yg{t:TypeId}{z:List Value}{d:TypeDesc}{bE:Nat}{ag:Bool}(tf:TF P t d sz bE z ag){o:Nat}{v:Value}(hv:Hd ag l o sz=some v){k:Value→Sem α}{Q:α→St→Prop}{E:Halt→St→Prop}:bS P (part t ⟨l⟩ o >>= k) s Q E=bS P (k v) s Q E:=by
 cases ag with
 |false=>exact NB tf hv
 |true=>
  simp only[Hd,cond_true] at hv
  split at hv
  ·rename_i m hm
   cases hv
   exact NA tf hm
  cases hv
section rules
variable {P:Program} {C:Class} {fn:FuncId} {aA:Option Nat} {Q:Post} {s:St} {n:Nat} {env:Env} {D:List Deferred}
variable {ops:Array Oper} {i:Nat} {rest:List Nat} {dst:Option Tmp} {ty:TypeId} {pos:String} {dg:Array Edge} {g:Option (Nat×Bool)}
variable {T:TypeId} {d:TypeDesc} {sz bE:Nat} {z:List Value} {ag:Bool}
theorem af4(hC:∀main T,C main T→Closed P main T){k:IntKind}{ix:Int}{len:Nat}{d':TypeDesc}{v:Value}(ho:ops[i]?=some ⟨dst,.index T x y,ty,pos,dg,g⟩) (hw:ax ops n env g=true)
 (tf:TF P T (.array len E) sz bE z ag) (jV:TF P E d' iu vz z' xH) (hx:bu n env x=some (.agg ⟨l⟩)) (hy:bu n env y=some (.int k ix)) (hi:0≤ix∧ix <len) (hv:Hd xH l (ix.toNat*iu) iu=some v)
 (h:ab C fn aA ops rest Q (A n (upd dst v env) D) s):ab C fn aA ops (i::rest) Q (A n env D) s:=by
 refine bV hC ho hw (by simp) ?_
 simp only[execOp,Instr.index,aG hx,aG hy,asIntOf,asAgg,aa,ae,ba tf,hi,and_self,if_true,cz jV]
 rw[Yg jV hv,←aZ] at*
 exact h
end rules
section rules
variable {P:Program} {C:Class} {fn:FuncId} {aA:Option Nat} {Q:Post} {s:St} {n:Nat} {env:Env} {D:List Deferred}
variable {ops:Array Oper} {i:Nat} {rest:List Nat} {dst:Option Tmp} {ty:TypeId} {pos:String} {dg:Array Edge} {g:Option (Nat×Bool)}
theorem wr(hC:∀main T,C main T→Closed P main T){l:List Nat}(hl:List.range ops.size=l)(h:ab C fn aA ops l Q (A n env D) s):Wp C fn aA (.region id ops false) Q (A n env D) s:=wp_region hC (hl▸h)
theorem on(hC:∀main T,C main T→Closed P main T){K:Act→St→Prop}(h:K (A n env D) s):ab C fn aA ops [] (mf K Q) (A n env D) s:=uv hC h
end rules
theorem c:∀main T,CP P main T→Closed P main T:=eP
def aT(k:IntKind)(a b:Int):Int:=a.fdiv (2^(min b.toNat k.bits))
def dG(k:IntKind)(a b:Int):Int:=k.wrap (a*2^(min b.toNat k.bits))
def Kj(k:IntKind)(a b:Int):Int:=k.wrap (BitVec.ofInt k.bits a&&& BitVec.ofInt k.bits b).toNat
def MG(k:IntKind)(a b:Int):Int:=k.wrap (BitVec.ofInt k.bits a|||BitVec.ofInt k.bits b).toNat
def de(k:IntKind)(a b:Int):Int:=k.wrap (BitVec.ofInt k.bits a^^^BitVec.ofInt k.bits b).toNat
theorem Qq(k:IntKind)(h:k.signed=false)(n:Int):0≤k.wrap n∧k.wrap n <2^k.bits:=by
 have hp:(0:Int) <2^k.bits:=Int.pow_pos (by decide)
 simp only[IntKind.wrap,h,Bool.false_and,Bool.false_eq_true,if_false]
 exact⟨Int.emod_nonneg _ (by omega),Int.emod_lt_of_pos _ hp⟩
theorem sX(k:IntKind)(h:k.signed=false)(n:Int)(h0:0≤n)(h1:n <2^k.bits):k.wrap n=n:=by
 simp only[IntKind.wrap,h,Bool.false_and,Bool.false_eq_true,if_false]
 exact Int.emod_eq_of_lt h0 h1
theorem uD(a b:Int):0≤de .u64 a b∧de .u64 a b <18446744073709551616:=Qq .u64 rfl _
theorem aN7{p0 p1 p2 p3 x:Int}(h: [p0,p1,p2,p3][k]?=some x):nth [.int .i64 p0,.int .i64 p1,.int .i64 p2,.int .i64 p3] k=some (.int .i64 x):=by
 rcases k with _|_|_|_|k
 all_goals first| (simp at h;subst h;rfl)|simp at h
theorem eg.aB3{own:Cells}(hp:s.rw.Perm (own++fr))(hf:eg P f vs s.ro own Φ):
 Fn (CP P) P f ⟨vs⟩ s (fun en s'=>∃v X,en= .returned v∧Φ v X∧(⟨s.ro,X++fr⟩:St).le s'):=by
 refine Fn.mono (Fn.frame (fr:=fr) (B:=[]) (ro:=s.ro) (s:=s) hf (fun _ h=>(by cases h)) ⟨hp,fun b o hb=> .inl hb,Sub.refl _⟩) fun en s' EB=>?_
 obtain⟨zl,⟨v,X,rfl,rfl,qH⟩,hc⟩:=EB
 exact⟨v,X,rfl,qH,[],by simpa using hc.rw,fun b o hb=> .inl (hc.keep b o hb)⟩
def Knows(ro:Nat→Option Obj)(X:Cells):Prop:=∀x∈X,ro x.1=some x.2
theorem Knows.up{X:Cells}(h:Knows ro X)(hs:Sub ro aJ):Knows aJ X:=fun x hx=>hs _ _ (h x hx)
theorem Knows.left{X:Cells}(h:Knows ro (X++Y)):Knows ro X:=fun x hx=>h x (List.mem_append_left _ hx)
theorem Knows.right{X:Cells}(h:Knows ro (X++Y)):Knows ro Y:=fun x hx=>h x (List.mem_append_right _ hx)
theorem Knows.tail{x:Nat×Obj}(h:Knows ro (x::Y)):Knows ro Y:=fun y hy=>h y (List.mem_cons_of_mem _ hy)
theorem Knows.head{x:Nat×Obj}(h:Knows ro (x::Y)):ro x.1=some x.2:=h x List.mem_cons_self
theorem xS{enc:α→List Value}{ps:List α}(h:s.has b (.cells ⟨(ps.map enc).flatten⟩ T fz))(hl:∀p∈ps,(enc p).length=sz){x:α}(hx:ps[k]?=some x):cE s b (0+k*sz) sz (enc x):=by
 have h2:=Dt ps hl k x hx
 have hm:x∈ps:=List.mem_of_getElem? hx
 have h3:=hl x hm
 refine⟨_,T,fz,h,?_⟩
 rw[Nat.zero_add,iV,h2]
 rw[kD ps hl]
 have:=(List.getElem?_eq_some_iff.1 hx).1
 calc k*sz+sz=(k+1)*sz:=by rw[Nat.succ_mul]
  _≤ps.length*sz:=Nat.mul_le_mul_right _ (by omega)
theorem bK{enc:α→List Value}(ps:List α)(h:ro b=some (.cells ⟨(ps.map enc).flatten⟩ T fz))(hl:∀p∈ps,(enc p).length=sz):bD ro (.slice (some ⟨b,0,none⟩) ps.length ps.length) sz enc ps:=
 ⟨_,b,0,_,rfl,Nat.le_refl _,fun _ _=>rfl,fun _ _ hx=>xS (.inl h) hl hx⟩
section rules
variable {P:Program} {C:Class} {fn:FuncId} {aA:Option Nat} {Q:Post} {s:St} {n:Nat} {env:Env} {D:List Deferred}
variable {ops:Array Oper} {i:Nat} {rest:List Nat} {dst:Option Tmp} {ty:TypeId} {pos:String} {dg:Array Edge} {g:Option (Nat×Bool)}
variable {T:TypeId} {d:TypeDesc} {sz bE:Nat} {z:List Value} {ag:Bool}
theorem aD6(hC:∀main T,C main T→Closed P main T){k k':IntKind}{a b:Int}(ho:ops[i]?=some ⟨dst,.binOp .shr T x y T',ty,pos,dg,g⟩) (hw:ax ops n env g=true)
 (hx:bu n env x=some (.int k a)) (hy:bu n env y=some (.int k' b)) (hb:0≤b) (h:ab C fn aA ops rest Q (A n (upd dst (.int k (aT k a b)) env) D) s):ab C fn aA ops (i::rest) Q (A n env D) s:=by
 refine tz hC ho hw (by simp) ?_ h
 simp only[execOp,aG hx,aG hy]
 have he:eqGuard .shr T x y (.int k a) (.int k' b)=Sem.pure ():=rfl
 have hv:binOp .shr T (.int k a) (.int k' b)=Sem.pure (.int k (aT k a b)):=by
  show Op.shift .shr k a k' b=_
  simp only[Op.shift,show ¬b <0 by omega,if_false];rfl
 rw[he]
 show Sem.bind (Sem.bind (Sem.pure ()) fun _=>binOp .shr T (.int k a) (.int k' b)) _=_
 simp only[Sem.bind,hv]
 rfl
theorem aD7(hC:∀main T,C main T→Closed P main T){k k':IntKind}{a b:Int}(ho:ops[i]?=some ⟨dst,.binOp .shl T x y T',ty,pos,dg,g⟩) (hw:ax ops n env g=true)
 (hx:bu n env x=some (.int k a)) (hy:bu n env y=some (.int k' b)) (hb:0≤b) (h:ab C fn aA ops rest Q (A n (upd dst (.int k (dG k a b)) env) D) s):ab C fn aA ops (i::rest) Q (A n env D) s:=by
 refine tz hC ho hw (by simp) ?_ h
 simp only[execOp,aG hx,aG hy]
 have he:eqGuard .shl T x y (.int k a) (.int k' b)=Sem.pure ():=rfl
 have hv:binOp .shl T (.int k a) (.int k' b)=Sem.pure (.int k (dG k a b)):=by
  show Op.shift .shl k a k' b=_
  simp only[Op.shift,show ¬b <0 by omega,if_false];rfl
 rw[he]
 show Sem.bind (Sem.bind (Sem.pure ()) fun _=>binOp .shl T (.int k a) (.int k' b)) _=_
 simp only[Sem.bind,hv]
 rfl
end rules
theorem bL{enc:α→List Value}(ps:List α)(h:s.has b (.cells ⟨(ps.map enc).flatten⟩ T fz))(hl:∀p∈ps,(enc p).length=sz):Sl s (.slice (some ⟨b,0,none⟩) ps.length cap) sz enc ps:=
 ⟨_,b,0,cap,rfl,fun _ _=>rfl,fun _ _ hx=>xS h hl hx⟩
theorem bC{enc:α→List Value}:ay (.slice (some ⟨b,0,none⟩) 0 0) sz T enc ([]:List α) [(b,.cells ⟨[]⟩ T (0,0))]:=
 .inr ⟨b,[],0,rfl,rfl,by simp,by simp,by simp,by simp⟩
theorem ay.form{v:Value}{enc:α→List Value}{ps:List α}{L:Cells}(h:ay v sz T enc ps L):∃a c,v= .slice a ps.length c:=by
 rcases h with ⟨h1,h2,_⟩| ⟨b,l,cap,h1,_⟩
 ·subst h2;exact⟨none,0,h1⟩
 exact⟨_,cap,h1⟩
def PV(v:Value)(b:Nat):Prop:=∃n c,v= .slice (some ⟨b,0,none⟩) n c
theorem bR{v:Value}{enc:α→List Value}{ps:List α}{L:Cells}(h:ay v sz T enc ps L)(hb:PV v b)(hs:∀x∈L,s.has x.1 x.2){x:α}(hx:ps[k]?=some x):cE s b (k*sz) sz (enc x):=by
 obtain⟨a,b',o,c,h1,h2,h3⟩:=h.sl hs
 have hk:=(List.getElem?_eq_some_iff.1 hx).1
 have h4:=h2 k hk
 obtain⟨n,c',h5⟩:=hb
 rw[h1] at h5
 cases h5
 cases h4
 have:=h3 k x hx
 rwa[Nat.zero_add] at this
theorem aD0{v:Value}{enc:α→List Value}{ps:List α}{L:Cells}(h:ay v sz T enc ps L)(hk:k <ps.length):∃b,PV v b:=by
 rcases h with ⟨_,h2,_⟩| ⟨b,l,cap,h1,_⟩
 ·subst h2;simp at hk
 exact⟨b,_,_,h1⟩
theorem Tb{enc:α→List Value}:∀(ps:List α),(∀p∈ps,(enc p).length=sz)→∀(k:Nat) (x:α),(enc x).length=sz→k <ps.length→∀l:List Value,l.take (ps.length*sz)=(ps.map enc).flatten→(dE l (k*sz) (enc x)).take (ps.length*sz)=((ps.set k x).map enc).flatten:=by
 intro ps VP k x hx hk l hl
 have hle:ps.length*sz≤l.length:=by
  have h1:=kD ps VP
  rw[←hl,List.length_take] at h1
  omega
 have hks:k*sz+sz≤ps.length*sz:=by
  have:(k+1)*sz≤ps.length*sz:=Nat.mul_le_mul_right _ (by omega)
  rw[Nat.succ_mul] at this;exact this
 have hA:((ps.take k).map enc).flatten.length=k*sz:=by
  rw[kD _ (fun p hp=>VP p (List.mem_of_mem_take hp)),List.length_take,Nat.min_eq_left (by omega)]
 have hC:((ps.drop (k+1)).map enc).flatten.length=(ps.length-(k+1))*sz:=by
  rw[kD _ (fun p hp=>VP p (List.mem_of_mem_drop hp)),List.length_drop]
 have hB:=VP ps[k] (List.getElem_mem hk)
 have awr:(ps.map enc).flatten=((ps.take k).map enc).flatten++(enc ps[k]++((ps.drop (k+1)).map enc).flatten):=by
  have h3:ps=ps.take k++ps[k]::ps.drop (k+1):=by rw[←List.drop_eq_getElem_cons hk,List.take_append_drop]
  have h4:=congrArg (fun q:List α=>(q.map enc).flatten) h3
  simp only[List.map_append,List.map_cons,List.flatten_append,List.flatten_cons] at h4
  exact h4
 have rq:l=((ps.take k).map enc).flatten++(enc ps[k]++(((ps.drop (k+1)).map enc).flatten++l.drop (ps.length*sz))):=by
  have h3:=(List.take_append_drop (ps.length*sz) l).symm
  rw[hl,awr] at h3
  simp only[List.append_assoc] at h3
  exact h3
 have pJ:((ps.set k x).map enc).flatten=((ps.take k).map enc).flatten++(enc x++((ps.drop (k+1)).map enc).flatten):=by
  rw[List.set_eq_take_append_cons_drop,if_pos hk]
  simp only[List.map_append,List.map_cons,List.flatten_append,List.flatten_cons]
 have aPT:dE l (k*sz) (enc x)=((ps.take k).map enc).flatten++(enc x++(((ps.drop (k+1)).map enc).flatten++l.drop (ps.length*sz))):=by
  rw[rI _ _ _ (by omega),hx,List.append_assoc]
  congr 1
  ·conv=>lhs;rw[rq]
   rw[←hA,List.take_left]
  congr 1
  conv=>lhs;rw[rq]
  rw[←List.append_assoc,←List.append_assoc,List.append_assoc _ _ (List.drop _ _)]
  rw[show k*sz+sz=(((ps.take k).map enc).flatten++enc ps[k]).length by rw[List.length_append,hA,hB],List.drop_left]
 rw[aPT,pJ,←List.append_assoc,←List.append_assoc]
 have hlen:(((ps.take k).map enc).flatten++enc x++((ps.drop (k+1)).map enc).flatten).length=ps.length*sz:=by
  rw[List.length_append,List.length_append,hA,hx,hC]
  have:ps.length*sz=(k+1+(ps.length-(k+1)))*sz:=by congr 1;omega
  rw[this,Nat.add_mul,Nat.succ_mul]
 rw[←hlen,List.take_left,List.append_assoc]
section rules
variable {P:Program} {C:Class} {fn:FuncId} {aA:Option Nat} {Q:Post} {s:St} {n:Nat} {env:Env} {D:List Deferred}
variable {ops:Array Oper} {i:Nat} {rest:List Nat} {dst:Option Tmp} {ty:TypeId} {pos:String} {dg:Array Edge} {g:Option (Nat×Bool)}
variable {T:TypeId} {d:TypeDesc} {sz bE:Nat} {z:List Value} {ag:Bool}
theorem Vh(hC:∀main T,C main T→Closed P main T){w:Operand}{k k':IntKind}{b:ByteArray}(ho:ops[i]?=some ⟨dst,.slice T x (some y) (some w) none,ty,pos,dg,g⟩) (hw:ax ops n env g=true) (tf:TF P T .string sz bE z ag)
 (hx:bu n env x=some (.string b)) (hy:bu n env y=some (.int k lo)) (hz:bu n env w=some (.int k' hi)) (hl:0≤lo∧lo≤hi∧hi≤b.size) (h:ab C fn aA ops rest Q (A n (upd dst (.string (b.extract lo.toNat hi.toNat)) env) D) s):ab C fn aA ops (i::rest) Q (A n env D) s:=by
 refine bV hC ho hw (by simp) ?_
 have h1:0≤hi∧hi≤(b.size:Int):=by omega
 have h2:0≤lo∧lo≤(hi.toNat:Int):=by omega
 simp only[execOp,Option.map_some,Option.map_none,Instr.sliceAt,Instr.slice,aG hx,aG hy,aG hz,aa,ba tf,Instr.sliceBounds,Instr.sliceBound,asIntOf,ae,Option.isSome_none,Bool.false_eq_true,if_false,h1,h2,and_self,if_true]
 rw[←aZ] at h
 exact h
theorem RB(hC:∀main T,C main T→Closed P main T){w:Operand}{k':IntKind}{b:ByteArray}(ho:ops[i]?=some ⟨dst,.slice T x none (some w) none,ty,pos,dg,g⟩) (hw:ax ops n env g=true) (tf:TF P T .string sz bE z ag)
 (hx:bu n env x=some (.string b)) (hz:bu n env w=some (.int k' hi)) (hl:0≤hi∧hi≤b.size) (h:ab C fn aA ops rest Q (A n (upd dst (.string (b.extract 0 hi.toNat)) env) D) s):ab C fn aA ops (i::rest) Q (A n env D) s:=by
 refine bV hC ho hw (by simp) ?_
 simp only[execOp,Option.map_some,Option.map_none,Instr.sliceAt,Instr.slice,aG hx,aG hz,aa,ba tf,Instr.sliceBounds,Instr.sliceBound,asIntOf,ae,Option.isSome_none,Bool.false_eq_true,if_false,hl,and_self,if_true]
 rw[←aZ] at h
 exact h
theorem RA(hC:∀main T,C main T→Closed P main T){k:IntKind}{b:ByteArray}(ho:ops[i]?=some ⟨dst,.slice T x (some y) none none,ty,pos,dg,g⟩) (hw:ax ops n env g=true) (tf:TF P T .string sz bE z ag)
 (hx:bu n env x=some (.string b)) (hy:bu n env y=some (.int k lo)) (hl:0≤lo∧lo≤b.size) (h:ab C fn aA ops rest Q (A n (upd dst (.string (b.extract lo.toNat b.size)) env) D) s):ab C fn aA ops (i::rest) Q (A n env D) s:=by
 refine bV hC ho hw (by simp) ?_
 simp only[execOp,Option.map_some,Option.map_none,Instr.sliceAt,Instr.slice,aG hx,aG hy,aa,ba tf,Instr.sliceBounds,Instr.sliceBound,asIntOf,ae,Option.isSome_none,Bool.false_eq_true,if_false,hl,and_self,if_true]
 rw[←aZ] at h
 exact h
theorem bD.part{a:Option Addr}{len:Nat}{enc:α→List Value}{ps:List α}(hs:bD ro (.slice a len cap) sz enc ps){l h:Nat}(hl:l≤h)(hh:h≤ps.length):bD ro (.slice (if cap=l then a else a.map (·.add (l*sz))) (h-l) (cap-l)) sz enc ((ps.take h).drop l):=by
 obtain⟨a',b,o,aTx,h1,h2,h3,h4⟩:=hs
 cases h1
 have hlen:((ps.take h).drop l).length=h-l:=by rw[List.length_drop,List.length_take];omega
 refine⟨_,b,o+l*sz,_,by rw[hlen],by omega,fun k hk=>?_,fun i p hp=>?_⟩
 ·have:=h3 0 (by omega)
  subst this
  rw[if_neg (by omega)]
  simp[dO]
 rw[List.getElem?_drop] at hp
 have hi:l+i <h:=by
  have:=(List.getElem?_eq_some_iff.1 hp).1
  rw[List.length_take] at this;omega
 rw[List.getElem?_take_of_lt hi] at hp
 have:=h4 _ _ hp
 rwa[show o+(l+i)*sz=o+l*sz+i*sz by rw[Nat.add_mul];omega] at this
theorem af2(hC:∀main T,C main T→Closed P main T){v:Value}{enc:α→List Value}{ps:List α}{L:Cells}(ho:ops[i]?=some ⟨dst,.call ⟨.builtin .len,#[x],#[T]⟩,ty,pos,dg,g⟩) (hw:ax ops n env g=true)
 (tf:TF P T (.slice E) sz bE z ag) (hx:bu n env x=some v) (kR:ay v szo T2 enc ps L) (h:ab C fn aA ops rest Q (A n (upd dst (.int .i64 ps.length) env) D) s):ab C fn aA ops (i::rest) Q (A n env D) s:=by
 obtain⟨a,c,rfl⟩:=kR.form
 exact aEb hC ho hw tf hx h
end rules
theorem dP{K J:Cells}(hp:rw'.Perm (K++J))(h:Sub ro aJ):(⟨ro,K⟩:St).le ⟨aJ,rw'⟩:=⟨J,hp,fun b o hb=> .inl (h b o hb)⟩
theorem ai(h:l.all single=true):∀v∈l,single v=true:=List.all_eq_true.1 h
section any
variable {P:Program} {C:Class} {fn:FuncId} {aA:Option Nat} {Q:Post} {s:St} {n:Nat} {D:List Deferred} {ops:Array Oper} {base:Env}
def asQ(C:Class)(fn:FuncId)(aA:Option Nat)(ops:Array Oper)(n:Nat)(D:List Deferred)(base:Env)(Pl Sl:List (Nat×Value))(Q:Post)(s:St)(i:Nat):Prop:=
 ∀rest todo,(∀v s',(∀j w,(j,w)∈pending ops i Sl→eL C fn aA ops n D j w (cA ops base j Pl) s→eL C fn aA ops n D j w (cA ops base j Pl) s')→
  tT C fn aA ops n D base ((i,v)::Pl) (pending ops i Sl) Q s'→ab C fn aA ops todo Q (A n (upd (aR ops i) v (cA ops base i Pl++rest)) D) s')→
  ab C fn aA ops (i::todo) Q (A n (cA ops base i Pl++rest) D) s
def yl(C:Class)(fn:FuncId)(aA:Option Nat)(ops:Array Oper)(n:Nat)(D:List Deferred)(base:Env)(Pl Sl:List (Nat×Value))(Q:Post)(s:St):List Nat→Prop
 | []=>True
 |i::is=>asQ C fn aA ops n D base Pl Sl Q s i∧yl C fn aA ops n D base Pl Sl Q s is
theorem yl.mem{Pl Sl:List (Nat×Value)}:∀ {is:List Nat},yl C fn aA ops n D base Pl Sl Q s is→∀i∈is,asQ C fn aA ops n D base Pl Sl Q s i
 | [],_,i,hi=>by cases hi
 |k::is,h,i,hi=>by
  rcases List.mem_cons.1 hi with rfl|hi
  ·exact h.1
  exact yl.mem h.2 i hi
def afX(ops:Array Oper)(ks:List Nat)(is:List Nat):Bool:=
 (List.range ops.size).all fun j=>bh j ks||bh j is||(bw ops j).any fun k=> !bh k ks
theorem ac5{Pl Sl:List (Nat×Value)}(is:List Nat)(mW:fF ops=true)(his:(is.all fun i=>Nat.blt i ops.size&& !bh i (an Pl))=true)(mo:nodupB (an Pl)=true)(jN:pH ops (an Pl)=true)(hs:fG (an Sl) (an Pl)=true)(ho:afX ops (an Pl) is=true)
 (h:yl C fn aA ops n D base Pl Sl Q s is)(dR:is.isEmpty=false):tT C fn aA ops n D base Pl Sl Q s:=by
 have rn:∀i∈is,i∉an Pl:=fun i hi hm=>by
  have:=(List.all_eq_true.1 his) i hi
  rw[aL.2 hm] at this;simp at this
 have Kt:∀i∈is,i <ops.size:=fun i hi=>by
  have:=(List.all_eq_true.1 his) i hi
  simp only[Bool.and_eq_true,Nat.blt_eq] at this
  exact this.1
 have HR:∀(l:List (Nat×Value)),nodupB (an l)=true→∀j v w,(j,v)∈l→(j,w)∈l→w=v:=by
  intro l
  induction l with
  |nil=>intro _ j v w h;cases h
  |cons x l ih=>
   rcases x with ⟨k,u⟩
   intro hb j v w h1 h2
   simp only[an,nodupB,Bool.and_eq_true,Bool.not_eq_true'] at hb
   have hk:k∉an l:=fun hm=>by rw[aL.2 hm] at hb;cases hb.1
   rcases List.mem_cons.1 h1 with h1|h1<;>rcases List.mem_cons.1 h2 with h2|h2
   ·cases h1;cases h2;rfl
   ·cases h1;exact absurd (aP.2 ⟨_,h2⟩) hk
   ·cases h2;exact absurd (aP.2 ⟨_,h1⟩) hk
   exact ih hb.2 j v w h1 h2
 intro hSl X l
 induction l generalizing X with
 |nil=>
  intro env hX hl pK hf
  cases is with
  |nil=>cases dR
  |cons i is=>exact absurd (hX i (pK i (Kt i List.mem_cons_self))) (rn i List.mem_cons_self)
 |cons j l ih=>
  intro env hX hl pK hf
  obtain⟨h1,h2,h3,h4⟩:=pK
  by_cases hj:j∈an Pl
  ·
   obtain⟨w,hw⟩:=aP.1 hj
   obtain⟨rest,hr⟩:=xj (n:=n) (D:=D) hf j h3 h2
   rw[hr]
   refine hSl j w (hl j w hw h2) s (Ext.refl s) rest l Q ?_
   rw[←DY hr]
   refine ih (j::X) _ (fun k hk=>?_) (fun k u hk Ck=>hl k u hk (fun h=>Ck (List.mem_cons_of_mem _ h))) h4 (tK mW hf h1 h2 h3 (fun u hu=>HR Pl mo j w u hw hu))
   rcases List.mem_cons.1 hk with rfl|hk
   ·exact hj
   exact hX k hk
  by_cases AS:j∈is
  ·have h:=yl.mem h j AS
   have rn:=rn j AS
   obtain⟨rest,hr⟩:=xj (n:=n) (D:=D) hf j h3 h2
   rw[hr]
   refine h rest l fun v s' hp ha=>?_
   rw[←DY hr]
   have OY:∀k,k∈an Pl→j∉bw ops k:=by
    intro k hk hm
    have:=(List.all_eq_true.1 jN) k hk
    exact rn (bQ.1 this j hm)
   have VP:∀k u,(k,u)∈pending ops j Sl→(k,u)∈Sl:=fun k u hk=>(List.mem_filter.1 hk).1
   refine ha (fun k u hk=>?_) (j::X) l _ (fun k hk=>?_) (fun k u hk Ck=>?_) h4 ?_
   ·rw[c8 (OY k (bQ.1 hs k (aP.2 ⟨u,VP k u hk⟩)))]
    exact hp k u hk (hSl k u (VP k u hk))
   ·rcases List.mem_cons.1 hk with rfl|hk
    ·simp[an]
    exact List.mem_cons_of_mem _ (hX k hk)
   ·rcases List.mem_cons.1 hk with hk|hk
    ·cases hk;exact absurd (by simp) Ck
    have OU:k∉X:=fun h=>Ck (List.mem_cons_of_mem _ h)
    refine List.mem_filter.2 ⟨hl k u hk OU,?_⟩
    cases hm:bh k (bw ops j) with
    |false=>rfl
    |true=>exact absurd (h3 k (aL.1 hm)) OU
   refine tK mW (Du hf h2) h1 h2 h3 fun u hu=>?_
   rcases List.mem_cons.1 hu with hu|hu
   ·cases hu;rfl
   exact absurd (aP.2 ⟨_,hu⟩) rn
  exfalso
  have:=(List.all_eq_true.1 ho) j (List.mem_range.2 h1)
  have e1:bh j (an Pl)=false:=by
   cases hm:bh j (an Pl) with
   |false=>rfl
   |true=>exact absurd (aL.1 hm) hj
  have e2:bh j is=false:=by
   cases hm:bh j is with
   |false=>rfl
   |true=>exact absurd (aL.1 hm) AS
  rw[e1,e2] at this
  simp only[Bool.false_or,List.any_eq_true,Bool.not_eq_true'] at this
  obtain⟨k,hk,bY⟩:=this
  have:=hX k (h3 k hk)
  rw[aL.2 this] at bY;cases bY
end any
section rules
variable {P:Program} {C:Class} {fn:FuncId} {aA:Option Nat} {Q:Post} {s:St} {n:Nat} {env:Env} {D:List Deferred}
variable {ops:Array Oper} {i:Nat} {rest:List Nat} {dst:Option Tmp} {ty:TypeId} {pos:String} {dg:Array Edge} {g:Option (Nat×Bool)}
variable {T:TypeId} {d:TypeDesc} {sz bE:Nat} {z:List Value} {ag:Bool} {ro:Nat→Option Obj}
theorem wE{a:Act}(hC:∀main T,C main T→Closed P main T){rw:Cells}(hp:rw'.Perm rw)(h:ab C fn aA ops todo Q a ⟨ro,rw⟩):ab C fn aA ops todo Q a ⟨ro,rw'⟩:=
 ab.more (s:=⟨ro,rw⟩) (s':=⟨ro,rw'⟩) hC ⟨[],by rw[List.append_nil];exact hp,fun b o hb=> .inl hb⟩ h
theorem oap(hC:∀main T,C main T→Closed P main T){v w:Value}{enc:α→List Value}{ps qs:List α}{L R:List (Nat×Obj)}{d':TypeDesc}{E2:TypeId}{sz2 B7:Nat}{z2:List Value}{ag2:Bool} 
 (ho:ops[i]?=some ⟨dst,.call ⟨.builtin .append,#[x,y],#[T,U]⟩,ty,pos,dg,g⟩) (hw:ax ops n env g=true) (tf:TF P T (.slice E) sz bE z ag) (TZ:TF P U (.slice E2) sz2 B7 z2 ag2) (jV:TF P E d' iu vz z' xH) (hz:z'.length=iu)
 (hx:bu n env x=some v) (hy:bu n env y=some w) (kR:ay v iu E enc ps L) (MI:Sl ⟨ro,L++R⟩ w iu enc qs) (hq:∀p∈qs,∀c∈enc p,single c=true) (hb:wG (ps.length+qs.length) vz)
 (h:∀v' L',ay v' iu E enc (ps++qs) L'→ab C fn aA ops rest Q (A n (upd dst v' env) D) ⟨ro,L'++R⟩):ab C fn aA ops (i::rest) Q (A n env D) ⟨ro,L++R⟩:=
 RG hC ho hw tf TZ jV hz hx hy kR MI (pre:=[]) rfl hq hb h
theorem ost(hC:∀main T,C main T→Closed P main T){o:Nat}{v:Value}{R:List (Nat×Obj)}{c:List Value}{e:TypeId}(ho:ops[i]?=some ⟨dst,.store T x y,ty,pos,dg,g⟩) (hw:ax ops n env g=true) (tf:TF P T d sz bE z ag)
 (hx:bu n env x=some (.pointer (some ⟨b,o,none⟩))) (hy:bu n env y=some (v)) (hl:v.cells=⟨l⟩) (hn:l.length=sz) (h1:∀v∈l,single v=true) (hb:o+l.length≤c.length)
 (h:ab C fn aA ops rest Q (A n (upd dst undef env) D) ⟨ro,(b,.cells ⟨dE c o l⟩ e (0,0))::R⟩):ab C fn aA ops (i::rest) Q (A n env D) ⟨ro,(b,.cells ⟨c⟩ e (0,0))::R⟩:=
 FP hC ho hw tf hx hy hl hn h1 (L:=[]) rfl hb h
end rules
section rules
variable {P:Program} {C:Class} {fn:FuncId} {aA:Option Nat} {Q:Post} {s:St} {n:Nat} {env:Env} {D:List Deferred}
variable {ops:Array Oper} {i:Nat} {rest:List Nat} {dst:Option Tmp} {ty:TypeId} {pos:String} {dg:Array Edge} {g:Option (Nat×Bool)}
theorem au4(hC:∀main T,C main T→Closed P main T){k:IntKind}{a b:Int}(ho:ops[i]?=some ⟨dst,.call ⟨.builtin .min,#[x,y],#[T,U]⟩,ty,pos,dg,g⟩) (hw:ax ops n env g=true)
 (hx:bu n env x=some (.int k a)) (hy:bu n env y=some (.int k b)) (h:ab C fn aA ops rest Q (A n (upd dst (.int k (min a b)) env) D) s):ab C fn aA ops (i::rest) Q (A n env D) s:=by
 refine bV hC ho hw (by simp) ?_
 have e:(if b <a then b else a)=min a b:=by omega
 simp only[execOp,resolve,invoke,builtin,Builtin.min_,List.map_toArray,List.map_cons,List.map_nil,aG hx,aG hy,List.foldlM_cons,List.foldlM_nil,Builtin.min2,aa,ae,e]
 rw[←aZ] at h
 exact h
theorem au5(hC:∀main T,C main T→Closed P main T){k:IntKind}{a b:Int}(ho:ops[i]?=some ⟨dst,.call ⟨.builtin .max,#[x,y],#[T,U]⟩,ty,pos,dg,g⟩) (hw:ax ops n env g=true)
 (hx:bu n env x=some (.int k a)) (hy:bu n env y=some (.int k b)) (h:ab C fn aA ops rest Q (A n (upd dst (.int k (max a b)) env) D) s):ab C fn aA ops (i::rest) Q (A n env D) s:=by
 refine bV hC ho hw (by simp) ?_
 have e:(if a <b then b else a)=max a b:=by omega
 simp only[execOp,resolve,invoke,builtin,Builtin.max_,List.map_toArray,List.map_cons,List.map_nil,aG hx,aG hy,List.foldlM_cons,List.foldlM_nil,Builtin.max2,aa,ae,e]
 rw[←aZ] at h
 exact h
end rules
def cQ(a b:ByteArray):Bool:=a.toList==b.toList
def strLt(a b:ByteArray):Bool:=Op.bytesLess a.toList b.toList
section rules
variable {P:Program} {C:Class} {fn:FuncId} {aA:Option Nat} {Q:Post} {s:St} {n:Nat} {env:Env} {D:List Deferred}
variable {ops:Array Oper} {i:Nat} {rest:List Nat} {dst:Option Tmp} {ty:TypeId} {pos:String} {dg:Array Edge} {g:Option (Nat×Bool)}
theorem au1(hC:∀main T,C main T→Closed P main T){a b:ByteArray}(ho:ops[i]?=some ⟨dst,.binOp .add T x y T',ty,pos,dg,g⟩) (hw:ax ops n env g=true)
 (hx:bu n env x=some (.string a)) (hy:bu n env y=some (.string b)) (hb:(a.size:Int)+b.size≤9223372036854775807) (h:ab C fn aA ops rest Q (A n (upd dst (.string (a++b)) env) D) s):ab C fn aA ops (i::rest) Q (A n env D) s:=
 Bp hC ho hw hx hy (v:= .string (a++b)) (by
  simp only[Op.stringOp]
  rw[if_neg]
  ·rfl
  have:IntKind.i64.max=9223372036854775807:=by decide
  rw[this];push_cast;omega) rfl h
end rules
theorem azB(b:ByteArray)(i:Nat)(h:i <b.size):b.get! i=b.data.toList[i]'(by simpa using h):=by
 have h':i <b.data.size:=h
 show b.data[i]! =_
 rw[getElem!_pos b.data i h']
 simp
theorem aaA(b:ByteArray):∀(n i:Nat) (r:List UInt8),b.size-i=n→ByteArray.toList.loop b i r=r.reverse++b.data.toList.drop i
 |0,i,r,h=>by
  unfold ByteArray.toList.loop
  rw[if_neg (by omega),List.drop_eq_nil_of_le]
  ·simp
  show b.data.toList.length≤i
  rw[Array.length_toList]
  have:b.data.size=b.size:=rfl
  omega
 |n+1,i,r,h=>by
  unfold ByteArray.toList.loop
  have hi:i <b.size:=by omega
  rw[if_pos hi,aaA b n (i+1) _ (by omega),azB b i hi]
  have hl:i <b.data.toList.length:=by rw[Array.length_toList];exact hi
  rw[List.drop_eq_getElem_cons hl]
  simp
theorem qm(b:ByteArray):b.toList=b.data.toList:=by
 show ByteArray.toList.loop b 0 []=_
 rw[aaA b _ 0 [] rfl]
 simp
theorem qi{a b:ByteArray}:cQ a b=true↔a=b:=by
 unfold cQ
 rw[qm,qm]
 simp only[beq_iff_eq]
 constructor
 ·intro h
  have:a.data=b.data:=Array.toList_inj.1 h
  cases a;cases b;simp at this;subst this;rfl
 rintro rfl;rfl
theorem Ba(a b:ByteArray):cQ a b=(a.data.toList==b.data.toList):=by unfold cQ;rw[qm,qm]
theorem QP(a b:ByteArray):strLt a b=Op.bytesLess a.data.toList b.data.toList:=by unfold strLt;rw[qm,qm]
def FnG(P:Program)(f:FuncId)(args:List Value)(ro:Nat→Option Obj)(own:Cells)(Φ:Value→(Nat→Option Obj)→Cells→Prop):Prop:=
 Fn (CP P) P f ⟨args⟩ ⟨ro,own⟩ (fun en s'=>∃v aJ X,en= .returned v∧s'=⟨aJ,X⟩∧Sub ro aJ∧Φ v aJ X)
theorem FnG.use{own:Cells}{Φ:Value→(Nat→Option Obj)→Cells→Prop}(hp:s.rw.Perm (own++fr))(hf:FnG P f vs s.ro own Φ):
 Fn (CP P) P f ⟨vs⟩ s (fun en s'=>∃v aJ X,en= .returned v∧Sub s.ro aJ∧Φ v aJ X∧(⟨aJ,X++fr⟩:St).le s'):=by
 refine Fn.mono (Fn.frame (fr:=fr) (B:=[]) (ro:=s.ro) (s:=s) hf (fun _ h=>(by cases h)) ⟨hp,fun b o hb=> .inl hb,Sub.refl _⟩) fun en s' EB=>?_
 obtain⟨zl,⟨v,aJ,X,rfl,rfl,hs,qH⟩,hc⟩:=EB
 refine⟨v,aJ,X,rfl,hs,qH,[],by simpa using hc.rw,fun b o hb=>?_⟩
 rcases hc.aH b o hb with h|h
 ·exact .inl h
 cases h
theorem G3:∀(A l:List Value) (o:Nat) (c:List Value),dE (A++l) (A.length+o) c=A++dE l o c
 | [],l,o,c=>by simp
 |a::A,l,o,[]=>by rw[lv,lv]
 |a::A,l,o,v::c=>by
  have:=G3 A l o (v::c)
  rw[show (a::A).length+o=A.length+o+1 by simp only[List.length_cons];omega]
  simp only[List.cons_append,dE,this]
theorem LY{m B:List Value}{o:Nat}{c:List Value}(h:o+c.length≤m.length):dE (m++B) o c=dE m o c++B:=by
 rw[rI _ _ _ (by rw[List.length_append];omega),rI _ _ _ h,List.take_append_of_le_length (by omega),List.drop_append_of_le_length h]
 simp only[List.append_assoc]
theorem abr{m c:List Value}(h:c.length=m.length):dE m 0 c=c:=by
 rw[rI _ _ _ (by omega)]
 simp[h]
theorem WX{enc:α→List Value}{ps:List α}(VP:∀p∈ps,(enc p).length=sz){x:α}(hx:ps[k]?=some x) (hl:l.take (ps.length*sz)=(ps.map enc).flatten):∃A B,A.length=k*sz∧l=A++(enc x++B):=by
 obtain⟨hk,rfl⟩:=List.getElem?_eq_some_iff.1 hx
 refine⟨((ps.take k).map enc).flatten,((ps.drop (k+1)).map enc).flatten++l.drop (ps.length*sz),?_,?_⟩
 ·rw[kD _ (fun p hp=>VP p (List.mem_of_mem_take hp)),List.length_take,Nat.min_eq_left (by omega)]
 have h3:ps=ps.take k++ps[k]::ps.drop (k+1):=by rw[←List.drop_eq_getElem_cons hk,List.take_append_drop]
 have h4:=congrArg (fun q:List α=>(q.map enc).flatten) h3
 simp only[List.map_append,List.map_cons,List.flatten_append,List.flatten_cons] at h4
 have h5:=(List.take_append_drop (ps.length*sz) l).symm
 rw[hl,h4] at h5
 simpa only[List.append_assoc] using h5
theorem abt{enc:α→List Value}{ps:List α}(VP:∀p∈ps,(enc p).length=sz){x:α}(hx:ps[k]?=some x) (hl:l.take (ps.length*sz)=(ps.map enc).flatten) {o:Nat} {c:List Value} (h:o+c.length≤sz):
 dE l (k*sz+o) c=dE l (k*sz) (dE (enc x) o c):=by
 have hxl:=VP x (List.mem_of_getElem? hx)
 obtain⟨A,B,h1,rfl⟩:=WX VP hx hl
 have e0:∀q,dE (A++(enc x++B)) A.length q=A++dE (enc x++B) 0 q:=fun q=>G3 A _ 0 q
 rw[←h1,G3,e0,LY (by omega),LY (by rw[lA];omega),abr (lA _ _ _)]
section rules
variable {P:Program} {C:Class} {fn:FuncId} {aA:Option Nat} {Q:Post} {ro:Nat→Option Obj} {n:Nat} {env:Env} {D:List Deferred}
variable {ops:Array Oper} {i:Nat} {rest:List Nat} {dst:Option Tmp} {ty:TypeId} {pos:String} {dg:Array Edge} {g:Option (Nat×Bool)}
variable {T:TypeId} {d:TypeDesc} {tsz bE:Nat} {z:List Value} {ag:Bool}
theorem aD2(hC:∀main T,C main T→Closed P main T){o:Nat}{v w:Value}{a e:α}{c:List Value}{enc:α→List Value}{ps:List α}{L R:Cells}(ho:ops[i]?=some ⟨dst,.store T x y,ty,pos,dg,g⟩) (hw:ax ops n env g=true) (tf:TF P T d tsz bE z ag)
 (hx:bu n env x=some (.pointer (some ⟨b,k*sz+o,none⟩))) (hy:bu n env y=some w) (hl:w.cells=⟨c⟩) (hn:c.length=tsz) (h1:∀v∈c,single v=true) (kR:ay v sz E enc ps L) (hb:PV v b) (hk:ps[k]?=some a) (he:enc e=dE (enc a) o c) (hf:o+c.length≤sz)
 (h:∀L',ay v sz E enc (ps.set k e) L'→ab C fn aA ops rest Q (A n (upd dst undef env) D) ⟨ro,L'++R⟩):ab C fn aA ops (i::rest) Q (A n env D) ⟨ro,L++R⟩:=by
 have hk1:k <ps.length:=(List.getElem?_eq_some_iff.1 hk).1
 rcases kR with ⟨_,h2,_⟩| ⟨b',l,cap,g1,g2,g3,g4,g5,g6⟩
 ·subst h2;simp at hk
 obtain⟨n',c',mH⟩:=hb
 rw[g1] at mH
 cases mH
 subst g2
 have hea:(enc a).length=sz:=g5 a (List.mem_of_getElem? hk)
 have EB:(enc e).length=sz:=by rw[he,lA,hea]
 have hks:k*sz+sz≤ps.length*sz:=by
  have:(k+1)*sz≤ps.length*sz:=Nat.mul_le_mul_right _ (by omega)
  rw[Nat.succ_mul] at this;exact this
 have oU:ps.length*sz≤cap*sz:=Nat.mul_le_mul_right _ g4
 refine FP (L:=[]) (R:=R) hC ho hw tf hx hy hl hn h1 rfl (by omega)<|h [(b,.cells ⟨dE l (k*sz+o) c⟩ E (0,0))] (.inr ⟨b,_,cap,by rw[g1,List.length_set],rfl,by rw[lA,g3],by rw[List.length_set];exact g4,fun p hp=>?_,?_⟩)
 ·rcases List.mem_or_eq_of_mem_set hp with h5|h5
  ·exact g5 p h5
  subst h5;exact EB
 rw[List.length_set,abt g5 hk g6 hf,←he]
 exact Tb ps g5 k e EB hk1 l g6
end rules
section rules
variable {P:Program} {C:Class} {fn:FuncId} {aA:Option Nat} {Q:Post} {s:St} {n:Nat} {env:Env} {D:List Deferred}
variable {ops:Array Oper} {i:Nat} {rest:List Nat} {dst:Option Tmp} {ty:TypeId} {pos:String} {dg:Array Edge} {g:Option (Nat×Bool)}
structure EF(P:Program)(f:FuncId)(e:Array Value→Sem Value):Prop where
 ef:∃fn,P.funcs[f]?=some fn∧(fn.name== "runtime.NumGoroutine")=false∧fn.body.isNone=true∧(Extern.findNext fn).isNone=true∧Extern.find fn=some e
theorem af5(hC:∀main T,C main T→Closed P main T){e:Array Value→Sem Value}(ho:ops[i]?=some ⟨dst,.call ⟨.value (.func f),xs,at_⟩,ty,pos,dg,g⟩) (hw:ax ops n env g=true)
 (ef:EF P f e) (hx:vX n env xs=some vs) (h:bS P (e ⟨vs⟩) s (fun v s'=>ab C fn aA ops rest Q (A n (upd dst v env) D) s') (fun _ _=>False)):ab C fn aA ops (i::rest) Q (A n env D) s:=by
 obtain⟨fn',h1,h2,h3,h4,h5⟩:=ef.ef
 have h4':Extern.findNext fn'=none:=by
  cases hh:Extern.findNext fn' with
  |none=>rfl
  |some x=>rw[hh] at h4;cases h4
 refine bV hC ho hw (by simp) ?_
 simp only[execOp,resolve,ev,Deferred.ofValue,ae,sQ hx]
 simp only[invoke,Array.append_empty,Array.empty_append,callFunc,eN,h1,h2,h3,h4',h5,if_true,Bool.false_eq_true,if_false]
 refine⟨rfl,?_⟩
 refine QA (e ⟨vs⟩) (fun v=>(pure (Next.value v):Sem Next)) _ _ _<|v9 _ _ _ _ _ _ (fun v s' hv=>?_) (fun _ _ (hf:False)=>hf.elim) h
 rw[←aZ] at hv
 exact hv
end rules
def Se(a:ByteArray)(b:UInt8):Int:=
 match (List.range a.size).find? fun i=>a[i]! ==b with
 |some i=>i
 |none=> -1
section rules
variable {P:Program} {C:Class} {fn:FuncId} {aA:Option Nat} {Q:Post} {s:St} {n:Nat} {env:Env} {D:List Deferred}
variable {ops:Array Oper} {i:Nat} {rest:List Nat} {dst:Option Tmp} {ty:TypeId} {pos:String} {dg:Array Edge} {g:Option (Nat×Bool)}
theorem af3(hC:∀main T,C main T→Closed P main T){a:ByteArray}{b:Int}(ho:ops[i]?=some ⟨dst,.call ⟨.value (.func f),xs,at_⟩,ty,pos,dg,g⟩) (hw:ax ops n env g=true)
 (ef:EF P f Extern.BytealgIndexByte.indexByte) (hx:vX n env xs=some [.string a,.int .u8 b]) (h:ab C fn aA ops rest Q (A n (upd dst (.int .i64 (Se a b.toNat.toUInt8)) env) D) s):ab C fn aA ops (i::rest) Q (A n env D) s:=by
 refine af5 hC ho hw ef hx ?_
 unfold Se at h
 show bS P (match (List.range a.size).find? fun i=>a[i]! ==b.toNat.toUInt8 with|some i=>pure (goInt i)|none=>pure (goInt (-1))) s _ _
 split
 ·rename_i j hj
  rw[hj] at h;exact h
 rename_i hj
 rw[hj] at h;exact h
theorem anE(hC:∀main T,C main T→Closed P main T){v:Value}(ho:ops[i]?=some ⟨dst,.call ⟨.value (.func f),xs,at_⟩,ty,pos,dg,g⟩) (hw:ax ops n env g=true)
 (ef:EF P f Extern.AbiNoEscape.same) (hx:vX n env xs=some [v]) (h:ab C fn aA ops rest Q (A n (upd dst v env) D) s):ab C fn aA ops (i::rest) Q (A n env D) s:=
 af5 hC ho hw ef hx h
end rules
theorem acJ{b:ByteArray}{p:Nat}{c:UInt8}(h:b.data.toList[p]?=some c) (ha:c.toNat <128):p <b.size∧Utf8.decode b p=(c.toNat,1):=by
 rw[Array.getElem?_toList] at h
 obtain⟨h1,h2⟩:=Array.getElem?_eq_some_iff.1 h
 refine⟨h1,?_⟩
 have h3:b.get! (p+0)=c:=by
  show b.data[p+0]! =c
  rw[Nat.add_zero,getElem!_pos b.data p h1,h2]
 simp only[Utf8.decode,h3]
 rw[if_pos (by omega)]
section rules
variable {P:Program} {C:Class} {fn:FuncId} {aA:Option Nat} {Q:Post} {ro:Nat→Option Obj} {n:Nat} {env:Env} {D:List Deferred}
variable {ops:Array Oper} {i:Nat} {rest:List Nat} {dst:Option Tmp} {ty:TypeId} {pos:String} {dg:Array Edge} {g:Option (Nat×Bool)}
theorem anG(hC:∀main T,C main T→Closed P main T){b:ByteArray}{r p:Nat}{R:Cells}{c:UInt8}(ho:ops[i]?=some ⟨dst,.next x true,ty,pos,dg,g⟩) (hw:ax ops n env g=true) (hx:bu n env x=some (.pointer (some ⟨r,0,none⟩))) (hp:b.data.toList[p]?=some c) (ha:c.toNat <128)
 (h:ab C fn aA ops rest Q (A n (upd dst (.tuple ⟨[.bool true,.int .i64 p,.int .i32 c.toNat]⟩) env) D) ⟨ro,(r,.stringIter b (p+1))::R⟩):ab C fn aA ops (i::rest) Q (A n env D) ⟨ro,(r,.stringIter b p)::R⟩:=by
 obtain⟨h1,h2⟩:=acJ hp ha
 refine abF hC ho hw hx (L:=[]) rfl h1 ?_
 rw[h2]
 exact h
theorem anF(hC:∀main T,C main T→Closed P main T){b:ByteArray}{r p:Nat}{R:Cells}(ho:ops[i]?=some ⟨dst,.next x true,ty,pos,dg,g⟩) (hw:ax ops n env g=true) (hx:bu n env x=some (.pointer (some ⟨r,0,none⟩))) (hp:b.data.toList[p]?=none)
 (h:ab C fn aA ops rest Q (A n (upd dst (.tuple ⟨[.bool false]⟩) env) D) ⟨ro,(r,.stringIter b p)::R⟩):ab C fn aA ops (i::rest) Q (A n env D) ⟨ro,(r,.stringIter b p)::R⟩:=by
 refine abG hC ho hw hx (L:=[]) rfl ?_ h
 rw[Array.getElem?_toList,Array.getElem?_eq_none_iff] at hp
 exact Nat.not_lt.2 hp
end rules
theorem Gx(ops:Array Oper)(n:Nat)(env:Env)(D:List Deferred)(o:Oper)(j:Nat)(want:Bool)(d:Tmp)(hg:o.guard=some (j,want))(hd:(ops[j]?).bind (·.dst)=some d)
 (hv:bu n env (.tmp d)=some undef):Region.wanted o (yielded ops (A n env D).tmps)=false:=by
 unfold Region.wanted
 rw[hg]
 simp only[bu] at hv
 by_cases cP:d <n
 ·rw[show Nat.blt d n=true from by simpa [Nat.blt_eq] using cP] at hv
  simp only[cond_true] at hv
  simp only[yielded,hd,Option.bind_some,P1]
  rw[if_pos cP,mX hv]
  rfl
 rw[show Nat.blt d n=false from by simpa [Nat.blt_eq,←Bool.not_eq_true] using cP] at hv
 cases hv
section rules
variable {P:Program} {C:Class} {fn:FuncId} {aA:Option Nat} {Q:Post} {s:St} {n:Nat} {env:Env} {D:List Deferred}
variable {ops:Array Oper} {i:Nat} {rest:List Nat} {dst:Option Tmp} {ty:TypeId} {pos:String} {dg:Array Edge} {g:Option (Nat×Bool)}
theorem anD(hC:∀main T,C main T→Closed P main T){op:Op}{j:Nat}{want:Bool}{d:Tmp}(ho:ops[i]?=some ⟨dst,op,ty,pos,dg,some (j,want)⟩) (hd:(ops[j]?).bind (·.dst)=some d)
 (hv:bu n env (.tmp d)=some undef) (h:ab C fn aA ops rest Q (A n (upd dst undef env) D) s):ab C fn aA ops (i::rest) Q (A n env D) s:=by
 refine uu hC ho (Gx _ _ _ _ _ _ _ _ rfl hd hv) ?_
 rw[aZ];exact h
end rules
section rules
variable {P:Program} {C:Class} {fn:FuncId} {Q:Post} {s:St} {n:Nat} {env:Env} {D:List Deferred}
variable {ops:Array Oper} {i:Nat} {rest:List Nat} {dst:Option Tmp} {ty:TypeId} {pos:String} {dg:Array Edge} {g:Option (Nat×Bool)}
theorem anI(hC:∀main T,C main T→Closed P main T){ca:List Value}(ho:ops[i]?=some ⟨dst,.defer ⟨.value x,#[],#[]⟩,ty,pos,dg,g⟩) (hw:ax ops n env g=true)
 (hx:bu n env x=some (.func (.func f) ⟨[]⟩ ⟨ca⟩)) (h:ab C fn none ops rest Q (A n (upd dst undef env) ({target:= .fn (.func f) ⟨ca⟩,args:= #[]}::D)) s):ab C fn none ops (i::rest) Q (A n env D) s:=by
 refine Oh hC ho (Cs _ _ _ _ _ hw) (.inl rfl) ?_
 rw[ez]
 simp only[execOp,resolve,aG hx,Deferred.ofValue,ae]
 refine⟨rfl,?_⟩
 have hA:({A n env D with defers:={target:= .fn (.func f) ⟨ca⟩,args:= #[]}::(A n env D).defers}:Act).put dst undef=A n (upd dst undef env) ({target:= .fn (.func f) ⟨ca⟩,args:= #[]}::D):=by
  rw[←aZ];rfl
 rw[←hA] at h
 have he:(⟨[]⟩:Array Value)++Array.map (ev n env) #[]= #[]:=by simp
 rw[he]
 exact h
def Xc(C:Class)(P:Program)(fn:Func)(g:FuncId)(gn:Func)(t:Tmp)(rest:Code)(R:Ending→St→Prop):Post:=fun e a s=>
 (e= .normal∨e= .ret)∧∃ca:List Value,Nat.ble ca.length gn.ntmps=true∧a.defers=[{target:= .fn (.func g) ⟨ca⟩,args:= #[]}]∧
  Wp C g none rest (fun e2 a2 s2=>(e2= .normal∨e2= .ret)∧a2.defers=[]∧bS P (results fn a.tmps) s2 (fun v s3=>∃s0,s0.le s3∧R (.returned v) s0) (fun _ _=>False)) (A gn.ntmps (upd (some t) .nilIface (fO 0 ca)) []) s
theorem IG(hC:∀main T,C main T→Closed P main T){fn:Func}{c:Code}{gid:FuncId}{gn:Func}{t:Tmp}{rc:Code}(hf:P.funcs[f]?=some fn) (hb:fn.body=some c) (hn:fn.ntmps=n) (hl:Nat.ble args.length n=true)
 (ahI:J8 P gid=some (gn,t,rc)) (h:Wp C f none c (Xc C P fn gid gn t rc R) (A n (fO 0 args) []) s):Fn C P f ⟨args⟩ s R:=by
 intro main T hT cl cs k1 k2
 have iR:=hC main T hT
 let b:Frame:={(default:Frame) with fn:=f,kind:= .normal,roundOf:=none}
 have gZ:Frame.enter P f ⟨args⟩ .normal=aM b (A n (fO 0 args) []) [.code c]:=by
  rw[←kT args n (Nat.le_of_ble_eq_true hl)]
  simp[Frame.enter,aM,hf,hb,hn,b]
 rw[gZ]
 obtain⟨hgf,BB,JJ,id,o,at_,hgb,h1,h2,h3⟩:=(YF ahI).ex
 have ff:FF P gid:=⟨gn,hgf,JJ,by rw[hgb];rfl⟩
 have sN:∀(todo:List Item) (a':Act) (s':St) (ca:List Value),Nat.ble ca.length gn.ntmps=true→a'.defers=[{target:= .fn (.func gid) ⟨ca⟩,args:= #[]}]→
  Wp C gid none rc (fun e2 a2 s2=>(e2= .normal∨e2= .ret)∧a2.defers=[]∧bS P (results fn a'.tmps) s2 (fun v s3=>∃s0,s0.le s3∧R (.returned v) s0) (fun _ _=>False)) (A gn.ntmps (upd (some t) .nilIface (fO 0 ca)) []) s'→
  T (G {aM b a' todo with mode:= .returning} (cl::cs)) s':=by
  intro todo a' s' ca hlc hd hw
  refine jH hC hT (.inl rfl) ff (ds:=[]) (a:= #[]) (ca:=⟨ca⟩) hd ?_
  let d:Frame:={(default:Frame) with fn:=gid,kind:= .deferred,roundOf:=none}
  have ao6:Frame.enter P gid ((#[]:Array Value)++⟨ca⟩) .deferred=aM d (A gn.ntmps (fO 0 ca) []) [.code (.seq (.region id #[o] false) rc)]:=by
   rw[←kT ca gn.ntmps (Nat.le_of_ble_eq_true hlc)]
   simp[Frame.enter,aM,hgf,hgb,d]
  rw[ao6]
  let c0:Frame:={aM b a' todo with mode:= .returning,defers:=[]}
  show T (G _ (c0::cl::cs)) s'
  refine iR.go rfl rfl (g':=G (aM d (A gn.ntmps (fO 0 ca) []) [.code (.region id #[o] false),.code rc]) (c0::cl::cs)) (fun w=>by simp[G,stepG,stepG.exec,aM])<|iR.go rfl rfl (g':=G (aM d (A gn.ntmps (fO 0 ca) []) [.inRegion #[o] [0],.code rc]) (c0::cl::cs)) (fun w=>by simp[G,stepG,stepG.exec,aM,List.range,List.range.loop])<|Be hC hT (u:= .ret) (ρ:=fun _=>none) rfl rfl h1 h2 h3 .ret fun v' nD hv VZ=>?_
  have hv':v'= .nilIface:=by
   rcases hv with hv|hv
   ·cases hv;rfl
   exact hv.2
  subst hv'
  refine iR.go rfl rfl (g':=G (aM d ((A gn.ntmps (fO 0 ca) []).put (some t) .nilIface) [.code rc]) ({c0 with mode:=nD}::cl::cs)) (fun w=>by simp[G,stepG,stepG.exec,aM]) ?_
  rw[aZ]
  have Sq:∀tmps,results gn tmps=Sem.pure (.tuple #[]):=by intro tmps;simp[results,BB];rfl
  have vg:∀(X3:List Item) (a2:Act) (s2:St),a2.defers=[]→bS P (results fn a'.tmps) s2 (fun v s3=>∃s0,s0.le s3∧R (.returned v) s0) (fun _ _=>False)→T (G {aM d a2 X3 with mode:= .returning} ({c0 with mode:=nD}::cl::cs)) s2:=by
   intro X3 a2 s2 hd2 wQ
   have mG:T (G c0 (cl::cs)) s2:=tj hC hT hf rfl rfl rfl rfl wQ k1
   refine iR.go rfl rfl (fun w=>?_) mG
   rcases VZ with rfl| ⟨v,rfl⟩
   ·simp only[G,stepG,unwind,aM,d,hgf,Sq,Sem.runT,th,hd2]
    simp[GStep.after,doReturn,c0,aM]
   simp only[G,stepG,unwind,aM,d,hgf,Sq,Sem.runT,th,hd2]
   simp[GStep.after,doReturn,c0,aM]
  refine hw main T hT d [] _ rfl (by simp[d]) rfl fun e2 a2 s2 q=>?_
  obtain⟨q1,q2,q3⟩:=q
  rcases q1 with rfl|rfl
  ·exact iR.go rfl rfl (g':=G {aM d a2 [] with mode:= .returning} ({c0 with mode:=nD}::cl::cs)) (fun w=>by simp[G,stepG,stepG.exec,aM,d]) (vg _ _ _ q2 q3)
  exact fun X3=>iR.go rfl rfl (g':=G {aM d a2 (.code .ret::X3) with mode:= .returning} ({c0 with mode:=nD}::cl::cs)) (fun w=>by simp[G,stepG,stepG.exec,aM,d]) (vg _ _ _ q2 q3)
 refine h main T hT b [] (cl::cs) rfl (by simp[b]) rfl fun e a' s' q=>?_
 obtain⟨q1,ca,q0,q2,q3⟩:=q
 rcases q1 with rfl|rfl
 ·exact iR.go rfl rfl (g':=G {aM b a' [] with mode:= .returning} (cl::cs)) (fun w=>by simp[G,stepG,stepG.exec,aM,b]) (sN _ _ _ ca q0 q2 q3)
 exact fun todo=>iR.go rfl rfl (g':=G {aM b a' (.code .ret::todo) with mode:= .returning} (cl::cs)) (fun w=>by simp[G,stepG,stepG.exec,aM,b]) (sN _ _ _ ca q0 q2 q3)
end rules
section rules
variable {P:Program} {C:Class} {fn:FuncId} {aA:Option Nat} {Q:Post} {s:St} {n:Nat} {env:Env} {D:List Deferred}
variable {ops:Array Oper} {i:Nat} {rest:List Nat} {dst:Option Tmp} {ty:TypeId} {pos:String} {dg:Array Edge} {g:Option (Nat×Bool)}
variable {T:TypeId} {sz bE:Nat} {z:List Value} {ag:Bool}
theorem anC(hC:∀main T,C main T→Closed P main T){a:Option Addr}{l c:Nat}(ho:ops[i]?=some ⟨dst,.binOp .eql T x y T',ty,pos,dg,g⟩) (hw:ax ops n env g=true) (tf:TF P T (.slice E) sz bE z ag)
 (hx:bu n env x=some (.slice a l c)) (hy:bu n env y=some (.slice none 0 0)) (h:ab C fn aA ops rest Q (A n (upd dst (.bool a.isNone) env) D) s):ab C fn aA ops (i::rest) Q (A n env D) s:=by
 refine bV hC ho hw (by simp) ?_
 have hg:eqGuard .eql T x y (.slice a l c) (.slice none 0 0)=Sem.pure ():=by cases a<;>rfl
 have hb:binOp .eql T (.slice a l c) (.slice none 0 0)=(Op.equal T (.slice a l c) (.slice none 0 0) >>= fun r=>pure (.bool r)):=by cases a<;>rfl
 have he:∀ {α:Type} (K:Bool→Sem α) (Q:α→St→Prop) (E:Halt→St→Prop),bS P (K a.isNone) s Q E→bS P (Op.equal T (.slice a l c) (.slice none 0 0) >>= K) s Q E:=by
  intro α K Q E hK
  have gen:∀d,bS P (Op.equalIn (d+1) T (.slice a l c) (.slice none 0 0) >>= K) s Q E:=by
   intro d
   cases a<;>(simp only[Op.equalIn,aa,ba tf,ae,Option.isNone];exact hK)
  exact gen 9999
 simp only[execOp,aG hx,aG hy,hg,hb]
 show bS P ((Op.equal T (.slice a l c) (.slice none 0 0) >>= fun r=>(pure (Value.bool r):Sem Value)) >>= fun x=>(pure (Next.value x):Sem Next)) s _ _
 simp only[aa]
 refine he _ _ _ ?_
 rw[←aZ] at h
 exact h
end rules
def afB:Op→Option (List Operand)
 | .move x=>some [x]
 | .assign x=>some [x]
 | .extract x _=>some [x]
 | .nilCheck x=>some [x]
 | .fieldAddr _ x _=>some [x]
 | .makeInterface _ x=>some [x]
 | .indexAddr _ x y=>some [x,y]
 |op=>G6 op
theorem Rc{xs:List Operand}(h:afB o.op=some xs){f g:Operand→Value}(hfg:∀x∈xs,f x=g x):execOp f o=execOp g o:=by
 unfold afB at h
 split at h
 all_goals first
  | (rename_i heq;simp only[Option.some.injEq] at h;subst h;simp[execOp,heq,hfg];done)
  |exact uj h hfg
def evj(n:Nat)(e:Env)(x:Operand):Value:=(bu n e x).getD undef
theorem Ph{f:Operand→Value}(hf:Ev n e f):∀ {xs:List Operand} {vs:List Value},yC n e xs=some vs→∀x∈xs,f x=evj n e x
 |y::l,vs,h,x,hx=>by
  simp only[yC] at h
  cases hv:bu n e y with
  |none=>rw[hv] at h;cases h
  |some v=>
   rw[hv] at h
   cases hr:yC n e l with
   |none=>rw[hr] at h;cases h
   |some r=>
    rcases List.mem_cons.1 hx with rfl|hx
    ·rw[hf _ _ hv,evj,hv];rfl
    exact Ph hf hr x hx
def auc(P:Program)(n:Nat)(e:Env)(o:Oper):Option Value:=
 match afB o.op with
 |some xs=>match yC n e xs with
  |some _=>match bx P (execOp (evj n e) o) with
   |some (.value v)=>some v
   |_=>none
  |none=>none
 |none=>none
def aEz(P:Program)(n:Nat)(e:Env)(x:Operand)(T:TypeId):Option Value:=
 match a8 P T with
 |some ⟨.slice _,_,_,_⟩=>match bu n e x with
  |some (.slice _ len _)=>some (.int .i64 len)
  |_=>none
 |some ⟨.string,_,_,_⟩=>match bu n e x with
  |some (.string b)=>some (.int .i64 b.size)
  |_=>none
 |_=>none
def Xm(P:Program)(n:Nat)(e:Env)(T:TypeId)(ps:Array (Nat×Operand)):Option Value:=
 match a8 P T with
 |some ⟨.struct fields,_,z,_⟩=>match xT P fields.toList with
  |some pl=>match Qi n e ps.toList with
   |some pv=>match oZ (fun i=>pl[i]?) z (ur pv) with
    |some l=>some (.agg ⟨l⟩)
    |none=>none
   |none=>none
  |none=>none
 |some ⟨.array _ E,_,z,_⟩=>match a8 P E with
  |some te=>match Qi n e ps.toList with
   |some pv=>match oZ (fun i=>some (i*te.size,te.size)) z (ur pv) with
    |some l=>some (.agg ⟨l⟩)
    |none=>none
   |none=>none
  |none=>none
 |_=>none
def aef(P:Program)(n:Nat)(e:Env)(o:Oper):Option Value:=
 match o.op with
 | .pick c x y=>match bu n e c with
  |some (.bool true)=>bu n e x
  |some (.bool false)=>bu n e y
  |_=>none
 | .makeFunc f x y=>match yC n e x.toList with
  |some x'=>match yC n e y.toList with
   |some y'=>some (.func f ⟨x'⟩ ⟨y'⟩)
   |none=>none
  |none=>none
 | .build T ps=>Xm P n e T ps
 | .call ⟨.builtin .len,⟨[x]⟩,⟨[T]⟩⟩=>aEz P n e x T
 |_=>auc P n e o
section val
variable {P:Program} {n:Nat} {e:Env} {o:Oper} {s:St} {v:Value}
theorem am2(h:auc P n e o=some v):Yields P n e o s v:=by
 unfold auc at h
 split at h<;>try (cases h;done)
 rename_i xs hx
 split at h<;>try (cases h;done)
 rename_i vs Fg
 split at h<;>try (cases h;done)
 rename_i w hr
 cases h
 intro s' _ f hf K E hK
 rw[Rc hx (Ph hf Fg)]
 exact oM hr hK
theorem acT{ps:Array (Nat×Operand)}(heq:o.op= .build T ps)(h:Xm P n e T ps=some v):Yields P n e o s v:=by
 unfold Xm at h
 split at h<;>try (cases h;done)
 ·rename_i fields _ z _ dQ
  obtain⟨bE,tf⟩:=aw dQ
  split at h<;>try (cases h;done)
  rename_i pl Qb
  split at h<;>try (cases h;done)
  rename_i pv Kp
  split at h<;>try (cases h;done)
  rename_i l hl
  cases h
  intro s' ny f hf K E hK
  simp only[execOp,heq,Instr.build,aa,ko tf,ba tf,ei tf]
  rw[Array.mapM_eq_mapM_toList]
  simp only[map_eq_pure_bind,aa,ae]
  rw[oA (zr Qb)]
  rw[kM] at hl
  have h1:=fill_eq _ _ _ _ hl
  have h3:(fun x=>(pl.toArray)[x]?:Nat→Option (Nat×Nat))=fun i=>pl[i]?:=by funext i;simp
  simp only[h3,hf.wD Kp,h1,ae]
  exact hK
 rename_i len E _ z _ dQ
 obtain⟨bE,tf⟩:=aw dQ
 split at h<;>try (cases h;done)
 rename_i te uG
 obtain⟨B7,ry⟩:=aw uG
 split at h<;>try (cases h;done)
 rename_i pv Kp
 split at h<;>try (cases h;done)
 rename_i l hl
 cases h
 intro s' ny f hf K E hK
 simp only[execOp,heq,Instr.build,aa,ko tf,ba tf,ei tf,cz ry]
 rw[kM] at hl
 have h1:=fill_eq _ _ _ _ hl
 simp only[hf.wD Kp,h1,ae]
 exact hK
theorem A4(h:aef P n e o=some v):Yields P n e o s v:=by
 unfold aef at h
 split at h
 ·rename_i c x y heq
  split at h<;>try (cases h;done)
  ·rename_i hc
   intro s' _ f hf K E hK
   simp only[execOp,heq,hf _ _ hc,hf _ _ h]
   exact hK
  rename_i hc
  intro s' _ f hf K E hK
  simp only[execOp,heq,hf _ _ hc,hf _ _ h]
  exact hK
 ·rename_i g x y heq
  split at h<;>try (cases h;done)
  rename_i x' hx
  split at h<;>try (cases h;done)
  rename_i y' hy
  cases h
  intro s' _ f hf K E hK
  simp only[execOp,heq,hf.arr hx,hf.arr hy]
  exact hK
 ·rename_i T ps heq;exact acT heq h
 ·rename_i x T heq
  unfold aEz at h
  split at h<;>try (cases h;done)
  ·rename_i dQ
   obtain⟨bE,tf⟩:=aw dQ
   split at h<;>try (cases h;done)
   rename_i hx
   cases h
   intro s' _ f hf K E hK
   simp only[execOp,heq,resolve,invoke,builtin,Builtin.len_,List.map_toArray,List.map_cons,List.map_nil,hf _ _ hx,ae,List.getElem?_toArray,List.getElem?_cons_zero,ba tf,aa]
   exact hK
  rename_i dQ
  obtain⟨bE,tf⟩:=aw dQ
  split at h<;>try (cases h;done)
  rename_i hx
  cases h
  intro s' _ f hf K E hK
  simp only[execOp,heq,resolve,invoke,builtin,Builtin.len_,List.map_toArray,List.map_cons,List.map_nil,hf _ _ hx,ae,List.getElem?_toArray,List.getElem?_cons_zero,ba tf,aa]
  exact hK
 exact am2 h
end val
def ldv(P:Program)(T:TypeId)(l:List Value)(off:Nat):Option Value:=
 match a8 P T with
 |some ti=>bif ti.agg then (match sub l off ti.size with
  |some vs=>some (.agg ⟨vs⟩)
  |none=>none) else nth l off
 |none=>none
theorem agH{v:Value}{t:TypeId}(heq:o.op= .load T x)(hx:bu n e x=some (.pointer (some ⟨b,off,none⟩)))(hb:s.has b (.cells ⟨l⟩ t fz))(h:ldv P T l off=some v):Yields P n e o s v:=by
 unfold ldv at h
 split at h<;>try (cases h;done)
 rename_i ti dQ
 obtain⟨bE,tf⟩:=aw dQ
 intro s' hs f hf K E hK
 cases ha:ti.agg with
 |true=>
  rw[ha] at h tf
  simp only[cond_true] at h
  split at h<;>try (cases h;done)
  rename_i vs Fg
  cases h
  simp only[execOp,heq,Instr.loadAt,hf _ _ hx,Instr.sureAddr,loadVar,aa,ae,kK tf,if_true,cz tf]
  exact iU ⟨_,_,_,hs _ _ hb,Fg⟩ hK
 |false=>
  rw[ha] at h tf
  simp only[cond_false] at h
  simp only[execOp,heq,Instr.loadAt,hf _ _ hx,Instr.sureAddr,loadVar,aa,ae,kK tf,Bool.false_eq_true,if_false]
  exact wh ⟨_,_,_,hs _ _ hb,h⟩ hK
theorem avq{v:Value}{m:Nat}(k:Nat)(heq:o.op= .load T x)(hx:bu n e x=some (.pointer (some ⟨b,off+k,none⟩)))(hb:cE s b off m l)(h:ldv P T l k=some v):Yields P n e o s v:=by
 unfold ldv at h
 split at h<;>try (cases h;done)
 rename_i ti dQ
 obtain⟨bE,tf⟩:=aw dQ
 intro s' hs f hf K E hK
 cases ha:ti.agg with
 |true=>
  rw[ha] at h tf
  simp only[cond_true] at h
  split at h<;>try (cases h;done)
  rename_i vs Fg
  cases h
  simp only[execOp,heq,Instr.loadAt,hf _ _ hx,Instr.sureAddr,loadVar,aa,ae,kK tf,if_true,cz tf]
  exact iU ((hb.ext hs).part k ti.size Fg) hK
 |false=>
  rw[ha] at h tf
  simp only[cond_false] at h
  simp only[execOp,heq,Instr.loadAt,hf _ _ hx,Instr.sureAddr,loadVar,aa,ae,kK tf,Bool.false_eq_true,if_false]
  exact wh ((hb.ext hs).cell k v (by rw[←sH];exact h)) hK
structure Cx where
 P:Program
 C:Class
 hC:∀main T,C main T→Closed P main T
 hm:P.follows .mixedOrders=true
 fn:FuncId
 aA:Option Nat
 n:Nat
 D:List Deferred
 ro:Nat→Option Obj
 Q:Post
variable {X X1:Cx}
def Cx.at(X:Cx)(ro:Nat→Option Obj):Cx:={X with ro:=ro}
inductive KI where
 |seq (b:Code)
 |block (id:Nat)
 |next (K:Act→St→Prop)
inductive Sg where
 |b (i:Nat) (o:Obj)
 |l (L:Cells)
def den:List Sg→Cells
 | []=>[]
 | [.l L]=>L
 | .b i o::r=>(i,o)::den r
 | .l L::r=>L++den r
theorem iK(i:Nat)(o:Obj)(r:List Sg):den (.b i o::r)=(i,o)::den r:=by cases r<;>rfl
theorem gA(L:Cells)(r:List Sg):den (.l L::r)=L++den r:=by cases r<;>simp[den]
inductive Pos where
 |ops (ops:Array Oper) (todo:List Nat) (k:List KI)
 |code (c:Code) (k:List KI)
 |nxt (K:Act→St→Prop)
 |IU (ops:Array Oper) (base:Env) (Pl Sl:List (Nat×Value)) (k:List KI)
 |fin (e:Exit)
structure Kn where
 c:Cells
 nd:List (Nat×Cells)
variable {kn:Kn}
structure JS where
 pos:Pos
 env:Env
 rw:List Sg
 kn:Kn
variable {s':JS}
def KQ(X:Cx):List KI→Post
 | []=>X.Q
 | .seq b::k=>mf (fun a s=>Wp X.C X.fn X.aA b (KQ X k) a s) (KQ X k)
 | .block id::k=>q8 id (KQ X k)
 | .next K::k=>mf K (KQ X k)
def En:Op→Bool
 | .load .. =>false
 | .lookup .. =>false
 | .call ⟨.value _,_,_⟩=>false
 | .call ⟨.invoke ..,_,_⟩=>false
 |_=>true
def xe(ops:Array Oper)(n:Nat)(e:Env):Option (Nat×Bool)→Option Bool
 |none=>some true
 |some (j,want)=>match aR ops j with
  |some d=>match bu n e (.tmp d) with
   |some (.bool true)=>some want
   |some (.bool false)=>some (!want)
   |some (.tuple ⟨[]⟩)=>some false
   |_=>none
  |none=>none
def tw(ops:Array Oper)(n:Nat)(base:Env)(Pl:List (Nat×Value))(j:Nat):Bool:=match ops[j]? with
 |some p=>En p.op||(match xe ops n (cA ops base j Pl) p.guard with
  |some false=>true
  |_=>false)
 |none=>false
def PF(X:Cx)(nd:List (Nat×Cells))(ops:Array Oper)(base:Env)(Pl Sl:List (Nat×Value)):Prop:=
 (∀j u,(j,u)∈Sl→tw ops X.n base Pl j=true→∀s,eL X.C X.fn X.aA ops X.n X.D j u (cA ops base j Pl) s)∧
 ∀j u B,(j,u)∈Sl→(j,B)∈nd→∀s,Ext ⟨X.ro,[]⟩ s→(∀x∈B,s.has x.1 x.2)→eL X.C X.fn X.aA ops X.n X.D j u (cA ops base j Pl) s
def ndK:List (Nat×Cells)→List Nat
 | []=>[]
 | (i,_)::l=>i::ndK l
theorem Oq:∀ {l:List (Nat×Cells)},(i,B)∈l→i∈ndK l
 | (j,C)::l,h=>by
  simp only[ndK]
  rcases List.mem_cons.1 h with h|h
  ·cases h;exact List.mem_cons_self
  exact List.mem_cons_of_mem _ (Oq h)
def JP(X:Cx)(kn:Kn)(e:Env)(w:List Sg):Pos→Prop
 | .ops ops todo k=>ab X.C X.fn X.aA ops todo (KQ X k) (A X.n e X.D) ⟨X.ro,den w⟩
 | .code c k=>Wp X.C X.fn X.aA c (KQ X k) (A X.n e X.D) ⟨X.ro,den w⟩
 | .nxt K=>K (A X.n e X.D) ⟨X.ro,den w⟩
 | .IU ops base Pl Sl k=>PF X kn.nd ops base Pl Sl→tT X.C X.fn X.aA ops X.n X.D base Pl Sl (KQ X k) ⟨X.ro,den w⟩
 | .fin e'=>X.Q e' (A X.n e X.D) ⟨X.ro,den w⟩
def J(X:Cx):Option JS→Prop
 |none=>False
 |some s=>Knows X.ro s.kn.c→JP X s.kn s.env s.rw s.pos
def Rg:List KI→Pos
 | []=> .fin .normal
 | .seq b::k=> .code b k
 | .block _::k=>Rg k
 | .next K::_=> .nxt K
theorem uo{w:List Sg}:∀ {k:List KI},JP X kn e w (Rg k)→KQ X k .normal (A X.n e X.D) ⟨X.ro,den w⟩
 | [],h=>h
 | .seq _::_,h=>h
 | .block _::k,h=>uo (k:=k) h
 | .next _::_,h=>h
def BW(id:Nat):List KI→Option Pos
 | []=>some (.fin (.exit id))
 | .seq _::k=>BW id k
 | .block i::k=>bif Nat.beq id i then some (Rg k) else BW id k
 | .next _::k=>BW id k
theorem xo{w:List Sg}{p:Pos}:∀ {k:List KI},BW id k=some p→JP X kn e w p→KQ X k (.exit id) (A X.n e X.D) ⟨X.ro,den w⟩
 | [],h,hj=>by simp only[BW,Option.some.injEq] at h;subst h;exact hj
 | .seq _::k,h,hj=>xo (k:=k) h hj
 | .next _::k,h,hj=>xo (k:=k) h hj
 | .block i::k,h,hj=>by
  simp only[BW] at h
  cases hb:Nat.beq id i with
  |true=>
   rw[hb] at h;simp only[cond_true,Option.some.injEq] at h;subst h
   have:=Nat.eq_of_beq_eq_true hb;subst this
   exact EN (uo hj)
  |false=>
   rw[hb] at h;simp only[cond_false] at h
   exact EM hb (xo (k:=k) h hj)
theorem Bd{a:Act}(h:X.Q .ret a s):∀(k:List KI),KQ X k .ret a s
 | []=>h
 | .seq _::k=>Bd h k
 | .next _::k=>Bd h k
 | .block _::k=>Bd h k
def aCK:Op→Bool
 | .move _| .assign _| .pick .. | .makeFunc .. | .extract .. | .nilCheck _| .fieldAddr .. | .makeInterface .. | .indexAddr .. | .index .. | .field .. | .binOp .. | .unOp .. | .convert .. | .build .. | .load .. | .lookup .. | .slice .. =>true
 | .call ⟨.builtin .len,_,_⟩| .call ⟨.builtin .cap,_,_⟩| .call ⟨.builtin .min,_,_⟩| .call ⟨.builtin .max,_,_⟩=>true
 |_=>false
def aCL(ops:Array Oper)(i:Nat):Bool:=match ops[i]? with
 |some o=>aCK o.op
 |none=>false
def enabled(ops:Array Oper)(ks:List Nat)(i:Nat):Bool:= !bh i ks&&fG (bw ops i) ks
def aad(f:Nat→Bool):Nat→Nat→Option Nat
 |0,_=>none
 |k+1,i=>bif f i then some i else aad f k (i+1)
def azr(ops:Array Oper)(i:Nat):Bool:=match ops[i]? with
 |some ⟨_,.call ⟨.value _,_,_⟩,_,_,_,_⟩=>true
 |_=>false
def apU(ops:Array Oper)(ks:List Nat):Option Nat:=
 match aad (fun i=>enabled ops ks i&&aCL ops i) ops.size 0 with
 |some i=>some i
 |none=>match aad (fun i=>enabled ops ks i&&azr ops i) ops.size 0 with
  |some i=>some i
  |none=>aad (enabled ops ks) ops.size 0
def qO(n:Nat):JS→Option (Bool×Oper×Env)
 | ⟨.ops ops (i::_) _,e,_,_⟩=>match ops[i]? with
  |some o=>match xe ops n e o.guard with
   |some g=>some (g,o,e)
   |none=>none
  |none=>none
 | ⟨.IU ops base Pl _ _,_,_,_⟩=>match apU ops (an Pl) with
  |some i=>match ops[i]? with
   |some o=>match xe ops n (cA ops base i Pl) o.guard with
    |some g=>some (g,o,cA ops base i Pl)
    |none=>none
   |none=>none
  |none=>none
 |_=>none
def G4(v:Value):JS→Option JS
 | ⟨.ops ops (i::todo) k,e,w,kn⟩=>match ops[i]? with
  |some o=>some ⟨.ops ops todo k,upd o.dst v e,w,kn⟩
  |none=>none
 | ⟨.IU ops base Pl Sl k,e,w,kn⟩=>match apU ops (an Pl) with
  |some i=>bif !bh i (an Pl)&&(fG (bw ops i) (an Pl)&&(pH ops (an Pl)&&(fG (an Sl) (an Pl)&& !bh i (ndK kn.nd)))) then some ⟨.IU ops base ((i,v)::Pl) ((i,v)::Sl) k,e,w,kn⟩ else none
  |none=>none
 |_=>none
theorem n8{ops:Array Oper}{g:Option (Nat×Bool)}(h:xe ops n e g=some true)(rest:Env):ax ops n (e++rest) g=true:=by
 unfold xe at h
 split at h
 ·rfl
 rename_i j want
 split at h<;>try (cases h;done)
 rename_i d hd
 have hd:(ops[j]?).bind (·.dst)=some d:=hd
 split at h<;>try (cases h;done)
 ·rename_i hb;simp only[Option.some.injEq] at h;subst h
  exact tX hd (bk hb) rfl
 rename_i hb;simp only[Option.some.injEq,Bool.not_eq_true'] at h;subst h
 exact tX hd (bk hb) rfl
section
variable {X:Cx}
theorem Ap{ops:Array Oper}{Q:Post}(ho:ops[i]?=some o) (h:xe ops X.n e o.guard=some false) (rest:Env) (hk:ab X.C X.fn X.aA ops todo Q (A X.n (upd o.dst undef (e++rest)) X.D) s):ab X.C X.fn X.aA ops (i::todo) Q (A X.n (e++rest) X.D) s:=by
 unfold xe at h
 split at h
 ·cases h
 rename_i j want hg
 split at h<;>try (cases h;done)
 rename_i d hd
 have hd:(ops[j]?).bind (·.dst)=some d:=hd
 split at h<;>try (cases h;done)
 ·rename_i hb;simp only[Option.some.injEq] at h;subst h
  exact uy X.hC ho hg hd (bk hb) rfl hk
 ·rename_i hb;simp only[Option.some.injEq,Bool.not_eq_false'] at h;subst h
  exact uy X.hC ho hg hd (bk hb) rfl hk
 rename_i hb
 rcases o with ⟨dst,op,ty,pos,dg,g⟩
 dsimp only at hg;subst hg
 exact anD X.hC ho hd (bk hb) hk
def Jt(X:Cx)(e:Env)(o:Oper)(s:St)(v:Value):Prop:=
 ∀(ops:Array Oper) (i:Nat),ops[i]?=some o→∀rest,ax ops X.n (e++rest) o.guard=true→∀s',Ext s s'→∀todo Q,ab X.C X.fn X.aA ops todo Q (A X.n (upd o.dst v (e++rest)) X.D) s'→ab X.C X.fn X.aA ops (i::todo) Q (A X.n (e++rest) X.D) s'
theorem jyS{s:JS}{v:Value}(hh:qO X.n s=some (g,o,e))(hp:G4 v s=some s')
 (hv:match g with|true=>(Knows X.ro s.kn.c→Jt X e o ⟨X.ro,den s.rw⟩ v)∧(En o.op=true→∀s,Jt X e o s v)|false=>v=undef)(hj:J X (some s')):J X (some s):=by
 intro bY
 rcases s with ⟨p,e0,w,kn⟩
 cases p with
 |ops ops todo k=>
  cases todo with
  |nil=>cases hh
  |cons i todo=>
   simp only[qO] at hh
   split at hh<;>try (cases hh;done)
   rename_i o1 ho
   split at hh<;>try (cases hh;done)
   rename_i g1 hg
   cases hh
   simp only[G4,ho,Option.some.injEq] at hp;subst hp
   have hk:ab X.C X.fn X.aA ops todo (KQ X k) (A X.n (upd o.dst v e) X.D) ⟨X.ro,den w⟩:=hj bY
   show ab X.C X.fn X.aA ops (i::todo) (KQ X k) (A X.n e X.D) ⟨X.ro,den w⟩
   cases g with
   |true=>
    have:=hv.1 bY ops i ho [] (n8 hg []) _ (Ext.refl _) todo (KQ X k)
    rw[List.append_nil] at this
    exact this hk
   |false=>
    dsimp only at hv;subst hv
    have:=Ap (Q:=KQ X k) (s:=⟨X.ro,den w⟩) (todo:=todo) ho hg []
    rw[List.append_nil] at this
    exact this hk
 |IU ops base Pl Sl k=>
  simp only[qO] at hh
  split at hh<;>try (cases hh;done)
  rename_i i hi
  split at hh<;>try (cases hh;done)
  rename_i o1 ho
  split at hh<;>try (cases hh;done)
  rename_i g1 hg
  cases hh
  simp only[G4,hi] at hp
  cases hc:(!bh i (an Pl)&&(fG (bw ops i) (an Pl)&&(pH ops (an Pl)&&(fG (an Sl) (an Pl)&& !bh i (ndK kn.nd))))) with
  |false=>rw[hc] at hp;cases hp
  |true=>
   rw[hc] at hp;simp only[cond_true,Option.some.injEq] at hp;subst hp
   simp only[Bool.and_eq_true,Bool.not_eq_true'] at hc
   have Fo:aR ops i=o.dst:=by simp only[aR,ho,Option.bind_some]
   intro hpf
   have rn:∀j,j∈an Sl→i∉bw ops j:=fun j hj hd=>by
    have h1:=bQ.1 hc.2.2.2.1 j hj
    have h2:=bQ.1 (List.all_eq_true.1 hc.2.2.1 j h1) i hd
    rw[aL.2 h2] at hc;exact absurd hc.1 (by simp)
   refine Jo i hc.1 hc.2.1 hc.2.2.1 hc.2.2.2.1 ?_ (hj bY ⟨fun j u JL hp s0=>?_,fun j u B JL hB s0 HO vx=>?_⟩)
   ·intro s1 hx rest todo Q hk
    rw[Fo] at hk
    cases g with
    |true=>exact hv.1 bY ops _ ho rest (n8 hg rest) _ hx _ _ hk
    |false=>dsimp only at hv;subst hv;exact Ap ho hg rest hk
   ·have hii:i∉bw ops i:=fun hd=>by
     have h2:=bQ.1 hc.2.1 i hd
     rw[aL.2 h2] at hc;exact absurd hc.1 (by simp)
    rcases List.mem_cons.1 JL with h1|h1
    ·obtain⟨AS,rfl⟩:=Prod.mk.inj h1
     subst AS
     rw[c8 hii]
     intro s1 hx rest todo Q hk
     rw[Fo] at hk
     cases g with
     |true=>
      have hpk:En o.op=true:=by
       simp only[tw,ho,c8 hii,hg,Bool.or_false] at hp
       exact hp
      exact hv.2 hpk s0 ops _ ho rest (n8 hg rest) _ hx _ _ hk
     |false=>dsimp only at hv;subst hv;exact Ap ho hg rest hk
    have Qg:j∈an Sl:=aP.2 ⟨u,h1⟩
    rw[c8 (rn j Qg)]
    exact hpf.1 j u h1 (by simp only[tw,c8 (rn j Qg)] at hp;exact hp) s0
   rcases List.mem_cons.1 JL with h1|h1
   ·obtain⟨AS,rfl⟩:=Prod.mk.inj h1
    subst AS
    have:=Oq hB
    rw[aL.2 this] at hc;exact absurd hc.2.2.2.2 (by simp)
   rw[c8 (rn j (aP.2 ⟨u,h1⟩))]
   exact hpf.2 j u B h1 hB s0 HO vx
 |_=>cases hh
def anr(B:Cells)(v:Value):JS→Option JS
 | ⟨.ops ops (i::todo) k,e,w,kn⟩=>match ops[i]? with
  |some o=>some ⟨.ops ops todo k,upd o.dst v e,w,kn⟩
  |none=>none
 | ⟨.IU ops base Pl Sl k,e,w,kn⟩=>match apU ops (an Pl) with
  |some i=>bif !bh i (an Pl)&&(fG (bw ops i) (an Pl)&&(pH ops (an Pl)&&(fG (an Sl) (an Pl)&& !bh i (ndK kn.nd)))) then some ⟨.IU ops base ((i,v)::Pl) ((i,v)::Sl) k,e,w,⟨kn.c,(i,B)::kn.nd⟩⟩ else none
  |none=>none
 |_=>none
theorem jyN{s:JS}{v:Value}(hh:qO X.n s=some (true,o,e))(hp:anr B v s=some s')(hB:∀x∈B,(⟨X.ro,den s.rw⟩:St).has x.1 x.2)(hnp:En o.op=false)
 (hv:∀s0,Ext ⟨X.ro,[]⟩ s0→(∀x∈B,s0.has x.1 x.2)→Jt X e o s0 v)(hj:J X (some s')):J X (some s):=by
 intro bY
 rcases s with ⟨p,e0,w,kn⟩
 cases p with
 |ops ops todo k=>
  have:G4 v ⟨.ops ops todo k,e0,w,kn⟩=some s':=by
   cases todo with
   |nil=>cases hh
   |cons i todo=>exact hp
  exact jyS hh this ⟨fun _=>hv _ Pf hB,fun h=>by rw[hnp] at h;cases h⟩ hj bY
 |IU ops base Pl Sl k=>
  simp only[qO] at hh
  split at hh<;>try (cases hh;done)
  rename_i i hi
  split at hh<;>try (cases hh;done)
  rename_i o1 ho
  split at hh<;>try (cases hh;done)
  rename_i g1 hg
  cases hh
  simp only[anr,hi] at hp
  cases hc:(!bh i (an Pl)&&(fG (bw ops i) (an Pl)&&(pH ops (an Pl)&&(fG (an Sl) (an Pl)&& !bh i (ndK kn.nd))))) with
  |false=>rw[hc] at hp;cases hp
  |true=>
   rw[hc] at hp;simp only[cond_true,Option.some.injEq] at hp;subst hp
   simp only[Bool.and_eq_true,Bool.not_eq_true'] at hc
   have Fo:aR ops i=o.dst:=by simp only[aR,ho,Option.bind_some]
   intro hpf
   have rn:∀j,j∈an Sl→i∉bw ops j:=fun j hj hd=>by
    have h1:=bQ.1 hc.2.2.2.1 j hj
    have h2:=bQ.1 (List.all_eq_true.1 hc.2.2.1 j h1) i hd
    rw[aL.2 h2] at hc;exact absurd hc.1 (by simp)
   have hii:i∉bw ops i:=fun hd=>by
    have h2:=bQ.1 hc.2.1 i hd
    rw[aL.2 h2] at hc;exact absurd hc.1 (by simp)
   have bW:∀s0,Ext ⟨X.ro,[]⟩ s0→(∀x∈B,s0.has x.1 x.2)→eL X.C X.fn X.aA ops X.n X.D i v (cA ops base i Pl) s0:=by
    intro s0 HO vx s1 hx rest todo Q hk
    rw[Fo] at hk
    exact hv s0 HO vx ops _ ho rest (n8 hg rest) _ hx _ _ hk
   have aQh:tw ops X.n base ((i,v)::Pl) i=false:=by
    simp only[tw,ho,hnp,c8 hii,hg,Bool.or_false]
   refine Jo i hc.1 hc.2.1 hc.2.2.1 hc.2.2.2.1 (bW _ Pf hB) (hj bY ⟨fun j u JL hp s0=>?_,fun j u B' JL hB' s0 HO vx=>?_⟩)
   ·rcases List.mem_cons.1 JL with h1|h1
    ·obtain⟨AS,rfl⟩:=Prod.mk.inj h1
     subst AS
     rw[aQh] at hp;cases hp
    have Qg:j∈an Sl:=aP.2 ⟨u,h1⟩
    rw[c8 (rn j Qg)]
    exact hpf.1 j u h1 (by simp only[tw,c8 (rn j Qg)] at hp;exact hp) s0
   rcases List.mem_cons.1 JL with h1|h1
   ·obtain⟨AS,rfl⟩:=Prod.mk.inj h1
    subst AS
    rw[c8 hii]
    rcases List.mem_cons.1 hB' with h2|h2
    ·cases h2;exact bW s0 HO vx
    have:=Oq h2
    rw[aL.2 this] at hc;exact absurd hc.2.2.2.2 (by simp)
   have Qg:j∈an Sl:=aP.2 ⟨u,h1⟩
   rw[c8 (rn j Qg)]
   rcases List.mem_cons.1 hB' with h2|h2
   ·obtain⟨AS,rfl⟩:=Prod.mk.inj h2
    subst AS
    have h3:=bQ.1 hc.2.2.2.1 _ Qg
    rw[aL.2 h3] at hc;exact absurd hc.1 (by simp)
   exact hpf.2 j u B' h1 h2 s0 HO vx
 |_=>cases hh
theorem jy{s:JS}{v:Value}(hh:qO X.n s=some (g,o,e))(hp:G4 v s=some s')
 (hv:match g with|true=>eC o.op=true∧(Knows X.ro s.kn.c→Yields X.P X.n e o ⟨X.ro,den s.rw⟩ v)∧(En o.op=true→∀s,Yields X.P X.n e o s v)|false=>v=undef)(hj:J X (some s')):J X (some s):=by
 refine jyS hh hp ?_ hj
 cases g with
 |true=>exact⟨fun bY ops i ho rest hw s' hx todo Q hk=>lT X.hC ho rest hw hv.1 (hv.2.1 bY) hx hk,fun hp s ops i ho rest hw s' hx todo Q hk=>lT X.hC ho rest hw hv.1 (hv.2.2 hp s) hx hk⟩
 |false=>exact hv
end
def zt:List Sg→Nat→Option Sg
 | [],_=>none
 |x::_,0=>some x
 |_::l,i+1=>zt l i
def UK:List Sg→Nat→Sg→List Sg
 | [],_,_=>[]
 |_::l,0,y=>y::l
 |x::l,i+1,y=>x::UK l i y
def anK:Cells→Nat→Option (Nat×Obj)
 | [],_=>none
 |x::_,0=>some x
 |_::l,i+1=>anK l i
def B5(w:List Sg)(kn:Cells)(h:Nat):Option (Nat×List Value):=
 match zt w h with
 |some (.b b (.cells ⟨l⟩ _ _))=>some (b,l)
 |some _=>none
 |none=>match anK kn (h-64) with
  |some (b,.cells ⟨l⟩ _ _)=>some (b,l)
  |_=>none
def aeT(P:Program)(n:Nat)(e:Env)(w:List Sg)(h:Nat):Op→Option (List Sg×Nat×Nat)
 | .store T x y=>match bu n e x with
  |some (.pointer (some ⟨b,off,none⟩))=>match bu n e y with
   |some v=>match zt w h with
    |some (.b b' (.cells ⟨c⟩ t (0,0)))=>match a8 P T with
     |some ti=>bif Nat.beq (dZ v).length ti.size&&(Nat.ble (off+(dZ v).length) c.length&&(dZ v).all single) then some (UK w h (.b b' (.cells ⟨dE c off (dZ v)⟩ t (0,0))),b,b') else none
     |none=>none
    |_=>none
   |none=>none
  |_=>none
 |_=>none
abbrev asN:=Option (JS×List Nat×List (Nat×Nat))
def azn(n:Nat)(e:Env)(k:List KI):Code→Option Pos
 | .skip=>some (Rg k)
 | .seq a b=>some (.code a (.seq b::k))
 | .block id c=>some (.code c (.block id::k))
 | .region _ ops d=>bif d then (bif Ax ops then some (.IU ops e [] [] k) else none) else some (.ops ops (List.range ops.size) k)
 | .exit id=>BW id k
 | .ret=>some (.fin .ret)
 | .scope c=>some (.code c k)
 | .label _=>some (Rg k)
 | .cond c a b=>match bu n e c with
  |some (.bool true)=>some (.code a k)
  |some (.bool false)=>some (.code b k)
  |_=>none
 |_=>none
def akA(ops:Array Oper)(Pl:List (Nat×Value)):Bool:=fF ops&&(nodupB (an Pl)&&(fG (List.range ops.size) (an Pl)&&fG (an Pl) (List.range ops.size)))
def opJ(P:Program)(n:Nat)(hs:List Nat)(s:JS):asN:=
 match qO n s with
 |some (g,o,e)=>bif g then (match o.op with
  | .store .. =>match s,hs with
   | ⟨.ops ops (_::todo) k,_,w,kn⟩,h::hs=>match aeT P n e w h o.op with
    |some (w',b,b')=>some (⟨.ops ops todo k,upd o.dst undef e,w',kn⟩,hs,[(b,b')])
    |none=>none
   |_,_=>none
  | .load T x=>match hs with
   |h::hs=>match bu n e x with
    |some (.pointer (some ⟨b,off,none⟩))=>match B5 s.rw s.kn.c h with
     |some (b',l)=>match ldv P T l off with
      |some v=>match G4 v s with
       |some s'=>some (s',hs,[(b',b)])
       |none=>none
      |none=>none
     |none=>none
    |_=>none
   | []=>none
  |_=>bif eC o.op then (match aef P n e o with
   |some v=>match G4 v s with
    |some s'=>some (s',hs,[])
    |none=>none
   |none=>none) else none) else (match G4 undef s with
  |some s'=>some (s',hs,[])
  |none=>none)
 |none=>none
def stepJ(P:Program)(n:Nat)(hs:List Nat)(s:JS):asN:=
 match s.pos with
 | .ops _ [] k=>some (⟨Rg k,s.env,s.rw,s.kn⟩,hs,[])
 | .code c k=>match azn n s.env k c with
  |some p=>some (⟨p,s.env,s.rw,⟨s.kn.c,[]⟩⟩,hs,[])
  |none=>none
 | .IU ops base Pl _ k=>match apU ops (an Pl) with
  |none=>bif akA ops Pl then some (⟨Rg k,jq ops base Pl,s.rw,s.kn⟩,hs,[]) else none
  |some _=>opJ P n hs s
 |_=>opJ P n hs s
section
variable {X:Cx}
theorem Bc:∀ {w:List Sg} {h b:Nat} {o:Obj},zt w h=some (.b b o)→∃L R,den w=L++(b,o)::R∧∀o',den (UK w h (.b b o'))=L++(b,o')::R
 | [],_,_,_,h=>by cases h
 |x::w,0,b,o,h=>by
  simp only[zt,Option.some.injEq] at h;subst h
  exact⟨[],den w,by simp[iK],fun o'=>by simp[UK,iK]⟩
 |x::w,i+1,b,o,h=>by
  obtain⟨L,R,h1,h2⟩:=Bc (w:=w) (h:=i) h
  cases x with
  |b i' o1=>exact⟨(i',o1)::L,R,by simp[iK,h1],fun o'=>by simp[UK,iK,h2]⟩
  |l L1=>exact⟨L1++L,R,by simp[gA,h1],fun o'=>by simp[UK,gA,h2]⟩
theorem RI:∀ {l:Cells} {i:Nat} {x:Nat×Obj},anK l i=some x→x∈l
 | [],_,_,h=>by cases h
 |y::l,0,x,h=>by simp only[anK,Option.some.injEq] at h;subst h;exact List.mem_cons_self
 |y::l,i+1,x,h=>List.mem_cons_of_mem _ (RI (l:=l) h)
theorem Az{w:List Sg}{kn:Cells}{h:Nat}(hk:Knows X.ro kn)(hc:B5 w kn h=some (b,l)):∃t fz,(⟨X.ro,den w⟩:St).has b (.cells ⟨l⟩ t fz):=by
 unfold B5 at hc
 split at hc
 ·rename_i hn
  cases hc
  obtain⟨L,R,h1,_⟩:=Bc hn
  exact⟨_,_,.inr (by show (_,_)∈den w;rw[h1];exact fA)⟩
 ·cases hc
 split at hc<;>try (cases hc;done)
 rename_i hn
 cases hc
 exact⟨_,_,.inl (hk _ (RI hn))⟩
theorem apX{w:List Sg}{k:List KI}{c:Code}{p:Pos}(h:azn X.n e k c=some p)(hj:JP X ⟨kn.c,[]⟩ e w p):JP X kn e w (.code c k):=by
 unfold azn at h
 split at h
 ·cases h;exact wp_skip X.hC (uo hj)
 ·cases h;exact wp_seq X.hC hj
 ·cases h;exact wp_block X.hC hj
 ·rename_i id ops d
  cases d with
  |true=>
   simp only[cond_true] at h
   cases hd:Ax ops with
   |false=>rw[hd] at h;cases h
   |true=>
    rw[hd] at h;simp only[cond_true,Option.some.injEq] at h;subst h
    exact ac4 X.hC X.hm hd (hj ⟨fun _ _ h=>(List.not_mem_nil h).elim,fun _ _ _ h=>(List.not_mem_nil h).elim⟩)
  |false=>simp only[cond_false,Option.some.injEq] at h;subst h;exact wp_region X.hC hj
 ·exact wp_exit X.hC (xo h hj)
 ·cases h;exact wp_ret (Bd hj k)
 ·cases h;exact Qs X.hC hj
 ·cases h;exact wp_label X.hC (uo hj)
 ·split at h<;>try (cases h;done)
  ·rename_i hc;cases h;exact XX X.hC hc rfl hj
  rename_i hc;cases h;exact XY X.hC hc rfl hj
 cases h
theorem afW{s:JS}{q:List (Nat×Nat)}(h:opJ X.P X.n hs s=some (s',ny,q))(hq:∀p∈q,p.1=p.2)(hj:J X (some s')):J X (some s):=by
 unfold opJ at h
 split at h<;>try (cases h;done)
 rename_i g o e hh
 cases g with
 |false=>
  simp only[cond_false] at h
  split at h<;>try (cases h;done)
  rename_i s1 hp
  cases h
  exact jy hh hp rfl hj
 |true=>
  simp only[cond_true] at h
  split at h
  ·rename_i T x y az
   split at h<;>try (cases h;done)
   rename_i ops i todo k e1 w kn h0 hsx
   split at h<;>try (cases h;done)
   rename_i w' b b' bW
   cases h
   have Ij:b=b':=hq _ List.mem_cons_self
   subst Ij
   simp only[qO] at hh
   split at hh<;>try (cases hh;done)
   rename_i o1 ho
   split at hh<;>try (cases hh;done)
   rename_i g1 hg
   simp only[Option.some.injEq,Prod.mk.injEq] at hh
   obtain⟨rfl,rfl,rfl⟩:=hh
   intro bY
   have hj:=hj bY
   rw[az] at bW
   simp only[aeT] at bW
   split at bW<;>try (cases bW;done)
   rename_i b0 off hx
   split at bW<;>try (cases bW;done)
   rename_i v hy
   split at bW<;>try (cases bW;done)
   rename_i b1 c t hn
   split at bW<;>try (cases bW;done)
   rename_i ti dQ
   cases hc:(Nat.beq (dZ v).length ti.size&&(Nat.ble (off+(dZ v).length) c.length&&(dZ v).all single)) with
   |false=>rw[hc] at bW;cases bW
   |true=>
    rw[hc] at bW
    simp only[cond_true,Option.some.injEq,Prod.mk.injEq] at bW
    obtain⟨rfl,rfl,rfl⟩:=bW
    simp only[Bool.and_eq_true,Nat.ble_eq] at hc
    obtain⟨bE,tf⟩:=aw dQ
    obtain⟨L,R,h1,h2⟩:=Bc hn
    rcases o1 with ⟨dst,op,ty,pos,dg,gd⟩
    dsimp only at az;subst az
    have hw:=n8 hg []
    rw[List.append_nil] at hw
    refine FP (v:=v) (l:=dZ v) (L:=L) (R:=R) (c:=c) (e:=t) X.hC ho hw tf hx hy (by rw[my]) (Nat.eq_of_beq_eq_true hc.1) (List.all_eq_true.1 hc.2.2) h1 hc.2.1 ?_
    have hj:ab X.C X.fn X.aA ops todo (KQ X k) _ ⟨X.ro,den _⟩:=hj
    rw[h2] at hj
    exact hj
  ·rename_i T x az
   split at h<;>try (cases h;done)
   rename_i h0 bH
   split at h<;>try (cases h;done)
   rename_i b off hx
   split at h<;>try (cases h;done)
   rename_i b' l hc
   split at h<;>try (cases h;done)
   rename_i v hv
   split at h<;>try (cases h;done)
   rename_i s1 hp
   cases h
   have Ij:b'=b:=hq _ List.mem_cons_self
   subst Ij
   refine jy hh hp ⟨by rw[az];rfl,fun bY=>?_,fun hk=>by rw[az] at hk;cases hk⟩ hj
   obtain⟨t,fz,hb⟩:=Az bY hc
   exact agH az hx hb hv
  cases hn:eC o.op with
  |false=>rw[hn] at h;cases h
  |true=>
   rw[hn] at h;simp only[cond_true] at h
   split at h<;>try (cases h;done)
   rename_i v hv
   split at h<;>try (cases h;done)
   rename_i s1 hp
   cases h
   exact jy hh hp ⟨hn,fun _=>A4 hv,fun _ _=>A4 hv⟩ hj
theorem aeU{s:JS}{q:List (Nat×Nat)}(h:stepJ X.P X.n hs s=some (s',ny,q))(hq:∀p∈q,p.1=p.2)(hj:J X (some s')):J X (some s):=by
 unfold stepJ at h
 split at h
 ·rename_i ops k hp
  cases h
  rcases s with ⟨p,e,w,kn⟩
  dsimp only at hp;subst hp
  exact fun bY=>uv X.hC (uo (hj bY))
 ·rename_i c k hp
  rcases s with ⟨p,e,w,kn⟩
  dsimp only at hp;subst hp
  split at h<;>try (cases h;done)
  rename_i p hc
  cases h
  exact fun bY=>apX hc (hj bY)
 ·rename_i ops base Pl Sl k hp
  split at h
  ·cases hd:akA ops Pl with
   |false=>rw[hd] at h;cases h
   |true=>
    rw[hd] at h;simp only[cond_true,Option.some.injEq,Prod.mk.injEq] at h
    obtain⟨rfl,rfl,rfl⟩:=h
    rcases s with ⟨p,e,w,kn⟩
    dsimp only at hp;subst hp
    simp only[akA,Bool.and_eq_true] at hd
    exact fun bY _=>alh X.hC hd.1 hd.2.1 hd.2.2.1 hd.2.2.2 (uo (hj bY))
  exact afW h hq hj
 exact afW h hq hj
end
def ada(P:Program)(n:Nat):Nat→List Nat→JS→List (Nat×Nat)→Option (JS×List (Nat×Nat))
 |0,_,s,q=>some (s,q)
 |k+1,hs,s,q=>match stepJ P n hs s with
  |some (s',ny,q')=>ada P n k ny s' (q'++q)
  |none=>none
def adv(P:Program)(n k:Nat)(hs:List Nat):Option JS→Option (JS×List (Nat×Nat))
 |some s=>ada P n k hs s []
 |none=>none
def res:Option (JS×List (Nat×Nat))→Option JS
 |some (s,_)=>some s
 |none=>none
def WU:List (Nat×Nat)→List Nat
 | []=>[]
 | (a,_)::l=>a::WU l
def UH:List (Nat×Nat)→List Nat
 | []=>[]
 | (_,b)::l=>b::UH l
def lhs:Option (JS×List (Nat×Nat))→List Nat
 |some (_,q)=>WU q
 |none=>[0]
def rhs:Option (JS×List (Nat×Nat))→List Nat
 |some (_,q)=>UH q
 |none=>[1]
theorem mv:∀ {q:List (Nat×Nat)},WU q=UH q→∀p∈q,p.1=p.2
 | (a,b)::l,h,p,hp=>by
  simp only[WU,UH,List.cons.injEq] at h
  rcases List.mem_cons.1 hp with rfl|hp
  ·exact h.1
  exact mv h.2 p hp
theorem aaF:∀ {k:Nat} {hs:List Nat} {s s':JS} {q q':List (Nat×Nat)},ada X.P X.n k hs s q=some (s',q')→(∀p∈q',p.1=p.2)→(J X (some s')→J X (some s))∧∀p∈q,p∈q'
 |0,_,_,_,_,_,h,_=>by simp only[ada,Option.some.injEq,Prod.mk.injEq] at h;obtain⟨rfl,rfl⟩:=h;exact⟨id,fun _ h=>h⟩
 |k+1,hs,s,s',q,q',h,hq=>by
  simp only[ada] at h
  split at h<;>try (cases h;done)
  rename_i s1 bH q1 bW
  obtain⟨h1,h2⟩:=aaF h hq
  exact⟨fun hj=>aeU bW (fun p hp=>hq p (h2 p (List.mem_append_left _ hp))) (h1 hj),fun p hp=>h2 p (List.mem_append_right _ hp)⟩
theorem jd{o:Option JS}(k:Nat)(hs:List Nat)(h:J X (res (adv X.P X.n k hs o)))(he:lhs (adv X.P X.n k hs o)=rhs (adv X.P X.n k hs o):=by kernel_rfl):J X o:=by
 cases o with
 |none=>exact h
 |some s=>
  simp only[adv] at he h
  cases hc:ada X.P X.n k hs s [] with
  |none=>rw[hc] at h;exact h.elim
  |some x=>
   rcases x with ⟨s',q⟩
   rw[hc] at he h
   exact(aaF hc (mv he)).1 h
attribute [irreducible] adv res lhs rhs
def dL(n:Nat)(f:Oper→Env→Option β):Option JS→Option β
 |some s=>match qO n s with
  |some (true,p,e)=>f p e
  |_=>none
 |none=>none
def ku(v:Value):Option JS→Option JS
 |some s=>G4 v s
 |none=>none
def Ri:List Nat→List Sg→Option (List Sg)
 | [],_=>some []
 |i::is,w=>match zt w i with
  |some x=>match Ri is w with
   |some r=>some (x::r)
   |none=>none
  |none=>none
def dI(is:List Nat):Nat→List Sg→List Sg
 |_,[]=>[]
 |k,x::w=>bif bh k is then dI is (k+1) w else x::dI is (k+1) w
def Hh:List Nat→Bool
 | []=>true
 |i::is=> !bh i is&&Hh is
def rJ(is:List Nat):Option JS→Option (List Sg)
 |some s=>bif Hh is then Ri is s.rw else none
 |none=>none
def dS(is:List Nat)(o:Option JS):Option Cells:=match rJ is o with
 |some w=>some (den w)
 |none=>none
def lkE:List Nat→Env→Option Env
 | [],_=>some []
 |t::ts,e=>match gQ e t with
  |some v=>match lkE ts e with
   |some r=>some ((t,v)::r)
   |none=>none
  |none=>none
def nE:Env→List Nat
 | []=>[]
 | (t,_)::e=>t::nE e
def rP(ts:List Nat):Option JS→Option Env
 |some s=>lkE ts s.env
 |none=>none
theorem tC{ts:List Nat}{s:JS}:rP ts (some s)=lkE ts s.env:=rfl
theorem kP:∀ {ts:List Nat} {r:Env},lkE ts e=some r→kU e r
 | [],r,h=>by simp only[lkE,Option.some.injEq] at h;subst h;trivial
 |t::ts,r,h=>by
  simp only[lkE] at h
  split at h<;>try (cases h;done)
  rename_i v hv
  split at h<;>try (cases h;done)
  rename_i r' hr
  cases h
  exact⟨hv,kP hr⟩
theorem lJ:∀(a b:List Sg),den (a++b)=den a++den b
 | [],b=>rfl
 | .b i o::a,b=>by simp[iK,lJ a b]
 | .l L::a,b=>by simp[gA,lJ a b]
theorem ya:∀(w:List Sg) (k:Nat),dI [] k w=w
 | [],_=>rfl
 |x::w,k=>by simp[dI,bh,ya w (k+1)]
theorem IV:∀ {w:List Sg} {i k:Nat} {is:List Nat} {x:Sg},zt w i=some x→bh (k+i) is=false→(den (dI is k w)).Perm (den [x]++den (dI ((k+i)::is) k w))
 | [],_,_,_,_,h,_=>by cases h
 |y::w,0,k,is,x,h,hi=>by
  simp only[zt,Option.some.injEq] at h;subst h
  have hz:∀(w:List Sg) (j:Nat),k <j→dI (k::is) j w=dI is j w:=by
   intro w
   induction w with
   |nil=>intro j _;rfl
   |cons z w ih=>
    intro j hj
    have:Nat.beq j k=false:=beq_false (by omega)
    simp only[dI,bh,this,Bool.false_or,ih (j+1) (by omega)]
  simp only[Nat.add_zero] at hi ⊢
  simp only[dI,hi,cond_false,bh,Nat.beq_refl,Bool.true_or,cond_true,hz w (k+1) (by omega)]
  cases y with
  |b i o=>rw[iK];exact .refl _
  |l L=>rw[gA];exact .refl _
 |y::w,i+1,k,is,x,h,hi=>by
  have e:k+(i+1)=(k+1)+i:=by omega
  rw[e] at hi ⊢
  have hr:=IV (w:=w) (k:=k+1) (is:=is) h hi
  have dR:Nat.beq k ((k+1)+i)=false:=beq_false (by omega)
  simp only[dI,bh,dR,Bool.false_or]
  cases bh k is with
  |true=>simp only[cond_true];exact hr
  |false=>
   simp only[cond_false]
   cases y with
   |b i' o=>rw[iK,iK];exact(hr.cons _).trans List.perm_middle.symm
   |l L=>
    rw[gA,gA]
    refine(hr.append_left L).trans ?_
    rw[←List.append_assoc,←List.append_assoc]
    exact List.Perm.append_right _ List.perm_append_comm
theorem xU{w:List Sg}:∀ {is:List Nat} {r:List Sg},Ri is w=some r→Hh is=true→(den w).Perm (den r++den (dI is 0 w))
 | [],r,h,_=>by simp only[Ri,Option.some.injEq] at h;subst h;rw[ya];exact .refl _
 |i::is,r,h,ho=>by
  simp only[Ri] at h
  split at h<;>try (cases h;done)
  rename_i x hx
  split at h<;>try (cases h;done)
  rename_i r' hr
  cases h
  simp only[Hh,Bool.and_eq_true,Bool.not_eq_true'] at ho
  have h1:=xU hr ho.2
  have h2:=IV (k:=0) (is:=is) hx (by rw[Nat.zero_add];exact ho.1)
  rw[Nat.zero_add] at h2
  refine h1.trans ((List.Perm.append_left _ h2).trans ?_)
  have:den (x::r')=den [x]++den r':=by rw[←lJ];rfl
  rw[this,←List.append_assoc]
  exact List.Perm.append_right _ List.perm_append_comm
theorem lS{is:List Nat}{s:JS}{w:List Sg}(h:rJ is (some s)=some w):(den s.rw).Perm (den w++den (dI is 0 s.rw)):=by
 simp only[rJ] at h
 cases ho:Hh is with
 |false=>rw[ho] at h;cases h
 |true=>rw[ho] at h;exact xU h ho
theorem bN{is:List Nat}{s:JS}{L:Cells}(h:dS is (some s)=some L):(den s.rw).Perm (L++den (dI is 0 s.rw)):=by
 simp only[dS] at h
 split at h<;>try (cases h;done)
 rename_i w hw
 cases h
 exact lS hw
theorem Tp{is:List Nat}{s:JS}{L:Cells}(h:dS is (some s)=some L):∀x∈L,(⟨X.ro,den s.rw⟩:St).has x.1 x.2:=fun x hx=> .inr ((bN h).mem_iff.2 (List.mem_append_left _ hx))
section
variable {X:Cx} {o:Option JS}
theorem sY{f:Oper→Env→Option β}{r:β}(h:dL n f o=some r):∃s p e,o=some s∧qO n s=some (true,p,e)∧f p e=some r:=by
 unfold dL at h
 split at h<;>try (cases h;done)
 rename_i s
 split at h<;>try (cases h;done)
 rename_i p e hh
 exact⟨s,p,e,rfl,hh,h⟩
theorem jG{v:Value}{f:Oper→Env→Option β}{r:β}(h:dL X.n f o=some r)(hy:∀s p e,o=some s→qO X.n s=some (true,p,e)→f p e=some r→eC p.op=true∧(Knows X.ro s.kn.c→Yields X.P X.n e p ⟨X.ro,den s.rw⟩ v)∧(En p.op=true→∀s,Yields X.P X.n e p s v))(hj:J X (ku v o)):J X o:=by
 obtain⟨s,p,e,rfl,hh,hf⟩:=sY h
 obtain⟨h1,h2,h3⟩:=hy s p e rfl hh hf
 simp only[ku] at hj
 cases hp:G4 v s with
 |none=>rw[hp] at hj;exact hj.elim
 |some s'=>rw[hp] at hj;exact jy hh hp ⟨h1,h2,h3⟩ hj
theorem jGS{v:Value}{f:Oper→Env→Option β}{r:β}(h:dL X.n f o=some r)(hy:∀s p e,o=some s→f p e=some r→Jt X e p ⟨X.ro,den s.rw⟩ v∧(En p.op=true→∀s,Jt X e p s v))(hj:J X (ku v o)):J X o:=by
 obtain⟨s,p,e,rfl,hh,hf⟩:=sY h
 simp only[ku] at hj
 cases hp:G4 v s with
 |none=>rw[hp] at hj;exact hj.elim
 |some s'=>rw[hp] at hj;exact jyS hh hp ⟨fun _=>(hy s p e rfl hf).1,(hy s p e rfl hf).2⟩ hj
def Ob(B:Cells)(v:Value):Option JS→Option JS
 |some s=>anr B v s
 |none=>none
theorem jGN{v:Value}{f:Oper→Env→Option β}{r:β}(h:dL X.n f o=some r)(hB:dS ps o=some B)(hy:∀s p e,o=some s→qO X.n s=some (true,p,e)→f p e=some r→En p.op=false∧∀s0,Ext ⟨X.ro,[]⟩ s0→(∀x∈B,s0.has x.1 x.2)→Jt X e p s0 v)(hj:J X (Ob B v o)):J X o:=by
 obtain⟨s,p,e,rfl,hh,hf⟩:=sY h
 obtain⟨h1,h2⟩:=hy s p e rfl hh hf
 simp only[Ob] at hj
 cases hp:anr B v s with
 |none=>rw[hp] at hj;exact hj.elim
 |some s'=>rw[hp] at hj;exact jyN hh hp (Tp hB) h1 h2 hj
theorem T4{v:Value}{f:Oper→Env→Option β}{r:β}(h:dL X.n f o=some r)(hy:∀s p e,o=some s→f p e=some r→∀s0,Jt X e p s0 v)(hj:J X (ku v o)):J X o:=
 jGS h (fun s p e ho hf=>⟨hy s p e ho hf _,fun _=>hy s p e ho hf⟩) hj
def atv(P:Program)(n:Nat)(p:Oper)(e:Env):Option Value:=bif eC p.op then aef P n e p else none
theorem je(v:Value){w:Value}(hw:w=v)(hj:J X (ku v o))(hv:dL X.n (atv X.P X.n) o=some w:=by kernel_rfl):J X o:=by
 subst hw
 refine jG hv (fun s p e _ _ hf=>?_) hj
 unfold atv at hf
 cases hn:eC p.op with
 |false=>rw[hn] at hf;cases hf
 |true=>rw[hn] at hf;exact⟨rfl,fun _=>A4 hf,fun _ _=>A4 hf⟩
theorem ja(r:Int)(h: -9223372036854775808≤r∧r≤9223372036854775807)(hj:J X (ku (.int .i64 r) o))(hv:dL X.n (atv X.P X.n) o=some (.int .i64 (IntKind.i64.wrap r)):=by kernel_rfl):J X o:=je _ (by rw[kJ r h]) hj hv
def ldA(P:Program)(n k:Nat)(vs:List Value)(p:Oper)(e:Env):Option (Option Addr):=match p.op with
 | .load T x=>match ldv P T vs k with
  |some _=>match bu n e x with
   |some (.pointer a)=>some a
   |_=>none
  |none=>none
 |_=>none
def ldW(P:Program)(n k:Nat)(vs:List Value)(o:Option JS):Value:=(dL n (fun p _=>match p.op with
 | .load T _=>ldv P T vs k
 |_=>none) o).getD undef
theorem mT{m:Nat}(k:Nat)(ps:List Nat)(B:Cells)(hr:∀s:St,Ext ⟨X.ro,[]⟩ s→(∀x∈B,s.has x.1 x.2)→cE s b off m vs)(hj:J X (Ob B (ldW X.P X.n k vs o) o))(hv:dL X.n (ldA X.P X.n k vs) o=some (some ⟨b,off+k,none⟩):=by kernel_rfl)(hB:dS ps o=some B:=by kernel_rfl):J X o:=by
 refine jGN hv hB (fun s p e ho hh hf=>?_) hj
 subst ho
 unfold ldA at hf
 split at hf<;>try (cases hf;done)
 rename_i T x az
 split at hf<;>try (cases hf;done)
 rename_i v hv2
 split at hf<;>try (cases hf;done)
 rename_i a hx
 simp only[Option.some.injEq] at hf;subst hf
 have hw:ldW X.P X.n k vs (some s)=v:=by simp only[ldW,dL,hh,az,hv2,Option.getD_some]
 rw[hw]
 exact⟨by rw[az];rfl,fun s0 HO vx ops i ho rest hwt s' hs todo Q hk=>lT X.hC ho rest hwt (by rw[az];rfl) (avq k az hx (hr s0 HO vx) hv2) hs hk⟩
theorem jl{m:Nat}(k:Nat)(hr:cE ⟨X.ro,[]⟩ b off m vs)(hj:J X (Ob [] (ldW X.P X.n k vs o) o))(hv:dL X.n (ldA X.P X.n k vs) o=some (some ⟨b,off+k,none⟩):=by kernel_rfl):J X o:=by
 have hB:dS [] o=some []:=by
  obtain⟨s,_,_,rfl,_⟩:=sY hv
  rfl
 exact mT k [] [] (fun s hs _=>hr.ext hs) hj hv hB
def ixA(P:Program)(n:Nat)(p:Oper)(e:Env):Option (Value×Int×Nat):=match p.op with
 | .indexAddr T x y=>match a8 P T with
  |some ⟨.slice E,_,_,_⟩=>match a8 P E with
   |some te=>match bu n e x with
    |some v=>match bu n e y with
     |some (.int _ ix)=>some (v,ix,te.size)
     |_=>none
    |none=>none
   |none=>none
  |_=>none
 |_=>none
theorem jix{a:Option Addr}{len:Nat}(ix:Int)(cap sz:Nat)(ha:a=some ⟨b,off,none⟩)(hi:0≤ix∧ix <len)(hj:J X (ku (.pointer (some ⟨b,off+ix.toNat*sz,none⟩)) o))(hv:dL X.n (ixA X.P X.n) o=some (.slice a len cap,ix,sz):=by kernel_rfl):J X o:=by
 refine jG hv (fun s p e ho hh hf=>?_) hj
 unfold ixA at hf
 split at hf<;>try (cases hf;done)
 rename_i T x y az
 split at hf<;>try (cases hf;done)
 rename_i E _ _ _ dQ
 split at hf<;>try (cases hf;done)
 rename_i te uG
 split at hf<;>try (cases hf;done)
 rename_i v hx
 split at hf<;>try (cases hf;done)
 rename_i ik ix' hy
 simp only[Option.some.injEq,Prod.mk.injEq] at hf
 obtain⟨rfl,rfl,rfl⟩:=hf
 subst ha
 obtain⟨bE,tf⟩:=aw dQ
 obtain⟨B7,ry⟩:=aw uG
 have key:∀s,Yields X.P X.n e p s (.pointer (some ⟨b,off+ix'.toNat*te.size,none⟩)):=by
  intro s s' ny f hf K E hK
  simp only[execOp,az,Instr.indexAt,hf _ _ hx,hf _ _ hy,asIntOf,aa,ae,ba tf,hi,and_self,if_true,cz ry,dO]
  exact hK
 exact⟨by rw[az];rfl,fun _=>key _,fun _=>key⟩
theorem iz{ps:List α}{x:α}{a:Option Addr}(cap sz:Nat)(ha:∀k,k <ps.length→a=some ⟨b,off,none⟩)(hx:ps[k]?=some x) (hj:J X (ku (.pointer (some ⟨b,off+k*sz,none⟩)) o)) (hv:dL X.n (ixA X.P X.n) o=some (.slice a ps.length cap,(k:Int),sz):=by kernel_rfl):J X o:=
 have hk:k <ps.length:=(List.getElem?_eq_some_iff.1 hx).1
 jix (k:Int) cap sz (ha k hk) (by omega) hj hv
theorem P6{ps:List α}{x:α}{a:Option Addr}(ix:Int)(cap sz:Nat)(ha:∀k,k <ps.length→a=some ⟨b,off,none⟩)(hx:ps[k]?=some x) (he:ix=(k:Int)) (hj:J X (ku (.pointer (some ⟨b,off+k*sz,none⟩)) o)) (hv:dL X.n (ixA X.P X.n) o=some (.slice a ps.length cap,ix,sz):=by kernel_rfl):J X o:=by
 subst he;exact iz cap sz ha hx hj hv
theorem HC{v:Value}{enc:α→List Value}{ps:List α}{L:Cells}{x:α}(sz:Nat)(kR:ay v szo T2 enc ps L)(hx:ps[k]?=some x) (hj:∀b,PV v b→J X (ku (.pointer (some ⟨b,k*sz,none⟩)) o)) (hv:dL X.n (ixA X.P X.n) o=some (v,(k:Int),sz):=by kernel_rfl):J X o:=by
 have hk:k <ps.length:=(List.getElem?_eq_some_iff.1 hx).1
 obtain⟨b,hb⟩:=aD0 kR hk
 have fT:=hb
 obtain⟨n0,c,rfl⟩:=fT
 have hn:n0=ps.length:=by
  obtain⟨a,c',he⟩:=kR.form
  cases he;rfl
 subst hn
 have hj:=hj b hb
 exact jix (off:=0) (k:Int) c sz rfl (by omega) (by rw[Nat.zero_add];exact hj) hv
theorem pZ{v:Value}{enc:α→List Value}{ps:List α}{L:Cells}{x:α}(ix:Int)(sz:Nat)(kR:ay v szo T2 enc ps L)(hx:ps[k]?=some x) (he:ix=(k:Int)) (hj:∀b,PV v b→J X (ku (.pointer (some ⟨b,k*sz,none⟩)) o)) (hv:dL X.n (ixA X.P X.n) o=some (v,ix,sz):=by kernel_rfl):J X o:=by
 subst he;exact HC sz kR hx hj hv
end
attribute [irreducible] dL ku Ob dS rJ rP ldW
section
variable {X:Cx} {o:Option JS}
theorem P0{D:List Deferred}{t:Nat}{v:Value}(h:gQ e t=some v):A n ((t,v)::e) D=A n e D:=by
 simp only[A]
 congr 1
 congr 1
 funext i
 simp only[get]
 cases hb:Nat.beq t i with
 |false=>rfl
 |true=>
  have:=Nat.eq_of_beq_eq_true hb
  subst this
  exact(mX h).symm
def QW(j:Nat)(v:Value):List (Nat×Value)→List (Nat×Value)
 | []=>[]
 | (i,w)::r=>bif Nat.beq i j then (i,v)::r else (i,w)::QW j v r
theorem GM{j:Nat}{v:Value}:∀ {l:List (Nat×Value)},Rh l j=some v→QW j v l=l
 | (i,w)::r,h=>by
  simp only[Rh] at h
  simp only[QW]
  cases hb:Nat.beq i j with
  |true=>rw[hb] at h;simp only[cond_true,Option.some.injEq] at h;subst h;rfl
  |false=>rw[hb] at h;simp only[cond_false] at h ⊢;rw[GM h]
def aq0(t:Nat):JS→Option Value
 | ⟨.IU _ _ Pl _ _,_,_,_⟩=>Rh Pl t
 |s=>gQ s.env t
def Lj(t:Nat):Option JS→Option Value
 |some s=>aq0 t s
 |none=>none
def aa6(t:Nat)(v:Value):JS→JS
 | ⟨.IU ops base Pl Sl k,e,w,kn⟩=>⟨.IU ops base (QW t v Pl) Sl k,e,w,kn⟩
 | ⟨p,e,w,kn⟩=>⟨p,(t,v)::e,w,kn⟩
def QX(t:Nat)(v:Value):Option JS→Option JS
 |some s=>some (aa6 t v s)
 |none=>none
theorem jw(t:Nat)(v:Value){w:Value}(hw:w=v)(hj:J X (QX t v o))(hv:Lj t o=some w:=by kernel_rfl):J X o:=by
 subst hw
 cases o with
 |none=>exact hj
 |some s=>
  rcases s with ⟨p,e,J5,kn⟩
  intro bY
  have hj:=hj
  cases p with
  |IU ops base Pl Sl k=>
   simp only[Lj,aq0] at hv
   have:QW t w Pl=Pl:=GM hv
   simp only[QX,aa6,this] at hj
   exact hj bY
  |ops a b c=>have:=hj bY;simp only[aa6,JP] at this;rw[P0 hv] at this;exact this
  |code a b=>have:=hj bY;simp only[aa6,JP] at this;rw[P0 hv] at this;exact this
  |nxt a=>have:=hj bY;simp only[aa6,JP] at this;rw[P0 hv] at this;exact this
  |fin a=>have:=hj bY;simp only[aa6,JP] at this;rw[P0 hv] at this;exact this
theorem ji(t:Nat){c b:Bool}(h:c=b)(hj:J X (QX t (.bool b) o))(hv:Lj t o=some (.bool c):=by kernel_rfl):J X o:=jw t _ (by rw[h]) hj hv
theorem js(t:Nat)(c:Bool)(h1:c=true→J X (QX t (.bool true) o))(h2:c=false→J X (QX t (.bool false) o))(hv:Lj t o=some (.bool c):=by kernel_rfl):J X o:=by
 cases hc:c with
 |true=>exact ji t hc (h1 hc) hv
 |false=>exact ji t hc (h2 hc) hv
def aEn(P:Program)(n:Nat)(p:Oper)(e:Env):Option (Obj×Option Nat):=match p.op with
 | .alloc T=>match a8 P T with
  |some ti=>some (.cells ⟨ti.zero⟩ T (0,0),none)
  |none=>none
 | .box T x=>match bu n e x with
  |some v=>some (.cells ⟨dZ v⟩ T (0,0),none)
  |none=>none
 | .buildSlice T m ps=>match a8 P T with
  |some ⟨.slice E,_,_,_⟩=>match a8 P E with
   |some te=>match Qi n e ps.toList with
    |some pv=>match oZ (fun i=>some (i*te.size,te.size)) (db te.zero m) (ur pv) with
     |some l=>bif Nat.beq te.zero.length te.size&&Nat.ble (m*te.size) 16777216 then some (.cells ⟨l⟩ E (0,0),some m) else none
     |none=>none
    |none=>none
   |none=>none
  |_=>none
 | .range T x=>match a8 P T with
  |some ⟨.string,_,_,_⟩=>match bu n e x with
   |some (.string b)=>some (.stringIter b 0,none)
   |_=>none
  |_=>none
 |_=>none
def age(b:Nat):Option Nat→Value
 |some m=> .slice (some ⟨b,0,none⟩) m m
 |none=> .pointer (some ⟨b,0,none⟩)
def au7(P:Program)(n b:Nat):Option JS→Option JS
 |some ⟨.ops ops (i::todo) k,e,w,kn⟩=>match qO n ⟨.ops ops (i::todo) k,e,w,kn⟩ with
  |some (true,p,_)=>match aEn P n p e with
   |some (ob,m)=>some ⟨.ops ops todo k,upd p.dst (age b m) e,.b b ob::w,kn⟩
   |none=>none
  |_=>none
 |_=>none
theorem SH{ops:Array Oper}{k:List KI}{e':Env}{w:List Sg}(h:qO n ⟨.ops ops (i::todo) k,e,w,kn⟩=some (g,p,e')):ops[i]?=some p∧e'=e∧(g=true→ax ops n e p.guard=true):=by
 simp only[qO] at h
 split at h<;>try (cases h;done)
 rename_i p1 ho
 split at h<;>try (cases h;done)
 rename_i g1 hg
 cases h
 refine⟨ho,rfl,fun hg'=>?_⟩
 subst hg'
 have:=n8 hg []
 rwa[List.append_nil] at this
theorem jn(hj:∀b,J X (au7 X.P X.n b o)):J X o:=by
 unfold au7 at hj
 split at hj
 ·rename_i ops i todo k e w kn
  split at hj
  ·rename_i p e' hh
   obtain⟨ho,rfl,hw⟩:=SH hh
   have hw:=hw rfl
   intro bY
   rcases p with ⟨dst,op,ty,pos,dg,g⟩
   split at hj
   ·rename_i ob m hn
    have key:∀b,ab X.C X.fn X.aA ops todo (KQ X k) (A X.n (upd dst (age b m) e') X.D) ⟨X.ro,(b,ob)::den w⟩:=fun b=>by
     have:=hj b bY
     simp only[JP,iK] at this
     exact this
    unfold aEn at hn
    split at hn
    ·rename_i T az
     dsimp only at az;subst az
     split at hn<;>try (cases hn;done)
     rename_i ti dQ
     cases hn
     obtain⟨bE,tf⟩:=aw dQ
     exact anJ X.hC ho hw tf fun b _=>key b
    ·rename_i T x az
     dsimp only at az;subst az
     split at hn<;>try (cases hn;done)
     rename_i v hx
     cases hn
     exact aEf X.hC ho hw hx (by rw[my]) fun b _=>key b
    ·rename_i T m0 ps az
     dsimp only at az;subst az
     split at hn<;>try (cases hn;done)
     rename_i E _ _ _ dQ
     split at hn<;>try (cases hn;done)
     rename_i te uG
     split at hn<;>try (cases hn;done)
     rename_i pv Kp
     split at hn<;>try (cases hn;done)
     rename_i l hl
     cases hc:(Nat.beq te.zero.length te.size&&Nat.ble (m0*te.size) 16777216) with
     |false=>rw[hc] at hn;cases hn
     |true=>
      rw[hc] at hn;simp only[cond_true,Option.some.injEq,Prod.mk.injEq] at hn
      obtain⟨rfl,rfl⟩:=hn
      simp only[Bool.and_eq_true] at hc
      obtain⟨bE,tf⟩:=aw dQ
      obtain⟨B7,ry⟩:=aw uG
      exact Ok X.hC ho hw tf ry hc.1 Kp hc.2 hl fun b _=>key b
    ·rename_i T x az
     dsimp only at az;subst az
     split at hn<;>try (cases hn;done)
     rename_i dQ
     split at hn<;>try (cases hn;done)
     rename_i bs hx
     cases hn
     obtain⟨bE,tf⟩:=aw dQ
     exact Vi X.hC ho hw tf hx fun b _=>key b
    cases hn
   exact(hj 0).elim
  exact(hj 0).elim
 exact(hj 0).elim
def akZ(n:Nat)(p:Oper)(e:Env):Option (FuncId×List Value):=match p.op with
 | .call ⟨.value x,xs,_⟩=>match bu n e x with
  |some (.func (.func f) ⟨fi⟩ ⟨ca⟩)=>match yC n e xs.toList with
   |some vs=>some (f,fi++vs++ca)
   |none=>none
  |_=>none
 |_=>none
def yW(P:Program)(n:Nat)(p:Oper)(e:Env):Option (FuncId×List Value):=match akZ n p e with
 |some (f,vs)=>bif Co P f then some (f,vs) else none
 |none=>none
theorem q7(h:yW P n p e=some (f,vs)):FF P f∧∃x xs at_ fi ca ws,p.op= .call ⟨.value x,xs,at_⟩∧bu n e x=some (.func (.func f) ⟨fi⟩ ⟨ca⟩)∧vX n e xs=some ws∧vs=fi++ws++ca:=by
 unfold yW at h
 split at h<;>try (cases h;done)
 rename_i f' oJ hc
 cases hb:Co P f' with
 |false=>rw[hb] at h;cases h
 |true=>
  rw[hb] at h;simp only[cond_true,Option.some.injEq,Prod.mk.injEq] at h
  obtain⟨rfl,rfl⟩:=h
  refine⟨k9 hb,?_⟩
  unfold akZ at hc
  split at hc<;>try (cases hc;done)
  rename_i x xs at_ az
  split at hc<;>try (cases hc;done)
  rename_i f fi ca hx
  split at hc<;>try (cases hc;done)
  rename_i ws sM
  cases hc
  exact⟨x,xs,at_,fi,ca,ws,az,hx,sM,rfl⟩
theorem TK(a b c:List Value):(⟨a⟩:Array Value)++⟨b⟩++⟨c⟩=⟨a++b++c⟩:=by simp
def nA(ps:List Nat)(v:Value)(Y:Cells):Option JS→Option JS
 |some ⟨.ops ops (i::todo) k,e,w,kn⟩=>match ops[i]? with
  |some p=>some ⟨.ops ops todo k,upd p.dst v e,.l Y::dI ps 0 w,kn⟩
  |none=>none
 |_=>none
def eY(n:Nat)(f:Oper→Env→Option β):Option JS→Option β
 |some ⟨.ops a b c,e,w,kn⟩=>dL n f (some ⟨.ops a b c,e,w,kn⟩)
 |_=>none
theorem dD{f:Oper→Env→Option β}{r:β}(h:eY n f o=some r):∃ops i todo k e w kn p,o=some ⟨.ops ops (i::todo) k,e,w,kn⟩∧ops[i]?=some p∧ax ops n e p.guard=true∧f p e=some r:=by
 unfold eY at h
 split at h<;>try (cases h;done)
 rename_i ops todo k e w kn
 obtain⟨s,p,e',hs,hh,hf⟩:=sY h
 cases hs
 cases todo with
 |nil=>cases hh
 |cons i todo=>
  obtain⟨ho,rfl,hw⟩:=SH hh
  exact⟨ops,i,todo,k,e',w,kn,p,rfl,ho,hw rfl,hf⟩
def arw(ps lp:List Nat):Option JS→Option Cells
 |some s=>dS lp (some {s with rw:=dI ps 0 s.rw})
 |none=>none
theorem oF{ops:Array Oper}{k:List KI}{w:List Sg}{v:Value}(ho:ops[i]?=some p):nA ps v Y (some ⟨.ops ops (i::todo) k,e,w,kn⟩)=some ⟨.ops ops todo k,upd p.dst v e,.l Y::dI ps 0 w,kn⟩:=by
 simp only[nA,ho]
theorem Sd{own:Cells}(ps lp:List Nat)(B:Cells)(hf:∀aH,Sub X.ro aH→Knows aH B→eg X.P f vs aH own Φ)(hj:∀v Y,Φ v Y→J X (nA ps v Y o))(h1:eY X.n (yW X.P X.n) o=some (f,vs):=by kernel_rfl)(h2:dS ps o=some own:=by kernel_rfl)(h3:arw ps lp o=some B:=by kernel_rfl):J X o:=by
 obtain⟨ops,i,todo,k,e,w,kn,p,rfl,ho,hw,hc⟩:=dD h1
 obtain⟨ff,x,xs,at_,fi,ca,ws,az,hx,sM,rfl⟩:=q7 hc
 intro bY
 rcases p with ⟨dst,op,ty,pos,dg,g⟩
 dsimp only at az;subst az
 have hp:=bN h2
 refine af6 (own:=own) (B:=B) (Φ:=Φ) X.hC ho hw hx ff sM (TK fi ws ca) hp (fun y hy=>(bN h3).mem_iff.2 (List.mem_append_left _ hy)) (fun aH hs hB=>hf aH hs hB) (fun v Y qH=>?_)
 have:=hj v Y qH
 simp only[nA,ho] at this
 have:=this bY
 simp only[JP,gA] at this
 exact this
theorem jc{own:Cells}(ps:List Nat)(hf:eg X.P f vs X.ro own Φ)(hj:∀v Y,Φ v Y→J X (nA ps v Y o))(h1:eY X.n (yW X.P X.n) o=some (f,vs):=by kernel_rfl)(h2:dS ps o=some own:=by kernel_rfl):J X o:=by
 obtain⟨ops,i,todo,k,e,w,kn,p,rfl,ho,hw,hc⟩:=dD h1
 obtain⟨ff,x,xs,at_,fi,ca,ws,az,hx,sM,rfl⟩:=q7 hc
 intro bY
 rcases p with ⟨dst,op,ty,pos,dg,g⟩
 dsimp only at az;subst az
 have hp:=bN h2
 refine uA (fi:=⟨fi⟩) (ca:=⟨ca⟩) (ws:=fi++ws++ca) X.hC ho hw hx ff sM (TK fi ws ca) (Fn.weaken X.hC (eg.aB3 (s:=⟨X.ro,den w⟩) hp hf)) (fun v' s' hr=>?_) (fun ch s' hr=>by obtain⟨_,_,e,_⟩:=hr;cases e) (fun s' hr=>by obtain⟨_,_,e,_⟩:=hr;cases e)
 obtain⟨v,Y,hv,qH,hle⟩:=hr
 cases hv
 have:=hj _ Y qH
 simp only[nA,ho] at this
 have:=this bY
 simp only[JP,gA] at this
 exact this.more X.hC hle
theorem jp{V:Value}(lp:List Nat)(B:Cells)(hf:∀aH,Sub X.ro aH→Knows aH B→dK X.P f vs aH V)(hj:J X (Ob B V o))(h1:dL X.n (yW X.P X.n) o=some (f,vs):=by kernel_rfl)(h3:dS lp o=some B:=by kernel_rfl):J X o:=by
 refine jGN h1 h3 (fun s p e ho hh hc=>?_) hj
 obtain⟨ff,x,xs,at_,fi,ca,ws,az,hx,sM,rfl⟩:=q7 hc
 rcases p with ⟨dst,op,ty,pos,dg,g⟩
 dsimp only at az;subst az
 refine⟨rfl,fun s0 HO vx ops i tF rest hw s' hs todo Q hk=>?_⟩
 have hez:Ext ⟨X.ro,B⟩ s':=fun b ob hb=>hs _ _ (hb.elim (fun h=>HO _ _ (.inl h)) fun h=>vx (b,ob) h)
 exact RF X.hC tF hw (bk hx) ff (x5 sM) (TK fi ws ca) hez (fun aH h1=>hf aH (GG h1) fun y hy=>h1 _ _ (.inr hy)) hk
end
attribute [irreducible] eY QX Lj au7 nA arw
def qW(P:Program)(f:FuncId):Func:=match P.funcs[f]? with
 |some fn=>fn
 |none=>default
abbrev RX(ro:Nat→Option Obj)(Φ:Value→Cells→Prop):Ending→St→Prop:=fun en s'=>∃v X,en= .returned v∧s'=⟨ro,X⟩∧Φ v X
def X0(P:Program)(hm:P.follows .mixedOrders=true)(f:FuncId)(ro:Nat→Option Obj)(R:Ending→St→Prop):Cx:=⟨P,CP P,eP,hm,f,none,(qW P f).ntmps,[],ro,r5 P (qW P f) R⟩
def jI(P:Program)(f:FuncId)(args:List Value)(own:List Sg)(kn:Cells):Option JS:=match P.funcs[f]? with
 |some fn=>match fn.body with
  |some c=>bif Nat.ble args.length fn.ntmps then some ⟨.code c [],fO 0 args,own,⟨kn,[]⟩⟩ else none
  |none=>none
 |none=>none
theorem avV{hm:P.follows .mixedOrders=true}(own:List Sg)(kn:Cells)(hk:Knows ro kn)(h:J (X0 P hm f ro R) (jI P f args own kn)):Fn (CP P) P f ⟨args⟩ ⟨ro,den own⟩ R:=by
 unfold jI at h
 split at h<;>try exact h.elim
 rename_i fn hf
 split at h<;>try exact h.elim
 rename_i c hc
 cases hl:Nat.ble args.length fn.ntmps with
 |false=>rw[hl] at h;exact h.elim
 |true=>
  rw[hl] at h
  have u9:qW P f=fn:=by simp only[qW,hf]
  have:=h hk
  simp only[JP,X0,KQ,u9] at this
  exact S9 eP hf hc rfl hl this
theorem bG(hm:P.follows .mixedOrders=true){L:Cells}(own:List Sg)(kn:Cells)(hk:Knows ro kn)(h:J (X0 P hm f ro (RX ro Φ)) (jI P f args own kn))(hL:den own=L:=by rfl):eg P f args ro L Φ:=by
 subst hL;exact avV own kn hk h
def CC(P:Program)(n:Nat)(e:Env)(w:List Sg)(kn:Cells):List Nat→List ResultVar→Option (List Value×List (Nat×Nat))
 |_,[]=>some ([],[])
 |hs,.tmp t::rs=>match bu n e (.tmp t) with
  |some v=>match CC P n e w kn hs rs with
   |some (vs,q)=>some (v::vs,q)
   |none=>none
  |none=>none
 |h::hs,.cell t T::rs=>match bu n e (.tmp t) with
  |some (.pointer (some ⟨b,off,none⟩))=>match B5 w kn h with
   |some (b',l)=>match ldv P T l off with
    |some v=>match CC P n e w kn hs rs with
     |some (vs,q)=>some (v::vs,(b',b)::q)
     |none=>none
    |none=>none
   |none=>none
  |_=>none
 | [],.cell _ _::_=>none
def iy(P:Program)(n:Nat)(f:FuncId)(hs:List Nat):Option JS→Option (Value×List (Nat×Nat))
 |some ⟨.fin _,e,w,kn⟩=>match CC P n e w kn.c hs (qW P f).results.toList with
  |some (vs,q)=>some (u5 vs,q)
  |none=>none
 |_=>none
def rB:Option (Value×List (Nat×Nat))→Option Value
 |some (v,_)=>some v
 |none=>none
def Qk:Option (Value×List (Nat×Nat))→List Nat
 |some (_,q)=>WU q
 |none=>[0]
def Qj:Option (Value×List (Nat×Nat))→List Nat
 |some (_,q)=>UH q
 |none=>[1]
theorem uf{w:List Sg}{kn:Cells}(bY:Knows X.ro kn):∀ {hs:List Nat} {rs:List ResultVar} {vs:List Value} {q:List (Nat×Nat)},CC X.P X.n e w kn hs rs=some (vs,q)→(∀p∈q,p.1=p.2)→FC X.P ⟨X.ro,den w⟩ X.n e rs vs
 |_,[],vs,q,h,_=>by simp only[CC,Option.some.injEq,Prod.mk.injEq] at h;obtain⟨rfl,rfl⟩:=h;exact .nil
 |hs,.tmp t::rs,vs,q,h,hq=>by
  simp only[CC] at h
  split at h<;>try (cases h;done)
  rename_i v hv
  split at h<;>try (cases h;done)
  rename_i oJ q' hr
  simp only[Option.some.injEq,Prod.mk.injEq] at h;obtain⟨rfl,rfl⟩:=h
  exact .tmp hv (uf bY hr hq)
 | [],.cell _ _::_,vs,q,h,_=>by simp only[CC] at h;cases h
 |h0::hs,.cell t T::rs,vs,q,h,hq=>by
  simp only[CC] at h
  split at h<;>try (cases h;done)
  rename_i b off hv
  split at h<;>try (cases h;done)
  rename_i b' l hc
  split at h<;>try (cases h;done)
  rename_i v hld
  split at h<;>try (cases h;done)
  rename_i oJ q' hr
  simp only[Option.some.injEq,Prod.mk.injEq] at h;obtain⟨rfl,rfl⟩:=h
  have hb:b'=b:=hq _ List.mem_cons_self
  subst hb
  obtain⟨t',fz,hh⟩:=Az (X:=X) bY hc
  have ih:=uf bY hr fun p hp=>hq p (List.mem_cons_of_mem _ hp)
  unfold ldv at hld
  split at hld<;>try (cases hld;done)
  rename_i ti dQ
  obtain⟨bE,tf⟩:=aw dQ
  cases ha:ti.agg with
  |true=>
   rw[ha] at hld tf;simp only[cond_true] at hld
   split at hld<;>try (cases hld;done)
   rename_i vs2 Fg
   cases hld
   exact .agg tf hv ⟨_,_,_,hh,Fg⟩ ih
  |false=>
   rw[ha] at hld tf;simp only[cond_false] at hld
   exact .cell tf hv ⟨_,_,_,hh,hld⟩ ih
def Ar:Option JS→Bool
 |some ⟨.fin .ret,_,_,_⟩=>true
 |some ⟨.fin .normal,_,_,_⟩=>true
 |_=>false
theorem tL{o:Option JS}(h:Ar o=true):∃ex e w kn,o=some ⟨.fin ex,e,w,kn⟩∧(ex= .ret∨ex= .normal):=by
 unfold Ar at h
 split at h
 ·exact⟨_,_,_,_,rfl,.inl rfl⟩
 ·exact⟨_,_,_,_,rfl,.inr rfl⟩
 cases h
def agD:Option JS→Bool
 |some ⟨.ops ..,_,_,_⟩=>true
 |some ⟨.code ..,_,_,_⟩=>true
 |_=>false
structure QR(X:Cx)(R:Ending→St→Prop):Prop where
 q:X.Q=r5 X.P (qW X.P X.fn) R
 d:X.D=[]
theorem q0{hm:P.follows .mixedOrders=true}:QR (X0 P hm f ro R) R:=⟨rfl,rfl⟩
theorem QR.a(h:QR X R):QR (X.at ro) R:=⟨h.q,h.d⟩
theorem bp:Knows ro []:=fun _ h=>by cases h
section
variable {X:Cx} {o:Option JS}
theorem aO{pW:Nat→Option Obj}(hq:QR X R)(v:Value)(hs ps:List Nat)(Y:Cells)(fD:Sub pW X.ro)(hR:R (.returned v) ⟨pW,Y⟩)(h1:rB (iy X.P X.n X.fn hs o)=some v:=by kernel_rfl)(h2:Qk (iy X.P X.n X.fn hs o)=Qj (iy X.P X.n X.fn hs o):=by kernel_rfl)(h3:dS ps o=some Y:=by kernel_rfl)(h4:Ar o=true:=by kernel_rfl):J X o:=by
 obtain⟨ex,e,w,kn,rfl,hex⟩:=tL h4
 simp only[iy] at h1 h2
 cases hr:CC X.P X.n e w kn.c hs (qW X.P X.fn).results.toList with
 |none=>rw[hr] at h1;cases h1
 |some x=>
  rcases x with ⟨vs,q⟩
  simp only[hr,rB,Option.some.injEq,Qk,Qj] at h1 h2
  intro bY
  have sN:=uf bY hr (mv h2)
  have hp:=bN h3
  show X.Q ex (A X.n e X.D) ⟨X.ro,den w⟩
  rw[hq.q,hq.d]
  exact Q3 (s0:=⟨pW,Y⟩) hex sN h1 (dP hp fD) hR
def xK(X:Cx)(K:Act→St→Prop)(ef:ι→Env)(wf:ι→List Sg)(Inv:ι→Prop)(μ:ι→Nat)(m:Nat):Prop:=
 ∀j,Inv j→μ j <m→∀(e:Env) (s:St),kU e (ef j)→(⟨X.ro,den (wf j)⟩:St).le s→K (A X.n e X.D) s
def yE:List Nat→List (Act→St→Prop)→Code→List KI→Option (Code×List KI)
 | [],_,c,k=>some (c,k)
 |0::p,Ks,.seq a b,k=>yE p Ks a (.seq b::k)
 |1::p,Ks,.seq _ b,k=>yE p Ks b k
 |2::p,K::Ks,.seq a _,k=>yE p Ks a (.next K::k)
 |_::p,Ks,.block id c,k=>yE p Ks c (.block id::k)
 |_::p,Ks,.scope c,k=>yE p Ks c k
 |0::p,Ks,.cond _ a _,k=>yE p Ks a k
 |_::p,Ks,.cond _ _ b,k=>yE p Ks b k
 |_::p,K::Ks,.loop c,k=>yE p Ks c (.next K::k)
 |_::p,Ks,.rangeFunc _ _ _ b,_=>yE p Ks b []
 |_,_,_,_=>none
def KV(P:Program)(f:FuncId)(p:List Nat)(Ks:List (Act→St→Prop)):Option (Code×List KI):=match (qW P f).body with
 |some c=>yE p Ks c []
 |none=>none
def stC(e:Env)(w:List Sg):Option (Code×List KI)→Option JS
 |some (c,k)=>some ⟨.code c k,e,w,⟨[],[]⟩⟩
 |none=>none
def stW(P:Program)(f:FuncId)(p:List Nat)(Ks:List (Act→St→Prop))(e:Env)(w:List Sg):Option JS:=stC e w (KV P f p Ks)
def yT:Option JS→Option (Code×List KI)
 |some ⟨.code c k,_,_,_⟩=>some (c,k)
 |_=>none
def lpB(K:Act→St→Prop):Option (Code×List KI)→Option (Code×List KI)
 |some (.loop c,k)=>some (c,.next K::k)
 |_=>none
theorem dV(p:List Nat)(Ks:List (Act→St→Prop))(ef:ι→Env)(wf:ι→List Sg)(Inv:ι→Prop)(μ:ι→Nat)(i0:ι)(h0:Inv i0)(ps:List Nat)(hb:∀i,Inv i→∀K,xK X K ef wf Inv μ (μ i)→∀rest,J X (stW X.P X.fn p (Ks++[K]) (ef i++rest) (wf i)))
 (h1:rP (nE (ef i0)) o=some (ef i0):=by kernel_rfl)(hd:∀i,lkE (nE (ef i)) (ef i)=some (ef i):=by intro _;kernel_rfl)(h2:rJ ps o=some (wf i0):=by kernel_rfl)(hp:∀K,KV X.P X.fn p (Ks++[K])=lpB K (yT o):=by intro _;kernel_rfl):J X o:=by
 have hT:∀i,xK X (fun _ _=>True) ef wf Inv μ (μ i):=fun _ _ _ _ _ _ _ _=>trivial
 have bad:∀(K:Act→St→Prop),lpB K (yT o)=none→(∀i,xK X K ef wf Inv μ (μ i))→J X o:=fun K h hK=>by
  have:=hb i0 h0 K (hK i0) []
  simp only[stW,hp,h,stC] at this
  exact this.elim
 cases o with
 |none=>exact bad _ rfl hT
 |some s=>
  rcases s with ⟨q,e,w,kn⟩
  cases q with
  |code c k=>
   cases c with
   |loop c=>
    intro bY
    refine adX X.hC ef (fun i=>⟨X.ro,den (wf i)⟩) Inv μ i0 h0 (kP (by rw[tC] at h1;exact h1)) (kP (hd i0)) (dP (lS h2) (Sub.refl _)) fun i hi rest=>?_
    have:=hb i hi _ (fun j hj hm e s hc hle=>anM j hj hm hc (kP (hd j)) hle) rest
    simp only[stW,hp,yT,lpB,stC] at this
    exact this fun _ h=>(List.not_mem_nil h).elim
   |_=>exact bad _ rfl hT
  |_=>exact bad _ rfl hT
def abH:Option JS→Option (Act→St→Prop)
 |some ⟨.nxt K,_,_,_⟩=>some K
 |_=>none
theorem bA{K:Act→St→Prop}{ef:ι→Env}{wf:ι→List Sg}{Inv:ι→Prop}{μ:ι→Nat}{m:Nat}(hK:xK X1 K ef wf Inv μ m)(j:ι)(h:Inv j)(hm:μ j <m)(ps:List Nat)(hs:Sub X1.ro X.ro)
 (h0:abH o=some K:=by kernel_rfl)(h1:rP (nE (ef j)) o=some (ef j):=by kernel_rfl)(h2:rJ ps o=some (wf j):=by kernel_rfl)(hn:X1.n=X.n:=by rfl)(hD:X1.D=X.D:=by rfl):J X o:=by
 unfold abH at h0
 split at h0<;>try (cases h0;done)
 rename_i K' e w kn
 cases h0
 intro _
 rw[tC] at h1
 have:=hK j h hm e ⟨X.ro,den w⟩ (kP h1) (dP (lS h2) hs)
 rw[hn,hD] at this
 exact this
def gS:List (List Nat)→List Sg→Option (List Cells)
 | [],_=>some []
 |p::r,w=>match Ri p w with
  |some x=>match gS r w with
   |some y=>some (den x::y)
   |none=>none
  |none=>none
def gO(ps:List (List Nat)):Option JS→Option (List Cells)
 |some s=>bif Hh ps.flatten then gS ps s.rw else none
 |none=>none
def aa9:List Sg→List Cells
 | []=>[]
 |x::w=>den [x]::aa9 w
theorem GN:∀(w:List Sg),(aa9 w).flatten=den w
 | []=>rfl
 | .b i o::w=>by simp[aa9,iK,GN w];rfl
 | .l L::w=>by simp[aa9,gA,GN w];rfl
theorem YJ:∀ {a b:List Nat} {w x y:List Sg},Ri a w=some x→Ri b w=some y→Ri (a++b) w=some (x++y)
 | [],b,w,x,y,h,h2=>by simp only[Ri,Option.some.injEq] at h;subst h;exact h2
 |i::a,b,w,x,y,h,h2=>by
  simp only[Ri] at h
  split at h<;>try (cases h;done)
  rename_i z hz
  split at h<;>try (cases h;done)
  rename_i r hr
  cases h
  simp only[List.cons_append,Ri,hz,YJ hr h2]
theorem asl:∀ {ps:List (List Nat)} {w:List Sg} {l:List Cells},gS ps w=some l→∃z,Ri ps.flatten w=some z∧den z=l.flatten
 | [],w,l,h=>by simp only[gS,Option.some.injEq] at h;subst h;exact⟨[],rfl,rfl⟩
 |p::r,w,l,h=>by
  simp only[gS] at h
  split at h<;>try (cases h;done)
  rename_i x hx
  split at h<;>try (cases h;done)
  rename_i y hy
  cases h
  obtain⟨z,h1,h2⟩:=asl hy
  exact⟨x++z,by simpa using YJ hx h1,by simp[lJ,h2]⟩
theorem Ki{K:Act→St→Prop}{ef:ι→Env}{wf:ι→List Sg}{Inv:ι→Prop}{μ:ι→Nat}{m:Nat}(hK:xK X1 K ef wf Inv μ m)(j:ι)(h:Inv j)(hm:μ j <m)(ps:List (List Nat))(hs:Sub X1.ro X.ro)
 (h0:abH o=some K:=by kernel_rfl)(h1:rP (nE (ef j)) o=some (ef j):=by kernel_rfl)(h2:gO ps o=some (aa9 (wf j)):=by kernel_rfl)(hn:X1.n=X.n:=by rfl)(hD:X1.D=X.D:=by rfl):J X o:=by
 unfold abH at h0
 split at h0<;>try (cases h0;done)
 rename_i K' e w kn
 cases h0
 intro _
 rw[tC] at h1
 have hp:(den w).Perm (den (wf j)++den (dI ps.flatten 0 w)):=by
  simp only[gO] at h2
  cases ho:Hh ps.flatten with
  |false=>rw[ho] at h2;cases h2
  |true=>
   rw[ho] at h2
   obtain⟨z,h3,h4⟩:=asl h2
   rw[GN] at h4
   rw[←h4]
   exact xU h3 ho
 have:=hK j h hm e ⟨X.ro,den w⟩ (kP h1) (dP hp hs)
 rw[hn,hD] at this
 exact this
def aIU:Option (Code×List KI)→Option (Code×List KI)
 |some (_,.seq y::k)=>some (y,k)
 |_=>none
def azl(K:Act→St→Prop):Option JS→Option JS
 |some ⟨.code x (.seq _::k),e,w,kn⟩=>some ⟨.code x (.next K::k),e,w,kn⟩
 |_=>none
theorem yK(p:List Nat)(Ks:List (Act→St→Prop))(ef:ι→Env)(wf:ι→List Sg)(Inv:ι→Prop)(hj:∀i,Inv i→∀rest,J X (stW X.P X.fn p Ks (ef i++rest) (wf i)))(h:∀K,xK X K ef wf Inv (fun _=>0) 1→J X (azl K o))(hd:∀i,lkE (nE (ef i)) (ef i)=some (ef i):=by intro _;kernel_rfl)(hp:KV X.P X.fn p Ks=aIU (yT o):=by kernel_rfl):J X o:=by
 unfold azl at h
 split at h
 ·rename_i x y k e w kn
  intro bY
  refine h (fun a s=>Wp X.C X.fn X.aA y (KQ X k) a s) (fun j hI _ e s hc hle=>?_) bY
  obtain⟨r,hr⟩:=fY (n:=X.n) (D:=X.D) hc (kP (hd j))
  rw[hr]
  have:=hj j hI r
  simp only[stW,hp,yT,aIU,stC] at this
  exact(this fun _ h=>(List.not_mem_nil h).elim).more X.hC hle
 exact(h (fun _ _=>True) fun _ _ _ _ _ _ _=>trivial).elim
def expand:Cells→List Sg
 | []=>[]
 |x::l=> .b x.1 x.2::expand l
def W8:Nat→List Sg→List Sg
 |_,[]=>[]
 |0,.l L::w=>expand L++w
 |0,x::w=>x::w
 |i+1,x::w=>x::W8 i w
theorem XL{w w':List Sg}{p:Pos}(h:den w'=den w)(hj:JP X kn e w' p):JP X kn e w p:=by
 cases p<;>simp only[JP,h] at hj ⊢ <;>exact hj
def aH3(i:Nat):Option JS→Option JS
 |some s=>some {s with rw:=W8 i s.rw}
 |none=>none
def aaw:List Sg→Cells
 | []=>[]
 | .b i o::w=>(i,o)::aaw w
 | .l _::w=>aaw w
theorem yf:∀ {w:List Sg} {x:Nat×Obj},x∈aaw w→x∈den w
 | .b i o::w,x,h=>by
  rw[iK]
  rcases List.mem_cons.1 h with rfl|h
  ·exact List.mem_cons_self
  exact List.mem_cons_of_mem _ (yf h)
 | .l L::w,x,h=>by rw[gA];exact List.mem_append_right _ (yf (w:=w) h)
def apB(ps:List Nat):Option JS→Option JS
 |some s=>match Ri ps s.rw with
  |some w=>some {s with rw:=dI ps 0 s.rw,kn:=⟨aaw w++s.kn.c,s.kn.nd⟩}
  |none=>none
 |none=>none
theorem Jx:∀(k:List KI),KQ (X.at aJ) k=KQ X k
 | []=>rfl
 | .seq _::k=>by simp only[KQ,Jx k];rfl
 | .block _::k=>by simp only[KQ,Jx k]
 | .next _::k=>by simp only[KQ,Jx k]
theorem jf(ps:List Nat)(L:Cells)(h:∀aJ,Sub X.ro aJ→Knows aJ L→J (X.at aJ) (apB ps o))(h2:dS ps o=some L:=by kernel_rfl)(hp:agD o=true:=by kernel_rfl):J X o:=by
 have hpk:∀ {s:JS},dS ps (some s)=some L→∃w,Ri ps s.rw=some w∧den w=L:=by
  intro s hs
  simp only[dS,rJ] at hs
  cases hk:Hh ps with
  |false=>rw[hk] at hs;cases hs
  |true=>
   rw[hk] at hs;simp only[cond_true] at hs
   split at hs<;>try (cases hs;done)
   rename_i w hw
   cases hs
   exact⟨w,hw,rfl⟩
 unfold agD at hp
 split at hp
 ·rename_i ops todo k e w kn
  intro bY
  obtain⟨w1,hw1,rfl⟩:=hpk h2
  refine Vf X.hC (bN h2) fun aJ hs hk=>?_
  have:=h aJ hs hk
  simp only[apB,hw1] at this
  have:=this (fun x hx=>(List.mem_append.1 hx).elim (fun hx=>hk x (yf hx)) fun hx=>hs _ _ (bY x hx))
  simp only[JP,Jx] at this
  exact this
 ·rename_i c k e w kn
  intro bY
  obtain⟨w1,hw1,rfl⟩:=hpk h2
  refine aaQ X.hC (bN h2) fun aJ hs hk=>?_
  have:=h aJ hs hk
  simp only[apB,hw1] at this
  have:=this (fun x hx=>(List.mem_append.1 hx).elim (fun hx=>hk x (yf hx)) fun hx=>hs _ _ (bY x hx))
  simp only[JP,Jx] at this
  exact this
 cases hp
def geO:Option JS→Option JS
 |some s=>some {s with rw:= .l []::s.rw}
 |none=>none
theorem nY(h:J X (geO o)):J X o:=by
 cases o with
 |none=>exact h
 |some s=>exact fun bY=>XL (by simp[gA]) (h bY)
def sgS:Nat→List Sg→List Sg→List Sg
 |_,_,[]=>[]
 |0,l,_::w=>l++w
 |i+1,l,x::w=>x::sgS i l w
theorem Yq{l:List Sg}:∀ {i:Nat} {w:List Sg} {x:Sg},zt w i=some x→den [x]=den l→den (sgS i l w)=den w
 |_,[],_,h,_=>by cases h
 |0,y::w,x,h,hd=>by
  simp only[zt,Option.some.injEq] at h;subst h
  have:den (y::w)=den [y]++den w:=by rw[←lJ];rfl
  rw[this,hd,←lJ];rfl
 |i+1,y::w,x,h,hd=>by
  have:=Yq (w:=w) (i:=i) h hd
  cases y<;>simp[sgS,iK,gA,this]
def sgO(i:Nat)(l:List Sg):Option JS→Option JS
 |some s=>some {s with rw:=sgS i l s.rw}
 |none=>none
theorem jg(i:Nat)(l:List Sg)(h:J X (sgO i l o))(h2:dS [i] o=some (den l):=by kernel_rfl):J X o:=by
 cases o with
 |none=>exact h
 |some s=>
  have hn:∃x,zt s.rw i=some x∧den [x]=den l:=by
   simp only[dS,rJ,Hh,bh,Ri,Bool.not_false,Bool.true_and,cond_true] at h2
   cases hx:zt s.rw i with
   |none=>rw[hx] at h2;cases h2
   |some x=>rw[hx] at h2;simp only[Option.some.injEq] at h2;exact⟨x,rfl,h2⟩
  obtain⟨x,hx,hd⟩:=hn
  exact fun bY=>XL (Yq hx hd) (h bY)
theorem jmw(i:Nat)(l:List Sg){L:Cells}(h:L=den l)(hj:J X (sgO i l o))(h2:dS [i] o=some L:=by kernel_rfl):J X o:=by
 subst h;exact jg i l hj h2
end
def Cx.wd(X:Cx)(D:List Deferred):Cx:={X with D:=D}
theorem TX{D:List Deferred}:∀(k:List KI),KQ (X.wd D) k=KQ X k
 | []=>rfl
 | .seq _::k=>by simp only[KQ,TX k];rfl
 | .block _::k=>by simp only[KQ,TX k]
 | .next _::k=>by simp only[KQ,TX k]
def Ga(X:Cx)(K:Act→St→Prop)(ef:ι→Env)(wf:ι→List Sg)(df:ι→List Deferred)(Inv:ι→Prop)(μ:ι→Nat)(m:Nat):Prop:=
 ∀j,Inv j→μ j <m→∀(e:Env) (s:St),kU e (ef j)→(⟨X.ro,den (wf j)⟩:St).le s→K (A X.n e (df j)) s
section
variable {X:Cx} {o:Option JS}
theorem adY{C:Class}{fn:FuncId}{aA:Option Nat}{Q:Post}{env:Env}(hC:∀main T,C main T→Closed X.P main T)(p9:ι→Env)(sf:ι→St)(df:ι→List Deferred)(Inv:ι→Prop)(μ:ι→Nat){c:Code}(i0:ι)(h0:Inv i0)(hc:kU env (p9 i0))(hd:∀i,kU (p9 i) (p9 i))(hs:(sf i0).le s)
 (round:∀i,Inv i→∀rest,Wp C fn aA c (mf (fun a s=>∃j,Inv j∧μ j <μ i∧(∃e,kU e (p9 j)∧a=A n e (df j))∧(sf j).le s) Q) (A n (p9 i++rest) (df i)) (sf i)):Wp C fn aA (.loop c) Q (A n env (df i0)) s:=by
 obtain⟨r0,vJ⟩:=fY (n:=n) (D:=df i0) hc (hd i0)
 rw[vJ]
 intro main T hT b k cs h1 h2 h3 h4
 have key:∀m i rest s,μ i=m→Inv i→(sf i).le s→T (G (aM b (A n (p9 i++rest) (df i)) (.code c:: .inLoop c::k)) cs) s:=by
  intro m
  induction m using Nat.strongRecOn with
  |_ m ih=>
   intro i rest s hm hI hle
   refine(hC main T hT).mono _ _ _ hle ?_
   refine round i hI rest main T hT b (.inLoop c::k) cs h1 h2 h3 fun e a' s' q=>?_
   cases e with
   |normal=>
    obtain⟨j,Ao,cP,⟨e,he,rfl⟩,yA⟩:=q
    obtain⟨afa,hr⟩:=fY (n:=n) (D:=df j) he (hd j)
    rw[hr]
    exact(hC main T hT).go rfl rfl (g':=G (aM b _ (.code c:: .inLoop c::k)) cs) (fun w=>by simp[G,stepG,stepG.exec,aM]) (ih _ (hm▸cP) j afa s' rfl Ao yA)
   |exit id=>exact(h4 _ _ _ q).push rfl (by simp)
   |ret=>exact(h4 _ _ _ q).push (x:= .inLoop c) rfl (by simp)
   |panic ch=>exact(h4 _ _ _ q).push (x:= .inLoop c) rfl (by simp)
   |goto l=>exact(h4 _ _ _ q).elim
   |outgrown=>exact(h4 _ _ _ q).elim
 exact(hC main T hT).go rfl rfl (g':=G (aM b (A n (p9 i0++r0) (df i0)) (.code c:: .inLoop c::k)) cs) (fun w=>by simp[G,stepG,stepG.exec,aM]) (key _ i0 r0 s rfl h0 hs)
theorem aES(p:List Nat)(Ks:List (Act→St→Prop))(ef:ι→Env)(wf:ι→List Sg)(df:ι→List Deferred)(Inv:ι→Prop)(μ:ι→Nat)(i0:ι)(h0:Inv i0)(ps:List Nat)(hb:∀i,Inv i→∀K,Ga X K ef wf df Inv μ (μ i)→∀rest,J (X.wd (df i)) (stW X.P X.fn p (Ks++[K]) (ef i++rest) (wf i)))
 (h1:rP (nE (ef i0)) o=some (ef i0):=by kernel_rfl)(hd:∀i,lkE (nE (ef i)) (ef i)=some (ef i):=by intro _;kernel_rfl)(h2:rJ ps o=some (wf i0):=by kernel_rfl)(hp:∀K,KV X.P X.fn p (Ks++[K])=lpB K (yT o):=by intro _;kernel_rfl)(hD:X.D=df i0:=by rfl):J X o:=by
 have hT:∀i,Ga X (fun _ _=>True) ef wf df Inv μ (μ i):=fun _ _ _ _ _ _ _ _=>trivial
 have bad:∀(K:Act→St→Prop),lpB K (yT o)=none→(∀i,Ga X K ef wf df Inv μ (μ i))→J X o:=fun K h hK=>by
  have:=hb i0 h0 K (hK i0) []
  simp only[stW,hp,h,stC] at this
  exact this.elim
 cases o with
 |none=>exact bad _ rfl hT
 |some s=>
  rcases s with ⟨q,e,w,kn⟩
  cases q with
  |code c k=>
   cases c with
   |loop c=>
    intro bY
    show Wp X.C X.fn X.aA (.loop c) (KQ X k) (A X.n e X.D) ⟨X.ro,den w⟩
    rw[hD]
    refine adY (X:=X) X.hC ef (fun i=>(⟨X.ro,den (wf i)⟩:St)) df Inv μ i0 h0 (kP (by rw[tC] at h1;exact h1)) (fun i=>kP (hd i)) (dP (lS h2) (Sub.refl _)) fun i hi rest=>?_
    have:=hb i hi (fun a s=>∃j,Inv j∧μ j <μ i∧(∃e,kU e (ef j)∧a=A X.n e (df j))∧(⟨X.ro,den (wf j)⟩:St).le s) (fun j hj hm e s hc hle=>⟨j,hj,hm,⟨e,hc,rfl⟩,hle⟩) rest
    simp only[stW,hp,yT,lpB,stC] at this
    have:=this fun _ h=>(List.not_mem_nil h).elim
    simp only[JP,KQ,TX] at this
    exact this
   |_=>exact bad _ rfl hT
  |_=>exact bad _ rfl hT
theorem jnD{K:Act→St→Prop}{ef:ι→Env}{wf:ι→List Sg}{df:ι→List Deferred}{Inv:ι→Prop}{μ:ι→Nat}{m:Nat}(hK:Ga X1 K ef wf df Inv μ m)(j:ι)(h:Inv j)(hm:μ j <m)(ps:List (List Nat))(hs:Sub X1.ro X.ro)
 (h0:abH o=some K:=by kernel_rfl)(h1:rP (nE (ef j)) o=some (ef j):=by kernel_rfl)(h2:gO ps o=some (aa9 (wf j)):=by kernel_rfl)(hn:X1.n=X.n:=by rfl)(hD:X.D=df j:=by rfl):J X o:=by
 have hK':xK (X1.wd (df j)) K ef wf (fun i=>i=j) μ m:=fun i hi hm e s hc hle=>by subst hi;exact hK _ h hm e s hc hle
 exact Ki hK' j rfl hm ps hs h0 h1 h2 hn hD.symm
end
attribute [irreducible] gO geO qW jI azl stW yT KV aH3 apB sgO Ar agD iy Qk Qj rB abH
end Go.L
