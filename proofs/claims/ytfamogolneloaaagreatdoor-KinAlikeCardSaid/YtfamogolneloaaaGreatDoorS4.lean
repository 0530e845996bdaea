/- Part 4 of the proof. -/
import Derived.Test.YtfamogolneloaaaGreatDoorS3
import Derived.KernelRfl
import GoSem.Extern.Table
set_option maxRecDepth 100000
set_option linter.all false
namespace Go.L
open Go Go.Conc
variable {x y:Operand} {α ι β:Type} {T E T' T2 U:TypeId} {e:Env} {b:ByteArray} {sz n k off i szo iH vv cap id:Nat} {l vs args z':List Value} {P:Program} {f:FuncId} {R:Ending→St→Prop} {Φ:Value→Cells→Prop} {todo ps nF hs:List Nat} {s:St} {p o:Oper} {aK:Nat→Option Obj} {fz:Nat×Nat} {xs:Array Operand} {at_:Array TypeId} {hi lo:Int} {Y B rw' fr:Cells} {g xq:Bool}
theorem cF.part{b o m:Nat}{ws:List Value}(h:cF s b o m vs)(j k:Nat)(hj:sub vs j k=some ws):cF s b (o+j) k ws:=by
 obtain⟨l,t,fz,h1,h2⟩:=h
 obtain⟨h3,h4⟩:=sub_eq _ _ _ _ h2
 obtain⟨h5,h6⟩:=sub_eq _ _ _ _ hj
 refine⟨l,t,fz,h1,?_⟩
 have hlen:(o+j)+k≤l.length:=by
  rcases Nat.eq_zero_or_pos k with h0|h0
  ·subst h0
   have:o+j≤l.length:=by
    have h7:sub vs j 0=some ws:=hj
    have hjl:j≤vs.length:=by
     have key:∀(l:List Value) (j:Nat) (ws:List Value),sub l j 0=some ws→j≤l.length:=by
      intro l
      induction l with
      |nil=>intro j ws h;cases j with
       |zero=>simp
       |succ j=>simp[sub] at h
      |cons x l ih=>intro j ws h;cases j with
       |zero=>simp
       |succ j=>have:=ih j ws (by simpa [sub] using h);simp;omega
     exact key _ _ _ h7
    have hol:o+m≤l.length∨m=0:=by
     rcases Nat.eq_zero_or_pos m with h8|h8
     ·exact .inr h8
     left
     have:=h4 (m-1) vs[m-1] (by rw[List.getElem?_eq_getElem])
     have:=(List.getElem?_eq_some_iff.1 this).1
     omega
    rcases hol with h9|h9
    ·omega
    have aQC:∀(l:List Value) (o:Nat) (ws:List Value),sub l o 0=some ws→o≤l.length:=by
     intro l
     induction l with
     |nil=>intro j ws h;cases j with
      |zero=>simp
      |succ j=>simp[sub] at h
     |cons x l ih=>intro j ws h;cases j with
      |zero=>simp
      |succ j=>have:=ih j ws (by simpa [sub] using h);simp;omega
    rw[h9] at h2
    have:=aQC _ _ _ h2
    omega
   omega
  have:=h6 (k-1) ws[k-1] (by rw[List.getElem?_eq_getElem])
  have:=h4 _ _ this
  have:=(List.getElem?_eq_some_iff.1 this).1
  omega
 rw[jh hlen]
 congr 1
 apply List.ext_getElem?
 intro i
 by_cases hi:i <k
 ·have h7:=h4 _ _ (h6 i ws[i] (by rw[List.getElem?_eq_getElem]))
  rw[List.getElem?_take_of_lt hi,List.getElem?_drop,List.getElem?_eq_getElem (show i <ws.length by omega),←h7,Nat.add_assoc]
 rw[List.getElem?_eq_none (by simp;omega),List.getElem?_eq_none (by omega)]
def Gy(ag:Bool)(l:List Value)(o sz:Nat):Option Value:=bif ag then (match sub l o sz with|some m=>some (.agg ⟨m⟩)|none=>none) else nth l o
theorem Ww{t:TypeId}{z:List Value}{d:TypeDesc}{bD:Nat}{ag:Bool}(tf:TF P t d sz bD z ag){o:Nat}{v:Value}(hv:Gy ag l o sz=some v){k:Value→Sem α}{Q:α→St→Prop}{E:Halt→St→Prop}:bR P (part t ⟨l⟩ o >>= k) s Q E=bR P (k v) s Q E:=by
 cases ag with
 |false=>exact Mt tf hv
 |true=>
  simp only[Gy,cond_true] at hv
  split at hv
  ·rename_i m hm
   cases hv
   exact Ms tf hm
  cases hv
section rules
variable {P:Program} {C:Class} {fn:FuncId} {aB:Option Nat} {Q:Post} {s:St} {n:Nat} {env:Env} {D:List Deferred}
variable {ops:Array Oper} {i:Nat} {rest:List Nat} {dst:Option Tmp} {ty:TypeId} {pos:String} {db:Array Edge} {g:Option (Nat×Bool)}
variable {T:TypeId} {d:TypeDesc} {sz bD:Nat} {z:List Value} {ag:Bool}
theorem aer(hC:∀main T,C main T→Closed P main T){k:IntKind}{ix:Int}{len:Nat}{d':TypeDesc}{v:Value}(ho:ops[i]?=some ⟨dst,.index T x y,ty,pos,db,g⟩) (hw:ay ops n env g=true)
 (tf:TF P T (.array len E) sz bD z ag) (j7:TF P E d' iH vv z' xq) (hx:bp n env x=some (.agg ⟨l⟩)) (hy:bp n env y=some (.int k ix)) (hi:0≤ix∧ix <len) (hv:Gy xq l (ix.toNat*iH) iH=some v)
 (h:ab C fn aB ops rest Q (A n (upd dst v env) D) s):ab C fn aB ops (i::rest) Q (A n env D) s:=by
 refine bV hC ho hw (by simp) ?_
 simp only[execOp,Instr.index,aG hx,aG hy,asIntOf,asAgg,aa,ae,a8 tf,hi,and_self,if_true,cv j7]
 rw[Ww j7 hv,←aY] at*
 exact h
end rules
section rules
variable {P:Program} {C:Class} {fn:FuncId} {aB:Option Nat} {Q:Post} {s:St} {n:Nat} {env:Env} {D:List Deferred}
variable {ops:Array Oper} {i:Nat} {rest:List Nat} {dst:Option Tmp} {ty:TypeId} {pos:String} {db:Array Edge} {g:Option (Nat×Bool)}
theorem wr(hC:∀main T,C main T→Closed P main T){l:List Nat}(hl:List.range ops.size=l)(h:ab C fn aB ops l Q (A n env D) s):Wp C fn aB (.region id ops false) Q (A n env D) s:=wp_region hC (hl▸h)
theorem on(hC:∀main T,C main T→Closed P main T){K:Act→St→Prop}(h:K (A n env D) s):ab C fn aB ops [] (mj K Q) (A n env D) s:=uh hC h
end rules
theorem c:∀main T,CP P main T→Closed P main T:=fq
def aT(k:IntKind)(a b:Int):Int:=a.fdiv (2^(min b.toNat k.bits))
def dJ(k:IntKind)(a b:Int):Int:=k.wrap (a*2^(min b.toNat k.bits))
def Uo(k:IntKind)(a b:Int):Int:=k.wrap (BitVec.ofInt k.bits a&&& BitVec.ofInt k.bits b).toNat
def La(k:IntKind)(a b:Int):Int:=k.wrap (BitVec.ofInt k.bits a|||BitVec.ofInt k.bits b).toNat
def da(k:IntKind)(a b:Int):Int:=k.wrap (BitVec.ofInt k.bits a^^^BitVec.ofInt k.bits b).toNat
theorem OS(k:IntKind)(h:k.signed=false)(n:Int):0≤k.wrap n∧k.wrap n <2^k.bits:=by
 have hp:(0:Int) <2^k.bits:=Int.pow_pos (by decide)
 simp only[IntKind.wrap,h,Bool.false_and,Bool.false_eq_true,if_false]
 exact⟨Int.emod_nonneg _ (by omega),Int.emod_lt_of_pos _ hp⟩
theorem sN(k:IntKind)(h:k.signed=false)(n:Int)(h0:0≤n)(h1:n <2^k.bits):k.wrap n=n:=by
 simp only[IntKind.wrap,h,Bool.false_and,Bool.false_eq_true,if_false]
 exact Int.emod_eq_of_lt h0 h1
theorem uw(a b:Int):0≤da .u64 a b∧da .u64 a b <18446744073709551616:=OS .u64 rfl _
theorem aQh{p0 p1 p2 p3 x:Int}(h: [p0,p1,p2,p3][k]?=some x):nth [.int .i64 p0,.int .i64 p1,.int .i64 p2,.int .i64 p3] k=some (.int .i64 x):=by
 rcases k with _|_|_|_|k
 all_goals first| (simp at h;subst h;rfl)|simp at h
theorem eV.azU{own:Cells}(hp:s.rw.Perm (own++fr))(hf:eV P f vs s.ro own Φ):
 Fn (CP P) P f ⟨vs⟩ s (fun en s'=>∃v X,en= .returned v∧Φ v X∧(⟨s.ro,X++fr⟩:St).le s'):=by
 refine Fn.mono (Fn.frame (fr:=fr) (B:=[]) (ro:=s.ro) (s:=s) hf (fun _ h=>(by cases h)) ⟨hp,fun b o hb=> .inl hb,Sub.refl _⟩) fun en s' Ef=>?_
 obtain⟨yQ,⟨v,X,rfl,rfl,qF⟩,hc⟩:=Ef
 exact⟨v,X,rfl,qF,[],by simpa using hc.rw,fun b o hb=> .inl (hc.keep b o hb)⟩
def Knows(ro:Nat→Option Obj)(X:Cells):Prop:=∀x∈X,ro x.1=some x.2
theorem Knows.up{ro:Nat→Option Obj}{X:Cells}(h:Knows ro X)(hs:Sub ro aK):Knows aK X:=fun x hx=>hs _ _ (h x hx)
theorem Knows.left{ro:Nat→Option Obj}{X:Cells}(h:Knows ro (X++Y)):Knows ro X:=fun x hx=>h x (List.mem_append_left _ hx)
theorem Knows.right{ro:Nat→Option Obj}{X:Cells}(h:Knows ro (X++Y)):Knows ro Y:=fun x hx=>h x (List.mem_append_right _ hx)
theorem Knows.tail{ro:Nat→Option Obj}{x:Nat×Obj}(h:Knows ro (x::Y)):Knows ro Y:=fun y hy=>h y (List.mem_cons_of_mem _ hy)
theorem Knows.head{ro:Nat→Option Obj}{x:Nat×Obj}(h:Knows ro (x::Y)):ro x.1=some x.2:=h x List.mem_cons_self
theorem xE{b:Nat}{enc:α→List Value}{ps:List α}(h:s.has b (.cells ⟨(ps.map enc).flatten⟩ T fz))(hl:∀p∈ps,(enc p).length=sz){x:α}(hx:ps[k]?=some x):cF s b (0+k*sz) sz (enc x):=by
 have h2:=De ps hl k x hx
 have hm:x∈ps:=List.mem_of_getElem? hx
 have h3:=hl x hm
 refine⟨_,T,fz,h,?_⟩
 rw[Nat.zero_add,jh,h2]
 rw[kF ps hl]
 have:=(List.getElem?_eq_some_iff.1 hx).1
 calc k*sz+sz=(k+1)*sz:=by rw[Nat.succ_mul]
  _≤ps.length*sz:=Nat.mul_le_mul_right _ (by omega)
theorem bF{ro:Nat→Option Obj}{b:Nat}{enc:α→List Value}(ps:List α)(h:ro b=some (.cells ⟨(ps.map enc).flatten⟩ T fz))(hl:∀p∈ps,(enc p).length=sz):bH ro (.slice (some ⟨b,0,none⟩) ps.length ps.length) sz enc ps:=
 ⟨_,b,0,_,rfl,Nat.le_refl _,fun _ _=>rfl,fun _ _ hx=>xE (.inl h) hl hx⟩
section rules
variable {P:Program} {C:Class} {fn:FuncId} {aB:Option Nat} {Q:Post} {s:St} {n:Nat} {env:Env} {D:List Deferred}
variable {ops:Array Oper} {i:Nat} {rest:List Nat} {dst:Option Tmp} {ty:TypeId} {pos:String} {db:Array Edge} {g:Option (Nat×Bool)}
variable {T:TypeId} {d:TypeDesc} {sz bD:Nat} {z:List Value} {ag:Bool}
theorem aBS(hC:∀main T,C main T→Closed P main T){k k':IntKind}{a b:Int}(ho:ops[i]?=some ⟨dst,.binOp .shr T x y T',ty,pos,db,g⟩) (hw:ay ops n env g=true)
 (hx:bp n env x=some (.int k a)) (hy:bp n env y=some (.int k' b)) (hb:0≤b) (h:ab C fn aB ops rest Q (A n (upd dst (.int k (aT k a b)) env) D) s):ab C fn aB ops (i::rest) Q (A n env D) s:=by
 refine tj hC ho hw (by simp) ?_ h
 simp only[execOp,aG hx,aG hy]
 have he:eqGuard .shr T x y (.int k a) (.int k' b)=Sem.pure ():=rfl
 have hv:binOp .shr T (.int k a) (.int k' b)=Sem.pure (.int k (aT k a b)):=by
  show Op.shift .shr k a k' b=_
  simp only[Op.shift,show ¬b <0 by omega,if_false];rfl
 rw[he]
 show Sem.bind (Sem.bind (Sem.pure ()) fun _=>binOp .shr T (.int k a) (.int k' b)) _=_
 simp only[Sem.bind,hv]
 rfl
theorem aBT(hC:∀main T,C main T→Closed P main T){k k':IntKind}{a b:Int}(ho:ops[i]?=some ⟨dst,.binOp .shl T x y T',ty,pos,db,g⟩) (hw:ay ops n env g=true)
 (hx:bp n env x=some (.int k a)) (hy:bp n env y=some (.int k' b)) (hb:0≤b) (h:ab C fn aB ops rest Q (A n (upd dst (.int k (dJ k a b)) env) D) s):ab C fn aB ops (i::rest) Q (A n env D) s:=by
 refine tj hC ho hw (by simp) ?_ h
 simp only[execOp,aG hx,aG hy]
 have he:eqGuard .shl T x y (.int k a) (.int k' b)=Sem.pure ():=rfl
 have hv:binOp .shl T (.int k a) (.int k' b)=Sem.pure (.int k (dJ k a b)):=by
  show Op.shift .shl k a k' b=_
  simp only[Op.shift,show ¬b <0 by omega,if_false];rfl
 rw[he]
 show Sem.bind (Sem.bind (Sem.pure ()) fun _=>binOp .shl T (.int k a) (.int k' b)) _=_
 simp only[Sem.bind,hv]
 rfl
end rules
theorem bN{b:Nat}{enc:α→List Value}(ps:List α)(h:s.has b (.cells ⟨(ps.map enc).flatten⟩ T fz))(hl:∀p∈ps,(enc p).length=sz):Sl s (.slice (some ⟨b,0,none⟩) ps.length cap) sz enc ps:=
 ⟨_,b,0,cap,rfl,fun _ _=>rfl,fun _ _ hx=>xE h hl hx⟩
theorem cR{b:Nat}{enc:α→List Value}:az (.slice (some ⟨b,0,none⟩) 0 0) sz T enc ([]:List α) [(b,.cells ⟨[]⟩ T (0,0))]:=
 .inr ⟨b,[],0,rfl,rfl,by simp,by simp,by simp,by simp⟩
theorem az.form{v:Value}{enc:α→List Value}{ps:List α}{L:Cells}(h:az v sz T enc ps L):∃a c,v= .slice a ps.length c:=by
 rcases h with ⟨h1,h2,_⟩| ⟨b,l,cap,h1,_⟩
 ·subst h2;exact⟨none,0,h1⟩
 exact⟨_,cap,h1⟩
def Ot(v:Value)(b:Nat):Prop:=∃n c,v= .slice (some ⟨b,0,none⟩) n c
theorem bU{v:Value}{enc:α→List Value}{ps:List α}{L:Cells}(h:az v sz T enc ps L){b:Nat}(hb:Ot v b)(hs:∀x∈L,s.has x.1 x.2){x:α}(hx:ps[k]?=some x):cF s b (k*sz) sz (enc x):=by
 obtain⟨a,b',o,c,h1,h2,h3⟩:=h.sl hs
 have hk:=(List.getElem?_eq_some_iff.1 hx).1
 have h4:=h2 k hk
 obtain⟨n,c',h5⟩:=hb
 rw[h1] at h5
 cases h5
 cases h4
 have:=h3 k x hx
 rwa[Nat.zero_add] at this
theorem aBN{v:Value}{enc:α→List Value}{ps:List α}{L:Cells}(h:az v sz T enc ps L)(hk:k <ps.length):∃b,Ot v b:=by
 rcases h with ⟨_,h2,_⟩| ⟨b,l,cap,h1,_⟩
 ·subst h2;simp at hk
 exact⟨b,_,_,h1⟩
theorem RI{enc:α→List Value}:∀(ps:List α),(∀p∈ps,(enc p).length=sz)→∀(k:Nat) (x:α),(enc x).length=sz→k <ps.length→∀l:List Value,l.take (ps.length*sz)=(ps.map enc).flatten→(dI l (k*sz) (enc x)).take (ps.length*sz)=((ps.set k x).map enc).flatten:=by
 intro ps UC k x hx hk l hl
 have hle:ps.length*sz≤l.length:=by
  have h1:=kF ps UC
  rw[←hl,List.length_take] at h1
  omega
 have hks:k*sz+sz≤ps.length*sz:=by
  have:(k+1)*sz≤ps.length*sz:=Nat.mul_le_mul_right _ (by omega)
  rw[Nat.succ_mul] at this;exact this
 have hA:((ps.take k).map enc).flatten.length=k*sz:=by
  rw[kF _ (fun p hp=>UC p (List.mem_of_mem_take hp)),List.length_take,Nat.min_eq_left (by omega)]
 have hC:((ps.drop (k+1)).map enc).flatten.length=(ps.length-(k+1))*sz:=by
  rw[kF _ (fun p hp=>UC p (List.mem_of_mem_drop hp)),List.length_drop]
 have hB:=UC ps[k] (List.getElem_mem hk)
 have auG:(ps.map enc).flatten=((ps.take k).map enc).flatten++(enc ps[k]++((ps.drop (k+1)).map enc).flatten):=by
  have h3:ps=ps.take k++ps[k]::ps.drop (k+1):=by rw[←List.drop_eq_getElem_cons hk,List.take_append_drop]
  have h4:=congrArg (fun q:List α=>(q.map enc).flatten) h3
  simp only[List.map_append,List.map_cons,List.flatten_append,List.flatten_cons] at h4
  exact h4
 have rj:l=((ps.take k).map enc).flatten++(enc ps[k]++(((ps.drop (k+1)).map enc).flatten++l.drop (ps.length*sz))):=by
  have h3:=(List.take_append_drop (ps.length*sz) l).symm
  rw[hl,auG] at h3
  simp only[List.append_assoc] at h3
  exact h3
 have pH:((ps.set k x).map enc).flatten=((ps.take k).map enc).flatten++(enc x++((ps.drop (k+1)).map enc).flatten):=by
  rw[List.set_eq_take_append_cons_drop,if_pos hk]
  simp only[List.map_append,List.map_cons,List.flatten_append,List.flatten_cons]
 have aR3:dI l (k*sz) (enc x)=((ps.take k).map enc).flatten++(enc x++(((ps.drop (k+1)).map enc).flatten++l.drop (ps.length*sz))):=by
  rw[rz _ _ _ (by omega),hx,List.append_assoc]
  congr 1
  ·conv=>lhs;rw[rj]
   rw[←hA,List.take_left]
  congr 1
  conv=>lhs;rw[rj]
  rw[←List.append_assoc,←List.append_assoc,List.append_assoc _ _ (List.drop _ _)]
  rw[show k*sz+sz=(((ps.take k).map enc).flatten++enc ps[k]).length by rw[List.length_append,hA,hB],List.drop_left]
 rw[aR3,pH,←List.append_assoc,←List.append_assoc]
 have hlen:(((ps.take k).map enc).flatten++enc x++((ps.drop (k+1)).map enc).flatten).length=ps.length*sz:=by
  rw[List.length_append,List.length_append,hA,hx,hC]
  have:ps.length*sz=(k+1+(ps.length-(k+1)))*sz:=by congr 1;omega
  rw[this,Nat.add_mul,Nat.succ_mul]
 rw[←hlen,List.take_left,List.append_assoc]
section rules
variable {P:Program} {C:Class} {fn:FuncId} {aB:Option Nat} {Q:Post} {s:St} {n:Nat} {env:Env} {D:List Deferred}
variable {ops:Array Oper} {i:Nat} {rest:List Nat} {dst:Option Tmp} {ty:TypeId} {pos:String} {db:Array Edge} {g:Option (Nat×Bool)}
variable {T:TypeId} {d:TypeDesc} {sz bD:Nat} {z:List Value} {ag:Bool}
theorem T5(hC:∀main T,C main T→Closed P main T){w:Operand}{k k':IntKind}(ho:ops[i]?=some ⟨dst,.slice T x (some y) (some w) none,ty,pos,db,g⟩) (hw:ay ops n env g=true) (tf:TF P T .string sz bD z ag)
 (hx:bp n env x=some (.string b)) (hy:bp n env y=some (.int k lo)) (hz:bp n env w=some (.int k' hi)) (hl:0≤lo∧lo≤hi∧hi≤b.size) (h:ab C fn aB ops rest Q (A n (upd dst (.string (b.extract lo.toNat hi.toNat)) env) D) s):ab C fn aB ops (i::rest) Q (A n env D) s:=by
 refine bV hC ho hw (by simp) ?_
 have h1:0≤hi∧hi≤(b.size:Int):=by omega
 have h2:0≤lo∧lo≤(hi.toNat:Int):=by omega
 simp only[execOp,Option.map_some,Option.map_none,Instr.sliceAt,Instr.slice,aG hx,aG hy,aG hz,aa,a8 tf,Instr.sliceBounds,Instr.sliceBound,asIntOf,ae,Option.isSome_none,Bool.false_eq_true,if_false,h1,h2,and_self,if_true]
 rw[←aY] at h
 exact h
theorem Qe(hC:∀main T,C main T→Closed P main T){w:Operand}{k':IntKind}(ho:ops[i]?=some ⟨dst,.slice T x none (some w) none,ty,pos,db,g⟩) (hw:ay ops n env g=true) (tf:TF P T .string sz bD z ag)
 (hx:bp n env x=some (.string b)) (hz:bp n env w=some (.int k' hi)) (hl:0≤hi∧hi≤b.size) (h:ab C fn aB ops rest Q (A n (upd dst (.string (b.extract 0 hi.toNat)) env) D) s):ab C fn aB ops (i::rest) Q (A n env D) s:=by
 refine bV hC ho hw (by simp) ?_
 simp only[execOp,Option.map_some,Option.map_none,Instr.sliceAt,Instr.slice,aG hx,aG hz,aa,a8 tf,Instr.sliceBounds,Instr.sliceBound,asIntOf,ae,Option.isSome_none,Bool.false_eq_true,if_false,hl,and_self,if_true]
 rw[←aY] at h
 exact h
theorem Qd(hC:∀main T,C main T→Closed P main T){k:IntKind}(ho:ops[i]?=some ⟨dst,.slice T x (some y) none none,ty,pos,db,g⟩) (hw:ay ops n env g=true) (tf:TF P T .string sz bD z ag)
 (hx:bp n env x=some (.string b)) (hy:bp n env y=some (.int k lo)) (hl:0≤lo∧lo≤b.size) (h:ab C fn aB ops rest Q (A n (upd dst (.string (b.extract lo.toNat b.size)) env) D) s):ab C fn aB ops (i::rest) Q (A n env D) s:=by
 refine bV hC ho hw (by simp) ?_
 simp only[execOp,Option.map_some,Option.map_none,Instr.sliceAt,Instr.slice,aG hx,aG hy,aa,a8 tf,Instr.sliceBounds,Instr.sliceBound,asIntOf,ae,Option.isSome_none,Bool.false_eq_true,if_false,hl,and_self,if_true]
 rw[←aY] at h
 exact h
theorem bH.part{ro:Nat→Option Obj}{a:Option Addr}{len:Nat}{enc:α→List Value}{ps:List α}(hs:bH ro (.slice a len cap) sz enc ps){l h:Nat}(hl:l≤h)(hh:h≤ps.length):bH ro (.slice (if cap=l then a else a.map (·.add (l*sz))) (h-l) (cap-l)) sz enc ((ps.take h).drop l):=by
 obtain⟨a',b,o,aWg,h1,h2,h3,h4⟩:=hs
 cases h1
 have hlen:((ps.take h).drop l).length=h-l:=by rw[List.length_drop,List.length_take];omega
 refine⟨_,b,o+l*sz,_,by rw[hlen],by omega,fun k hk=>?_,fun i p hp=>?_⟩
 ·have:=h3 0 (by omega)
  subst this
  rw[if_neg (by omega)]
  simp[dY]
 rw[List.getElem?_drop] at hp
 have hi:l+i <h:=by
  have:=(List.getElem?_eq_some_iff.1 hp).1
  rw[List.length_take] at this;omega
 rw[List.getElem?_take_of_lt hi] at hp
 have:=h4 _ _ hp
 rwa[show o+(l+i)*sz=o+l*sz+i*sz by rw[Nat.add_mul];omega] at this
theorem aep(hC:∀main T,C main T→Closed P main T){v:Value}{enc:α→List Value}{ps:List α}{L:Cells}(ho:ops[i]?=some ⟨dst,.call ⟨.builtin .len,#[x],#[T]⟩,ty,pos,db,g⟩) (hw:ay ops n env g=true)
 (tf:TF P T (.slice E) sz bD z ag) (hx:bp n env x=some v) (kY:az v szo T2 enc ps L) (h:ab C fn aB ops rest Q (A n (upd dst (.int .i64 ps.length) env) D) s):ab C fn aB ops (i::rest) Q (A n env D) s:=by
 obtain⟨a,c,rfl⟩:=kY.form
 exact aBX hC ho hw tf hx h
end rules
theorem dZ{ro:Nat→Option Obj}{K J:Cells}(hp:rw'.Perm (K++J))(h:Sub ro aK):(⟨ro,K⟩:St).le ⟨aK,rw'⟩:=⟨J,hp,fun b o hb=> .inl (h b o hb)⟩
theorem ar(h:l.all single=true):∀v∈l,single v=true:=List.all_eq_true.1 h
section any
variable {P:Program} {C:Class} {fn:FuncId} {aB:Option Nat} {Q:Post} {s:St} {n:Nat} {D:List Deferred} {ops:Array Oper} {base:Env}
def ara(C:Class)(fn:FuncId)(aB:Option Nat)(ops:Array Oper)(n:Nat)(D:List Deferred)(base:Env)(Pl Sl:List (Nat×Value))(Q:Post)(s:St)(i:Nat):Prop:=
 ∀rest todo,(∀v s',(∀j w,(j,w)∈pending ops i Sl→fe C fn aB ops n D j w (cw ops base j Pl) s→fe C fn aB ops n D j w (cw ops base j Pl) s')→
  tL C fn aB ops n D base ((i,v)::Pl) (pending ops i Sl) Q s'→ab C fn aB ops todo Q (A n (upd (aQ ops i) v (cw ops base i Pl++rest)) D) s')→
  ab C fn aB ops (i::todo) Q (A n (cw ops base i Pl++rest) D) s
def xZ(C:Class)(fn:FuncId)(aB:Option Nat)(ops:Array Oper)(n:Nat)(D:List Deferred)(base:Env)(Pl Sl:List (Nat×Value))(Q:Post)(s:St):List Nat→Prop
 | []=>True
 |i::is=>ara C fn aB ops n D base Pl Sl Q s i∧xZ C fn aB ops n D base Pl Sl Q s is
theorem xZ.mem{Pl Sl:List (Nat×Value)}:∀ {is:List Nat},xZ C fn aB ops n D base Pl Sl Q s is→∀i∈is,ara C fn aB ops n D base Pl Sl Q s i
 | [],_,i,hi=>by cases hi
 |k::is,h,i,hi=>by
  rcases List.mem_cons.1 hi with rfl|hi
  ·exact h.1
  exact xZ.mem h.2 i hi
def aek(ops:Array Oper)(ks:List Nat)(is:List Nat):Bool:=
 (List.range ops.size).all fun j=>ba j ks||ba j is||(bu ops j).any fun k=> !ba k ks
theorem abB{Pl Sl:List (Nat×Value)}(is:List Nat)(ng:fP ops=true)(his:(is.all fun i=>Nat.blt i ops.size&& !ba i (ak Pl))=true)(mw:nodupB (ak Pl)=true)(jU:pG ops (ak Pl)=true)(hs:fQ (ak Sl) (ak Pl)=true)(ho:aek ops (ak Pl) is=true)
 (h:xZ C fn aB ops n D base Pl Sl Q s is)(eg:is.isEmpty=false):tL C fn aB ops n D base Pl Sl Q s:=by
 have q9:∀i∈is,i∉ak Pl:=fun i hi hm=>by
  have:=(List.all_eq_true.1 his) i hi
  rw[aJ.2 hm] at this;simp at this
 have Jw:∀i∈is,i <ops.size:=fun i hi=>by
  have:=(List.all_eq_true.1 his) i hi
  simp only[Bool.and_eq_true,Nat.blt_eq] at this
  exact this.1
 have G8:∀(l:List (Nat×Value)),nodupB (ak l)=true→∀j v w,(j,v)∈l→(j,w)∈l→w=v:=by
  intro l
  induction l with
  |nil=>intro _ j v w h;cases h
  |cons x l ih=>
   rcases x with ⟨k,u⟩
   intro hb j v w h1 h2
   simp only[ak,nodupB,Bool.and_eq_true,Bool.not_eq_true'] at hb
   have hk:k∉ak l:=fun hm=>by rw[aJ.2 hm] at hb;cases hb.1
   rcases List.mem_cons.1 h1 with h1|h1<;>rcases List.mem_cons.1 h2 with h2|h2
   ·cases h1;cases h2;rfl
   ·cases h1;exact absurd (aP.2 ⟨_,h2⟩) hk
   ·cases h2;exact absurd (aP.2 ⟨_,h1⟩) hk
   exact ih hb.2 j v w h1 h2
 intro hSl X l
 induction l generalizing X with
 |nil=>
  intro env hX hl pJ hf
  cases is with
  |nil=>cases eg
  |cons i is=>exact absurd (hX i (pJ i (Jw i List.mem_cons_self))) (q9 i List.mem_cons_self)
 |cons j l ih=>
  intro env hX hl pJ hf
  obtain⟨h1,h2,h3,h4⟩:=pJ
  by_cases hj:j∈ak Pl
  ·
   obtain⟨w,hw⟩:=aP.1 hj
   obtain⟨rest,hr⟩:=wU (n:=n) (D:=D) hf j h3 h2
   rw[hr]
   refine hSl j w (hl j w hw h2) s (Ext.refl s) rest l Q ?_
   rw[←DK hr]
   refine ih (j::X) _ (fun k hk=>?_) (fun k u hk BV=>hl k u hk (fun h=>BV (List.mem_cons_of_mem _ h))) h4 (tF ng hf h1 h2 h3 (fun u hu=>G8 Pl mw j w u hw hu))
   rcases List.mem_cons.1 hk with rfl|hk
   ·exact hj
   exact hX k hk
  by_cases Ak:j∈is
  ·have h:=xZ.mem h j Ak
   have q9:=q9 j Ak
   obtain⟨rest,hr⟩:=wU (n:=n) (D:=D) hf j h3 h2
   rw[hr]
   refine h rest l fun v s' hp ha=>?_
   rw[←DK hr]
   have Nz:∀k,k∈ak Pl→j∉bu ops k:=by
    intro k hk hm
    have:=(List.all_eq_true.1 jU) k hk
    exact q9 (bO.1 this j hm)
   have UC:∀k u,(k,u)∈pending ops j Sl→(k,u)∈Sl:=fun k u hk=>(List.mem_filter.1 hk).1
   refine ha (fun k u hk=>?_) (j::X) l _ (fun k hk=>?_) (fun k u hk BV=>?_) h4 ?_
   ·rw[cY (Nz k (bO.1 hs k (aP.2 ⟨u,UC k u hk⟩)))]
    exact hp k u hk (hSl k u (UC k u hk))
   ·rcases List.mem_cons.1 hk with rfl|hk
    ·simp[ak]
    exact List.mem_cons_of_mem _ (hX k hk)
   ·rcases List.mem_cons.1 hk with hk|hk
    ·cases hk;exact absurd (by simp) BV
    have Nv:k∉X:=fun h=>BV (List.mem_cons_of_mem _ h)
    refine List.mem_filter.2 ⟨hl k u hk Nv,?_⟩
    cases hm:ba k (bu ops j) with
    |false=>rfl
    |true=>exact absurd (h3 k (aJ.1 hm)) Nv
   refine tF ng (Df hf h2) h1 h2 h3 fun u hu=>?_
   rcases List.mem_cons.1 hu with hu|hu
   ·cases hu;rfl
   exact absurd (aP.2 ⟨_,hu⟩) q9
  exfalso
  have:=(List.all_eq_true.1 ho) j (List.mem_range.2 h1)
  have e1:ba j (ak Pl)=false:=by
   cases hm:ba j (ak Pl) with
   |false=>rfl
   |true=>exact absurd (aJ.1 hm) hj
  have e2:ba j is=false:=by
   cases hm:ba j is with
   |false=>rfl
   |true=>exact absurd (aJ.1 hm) Ak
  rw[e1,e2] at this
  simp only[Bool.false_or,List.any_eq_true,Bool.not_eq_true'] at this
  obtain⟨k,hk,bY⟩:=this
  have:=hX k (h3 k hk)
  rw[aJ.2 this] at bY;cases bY
end any
section rules
variable {P:Program} {C:Class} {fn:FuncId} {aB:Option Nat} {Q:Post} {s:St} {n:Nat} {env:Env} {D:List Deferred}
variable {ops:Array Oper} {i:Nat} {rest:List Nat} {dst:Option Tmp} {ty:TypeId} {pos:String} {db:Array Edge} {g:Option (Nat×Bool)}
variable {T:TypeId} {d:TypeDesc} {sz bD:Nat} {z:List Value} {ag:Bool} {ro:Nat→Option Obj}
theorem wm{a:Act}(hC:∀main T,C main T→Closed P main T){rw:Cells}(hp:rw'.Perm rw)(h:ab C fn aB ops todo Q a ⟨ro,rw⟩):ab C fn aB ops todo Q a ⟨ro,rw'⟩:=
 ab.more (s:=⟨ro,rw⟩) (s':=⟨ro,rw'⟩) hC ⟨[],by rw[List.append_nil];exact hp,fun b o hb=> .inl hb⟩ h
theorem oap(hC:∀main T,C main T→Closed P main T){v w:Value}{enc:α→List Value}{ps qs:List α}{L R:List (Nat×Obj)}{d':TypeDesc}{E2:TypeId}{sz2 BG:Nat}{z2:List Value}{ag2:Bool} 
 (ho:ops[i]?=some ⟨dst,.call ⟨.builtin .append,#[x,y],#[T,U]⟩,ty,pos,db,g⟩) (hw:ay ops n env g=true) (tf:TF P T (.slice E) sz bD z ag) (SF:TF P U (.slice E2) sz2 BG z2 ag2) (j7:TF P E d' iH vv z' xq) (hz:z'.length=iH)
 (hx:bp n env x=some v) (hy:bp n env y=some w) (kY:az v iH E enc ps L) (IJ:Sl ⟨ro,L++R⟩ w iH enc qs) (hq:∀p∈qs,∀c∈enc p,single c=true) (hb:wq (ps.length+qs.length) vv)
 (h:∀v' L',az v' iH E enc (ps++qs) L'→ab C fn aB ops rest Q (A n (upd dst v' env) D) ⟨ro,L'++R⟩):ab C fn aB ops (i::rest) Q (A n env D) ⟨ro,L++R⟩:=
 Qi hC ho hw tf SF j7 hz hx hy kY IJ (pre:=[]) rfl hq hb h
theorem ost(hC:∀main T,C main T→Closed P main T){b o:Nat}{v:Value}{R:List (Nat×Obj)}{c:List Value}{e:TypeId}(ho:ops[i]?=some ⟨dst,.store T x y,ty,pos,db,g⟩) (hw:ay ops n env g=true) (tf:TF P T d sz bD z ag)
 (hx:bp n env x=some (.pointer (some ⟨b,o,none⟩))) (hy:bp n env y=some (v)) (hl:v.cells=⟨l⟩) (hn:l.length=sz) (h1:∀v∈l,single v=true) (hb:o+l.length≤c.length)
 (h:ab C fn aB ops rest Q (A n (upd dst undef env) D) ⟨ro,(b,.cells ⟨dI c o l⟩ e (0,0))::R⟩):ab C fn aB ops (i::rest) Q (A n env D) ⟨ro,(b,.cells ⟨c⟩ e (0,0))::R⟩:=
 Fu hC ho hw tf hx hy hl hn h1 (L:=[]) rfl hb h
end rules
section rules
variable {P:Program} {C:Class} {fn:FuncId} {aB:Option Nat} {Q:Post} {s:St} {n:Nat} {env:Env} {D:List Deferred}
variable {ops:Array Oper} {i:Nat} {rest:List Nat} {dst:Option Tmp} {ty:TypeId} {pos:String} {db:Array Edge} {g:Option (Nat×Bool)}
theorem ate(hC:∀main T,C main T→Closed P main T){k:IntKind}{a b:Int}(ho:ops[i]?=some ⟨dst,.call ⟨.builtin .min,#[x,y],#[T,U]⟩,ty,pos,db,g⟩) (hw:ay ops n env g=true)
 (hx:bp n env x=some (.int k a)) (hy:bp n env y=some (.int k b)) (h:ab C fn aB ops rest Q (A n (upd dst (.int k (min a b)) env) D) s):ab C fn aB ops (i::rest) Q (A n env D) s:=by
 refine bV hC ho hw (by simp) ?_
 have e:(if b <a then b else a)=min a b:=by omega
 simp only[execOp,resolve,invoke,builtin,Builtin.min_,List.map_toArray,List.map_cons,List.map_nil,aG hx,aG hy,List.foldlM_cons,List.foldlM_nil,Builtin.min2,aa,ae,e]
 rw[←aY] at h
 exact h
theorem atf(hC:∀main T,C main T→Closed P main T){k:IntKind}{a b:Int}(ho:ops[i]?=some ⟨dst,.call ⟨.builtin .max,#[x,y],#[T,U]⟩,ty,pos,db,g⟩) (hw:ay ops n env g=true)
 (hx:bp n env x=some (.int k a)) (hy:bp n env y=some (.int k b)) (h:ab C fn aB ops rest Q (A n (upd dst (.int k (max a b)) env) D) s):ab C fn aB ops (i::rest) Q (A n env D) s:=by
 refine bV hC ho hw (by simp) ?_
 have e:(if a <b then b else a)=max a b:=by omega
 simp only[execOp,resolve,invoke,builtin,Builtin.max_,List.map_toArray,List.map_cons,List.map_nil,aG hx,aG hy,List.foldlM_cons,List.foldlM_nil,Builtin.max2,aa,ae,e]
 rw[←aY] at h
 exact h
end rules
def cO(a b:ByteArray):Bool:=a.toList==b.toList
def strLt(a b:ByteArray):Bool:=Op.bytesLess a.toList b.toList
section rules
variable {P:Program} {C:Class} {fn:FuncId} {aB:Option Nat} {Q:Post} {s:St} {n:Nat} {env:Env} {D:List Deferred}
variable {ops:Array Oper} {i:Nat} {rest:List Nat} {dst:Option Tmp} {ty:TypeId} {pos:String} {db:Array Edge} {g:Option (Nat×Bool)}
theorem atb(hC:∀main T,C main T→Closed P main T){a:ByteArray}(ho:ops[i]?=some ⟨dst,.binOp .add T x y T',ty,pos,db,g⟩) (hw:ay ops n env g=true)
 (hx:bp n env x=some (.string a)) (hy:bp n env y=some (.string b)) (hb:(a.size:Int)+b.size≤9223372036854775807) (h:ab C fn aB ops rest Q (A n (upd dst (.string (a++b)) env) D) s):ab C fn aB ops (i::rest) Q (A n env D) s:=
 AY hC ho hw hx hy (v:= .string (a++b)) (by
  simp only[Op.stringOp]
  rw[if_neg]
  ·rfl
  have:IntKind.i64.max=9223372036854775807:=by decide
  rw[this];push_cast;omega) rfl h
end rules
theorem axA(b:ByteArray)(i:Nat)(h:i <b.size):b.get! i=b.data.toList[i]'(by simpa using h):=by
 have h':i <b.data.size:=h
 show b.data[i]! =_
 rw[getElem!_pos b.data i h']
 simp
theorem YV(b:ByteArray):∀(n i:Nat) (r:List UInt8),b.size-i=n→ByteArray.toList.loop b i r=r.reverse++b.data.toList.drop i
 |0,i,r,h=>by
  unfold ByteArray.toList.loop
  rw[if_neg (by omega),List.drop_eq_nil_of_le]
  ·simp
  show b.data.toList.length≤i
  rw[Array.length_toList]
  have:b.data.size=b.size:=rfl
  omega
 |n+1,i,r,h=>by
  unfold ByteArray.toList.loop
  have hi:i <b.size:=by omega
  rw[if_pos hi,YV b n (i+1) _ (by omega),axA b i hi]
  have hl:i <b.data.toList.length:=by rw[Array.length_toList];exact hi
  rw[List.drop_eq_getElem_cons hl]
  simp
theorem qm(b:ByteArray):b.toList=b.data.toList:=by
 show ByteArray.toList.loop b 0 []=_
 rw[YV b _ 0 [] rfl]
 simp
theorem Cd{a:ByteArray}:cO a b=true↔a=b:=by
 unfold cO
 rw[qm,qm]
 simp only[beq_iff_eq]
 constructor
 ·intro h
  have:a.data=b.data:=Array.toList_inj.1 h
  cases a;cases b;simp at this;subst this;rfl
 rintro rfl;rfl
theorem AE(a b:ByteArray):cO a b=(a.data.toList==b.data.toList):=by unfold cO;rw[qm,qm]
theorem Po(a b:ByteArray):strLt a b=Op.bytesLess a.data.toList b.data.toList:=by unfold strLt;rw[qm,qm]
def FnG(P:Program)(f:FuncId)(args:List Value)(ro:Nat→Option Obj)(own:Cells)(Φ:Value→(Nat→Option Obj)→Cells→Prop):Prop:=
 Fn (CP P) P f ⟨args⟩ ⟨ro,own⟩ (fun en s'=>∃v aK X,en= .returned v∧s'=⟨aK,X⟩∧Sub ro aK∧Φ v aK X)
theorem FnG.use{own:Cells}{Φ:Value→(Nat→Option Obj)→Cells→Prop}(hp:s.rw.Perm (own++fr))(hf:FnG P f vs s.ro own Φ):
 Fn (CP P) P f ⟨vs⟩ s (fun en s'=>∃v aK X,en= .returned v∧Sub s.ro aK∧Φ v aK X∧(⟨aK,X++fr⟩:St).le s'):=by
 refine Fn.mono (Fn.frame (fr:=fr) (B:=[]) (ro:=s.ro) (s:=s) hf (fun _ h=>(by cases h)) ⟨hp,fun b o hb=> .inl hb,Sub.refl _⟩) fun en s' Ef=>?_
 obtain⟨yQ,⟨v,aK,X,rfl,rfl,hs,qF⟩,hc⟩:=Ef
 refine⟨v,aK,X,rfl,hs,qF,[],by simpa using hc.rw,fun b o hb=>?_⟩
 rcases hc.aC b o hb with h|h
 ·exact .inl h
 cases h
theorem Gq:∀(A l:List Value) (o:Nat) (c:List Value),dI (A++l) (A.length+o) c=A++dI l o c
 | [],l,o,c=>by simp
 |a::A,l,o,[]=>by rw[lF,lF]
 |a::A,l,o,v::c=>by
  have:=Gq A l o (v::c)
  rw[show (a::A).length+o=A.length+o+1 by simp only[List.length_cons];omega]
  simp only[List.cons_append,dI,this]
theorem Ko{m B:List Value}{o:Nat}{c:List Value}(h:o+c.length≤m.length):dI (m++B) o c=dI m o c++B:=by
 rw[rz _ _ _ (by rw[List.length_append];omega),rz _ _ _ h,List.take_append_of_le_length (by omega),List.drop_append_of_le_length h]
 simp only[List.append_assoc]
theorem ZU{m c:List Value}(h:c.length=m.length):dI m 0 c=c:=by
 rw[rz _ _ _ (by omega)]
 simp[h]
theorem Vr{enc:α→List Value}{ps:List α}(UC:∀p∈ps,(enc p).length=sz){x:α}(hx:ps[k]?=some x) (hl:l.take (ps.length*sz)=(ps.map enc).flatten):∃A B,A.length=k*sz∧l=A++(enc x++B):=by
 obtain⟨hk,rfl⟩:=List.getElem?_eq_some_iff.1 hx
 refine⟨((ps.take k).map enc).flatten,((ps.drop (k+1)).map enc).flatten++l.drop (ps.length*sz),?_,?_⟩
 ·rw[kF _ (fun p hp=>UC p (List.mem_of_mem_take hp)),List.length_take,Nat.min_eq_left (by omega)]
 have h3:ps=ps.take k++ps[k]::ps.drop (k+1):=by rw[←List.drop_eq_getElem_cons hk,List.take_append_drop]
 have h4:=congrArg (fun q:List α=>(q.map enc).flatten) h3
 simp only[List.map_append,List.map_cons,List.flatten_append,List.flatten_cons] at h4
 have h5:=(List.take_append_drop (ps.length*sz) l).symm
 rw[hl,h4] at h5
 simpa only[List.append_assoc] using h5
theorem ZV{enc:α→List Value}{ps:List α}(UC:∀p∈ps,(enc p).length=sz){x:α}(hx:ps[k]?=some x) (hl:l.take (ps.length*sz)=(ps.map enc).flatten) {o:Nat} {c:List Value} (h:o+c.length≤sz):
 dI l (k*sz+o) c=dI l (k*sz) (dI (enc x) o c):=by
 have hxl:=UC x (List.mem_of_getElem? hx)
 obtain⟨A,B,h1,rfl⟩:=Vr UC hx hl
 have e0:∀q,dI (A++(enc x++B)) A.length q=A++dI (enc x++B) 0 q:=fun q=>Gq A _ 0 q
 rw[←h1,Gq,e0,Ko (by omega),Ko (by rw[lG];omega),ZU (lG _ _ _)]
section rules
variable {P:Program} {C:Class} {fn:FuncId} {aB:Option Nat} {Q:Post} {ro:Nat→Option Obj} {n:Nat} {env:Env} {D:List Deferred}
variable {ops:Array Oper} {i:Nat} {rest:List Nat} {dst:Option Tmp} {ty:TypeId} {pos:String} {db:Array Edge} {g:Option (Nat×Bool)}
variable {T:TypeId} {d:TypeDesc} {tsz bD:Nat} {z:List Value} {ag:Bool}
theorem aBP(hC:∀main T,C main T→Closed P main T){b o:Nat}{v w:Value}{a e:α}{c:List Value}{enc:α→List Value}{ps:List α}{L R:Cells}(ho:ops[i]?=some ⟨dst,.store T x y,ty,pos,db,g⟩) (hw:ay ops n env g=true) (tf:TF P T d tsz bD z ag)
 (hx:bp n env x=some (.pointer (some ⟨b,k*sz+o,none⟩))) (hy:bp n env y=some w) (hl:w.cells=⟨c⟩) (hn:c.length=tsz) (h1:∀v∈c,single v=true) (kY:az v sz E enc ps L) (hb:Ot v b) (hk:ps[k]?=some a) (he:enc e=dI (enc a) o c) (hf:o+c.length≤sz)
 (h:∀L',az v sz E enc (ps.set k e) L'→ab C fn aB ops rest Q (A n (upd dst undef env) D) ⟨ro,L'++R⟩):ab C fn aB ops (i::rest) Q (A n env D) ⟨ro,L++R⟩:=by
 have hk1:k <ps.length:=(List.getElem?_eq_some_iff.1 hk).1
 rcases kY with ⟨_,h2,_⟩| ⟨b',l,cap,g1,g2,g3,g4,g5,g6⟩
 ·subst h2;simp at hk
 obtain⟨n',c',mL⟩:=hb
 rw[g1] at mL
 cases mL
 subst g2
 have hea:(enc a).length=sz:=g5 a (List.mem_of_getElem? hk)
 have Ef:(enc e).length=sz:=by rw[he,lG,hea]
 have hks:k*sz+sz≤ps.length*sz:=by
  have:(k+1)*sz≤ps.length*sz:=Nat.mul_le_mul_right _ (by omega)
  rw[Nat.succ_mul] at this;exact this
 have oO:ps.length*sz≤cap*sz:=Nat.mul_le_mul_right _ g4
 refine Fu (L:=[]) (R:=R) hC ho hw tf hx hy hl hn h1 rfl (by omega)<|h [(b,.cells ⟨dI l (k*sz+o) c⟩ E (0,0))] (.inr ⟨b,_,cap,by rw[g1,List.length_set],rfl,by rw[lG,g3],by rw[List.length_set];exact g4,fun p hp=>?_,?_⟩)
 ·rcases List.mem_or_eq_of_mem_set hp with h5|h5
  ·exact g5 p h5
  subst h5;exact Ef
 rw[List.length_set,ZV g5 hk g6 hf,←he]
 exact RI ps g5 k e Ef hk1 l g6
end rules
section rules
variable {P:Program} {C:Class} {fn:FuncId} {aB:Option Nat} {Q:Post} {s:St} {n:Nat} {env:Env} {D:List Deferred}
variable {ops:Array Oper} {i:Nat} {rest:List Nat} {dst:Option Tmp} {ty:TypeId} {pos:String} {db:Array Edge} {g:Option (Nat×Bool)}
structure EF(P:Program)(f:FuncId)(e:Array Value→Sem Value):Prop where
 ef:∃fn,P.funcs[f]?=some fn∧(fn.name== "runtime.NumGoroutine")=false∧fn.body.isNone=true∧(Extern.findNext fn).isNone=true∧Extern.find fn=some e
theorem aes(hC:∀main T,C main T→Closed P main T){e:Array Value→Sem Value}(ho:ops[i]?=some ⟨dst,.call ⟨.value (.func f),xs,at_⟩,ty,pos,db,g⟩) (hw:ay ops n env g=true)
 (ef:EF P f e) (hx:vD n env xs=some vs) (h:bR P (e ⟨vs⟩) s (fun v s'=>ab C fn aB ops rest Q (A n (upd dst v env) D) s') (fun _ _=>False)):ab C fn aB ops (i::rest) Q (A n env D) s:=by
 obtain⟨fn',h1,h2,h3,h4,h5⟩:=ef.ef
 have h4':Extern.findNext fn'=none:=by
  cases hh:Extern.findNext fn' with
  |none=>rfl
  |some x=>rw[hh] at h4;cases h4
 refine bV hC ho hw (by simp) ?_
 simp only[execOp,resolve,ev,Deferred.ofValue,ae,sG hx]
 simp only[invoke,Array.append_empty,Array.empty_append,callFunc,fo,h1,h2,h3,h4',h5,if_true,Bool.false_eq_true,if_false]
 refine⟨rfl,?_⟩
 refine O6 (e ⟨vs⟩) (fun v=>(pure (Next.value v):Sem Next)) _ _ _<|vJ _ _ _ _ _ _ (fun v s' hv=>?_) (fun _ _ (hf:False)=>hf.elim) h
 rw[←aY] at hv
 exact hv
end rules
def QH(a:ByteArray)(b:UInt8):Int:=
 match (List.range a.size).find? fun i=>a[i]! ==b with
 |some i=>i
 |none=> -1
section rules
variable {P:Program} {C:Class} {fn:FuncId} {aB:Option Nat} {Q:Post} {s:St} {n:Nat} {env:Env} {D:List Deferred}
variable {ops:Array Oper} {i:Nat} {rest:List Nat} {dst:Option Tmp} {ty:TypeId} {pos:String} {db:Array Edge} {g:Option (Nat×Bool)}
theorem aeq(hC:∀main T,C main T→Closed P main T){a:ByteArray}{b:Int}(ho:ops[i]?=some ⟨dst,.call ⟨.value (.func f),xs,at_⟩,ty,pos,db,g⟩) (hw:ay ops n env g=true)
 (ef:EF P f Extern.BytealgIndexByte.indexByte) (hx:vD n env xs=some [.string a,.int .u8 b]) (h:ab C fn aB ops rest Q (A n (upd dst (.int .i64 (QH a b.toNat.toUInt8)) env) D) s):ab C fn aB ops (i::rest) Q (A n env D) s:=by
 refine aes hC ho hw ef hx ?_
 unfold QH at h
 show bR P (match (List.range a.size).find? fun i=>a[i]! ==b.toNat.toUInt8 with|some i=>pure (goInt i)|none=>pure (goInt (-1))) s _ _
 split
 ·rename_i j hj
  rw[hj] at h;exact h
 rename_i hj
 rw[hj] at h;exact h
theorem alZ(hC:∀main T,C main T→Closed P main T){v:Value}(ho:ops[i]?=some ⟨dst,.call ⟨.value (.func f),xs,at_⟩,ty,pos,db,g⟩) (hw:ay ops n env g=true)
 (ef:EF P f Extern.AbiNoEscape.same) (hx:vD n env xs=some [v]) (h:ab C fn aB ops rest Q (A n (upd dst v env) D) s):ab C fn aB ops (i::rest) Q (A n env D) s:=
 aes hC ho hw ef hx h
end rules
theorem abe{p:Nat}{c:UInt8}(h:b.data.toList[p]?=some c) (ha:c.toNat <128):p <b.size∧Utf8.decode b p=(c.toNat,1):=by
 rw[Array.getElem?_toList] at h
 obtain⟨h1,h2⟩:=Array.getElem?_eq_some_iff.1 h
 refine⟨h1,?_⟩
 have h3:b.get! (p+0)=c:=by
  show b.data[p+0]! =c
  rw[Nat.add_zero,getElem!_pos b.data p h1,h2]
 simp only[Utf8.decode,h3]
 rw[if_pos (by omega)]
section rules
variable {P:Program} {C:Class} {fn:FuncId} {aB:Option Nat} {Q:Post} {ro:Nat→Option Obj} {n:Nat} {env:Env} {D:List Deferred}
variable {ops:Array Oper} {i:Nat} {rest:List Nat} {dst:Option Tmp} {ty:TypeId} {pos:String} {db:Array Edge} {g:Option (Nat×Bool)}
theorem al1(hC:∀main T,C main T→Closed P main T){r p:Nat}{R:Cells}{c:UInt8}(ho:ops[i]?=some ⟨dst,.next x true,ty,pos,db,g⟩) (hw:ay ops n env g=true) (hx:bp n env x=some (.pointer (some ⟨r,0,none⟩))) (hp:b.data.toList[p]?=some c) (ha:c.toNat <128)
 (h:ab C fn aB ops rest Q (A n (upd dst (.tuple ⟨[.bool true,.int .i64 p,.int .i32 c.toNat]⟩) env) D) ⟨ro,(r,.stringIter b (p+1))::R⟩):ab C fn aB ops (i::rest) Q (A n env D) ⟨ro,(r,.stringIter b p)::R⟩:=by
 obtain⟨h1,h2⟩:=abe hp ha
 refine aab hC ho hw hx (L:=[]) rfl h1 ?_
 rw[h2]
 exact h
theorem al0(hC:∀main T,C main T→Closed P main T){r p:Nat}{R:Cells}(ho:ops[i]?=some ⟨dst,.next x true,ty,pos,db,g⟩) (hw:ay ops n env g=true) (hx:bp n env x=some (.pointer (some ⟨r,0,none⟩))) (hp:b.data.toList[p]?=none)
 (h:ab C fn aB ops rest Q (A n (upd dst (.tuple ⟨[.bool false]⟩) env) D) ⟨ro,(r,.stringIter b p)::R⟩):ab C fn aB ops (i::rest) Q (A n env D) ⟨ro,(r,.stringIter b p)::R⟩:=by
 refine aac hC ho hw hx (L:=[]) rfl ?_ h
 rw[Array.getElem?_toList,Array.getElem?_eq_none_iff] at hp
 exact Nat.not_lt.2 hp
end rules
theorem FY(ops:Array Oper)(n:Nat)(env:Env)(D:List Deferred)(o:Oper)(j:Nat)(want:Bool)(d:Tmp)(hg:o.guard=some (j,want))(hd:(ops[j]?).bind (·.dst)=some d)
 (hv:bp n env (.tmp d)=some undef):Region.wanted o (yielded ops (A n env D).tmps)=false:=by
 unfold Region.wanted
 rw[hg]
 simp only[bp] at hv
 by_cases cN:d <n
 ·rw[show Nat.blt d n=true from by simpa [Nat.blt_eq] using cN] at hv
  simp only[cond_true] at hv
  simp only[yielded,hd,Option.bind_some,Oz]
  rw[if_pos cN,ni hv]
  rfl
 rw[show Nat.blt d n=false from by simpa [Nat.blt_eq,←Bool.not_eq_true] using cN] at hv
 cases hv
section rules
variable {P:Program} {C:Class} {fn:FuncId} {aB:Option Nat} {Q:Post} {s:St} {n:Nat} {env:Env} {D:List Deferred}
variable {ops:Array Oper} {i:Nat} {rest:List Nat} {dst:Option Tmp} {ty:TypeId} {pos:String} {db:Array Edge} {g:Option (Nat×Bool)}
theorem alY(hC:∀main T,C main T→Closed P main T){op:Op}{j:Nat}{want:Bool}{d:Tmp}(ho:ops[i]?=some ⟨dst,op,ty,pos,db,some (j,want)⟩) (hd:(ops[j]?).bind (·.dst)=some d)
 (hv:bp n env (.tmp d)=some undef) (h:ab C fn aB ops rest Q (A n (upd dst undef env) D) s):ab C fn aB ops (i::rest) Q (A n env D) s:=by
 refine ug hC ho (FY _ _ _ _ _ _ _ _ rfl hd hv) ?_
 rw[aY];exact h
end rules
section rules
variable {P:Program} {C:Class} {fn:FuncId} {Q:Post} {s:St} {n:Nat} {env:Env} {D:List Deferred}
variable {ops:Array Oper} {i:Nat} {rest:List Nat} {dst:Option Tmp} {ty:TypeId} {pos:String} {db:Array Edge} {g:Option (Nat×Bool)}
theorem al3(hC:∀main T,C main T→Closed P main T){ca:List Value}(ho:ops[i]?=some ⟨dst,.defer ⟨.value x,#[],#[]⟩,ty,pos,db,g⟩) (hw:ay ops n env g=true)
 (hx:bp n env x=some (.func (.func f) ⟨[]⟩ ⟨ca⟩)) (h:ab C fn none ops rest Q (A n (upd dst undef env) ({target:= .fn (.func f) ⟨ca⟩,args:= #[]}::D)) s):ab C fn none ops (i::rest) Q (A n env D) s:=by
 refine M0 hC ho (B6 _ _ _ _ _ hw) (.inl rfl) ?_
 rw[eJ]
 simp only[execOp,resolve,aG hx,Deferred.ofValue,ae]
 refine⟨rfl,?_⟩
 have hA:({A n env D with defers:={target:= .fn (.func f) ⟨ca⟩,args:= #[]}::(A n env D).defers}:Act).put dst undef=A n (upd dst undef env) ({target:= .fn (.func f) ⟨ca⟩,args:= #[]}::D):=by
  rw[←aY];rfl
 rw[←hA] at h
 have he:(⟨[]⟩:Array Value)++Array.map (ev n env) #[]= #[]:=by simp
 rw[he]
 exact h
def VC(C:Class)(P:Program)(fn:Func)(g:FuncId)(gn:Func)(t:Tmp)(rest:Code)(R:Ending→St→Prop):Post:=fun e a s=>
 (e= .normal∨e= .ret)∧∃ca:List Value,Nat.ble ca.length gn.ntmps=true∧a.defers=[{target:= .fn (.func g) ⟨ca⟩,args:= #[]}]∧
  Wp C g none rest (fun e2 a2 s2=>(e2= .normal∨e2= .ret)∧a2.defers=[]∧bR P (results fn a.tmps) s2 (fun v s3=>∃s0,s0.le s3∧R (.returned v) s0) (fun _ _=>False)) (A gn.ntmps (upd (some t) .nilIface (fZ 0 ca)) []) s
theorem HN(hC:∀main T,C main T→Closed P main T){fn:Func}{c:Code}{gid:FuncId}{gn:Func}{t:Tmp}{rc:Code}(hf:P.funcs[f]?=some fn) (hb:fn.body=some c) (hn:fn.ntmps=n) (hl:Nat.ble args.length n=true)
 (af6:Jc P gid=some (gn,t,rc)) (h:Wp C f none c (VC C P fn gid gn t rc R) (A n (fZ 0 args) []) s):Fn C P f ⟨args⟩ s R:=by
 intro main T hT cl cs k1 k2
 have iZ:=hC main T hT
 let b:Frame:={(default:Frame) with fn:=f,kind:= .normal,roundOf:=none}
 have iA:Frame.enter P f ⟨args⟩ .normal=aL b (A n (fZ 0 args) []) [.code c]:=by
  rw[←k8 args n (Nat.le_of_ble_eq_true hl)]
  simp[Frame.enter,aL,hf,hb,hn,b]
 rw[iA]
 obtain⟨hgf,Ba,IN,id,o,at_,hgb,h1,h2,h3⟩:=(WZ af6).ex
 have ff:FF P gid:=⟨gn,hgf,IN,by rw[hgb];rfl⟩
 have sC:∀(todo:List Item) (a':Act) (s':St) (ca:List Value),Nat.ble ca.length gn.ntmps=true→a'.defers=[{target:= .fn (.func gid) ⟨ca⟩,args:= #[]}]→
  Wp C gid none rc (fun e2 a2 s2=>(e2= .normal∨e2= .ret)∧a2.defers=[]∧bR P (results fn a'.tmps) s2 (fun v s3=>∃s0,s0.le s3∧R (.returned v) s0) (fun _ _=>False)) (A gn.ntmps (upd (some t) .nilIface (fZ 0 ca)) []) s'→
  T (G {aL b a' todo with mode:= .returning} (cl::cs)) s':=by
  intro todo a' s' ca hlc hd hw
  refine jN hC hT (.inl rfl) ff (ds:=[]) (a:= #[]) (ca:=⟨ca⟩) hd ?_
  let d:Frame:={(default:Frame) with fn:=gid,kind:= .deferred,roundOf:=none}
  have anu:Frame.enter P gid ((#[]:Array Value)++⟨ca⟩) .deferred=aL d (A gn.ntmps (fZ 0 ca) []) [.code (.seq (.region id #[o] false) rc)]:=by
   rw[←k8 ca gn.ntmps (Nat.le_of_ble_eq_true hlc)]
   simp[Frame.enter,aL,hgf,hgb,d]
  rw[anu]
  let c0:Frame:={aL b a' todo with mode:= .returning,defers:=[]}
  show T (G _ (c0::cl::cs)) s'
  refine iZ.go rfl rfl (g':=G (aL d (A gn.ntmps (fZ 0 ca) []) [.code (.region id #[o] false),.code rc]) (c0::cl::cs)) (fun w=>by simp[G,stepG,stepG.exec,aL])<|iZ.go rfl rfl (g':=G (aL d (A gn.ntmps (fZ 0 ca) []) [.inRegion #[o] [0],.code rc]) (c0::cl::cs)) (fun w=>by simp[G,stepG,stepG.exec,aL,List.range,List.range.loop])<|AJ hC hT (u:= .ret) (ρ:=fun _=>none) rfl rfl h1 h2 h3 .ret fun v' nI hv UN=>?_
  have hv':v'= .nilIface:=by
   rcases hv with hv|hv
   ·cases hv;rfl
   exact hv.2
  subst hv'
  refine iZ.go rfl rfl (g':=G (aL d ((A gn.ntmps (fZ 0 ca) []).put (some t) .nilIface) [.code rc]) ({c0 with mode:=nI}::cl::cs)) (fun w=>by simp[G,stepG,stepG.exec,aL]) ?_
  rw[aY]
  have QQ:∀tmps,results gn tmps=Sem.pure (.tuple #[]):=by intro tmps;simp[results,Ba];rfl
  have yu:∀(Wl:List Item) (a2:Act) (s2:St),a2.defers=[]→bR P (results fn a'.tmps) s2 (fun v s3=>∃s0,s0.le s3∧R (.returned v) s0) (fun _ _=>False)→T (G {aL d a2 Wl with mode:= .returning} ({c0 with mode:=nI}::cl::cs)) s2:=by
   intro Wl a2 s2 hd2 wD
   have mJ:T (G c0 (cl::cs)) s2:=sY hC hT hf rfl rfl rfl rfl wD k1
   refine iZ.go rfl rfl (fun w=>?_) mJ
   rcases UN with rfl| ⟨v,rfl⟩
   ·simp only[G,stepG,unwind,aL,d,hgf,QQ,Sem.runT,sX,hd2]
    simp[GStep.after,doReturn,c0,aL]
   simp only[G,stepG,unwind,aL,d,hgf,QQ,Sem.runT,sX,hd2]
   simp[GStep.after,doReturn,c0,aL]
  refine hw main T hT d [] _ rfl (by simp[d]) rfl fun e2 a2 s2 q=>?_
  obtain⟨q1,q2,q3⟩:=q
  rcases q1 with rfl|rfl
  ·exact iZ.go rfl rfl (g':=G {aL d a2 [] with mode:= .returning} ({c0 with mode:=nI}::cl::cs)) (fun w=>by simp[G,stepG,stepG.exec,aL,d]) (yu _ _ _ q2 q3)
  exact fun Wl=>iZ.go rfl rfl (g':=G {aL d a2 (.code .ret::Wl) with mode:= .returning} ({c0 with mode:=nI}::cl::cs)) (fun w=>by simp[G,stepG,stepG.exec,aL,d]) (yu _ _ _ q2 q3)
 refine h main T hT b [] (cl::cs) rfl (by simp[b]) rfl fun e a' s' q=>?_
 obtain⟨q1,ca,q0,q2,q3⟩:=q
 rcases q1 with rfl|rfl
 ·exact iZ.go rfl rfl (g':=G {aL b a' [] with mode:= .returning} (cl::cs)) (fun w=>by simp[G,stepG,stepG.exec,aL,b]) (sC _ _ _ ca q0 q2 q3)
 exact fun todo=>iZ.go rfl rfl (g':=G {aL b a' (.code .ret::todo) with mode:= .returning} (cl::cs)) (fun w=>by simp[G,stepG,stepG.exec,aL,b]) (sC _ _ _ ca q0 q2 q3)
end rules
section rules
variable {P:Program} {C:Class} {fn:FuncId} {aB:Option Nat} {Q:Post} {s:St} {n:Nat} {env:Env} {D:List Deferred}
variable {ops:Array Oper} {i:Nat} {rest:List Nat} {dst:Option Tmp} {ty:TypeId} {pos:String} {db:Array Edge} {g:Option (Nat×Bool)}
variable {T:TypeId} {sz bD:Nat} {z:List Value} {ag:Bool}
theorem alX(hC:∀main T,C main T→Closed P main T){a:Option Addr}{l c:Nat}(ho:ops[i]?=some ⟨dst,.binOp .eql T x y T',ty,pos,db,g⟩) (hw:ay ops n env g=true) (tf:TF P T (.slice E) sz bD z ag)
 (hx:bp n env x=some (.slice a l c)) (hy:bp n env y=some (.slice none 0 0)) (h:ab C fn aB ops rest Q (A n (upd dst (.bool a.isNone) env) D) s):ab C fn aB ops (i::rest) Q (A n env D) s:=by
 refine bV hC ho hw (by simp) ?_
 have hg:eqGuard .eql T x y (.slice a l c) (.slice none 0 0)=Sem.pure ():=by cases a<;>rfl
 have hb:binOp .eql T (.slice a l c) (.slice none 0 0)=(Op.equal T (.slice a l c) (.slice none 0 0) >>= fun r=>pure (.bool r)):=by cases a<;>rfl
 have he:∀ {α:Type} (K:Bool→Sem α) (Q:α→St→Prop) (E:Halt→St→Prop),bR P (K a.isNone) s Q E→bR P (Op.equal T (.slice a l c) (.slice none 0 0) >>= K) s Q E:=by
  intro α K Q E hK
  have gen:∀d,bR P (Op.equalIn (d+1) T (.slice a l c) (.slice none 0 0) >>= K) s Q E:=by
   intro d
   cases a<;>(simp only[Op.equalIn,aa,a8 tf,ae,Option.isNone];exact hK)
  exact gen 9999
 simp only[execOp,aG hx,aG hy,hg,hb]
 show bR P ((Op.equal T (.slice a l c) (.slice none 0 0) >>= fun r=>(pure (Value.bool r):Sem Value)) >>= fun x=>(pure (Next.value x):Sem Next)) s _ _
 simp only[aa]
 refine he _ _ _ ?_
 rw[←aY] at h
 exact h
end rules
def ad0:Op→Option (List Operand)
 | .move x=>some [x]
 | .assign x=>some [x]
 | .extract x _=>some [x]
 | .nilCheck x=>some [x]
 | .fieldAddr _ x _=>some [x]
 | .makeInterface _ x=>some [x]
 | .indexAddr _ x y=>some [x,y]
 |op=>Gt op
theorem PS{xs:List Operand}(h:ad0 o.op=some xs){f g:Operand→Value}(hfg:∀x∈xs,f x=g x):execOp f o=execOp g o:=by
 unfold ad0 at h
 split at h
 all_goals first
  | (rename_i heq;simp only[Option.some.injEq] at h;subst h;simp[execOp,heq,hfg];done)
  |exact ub h hfg
def evj(n:Nat)(e:Env)(x:Operand):Value:=(bp n e x).getD undef
theorem NW{f:Operand→Value}(hf:Ev n e f):∀ {xs:List Operand} {vs:List Value},yj n e xs=some vs→∀x∈xs,f x=evj n e x
 |y::l,vs,h,x,hx=>by
  simp only[yj] at h
  cases hv:bp n e y with
  |none=>rw[hv] at h;cases h
  |some v=>
   rw[hv] at h
   cases hr:yj n e l with
   |none=>rw[hr] at h;cases h
   |some r=>
    rcases List.mem_cons.1 hx with rfl|hx
    ·rw[hf _ _ hv,evj,hv];rfl
    exact NW hf hr x hx
def asv(P:Program)(n:Nat)(e:Env)(o:Oper):Option Value:=
 match ad0 o.op with
 |some xs=>match yj n e xs with
  |some _=>match bw P (execOp (evj n e) o) with
   |some (.value v)=>some v
   |_=>none
  |none=>none
 |none=>none
def aCl(P:Program)(n:Nat)(e:Env)(x:Operand)(T:TypeId):Option Value:=
 match aZ P T with
 |some ⟨.slice _,_,_,_⟩=>match bp n e x with
  |some (.slice _ len _)=>some (.int .i64 len)
  |_=>none
 |some ⟨.string,_,_,_⟩=>match bp n e x with
  |some (.string b)=>some (.int .i64 b.size)
  |_=>none
 |_=>none
def VL(P:Program)(n:Nat)(e:Env)(T:TypeId)(ps:Array (Nat×Operand)):Option Value:=
 match aZ P T with
 |some ⟨.struct fields,_,z,_⟩=>match xF P fields.toList with
  |some pl=>match OH n e ps.toList with
   |some pv=>match oT (fun i=>pl[i]?) z (uf pv) with
    |some l=>some (.agg ⟨l⟩)
    |none=>none
   |none=>none
  |none=>none
 |some ⟨.array _ E,_,z,_⟩=>match aZ P E with
  |some te=>match OH n e ps.toList with
   |some pv=>match oT (fun i=>some (i*te.size,te.size)) z (uf pv) with
    |some l=>some (.agg ⟨l⟩)
    |none=>none
   |none=>none
  |none=>none
 |_=>none
def acE(P:Program)(n:Nat)(e:Env)(o:Oper):Option Value:=
 match o.op with
 | .pick c x y=>match bp n e c with
  |some (.bool true)=>bp n e x
  |some (.bool false)=>bp n e y
  |_=>none
 | .makeFunc f x y=>match yj n e x.toList with
  |some x'=>match yj n e y.toList with
   |some y'=>some (.func f ⟨x'⟩ ⟨y'⟩)
   |none=>none
  |none=>none
 | .build T ps=>VL P n e T ps
 | .call ⟨.builtin .len,⟨[x]⟩,⟨[T]⟩⟩=>aCl P n e x T
 |_=>asv P n e o
section val
variable {P:Program} {n:Nat} {e:Env} {o:Oper} {s:St} {v:Value}
theorem als(h:asv P n e o=some v):Yields P n e o s v:=by
 unfold asv at h
 split at h<;>try (cases h;done)
 rename_i xs hx
 split at h<;>try (cases h;done)
 rename_i vs EW
 split at h<;>try (cases h;done)
 rename_i w hr
 cases h
 intro s' _ f hf K E hK
 rw[PS hx (NW hf EW)]
 exact oG hr hK
theorem abm{ps:Array (Nat×Operand)}(heq:o.op= .build T ps)(h:VL P n e T ps=some v):Yields P n e o s v:=by
 unfold VL at h
 split at h<;>try (cases h;done)
 ·rename_i fields _ z _ ee
  obtain⟨bD,tf⟩:=aw ee
  split at h<;>try (cases h;done)
  rename_i pl SU
  split at h<;>try (cases h;done)
  rename_i pv Js
  split at h<;>try (cases h;done)
  rename_i l hl
  cases h
  intro s' nF f hf K E hK
  simp only[execOp,heq,Instr.build,aa,ky tf,a8 tf,eE tf]
  rw[Array.mapM_eq_mapM_toList]
  simp only[map_eq_pure_bind,aa,ae]
  rw[oz (yY SU)]
  rw[kR] at hl
  have h1:=fill_eq _ _ _ _ hl
  have h3:(fun x=>(pl.toArray)[x]?:Nat→Option (Nat×Nat))=fun i=>pl[i]?:=by funext i;simp
  simp only[h3,hf.wj Js,h1,ae]
  exact hK
 rename_i len E _ z _ ee
 obtain⟨bD,tf⟩:=aw ee
 split at h<;>try (cases h;done)
 rename_i te uy
 obtain⟨BG,rh⟩:=aw uy
 split at h<;>try (cases h;done)
 rename_i pv Js
 split at h<;>try (cases h;done)
 rename_i l hl
 cases h
 intro s' nF f hf K E hK
 simp only[execOp,heq,Instr.build,aa,ky tf,a8 tf,eE tf,cv rh]
 rw[kR] at hl
 have h1:=fill_eq _ _ _ _ hl
 simp only[hf.wj Js,h1,ae]
 exact hK
theorem AA(h:acE P n e o=some v):Yields P n e o s v:=by
 unfold acE at h
 split at h
 ·rename_i c x y heq
  split at h<;>try (cases h;done)
  ·rename_i hc
   intro s' _ f hf K E hK
   simp only[execOp,heq,hf _ _ hc,hf _ _ h]
   exact hK
  rename_i hc
  intro s' _ f hf K E hK
  simp only[execOp,heq,hf _ _ hc,hf _ _ h]
  exact hK
 ·rename_i g x y heq
  split at h<;>try (cases h;done)
  rename_i x' hx
  split at h<;>try (cases h;done)
  rename_i y' hy
  cases h
  intro s' _ f hf K E hK
  simp only[execOp,heq,hf.arr hx,hf.arr hy]
  exact hK
 ·rename_i T ps heq;exact abm heq h
 ·rename_i x T heq
  unfold aCl at h
  split at h<;>try (cases h;done)
  ·rename_i ee
   obtain⟨bD,tf⟩:=aw ee
   split at h<;>try (cases h;done)
   rename_i hx
   cases h
   intro s' _ f hf K E hK
   simp only[execOp,heq,resolve,invoke,builtin,Builtin.len_,List.map_toArray,List.map_cons,List.map_nil,hf _ _ hx,ae,List.getElem?_toArray,List.getElem?_cons_zero,a8 tf,aa]
   exact hK
  rename_i ee
  obtain⟨bD,tf⟩:=aw ee
  split at h<;>try (cases h;done)
  rename_i hx
  cases h
  intro s' _ f hf K E hK
  simp only[execOp,heq,resolve,invoke,builtin,Builtin.len_,List.map_toArray,List.map_cons,List.map_nil,hf _ _ hx,ae,List.getElem?_toArray,List.getElem?_cons_zero,a8 tf,aa]
  exact hK
 exact als h
end val
def ldv(P:Program)(T:TypeId)(l:List Value)(off:Nat):Option Value:=
 match aZ P T with
 |some ti=>bif ti.agg then (match sub l off ti.size with
  |some vs=>some (.agg ⟨vs⟩)
  |none=>none) else nth l off
 |none=>none
theorem ae2{v:Value}{b:Nat}{t:TypeId}(heq:o.op= .load T x)(hx:bp n e x=some (.pointer (some ⟨b,off,none⟩)))(hb:s.has b (.cells ⟨l⟩ t fz))(h:ldv P T l off=some v):Yields P n e o s v:=by
 unfold ldv at h
 split at h<;>try (cases h;done)
 rename_i ti ee
 obtain⟨bD,tf⟩:=aw ee
 intro s' hs f hf K E hK
 cases ha:ti.agg with
 |true=>
  rw[ha] at h tf
  simp only[cond_true] at h
  split at h<;>try (cases h;done)
  rename_i vs EW
  cases h
  simp only[execOp,heq,Instr.loadAt,hf _ _ hx,Instr.sureAddr,loadVar,aa,ae,kM tf,if_true,cv tf]
  exact jb ⟨_,_,_,hs _ _ hb,EW⟩ hK
 |false=>
  rw[ha] at h tf
  simp only[cond_false] at h
  simp only[execOp,heq,Instr.loadAt,hf _ _ hx,Instr.sureAddr,loadVar,aa,ae,kM tf,Bool.false_eq_true,if_false]
  exact vL ⟨_,_,_,hs _ _ hb,h⟩ hK
theorem atB{v:Value}{b m:Nat}(k:Nat)(heq:o.op= .load T x)(hx:bp n e x=some (.pointer (some ⟨b,off+k,none⟩)))(hb:cF s b off m l)(h:ldv P T l k=some v):Yields P n e o s v:=by
 unfold ldv at h
 split at h<;>try (cases h;done)
 rename_i ti ee
 obtain⟨bD,tf⟩:=aw ee
 intro s' hs f hf K E hK
 cases ha:ti.agg with
 |true=>
  rw[ha] at h tf
  simp only[cond_true] at h
  split at h<;>try (cases h;done)
  rename_i vs EW
  cases h
  simp only[execOp,heq,Instr.loadAt,hf _ _ hx,Instr.sureAddr,loadVar,aa,ae,kM tf,if_true,cv tf]
  exact jb ((hb.ext hs).part k ti.size EW) hK
 |false=>
  rw[ha] at h tf
  simp only[cond_false] at h
  simp only[execOp,heq,Instr.loadAt,hf _ _ hx,Instr.sureAddr,loadVar,aa,ae,kM tf,Bool.false_eq_true,if_false]
  exact vL ((hb.ext hs).cell k v (by rw[←su];exact h)) hK
structure Cx where
 P:Program
 C:Class
 hC:∀main T,C main T→Closed P main T
 hm:P.follows .mixedOrders=true
 fn:FuncId
 aB:Option Nat
 n:Nat
 D:List Deferred
 ro:Nat→Option Obj
 Q:Post
variable {X X1:Cx}
def Cx.at(X:Cx)(ro:Nat→Option Obj):Cx:={X with ro:=ro}
inductive KI where
 |seq (b:Code)
 |block (id:Nat)
 |next (K:Act→St→Prop)
inductive Sg where
 |b (i:Nat) (o:Obj)
 |l (L:Cells)
def den:List Sg→Cells
 | []=>[]
 | [.l L]=>L
 | .b i o::r=>(i,o)::den r
 | .l L::r=>L++den r
theorem iW(i:Nat)(o:Obj)(r:List Sg):den (.b i o::r)=(i,o)::den r:=by cases r<;>rfl
theorem gI(L:Cells)(r:List Sg):den (.l L::r)=L++den r:=by cases r<;>simp[den]
inductive Pos where
 |ops (ops:Array Oper) (todo:List Nat) (k:List KI)
 |code (c:Code) (k:List KI)
 |nxt (K:Act→St→Prop)
 |H0 (ops:Array Oper) (base:Env) (Pl Sl:List (Nat×Value)) (k:List KI)
 |fin (e:Exit)
structure Kn where
 c:Cells
 nd:List (Nat×Cells)
variable {kn:Kn}
structure JS where
 pos:Pos
 env:Env
 rw:List Sg
 kn:Kn
variable {s':JS}
def KQ(X:Cx):List KI→Post
 | []=>X.Q
 | .seq b::k=>mj (fun a s=>Wp X.C X.fn X.aB b (KQ X k) a s) (KQ X k)
 | .block id::k=>q5 id (KQ X k)
 | .next K::k=>mj K (KQ X k)
def DY:Op→Bool
 | .load .. =>false
 | .lookup .. =>false
 | .call ⟨.value _,_,_⟩=>false
 | .call ⟨.invoke ..,_,_⟩=>false
 |_=>true
def wR(ops:Array Oper)(n:Nat)(e:Env):Option (Nat×Bool)→Option Bool
 |none=>some true
 |some (j,want)=>match aQ ops j with
  |some d=>match bp n e (.tmp d) with
   |some (.bool true)=>some want
   |some (.bool false)=>some (!want)
   |some (.tuple ⟨[]⟩)=>some false
   |_=>none
  |none=>none
def tb(ops:Array Oper)(n:Nat)(base:Env)(Pl:List (Nat×Value))(j:Nat):Bool:=match ops[j]? with
 |some p=>DY p.op||(match wR ops n (cw ops base j Pl) p.guard with
  |some false=>true
  |_=>false)
 |none=>false
def PF(X:Cx)(nd:List (Nat×Cells))(ops:Array Oper)(base:Env)(Pl Sl:List (Nat×Value)):Prop:=
 (∀j u,(j,u)∈Sl→tb ops X.n base Pl j=true→∀s,fe X.C X.fn X.aB ops X.n X.D j u (cw ops base j Pl) s)∧
 ∀j u B,(j,u)∈Sl→(j,B)∈nd→∀s,Ext ⟨X.ro,[]⟩ s→(∀x∈B,s.has x.1 x.2)→fe X.C X.fn X.aB ops X.n X.D j u (cw ops base j Pl) s
def ndK:List (Nat×Cells)→List Nat
 | []=>[]
 | (i,_)::l=>i::ndK l
theorem M8:∀ {l:List (Nat×Cells)},(i,B)∈l→i∈ndK l
 | (j,C)::l,h=>by
  simp only[ndK]
  rcases List.mem_cons.1 h with h|h
  ·cases h;exact List.mem_cons_self
  exact List.mem_cons_of_mem _ (M8 h)
def JP(X:Cx)(kn:Kn)(e:Env)(w:List Sg):Pos→Prop
 | .ops ops todo k=>ab X.C X.fn X.aB ops todo (KQ X k) (A X.n e X.D) ⟨X.ro,den w⟩
 | .code c k=>Wp X.C X.fn X.aB c (KQ X k) (A X.n e X.D) ⟨X.ro,den w⟩
 | .nxt K=>K (A X.n e X.D) ⟨X.ro,den w⟩
 | .H0 ops base Pl Sl k=>PF X kn.nd ops base Pl Sl→tL X.C X.fn X.aB ops X.n X.D base Pl Sl (KQ X k) ⟨X.ro,den w⟩
 | .fin e'=>X.Q e' (A X.n e X.D) ⟨X.ro,den w⟩
def J(X:Cx):Option JS→Prop
 |none=>False
 |some s=>Knows X.ro s.kn.c→JP X s.kn s.env s.rw s.pos
def PU:List KI→Pos
 | []=> .fin .normal
 | .seq b::k=> .code b k
 | .block _::k=>PU k
 | .next K::_=> .nxt K
theorem ue{w:List Sg}:∀ {k:List KI},JP X kn e w (PU k)→KQ X k .normal (A X.n e X.D) ⟨X.ro,den w⟩
 | [],h=>h
 | .seq _::_,h=>h
 | .block _::k,h=>ue (k:=k) h
 | .next _::_,h=>h
def Bv(id:Nat):List KI→Option Pos
 | []=>some (.fin (.exit id))
 | .seq _::k=>Bv id k
 | .block i::k=>bif Nat.beq id i then some (PU k) else Bv id k
 | .next _::k=>Bv id k
theorem wX{w:List Sg}{p:Pos}:∀ {k:List KI},Bv id k=some p→JP X kn e w p→KQ X k (.exit id) (A X.n e X.D) ⟨X.ro,den w⟩
 | [],h,hj=>by simp only[Bv,Option.some.injEq] at h;subst h;exact hj
 | .seq _::k,h,hj=>wX (k:=k) h hj
 | .next _::k,h,hj=>wX (k:=k) h hj
 | .block i::k,h,hj=>by
  simp only[Bv] at h
  cases hb:Nat.beq id i with
  |true=>
   rw[hb] at h;simp only[cond_true,Option.some.injEq] at h;subst h
   have:=Nat.eq_of_beq_eq_true hb;subst this
   exact Ep (ue hj)
  |false=>
   rw[hb] at h;simp only[cond_false] at h
   exact Eo hb (wX (k:=k) h hj)
theorem AI{a:Act}(h:X.Q .ret a s):∀(k:List KI),KQ X k .ret a s
 | []=>h
 | .seq _::k=>AI h k
 | .next _::k=>AI h k
 | .block _::k=>AI h k
def aAw:Op→Bool
 | .move _| .assign _| .pick .. | .makeFunc .. | .extract .. | .nilCheck _| .fieldAddr .. | .makeInterface .. | .indexAddr .. | .index .. | .field .. | .binOp .. | .unOp .. | .convert .. | .build .. | .load .. | .lookup .. | .slice .. =>true
 | .call ⟨.builtin .len,_,_⟩| .call ⟨.builtin .cap,_,_⟩| .call ⟨.builtin .min,_,_⟩| .call ⟨.builtin .max,_,_⟩=>true
 |_=>false
def aAx(ops:Array Oper)(i:Nat):Bool:=match ops[i]? with
 |some o=>aAw o.op
 |none=>false
def enabled(ops:Array Oper)(ks:List Nat)(i:Nat):Bool:= !ba i ks&&fQ (bu ops i) ks
def aiJ(f:Nat→Bool):Nat→Nat→Option Nat
 |0,_=>none
 |k+1,i=>bif f i then some i else aiJ f k (i+1)
def aoh(ops:Array Oper)(ks:List Nat):Option Nat:=
 match aiJ (fun i=>enabled ops ks i&&aAx ops i) ops.size 0 with
 |some i=>some i
 |none=>aiJ (enabled ops ks) ops.size 0
def qM(n:Nat):JS→Option (Bool×Oper×Env)
 | ⟨.ops ops (i::_) _,e,_,_⟩=>match ops[i]? with
  |some o=>match wR ops n e o.guard with
   |some g=>some (g,o,e)
   |none=>none
  |none=>none
 | ⟨.H0 ops base Pl _ _,_,_,_⟩=>match aoh ops (ak Pl) with
  |some i=>match ops[i]? with
   |some o=>match wR ops n (cw ops base i Pl) o.guard with
    |some g=>some (g,o,cw ops base i Pl)
    |none=>none
   |none=>none
  |none=>none
 |_=>none
def Gr(v:Value):JS→Option JS
 | ⟨.ops ops (i::todo) k,e,w,kn⟩=>match ops[i]? with
  |some o=>some ⟨.ops ops todo k,upd o.dst v e,w,kn⟩
  |none=>none
 | ⟨.H0 ops base Pl Sl k,e,w,kn⟩=>match aoh ops (ak Pl) with
  |some i=>bif !ba i (ak Pl)&&(fQ (bu ops i) (ak Pl)&&(pG ops (ak Pl)&&(fQ (ak Sl) (ak Pl)&& !ba i (ndK kn.nd)))) then some ⟨.H0 ops base ((i,v)::Pl) ((i,v)::Sl) k,e,w,kn⟩ else none
  |none=>none
 |_=>none
theorem n9{ops:Array Oper}{g:Option (Nat×Bool)}(h:wR ops n e g=some true)(rest:Env):ay ops n (e++rest) g=true:=by
 unfold wR at h
 split at h
 ·rfl
 rename_i j want
 split at h<;>try (cases h;done)
 rename_i d hd
 have hd:(ops[j]?).bind (·.dst)=some d:=hd
 split at h<;>try (cases h;done)
 ·rename_i hb;simp only[Option.some.injEq] at h;subst h
  exact tQ hd (bk hb) rfl
 rename_i hb;simp only[Option.some.injEq,Bool.not_eq_true'] at h;subst h
 exact tQ hd (bk hb) rfl
section
variable {X:Cx}
theorem zt{ops:Array Oper}{Q:Post}(ho:ops[i]?=some o) (h:wR ops X.n e o.guard=some false) (rest:Env) (hk:ab X.C X.fn X.aB ops todo Q (A X.n (upd o.dst undef (e++rest)) X.D) s):ab X.C X.fn X.aB ops (i::todo) Q (A X.n (e++rest) X.D) s:=by
 unfold wR at h
 split at h
 ·cases h
 rename_i j want hg
 split at h<;>try (cases h;done)
 rename_i d hd
 have hd:(ops[j]?).bind (·.dst)=some d:=hd
 split at h<;>try (cases h;done)
 ·rename_i hb;simp only[Option.some.injEq] at h;subst h
  exact uk X.hC ho hg hd (bk hb) rfl hk
 ·rename_i hb;simp only[Option.some.injEq,Bool.not_eq_false'] at h;subst h
  exact uk X.hC ho hg hd (bk hb) rfl hk
 rename_i hb
 rcases o with ⟨dst,op,ty,pos,db,g⟩
 dsimp only at hg;subst hg
 exact alY X.hC ho hd (bk hb) hk
def IA(X:Cx)(e:Env)(o:Oper)(s:St)(v:Value):Prop:=
 ∀(ops:Array Oper) (i:Nat),ops[i]?=some o→∀rest,ay ops X.n (e++rest) o.guard=true→∀s',Ext s s'→∀todo Q,ab X.C X.fn X.aB ops todo Q (A X.n (upd o.dst v (e++rest)) X.D) s'→ab X.C X.fn X.aB ops (i::todo) Q (A X.n (e++rest) X.D) s'
theorem jyS{s:JS}{v:Value}(hh:qM X.n s=some (g,o,e))(hp:Gr v s=some s')
 (hv:match g with|true=>(Knows X.ro s.kn.c→IA X e o ⟨X.ro,den s.rw⟩ v)∧(DY o.op=true→∀s,IA X e o s v)|false=>v=undef)(hj:J X (some s')):J X (some s):=by
 intro bY
 rcases s with ⟨p,e0,w,kn⟩
 cases p with
 |ops ops todo k=>
  cases todo with
  |nil=>cases hh
  |cons i todo=>
   simp only[qM] at hh
   split at hh<;>try (cases hh;done)
   rename_i o1 ho
   split at hh<;>try (cases hh;done)
   rename_i g1 hg
   cases hh
   simp only[Gr,ho,Option.some.injEq] at hp;subst hp
   have hk:ab X.C X.fn X.aB ops todo (KQ X k) (A X.n (upd o.dst v e) X.D) ⟨X.ro,den w⟩:=hj bY
   show ab X.C X.fn X.aB ops (i::todo) (KQ X k) (A X.n e X.D) ⟨X.ro,den w⟩
   cases g with
   |true=>
    have:=hv.1 bY ops i ho [] (n9 hg []) _ (Ext.refl _) todo (KQ X k)
    rw[List.append_nil] at this
    exact this hk
   |false=>
    dsimp only at hv;subst hv
    have:=zt (Q:=KQ X k) (s:=⟨X.ro,den w⟩) (todo:=todo) ho hg []
    rw[List.append_nil] at this
    exact this hk
 |H0 ops base Pl Sl k=>
  simp only[qM] at hh
  split at hh<;>try (cases hh;done)
  rename_i i hi
  split at hh<;>try (cases hh;done)
  rename_i o1 ho
  split at hh<;>try (cases hh;done)
  rename_i g1 hg
  cases hh
  simp only[Gr,hi] at hp
  cases hc:(!ba i (ak Pl)&&(fQ (bu ops i) (ak Pl)&&(pG ops (ak Pl)&&(fQ (ak Sl) (ak Pl)&& !ba i (ndK kn.nd))))) with
  |false=>rw[hc] at hp;cases hp
  |true=>
   rw[hc] at hp;simp only[cond_true,Option.some.injEq] at hp;subst hp
   simp only[Bool.and_eq_true,Bool.not_eq_true'] at hc
   have E0:aQ ops i=o.dst:=by simp only[aQ,ho,Option.bind_some]
   intro hpf
   have q9:∀j,j∈ak Sl→i∉bu ops j:=fun j hj hd=>by
    have h1:=bO.1 hc.2.2.2.1 j hj
    have h2:=bO.1 (List.all_eq_true.1 hc.2.2.1 j h1) i hd
    rw[aJ.2 h2] at hc;exact absurd hc.1 (by simp)
   refine Iv i hc.1 hc.2.1 hc.2.2.1 hc.2.2.2.1 ?_ (hj bY ⟨fun j u IP hp s0=>?_,fun j u B IP hB s0 G7 vo=>?_⟩)
   ·intro s1 hx rest todo Q hk
    rw[E0] at hk
    cases g with
    |true=>exact hv.1 bY ops _ ho rest (n9 hg rest) _ hx _ _ hk
    |false=>dsimp only at hv;subst hv;exact zt ho hg rest hk
   ·have hii:i∉bu ops i:=fun hd=>by
     have h2:=bO.1 hc.2.1 i hd
     rw[aJ.2 h2] at hc;exact absurd hc.1 (by simp)
    rcases List.mem_cons.1 IP with h1|h1
    ·obtain⟨Ak,rfl⟩:=Prod.mk.inj h1
     subst Ak
     rw[cY hii]
     intro s1 hx rest todo Q hk
     rw[E0] at hk
     cases g with
     |true=>
      have hpk:DY o.op=true:=by
       simp only[tb,ho,cY hii,hg,Bool.or_false] at hp
       exact hp
      exact hv.2 hpk s0 ops _ ho rest (n9 hg rest) _ hx _ _ hk
     |false=>dsimp only at hv;subst hv;exact zt ho hg rest hk
    have OG:j∈ak Sl:=aP.2 ⟨u,h1⟩
    rw[cY (q9 j OG)]
    exact hpf.1 j u h1 (by simp only[tb,cY (q9 j OG)] at hp;exact hp) s0
   rcases List.mem_cons.1 IP with h1|h1
   ·obtain⟨Ak,rfl⟩:=Prod.mk.inj h1
    subst Ak
    have:=M8 hB
    rw[aJ.2 this] at hc;exact absurd hc.2.2.2.2 (by simp)
   rw[cY (q9 j (aP.2 ⟨u,h1⟩))]
   exact hpf.2 j u B h1 hB s0 G7 vo
 |_=>cases hh
def alN(B:Cells)(v:Value):JS→Option JS
 | ⟨.ops ops (i::todo) k,e,w,kn⟩=>match ops[i]? with
  |some o=>some ⟨.ops ops todo k,upd o.dst v e,w,kn⟩
  |none=>none
 | ⟨.H0 ops base Pl Sl k,e,w,kn⟩=>match aoh ops (ak Pl) with
  |some i=>bif !ba i (ak Pl)&&(fQ (bu ops i) (ak Pl)&&(pG ops (ak Pl)&&(fQ (ak Sl) (ak Pl)&& !ba i (ndK kn.nd)))) then some ⟨.H0 ops base ((i,v)::Pl) ((i,v)::Sl) k,e,w,⟨kn.c,(i,B)::kn.nd⟩⟩ else none
  |none=>none
 |_=>none
theorem jyN{s:JS}{v:Value}(hh:qM X.n s=some (true,o,e))(hp:alN B v s=some s')(hB:∀x∈B,(⟨X.ro,den s.rw⟩:St).has x.1 x.2)(hnp:DY o.op=false)
 (hv:∀s0,Ext ⟨X.ro,[]⟩ s0→(∀x∈B,s0.has x.1 x.2)→IA X e o s0 v)(hj:J X (some s')):J X (some s):=by
 intro bY
 rcases s with ⟨p,e0,w,kn⟩
 cases p with
 |ops ops todo k=>
  have:Gr v ⟨.ops ops todo k,e0,w,kn⟩=some s':=by
   cases todo with
   |nil=>cases hh
   |cons i todo=>exact hp
  exact jyS hh this ⟨fun _=>hv _ NT hB,fun h=>by rw[hnp] at h;cases h⟩ hj bY
 |H0 ops base Pl Sl k=>
  simp only[qM] at hh
  split at hh<;>try (cases hh;done)
  rename_i i hi
  split at hh<;>try (cases hh;done)
  rename_i o1 ho
  split at hh<;>try (cases hh;done)
  rename_i g1 hg
  cases hh
  simp only[alN,hi] at hp
  cases hc:(!ba i (ak Pl)&&(fQ (bu ops i) (ak Pl)&&(pG ops (ak Pl)&&(fQ (ak Sl) (ak Pl)&& !ba i (ndK kn.nd))))) with
  |false=>rw[hc] at hp;cases hp
  |true=>
   rw[hc] at hp;simp only[cond_true,Option.some.injEq] at hp;subst hp
   simp only[Bool.and_eq_true,Bool.not_eq_true'] at hc
   have E0:aQ ops i=o.dst:=by simp only[aQ,ho,Option.bind_some]
   intro hpf
   have q9:∀j,j∈ak Sl→i∉bu ops j:=fun j hj hd=>by
    have h1:=bO.1 hc.2.2.2.1 j hj
    have h2:=bO.1 (List.all_eq_true.1 hc.2.2.1 j h1) i hd
    rw[aJ.2 h2] at hc;exact absurd hc.1 (by simp)
   have hii:i∉bu ops i:=fun hd=>by
    have h2:=bO.1 hc.2.1 i hd
    rw[aJ.2 h2] at hc;exact absurd hc.1 (by simp)
   have bW:∀s0,Ext ⟨X.ro,[]⟩ s0→(∀x∈B,s0.has x.1 x.2)→fe X.C X.fn X.aB ops X.n X.D i v (cw ops base i Pl) s0:=by
    intro s0 G7 vo s1 hx rest todo Q hk
    rw[E0] at hk
    exact hv s0 G7 vo ops _ ho rest (n9 hg rest) _ hx _ _ hk
   have aSs:tb ops X.n base ((i,v)::Pl) i=false:=by
    simp only[tb,ho,hnp,cY hii,hg,Bool.or_false]
   refine Iv i hc.1 hc.2.1 hc.2.2.1 hc.2.2.2.1 (bW _ NT hB) (hj bY ⟨fun j u IP hp s0=>?_,fun j u B' IP hB' s0 G7 vo=>?_⟩)
   ·rcases List.mem_cons.1 IP with h1|h1
    ·obtain⟨Ak,rfl⟩:=Prod.mk.inj h1
     subst Ak
     rw[aSs] at hp;cases hp
    have OG:j∈ak Sl:=aP.2 ⟨u,h1⟩
    rw[cY (q9 j OG)]
    exact hpf.1 j u h1 (by simp only[tb,cY (q9 j OG)] at hp;exact hp) s0
   rcases List.mem_cons.1 IP with h1|h1
   ·obtain⟨Ak,rfl⟩:=Prod.mk.inj h1
    subst Ak
    rw[cY hii]
    rcases List.mem_cons.1 hB' with h2|h2
    ·cases h2;exact bW s0 G7 vo
    have:=M8 h2
    rw[aJ.2 this] at hc;exact absurd hc.2.2.2.2 (by simp)
   have OG:j∈ak Sl:=aP.2 ⟨u,h1⟩
   rw[cY (q9 j OG)]
   rcases List.mem_cons.1 hB' with h2|h2
   ·obtain⟨Ak,rfl⟩:=Prod.mk.inj h2
    subst Ak
    have h3:=bO.1 hc.2.2.2.1 _ OG
    rw[aJ.2 h3] at hc;exact absurd hc.1 (by simp)
   exact hpf.2 j u B' h1 h2 s0 G7 vo
 |_=>cases hh
theorem jy{s:JS}{v:Value}(hh:qM X.n s=some (g,o,e))(hp:Gr v s=some s')
 (hv:match g with|true=>eN o.op=true∧(Knows X.ro s.kn.c→Yields X.P X.n e o ⟨X.ro,den s.rw⟩ v)∧(DY o.op=true→∀s,Yields X.P X.n e o s v)|false=>v=undef)(hj:J X (some s')):J X (some s):=by
 refine jyS hh hp ?_ hj
 cases g with
 |true=>exact⟨fun bY ops i ho rest hw s' hx todo Q hk=>lZ X.hC ho rest hw hv.1 (hv.2.1 bY) hx hk,fun hp s ops i ho rest hw s' hx todo Q hk=>lZ X.hC ho rest hw hv.1 (hv.2.2 hp s) hx hk⟩
 |false=>exact hv
end
def yZ:List Sg→Nat→Option Sg
 | [],_=>none
 |x::_,0=>some x
 |_::l,i+1=>yZ l i
def Ty:List Sg→Nat→Sg→List Sg
 | [],_,_=>[]
 |_::l,0,y=>y::l
 |x::l,i+1,y=>x::Ty l i y
def al5:Cells→Nat→Option (Nat×Obj)
 | [],_=>none
 |x::_,0=>some x
 |_::l,i+1=>al5 l i
def BE(w:List Sg)(kn:Cells)(h:Nat):Option (Nat×List Value):=
 match yZ w h with
 |some (.b b (.cells ⟨l⟩ _ _))=>some (b,l)
 |some _=>none
 |none=>match al5 kn (h-64) with
  |some (b,.cells ⟨l⟩ _ _)=>some (b,l)
  |_=>none
def adj(P:Program)(n:Nat)(e:Env)(w:List Sg)(h:Nat):Op→Option (List Sg×Nat×Nat)
 | .store T x y=>match bp n e x with
  |some (.pointer (some ⟨b,off,none⟩))=>match bp n e y with
   |some v=>match yZ w h with
    |some (.b b' (.cells ⟨c⟩ t (0,0)))=>match aZ P T with
     |some ti=>bif Nat.beq (eB v).length ti.size&&(Nat.ble (off+(eB v).length) c.length&&(eB v).all single) then some (Ty w h (.b b' (.cells ⟨dI c off (eB v)⟩ t (0,0))),b,b') else none
     |none=>none
    |_=>none
   |none=>none
  |_=>none
 |_=>none
abbrev aq7:=Option (JS×List Nat×List (Nat×Nat))
def axq(n:Nat)(e:Env)(k:List KI):Code→Option Pos
 | .skip=>some (PU k)
 | .seq a b=>some (.code a (.seq b::k))
 | .block id c=>some (.code c (.block id::k))
 | .region _ ops d=>bif d then (bif zy ops then some (.H0 ops e [] [] k) else none) else some (.ops ops (List.range ops.size) k)
 | .exit id=>Bv id k
 | .ret=>some (.fin .ret)
 | .scope c=>some (.code c k)
 | .label _=>some (PU k)
 | .cond c a b=>match bp n e c with
  |some (.bool true)=>some (.code a k)
  |some (.bool false)=>some (.code b k)
  |_=>none
 |_=>none
def aje(ops:Array Oper)(Pl:List (Nat×Value)):Bool:=fP ops&&(nodupB (ak Pl)&&(fQ (List.range ops.size) (ak Pl)&&fQ (ak Pl) (List.range ops.size)))
def opJ(P:Program)(n:Nat)(hs:List Nat)(s:JS):aq7:=
 match qM n s with
 |some (g,o,e)=>bif g then (match o.op with
  | .store .. =>match s,hs with
   | ⟨.ops ops (_::todo) k,_,w,kn⟩,h::hs=>match adj P n e w h o.op with
    |some (w',b,b')=>some (⟨.ops ops todo k,upd o.dst undef e,w',kn⟩,hs,[(b,b')])
    |none=>none
   |_,_=>none
  | .load T x=>match hs with
   |h::hs=>match bp n e x with
    |some (.pointer (some ⟨b,off,none⟩))=>match BE s.rw s.kn.c h with
     |some (b',l)=>match ldv P T l off with
      |some v=>match Gr v s with
       |some s'=>some (s',hs,[(b',b)])
       |none=>none
      |none=>none
     |none=>none
    |_=>none
   | []=>none
  |_=>bif eN o.op then (match acE P n e o with
   |some v=>match Gr v s with
    |some s'=>some (s',hs,[])
    |none=>none
   |none=>none) else none) else (match Gr undef s with
  |some s'=>some (s',hs,[])
  |none=>none)
 |none=>none
def stepJ(P:Program)(n:Nat)(hs:List Nat)(s:JS):aq7:=
 match s.pos with
 | .ops _ [] k=>some (⟨PU k,s.env,s.rw,s.kn⟩,hs,[])
 | .code c k=>match axq n s.env k c with
  |some p=>some (⟨p,s.env,s.rw,⟨s.kn.c,[]⟩⟩,hs,[])
  |none=>none
 | .H0 ops base Pl _ k=>match aoh ops (ak Pl) with
  |none=>bif aje ops Pl then some (⟨PU k,jB ops base Pl,s.rw,s.kn⟩,hs,[]) else none
  |some _=>opJ P n hs s
 |_=>opJ P n hs s
section
variable {X:Cx}
theorem AH:∀ {w:List Sg} {h b:Nat} {o:Obj},yZ w h=some (.b b o)→∃L R,den w=L++(b,o)::R∧∀o',den (Ty w h (.b b o'))=L++(b,o')::R
 | [],_,_,_,h=>by cases h
 |x::w,0,b,o,h=>by
  simp only[yZ,Option.some.injEq] at h;subst h
  exact⟨[],den w,by simp[iW],fun o'=>by simp[Ty,iW]⟩
 |x::w,i+1,b,o,h=>by
  obtain⟨L,R,h1,h2⟩:=AH (w:=w) (h:=i) h
  cases x with
  |b i' o1=>exact⟨(i',o1)::L,R,by simp[iW,h1],fun o'=>by simp[Ty,iW,h2]⟩
  |l L1=>exact⟨L1++L,R,by simp[gI,h1],fun o'=>by simp[Ty,gI,h2]⟩
theorem Qj:∀ {l:Cells} {i:Nat} {x:Nat×Obj},al5 l i=some x→x∈l
 | [],_,_,h=>by cases h
 |y::l,0,x,h=>by simp only[al5,Option.some.injEq] at h;subst h;exact List.mem_cons_self
 |y::l,i+1,x,h=>List.mem_cons_of_mem _ (Qj (l:=l) h)
theorem z0{w:List Sg}{kn:Cells}{h b:Nat}(hk:Knows X.ro kn)(hc:BE w kn h=some (b,l)):∃t fz,(⟨X.ro,den w⟩:St).has b (.cells ⟨l⟩ t fz):=by
 unfold BE at hc
 split at hc
 ·rename_i hn
  cases hc
  obtain⟨L,R,h1,_⟩:=AH hn
  exact⟨_,_,.inr (by show (_,_)∈den w;rw[h1];exact fH)⟩
 ·cases hc
 split at hc<;>try (cases hc;done)
 rename_i hn
 cases hc
 exact⟨_,_,.inl (hk _ (Qj hn))⟩
theorem aoj{w:List Sg}{k:List KI}{c:Code}{p:Pos}(h:axq X.n e k c=some p)(hj:JP X ⟨kn.c,[]⟩ e w p):JP X kn e w (.code c k):=by
 unfold axq at h
 split at h
 ·cases h;exact wp_skip X.hC (ue hj)
 ·cases h;exact wp_seq X.hC hj
 ·cases h;exact wp_block X.hC hj
 ·rename_i id ops d
  cases d with
  |true=>
   simp only[cond_true] at h
   cases hd:zy ops with
   |false=>rw[hd] at h;cases h
   |true=>
    rw[hd] at h;simp only[cond_true,Option.some.injEq] at h;subst h
    exact abA X.hC X.hm hd (hj ⟨fun _ _ h=>(List.not_mem_nil h).elim,fun _ _ _ h=>(List.not_mem_nil h).elim⟩)
  |false=>simp only[cond_false,Option.some.injEq] at h;subst h;exact wp_region X.hC hj
 ·exact wp_exit X.hC (wX h hj)
 ·cases h;exact wp_ret (AI hj k)
 ·cases h;exact OU X.hC hj
 ·cases h;exact wp_label X.hC (ue hj)
 ·split at h<;>try (cases h;done)
  ·rename_i hc;cases h;exact Wi X.hC hc rfl hj
  rename_i hc;cases h;exact Wj X.hC hc rfl hj
 cases h
theorem aej{s:JS}{q:List (Nat×Nat)}(h:opJ X.P X.n hs s=some (s',nF,q))(hq:∀p∈q,p.1=p.2)(hj:J X (some s')):J X (some s):=by
 unfold opJ at h
 split at h<;>try (cases h;done)
 rename_i g o e hh
 cases g with
 |false=>
  simp only[cond_false] at h
  split at h<;>try (cases h;done)
  rename_i s1 hp
  cases h
  exact jy hh hp rfl hj
 |true=>
  simp only[cond_true] at h
  split at h
  ·rename_i T x y aA
   split at h<;>try (cases h;done)
   rename_i ops i todo k e1 w kn h0 hsx
   split at h<;>try (cases h;done)
   rename_i w' b b' bW
   cases h
   have Jy:b=b':=hq _ List.mem_cons_self
   subst Jy
   simp only[qM] at hh
   split at hh<;>try (cases hh;done)
   rename_i o1 ho
   split at hh<;>try (cases hh;done)
   rename_i g1 hg
   simp only[Option.some.injEq,Prod.mk.injEq] at hh
   obtain⟨rfl,rfl,rfl⟩:=hh
   intro bY
   have hj:=hj bY
   rw[aA] at bW
   simp only[adj] at bW
   split at bW<;>try (cases bW;done)
   rename_i b0 off hx
   split at bW<;>try (cases bW;done)
   rename_i v hy
   split at bW<;>try (cases bW;done)
   rename_i b1 c t hn
   split at bW<;>try (cases bW;done)
   rename_i ti ee
   cases hc:(Nat.beq (eB v).length ti.size&&(Nat.ble (off+(eB v).length) c.length&&(eB v).all single)) with
   |false=>rw[hc] at bW;cases bW
   |true=>
    rw[hc] at bW
    simp only[cond_true,Option.some.injEq,Prod.mk.injEq] at bW
    obtain⟨rfl,rfl,rfl⟩:=bW
    simp only[Bool.and_eq_true,Nat.ble_eq] at hc
    obtain⟨bD,tf⟩:=aw ee
    obtain⟨L,R,h1,h2⟩:=AH hn
    rcases o1 with ⟨dst,op,ty,pos,db,gd⟩
    dsimp only at aA;subst aA
    have hw:=n9 hg []
    rw[List.append_nil] at hw
    refine Fu (v:=v) (l:=eB v) (L:=L) (R:=R) (c:=c) (e:=t) X.hC ho hw tf hx hy (by rw[mA]) (Nat.eq_of_beq_eq_true hc.1) (List.all_eq_true.1 hc.2.2) h1 hc.2.1 ?_
    have hj:ab X.C X.fn X.aB ops todo (KQ X k) _ ⟨X.ro,den _⟩:=hj
    rw[h2] at hj
    exact hj
  ·rename_i T x aA
   split at h<;>try (cases h;done)
   rename_i h0 bB
   split at h<;>try (cases h;done)
   rename_i b off hx
   split at h<;>try (cases h;done)
   rename_i b' l hc
   split at h<;>try (cases h;done)
   rename_i v hv
   split at h<;>try (cases h;done)
   rename_i s1 hp
   cases h
   have Jy:b'=b:=hq _ List.mem_cons_self
   subst Jy
   refine jy hh hp ⟨by rw[aA];rfl,fun bY=>?_,fun hk=>by rw[aA] at hk;cases hk⟩ hj
   obtain⟨t,fz,hb⟩:=z0 bY hc
   exact ae2 aA hx hb hv
  cases hn:eN o.op with
  |false=>rw[hn] at h;cases h
  |true=>
   rw[hn] at h;simp only[cond_true] at h
   split at h<;>try (cases h;done)
   rename_i v hv
   split at h<;>try (cases h;done)
   rename_i s1 hp
   cases h
   exact jy hh hp ⟨hn,fun _=>AA hv,fun _ _=>AA hv⟩ hj
theorem adk{s:JS}{q:List (Nat×Nat)}(h:stepJ X.P X.n hs s=some (s',nF,q))(hq:∀p∈q,p.1=p.2)(hj:J X (some s')):J X (some s):=by
 unfold stepJ at h
 split at h
 ·rename_i ops k hp
  cases h
  rcases s with ⟨p,e,w,kn⟩
  dsimp only at hp;subst hp
  exact fun bY=>uh X.hC (ue (hj bY))
 ·rename_i c k hp
  rcases s with ⟨p,e,w,kn⟩
  dsimp only at hp;subst hp
  split at h<;>try (cases h;done)
  rename_i p hc
  cases h
  exact fun bY=>aoj hc (hj bY)
 ·rename_i ops base Pl Sl k hp
  split at h
  ·cases hd:aje ops Pl with
   |false=>rw[hd] at h;cases h
   |true=>
    rw[hd] at h;simp only[cond_true,Option.some.injEq,Prod.mk.injEq] at h
    obtain⟨rfl,rfl,rfl⟩:=h
    rcases s with ⟨p,e,w,kn⟩
    dsimp only at hp;subst hp
    simp only[aje,Bool.and_eq_true] at hd
    exact fun bY _=>ajQ X.hC hd.1 hd.2.1 hd.2.2.1 hd.2.2.2 (ue (hj bY))
  exact aej h hq hj
 exact aej h hq hj
end
def abG(P:Program)(n:Nat):Nat→List Nat→JS→List (Nat×Nat)→Option (JS×List (Nat×Nat))
 |0,_,s,q=>some (s,q)
 |k+1,hs,s,q=>match stepJ P n hs s with
  |some (s',nF,q')=>abG P n k nF s' (q'++q)
  |none=>none
def adv(P:Program)(n k:Nat)(hs:List Nat):Option JS→Option (JS×List (Nat×Nat))
 |some s=>abG P n k hs s []
 |none=>none
def res:Option (JS×List (Nat×Nat))→Option JS
 |some (s,_)=>some s
 |none=>none
def Vp:List (Nat×Nat)→List Nat
 | []=>[]
 | (a,_)::l=>a::Vp l
def Tv:List (Nat×Nat)→List Nat
 | []=>[]
 | (_,b)::l=>b::Tv l
def lhs:Option (JS×List (Nat×Nat))→List Nat
 |some (_,q)=>Vp q
 |none=>[0]
def rhs:Option (JS×List (Nat×Nat))→List Nat
 |some (_,q)=>Tv q
 |none=>[1]
theorem my:∀ {q:List (Nat×Nat)},Vp q=Tv q→∀p∈q,p.1=p.2
 | (a,b)::l,h,p,hp=>by
  simp only[Vp,Tv,List.cons.injEq] at h
  rcases List.mem_cons.1 hp with rfl|hp
  ·exact h.1
  exact my h.2 p hp
theorem Y3:∀ {k:Nat} {hs:List Nat} {s s':JS} {q q':List (Nat×Nat)},abG X.P X.n k hs s q=some (s',q')→(∀p∈q',p.1=p.2)→(J X (some s')→J X (some s))∧∀p∈q,p∈q'
 |0,_,_,_,_,_,h,_=>by simp only[abG,Option.some.injEq,Prod.mk.injEq] at h;obtain⟨rfl,rfl⟩:=h;exact⟨id,fun _ h=>h⟩
 |k+1,hs,s,s',q,q',h,hq=>by
  simp only[abG] at h
  split at h<;>try (cases h;done)
  rename_i s1 bB q1 bW
  obtain⟨h1,h2⟩:=Y3 h hq
  exact⟨fun hj=>adk bW (fun p hp=>hq p (h2 p (List.mem_append_left _ hp))) (h1 hj),fun p hp=>h2 p (List.mem_append_right _ hp)⟩
theorem jd{o:Option JS}(k:Nat)(hs:List Nat)(h:J X (res (adv X.P X.n k hs o)))(he:lhs (adv X.P X.n k hs o)=rhs (adv X.P X.n k hs o):=by kernel_rfl):J X o:=by
 cases o with
 |none=>exact h
 |some s=>
  simp only[adv] at he h
  cases hc:abG X.P X.n k hs s [] with
  |none=>rw[hc] at h;exact h.elim
  |some x=>
   rcases x with ⟨s',q⟩
   rw[hc] at he h
   exact(Y3 hc (my he)).1 h
attribute [irreducible] adv res lhs rhs
def dP(n:Nat)(f:Oper→Env→Option β):Option JS→Option β
 |some s=>match qM n s with
  |some (true,p,e)=>f p e
  |_=>none
 |none=>none
def kB(v:Value):Option JS→Option JS
 |some s=>Gr v s
 |none=>none
def PW:List Nat→List Sg→Option (List Sg)
 | [],_=>some []
 |i::is,w=>match yZ w i with
  |some x=>match PW is w with
   |some r=>some (x::r)
   |none=>none
  |none=>none
def dL(is:List Nat):Nat→List Sg→List Sg
 |_,[]=>[]
 |k,x::w=>bif ba k is then dL is (k+1) w else x::dL is (k+1) w
def GC:List Nat→Bool
 | []=>true
 |i::is=> !ba i is&&GC is
def rB(is:List Nat):Option JS→Option (List Sg)
 |some s=>bif GC is then PW is s.rw else none
 |none=>none
def eA(is:List Nat)(o:Option JS):Option Cells:=match rB is o with
 |some w=>some (den w)
 |none=>none
def lkE:List Nat→Env→Option Env
 | [],_=>some []
 |t::ts,e=>match ij e t with
  |some v=>match lkE ts e with
   |some r=>some ((t,v)::r)
   |none=>none
  |none=>none
def pU:Env→List Nat
 | []=>[]
 | (t,_)::e=>t::pU e
def uW(ts:List Nat):Option JS→Option Env
 |some s=>lkE ts s.env
 |none=>none
theorem tt{ts:List Nat}{s:JS}:uW ts (some s)=lkE ts s.env:=rfl
theorem kV:∀ {ts:List Nat} {r:Env},lkE ts e=some r→ld e r
 | [],r,h=>by simp only[lkE,Option.some.injEq] at h;subst h;trivial
 |t::ts,r,h=>by
  simp only[lkE] at h
  split at h<;>try (cases h;done)
  rename_i v hv
  split at h<;>try (cases h;done)
  rename_i r' hr
  cases h
  exact⟨hv,kV hr⟩
theorem lP:∀(a b:List Sg),den (a++b)=den a++den b
 | [],b=>rfl
 | .b i o::a,b=>by simp[iW,lP a b]
 | .l L::a,b=>by simp[gI,lP a b]
theorem xP:∀(w:List Sg) (k:Nat),dL [] k w=w
 | [],_=>rfl
 |x::w,k=>by simp[dL,ba,xP w (k+1)]
theorem H2:∀ {w:List Sg} {i k:Nat} {is:List Nat} {x:Sg},yZ w i=some x→ba (k+i) is=false→(den (dL is k w)).Perm (den [x]++den (dL ((k+i)::is) k w))
 | [],_,_,_,_,h,_=>by cases h
 |y::w,0,k,is,x,h,hi=>by
  simp only[yZ,Option.some.injEq] at h;subst h
  have hz:∀(w:List Sg) (j:Nat),k <j→dL (k::is) j w=dL is j w:=by
   intro w
   induction w with
   |nil=>intro j _;rfl
   |cons z w ih=>
    intro j hj
    have:Nat.beq j k=false:=beq_false (by omega)
    simp only[dL,ba,this,Bool.false_or,ih (j+1) (by omega)]
  simp only[Nat.add_zero] at hi ⊢
  simp only[dL,hi,cond_false,ba,Nat.beq_refl,Bool.true_or,cond_true,hz w (k+1) (by omega)]
  cases y with
  |b i o=>rw[iW];exact .refl _
  |l L=>rw[gI];exact .refl _
 |y::w,i+1,k,is,x,h,hi=>by
  have e:k+(i+1)=(k+1)+i:=by omega
  rw[e] at hi ⊢
  have hr:=H2 (w:=w) (k:=k+1) (is:=is) h hi
  have eg:Nat.beq k ((k+1)+i)=false:=beq_false (by omega)
  simp only[dL,ba,eg,Bool.false_or]
  cases ba k is with
  |true=>simp only[cond_true];exact hr
  |false=>
   simp only[cond_false]
   cases y with
   |b i' o=>rw[iW,iW];exact(hr.cons _).trans List.perm_middle.symm
   |l L=>
    rw[gI,gI]
    refine(hr.append_left L).trans ?_
    rw[←List.append_assoc,←List.append_assoc]
    exact List.Perm.append_right _ List.perm_append_comm
theorem xG{w:List Sg}:∀ {is:List Nat} {r:List Sg},PW is w=some r→GC is=true→(den w).Perm (den r++den (dL is 0 w))
 | [],r,h,_=>by simp only[PW,Option.some.injEq] at h;subst h;rw[xP];exact .refl _
 |i::is,r,h,ho=>by
  simp only[PW] at h
  split at h<;>try (cases h;done)
  rename_i x hx
  split at h<;>try (cases h;done)
  rename_i r' hr
  cases h
  simp only[GC,Bool.and_eq_true,Bool.not_eq_true'] at ho
  have h1:=xG hr ho.2
  have h2:=H2 (k:=0) (is:=is) hx (by rw[Nat.zero_add];exact ho.1)
  rw[Nat.zero_add] at h2
  refine h1.trans ((List.Perm.append_left _ h2).trans ?_)
  have:den (x::r')=den [x]++den r':=by rw[←lP];rfl
  rw[this,←List.append_assoc]
  exact List.Perm.append_right _ List.perm_append_comm
theorem lY{is:List Nat}{s:JS}{w:List Sg}(h:rB is (some s)=some w):(den s.rw).Perm (den w++den (dL is 0 s.rw)):=by
 simp only[rB] at h
 cases ho:GC is with
 |false=>rw[ho] at h;cases h
 |true=>rw[ho] at h;exact xG h ho
theorem bL{is:List Nat}{s:JS}{L:Cells}(h:eA is (some s)=some L):(den s.rw).Perm (L++den (dL is 0 s.rw)):=by
 simp only[eA] at h
 split at h<;>try (cases h;done)
 rename_i w hw
 cases h
 exact lY hw
theorem R3{is:List Nat}{s:JS}{L:Cells}(h:eA is (some s)=some L):∀x∈L,(⟨X.ro,den s.rw⟩:St).has x.1 x.2:=fun x hx=> .inr ((bL h).mem_iff.2 (List.mem_append_left _ hx))
section
variable {X:Cx} {o:Option JS}
theorem sO{f:Oper→Env→Option β}{r:β}(h:dP n f o=some r):∃s p e,o=some s∧qM n s=some (true,p,e)∧f p e=some r:=by
 unfold dP at h
 split at h<;>try (cases h;done)
 rename_i s
 split at h<;>try (cases h;done)
 rename_i p e hh
 exact⟨s,p,e,rfl,hh,h⟩
theorem jG{v:Value}{f:Oper→Env→Option β}{r:β}(h:dP X.n f o=some r)(hy:∀s p e,o=some s→qM X.n s=some (true,p,e)→f p e=some r→eN p.op=true∧(Knows X.ro s.kn.c→Yields X.P X.n e p ⟨X.ro,den s.rw⟩ v)∧(DY p.op=true→∀s,Yields X.P X.n e p s v))(hj:J X (kB v o)):J X o:=by
 obtain⟨s,p,e,rfl,hh,hf⟩:=sO h
 obtain⟨h1,h2,h3⟩:=hy s p e rfl hh hf
 simp only[kB] at hj
 cases hp:Gr v s with
 |none=>rw[hp] at hj;exact hj.elim
 |some s'=>rw[hp] at hj;exact jy hh hp ⟨h1,h2,h3⟩ hj
theorem jGS{v:Value}{f:Oper→Env→Option β}{r:β}(h:dP X.n f o=some r)(hy:∀s p e,o=some s→f p e=some r→IA X e p ⟨X.ro,den s.rw⟩ v∧(DY p.op=true→∀s,IA X e p s v))(hj:J X (kB v o)):J X o:=by
 obtain⟨s,p,e,rfl,hh,hf⟩:=sO h
 simp only[kB] at hj
 cases hp:Gr v s with
 |none=>rw[hp] at hj;exact hj.elim
 |some s'=>rw[hp] at hj;exact jyS hh hp ⟨fun _=>(hy s p e rfl hf).1,(hy s p e rfl hf).2⟩ hj
def MT(B:Cells)(v:Value):Option JS→Option JS
 |some s=>alN B v s
 |none=>none
theorem jGN{v:Value}{f:Oper→Env→Option β}{r:β}(h:dP X.n f o=some r)(hB:eA ps o=some B)(hy:∀s p e,o=some s→qM X.n s=some (true,p,e)→f p e=some r→DY p.op=false∧∀s0,Ext ⟨X.ro,[]⟩ s0→(∀x∈B,s0.has x.1 x.2)→IA X e p s0 v)(hj:J X (MT B v o)):J X o:=by
 obtain⟨s,p,e,rfl,hh,hf⟩:=sO h
 obtain⟨h1,h2⟩:=hy s p e rfl hh hf
 simp only[MT] at hj
 cases hp:alN B v s with
 |none=>rw[hp] at hj;exact hj.elim
 |some s'=>rw[hp] at hj;exact jyN hh hp (R3 hB) h1 h2 hj
theorem SQ{v:Value}{f:Oper→Env→Option β}{r:β}(h:dP X.n f o=some r)(hy:∀s p e,o=some s→f p e=some r→∀s0,IA X e p s0 v)(hj:J X (kB v o)):J X o:=
 jGS h (fun s p e ho hf=>⟨hy s p e ho hf _,fun _=>hy s p e ho hf⟩) hj
def arL(P:Program)(n:Nat)(p:Oper)(e:Env):Option Value:=bif eN p.op then acE P n e p else none
theorem je(v:Value){w:Value}(hw:w=v)(hj:J X (kB v o))(hv:dP X.n (arL X.P X.n) o=some w:=by kernel_rfl):J X o:=by
 subst hw
 refine jG hv (fun s p e _ _ hf=>?_) hj
 unfold arL at hf
 cases hn:eN p.op with
 |false=>rw[hn] at hf;cases hf
 |true=>rw[hn] at hf;exact⟨rfl,fun _=>AA hf,fun _ _=>AA hf⟩
theorem ja(r:Int)(h: -9223372036854775808≤r∧r≤9223372036854775807)(hj:J X (kB (.int .i64 r) o))(hv:dP X.n (arL X.P X.n) o=some (.int .i64 (IntKind.i64.wrap r)):=by kernel_rfl):J X o:=je _ (by rw[kL r h]) hj hv
def ldA(P:Program)(n k:Nat)(vs:List Value)(p:Oper)(e:Env):Option (Option Addr):=match p.op with
 | .load T x=>match ldv P T vs k with
  |some _=>match bp n e x with
   |some (.pointer a)=>some a
   |_=>none
  |none=>none
 |_=>none
def ldW(P:Program)(n k:Nat)(vs:List Value)(o:Option JS):Value:=(dP n (fun p _=>match p.op with
 | .load T _=>ldv P T vs k
 |_=>none) o).getD undef
theorem mY{b m:Nat}(k:Nat)(ps:List Nat)(B:Cells)(hr:∀s:St,Ext ⟨X.ro,[]⟩ s→(∀x∈B,s.has x.1 x.2)→cF s b off m vs)(hj:J X (MT B (ldW X.P X.n k vs o) o))(hv:dP X.n (ldA X.P X.n k vs) o=some (some ⟨b,off+k,none⟩):=by kernel_rfl)(hB:eA ps o=some B:=by kernel_rfl):J X o:=by
 refine jGN hv hB (fun s p e ho hh hf=>?_) hj
 subst ho
 unfold ldA at hf
 split at hf<;>try (cases hf;done)
 rename_i T x aA
 split at hf<;>try (cases hf;done)
 rename_i v hv2
 split at hf<;>try (cases hf;done)
 rename_i a hx
 simp only[Option.some.injEq] at hf;subst hf
 have hw:ldW X.P X.n k vs (some s)=v:=by simp only[ldW,dP,hh,aA,hv2,Option.getD_some]
 rw[hw]
 exact⟨by rw[aA];rfl,fun s0 G7 vo ops i ho rest hwt s' hs todo Q hk=>lZ X.hC ho rest hwt (by rw[aA];rfl) (atB k aA hx (hr s0 G7 vo) hv2) hs hk⟩
theorem jl{b m:Nat}(k:Nat)(hr:cF ⟨X.ro,[]⟩ b off m vs)(hj:J X (MT [] (ldW X.P X.n k vs o) o))(hv:dP X.n (ldA X.P X.n k vs) o=some (some ⟨b,off+k,none⟩):=by kernel_rfl):J X o:=by
 have hB:eA [] o=some []:=by
  obtain⟨s,_,_,rfl,_⟩:=sO hv
  rfl
 exact mY k [] [] (fun s hs _=>hr.ext hs) hj hv hB
def ixA(P:Program)(n:Nat)(p:Oper)(e:Env):Option (Value×Int×Nat):=match p.op with
 | .indexAddr T x y=>match aZ P T with
  |some ⟨.slice E,_,_,_⟩=>match aZ P E with
   |some te=>match bp n e x with
    |some v=>match bp n e y with
     |some (.int _ ix)=>some (v,ix,te.size)
     |_=>none
    |none=>none
   |none=>none
  |_=>none
 |_=>none
theorem jix{a:Option Addr}{b len:Nat}(ix:Int)(cap sz:Nat)(ha:a=some ⟨b,off,none⟩)(hi:0≤ix∧ix <len)(hj:J X (kB (.pointer (some ⟨b,off+ix.toNat*sz,none⟩)) o))(hv:dP X.n (ixA X.P X.n) o=some (.slice a len cap,ix,sz):=by kernel_rfl):J X o:=by
 refine jG hv (fun s p e ho hh hf=>?_) hj
 unfold ixA at hf
 split at hf<;>try (cases hf;done)
 rename_i T x y aA
 split at hf<;>try (cases hf;done)
 rename_i E _ _ _ ee
 split at hf<;>try (cases hf;done)
 rename_i te uy
 split at hf<;>try (cases hf;done)
 rename_i v hx
 split at hf<;>try (cases hf;done)
 rename_i ik ix' hy
 simp only[Option.some.injEq,Prod.mk.injEq] at hf
 obtain⟨rfl,rfl,rfl⟩:=hf
 subst ha
 obtain⟨bD,tf⟩:=aw ee
 obtain⟨BG,rh⟩:=aw uy
 have key:∀s,Yields X.P X.n e p s (.pointer (some ⟨b,off+ix'.toNat*te.size,none⟩)):=by
  intro s s' nF f hf K E hK
  simp only[execOp,aA,Instr.indexAt,hf _ _ hx,hf _ _ hy,asIntOf,aa,ae,a8 tf,hi,and_self,if_true,cv rh,dY]
  exact hK
 exact⟨by rw[aA];rfl,fun _=>key _,fun _=>key⟩
theorem iM{ps:List α}{b:Nat}{x:α}{a:Option Addr}(cap sz:Nat)(ha:∀k,k <ps.length→a=some ⟨b,off,none⟩)(hx:ps[k]?=some x) (hj:J X (kB (.pointer (some ⟨b,off+k*sz,none⟩)) o)) (hv:dP X.n (ixA X.P X.n) o=some (.slice a ps.length cap,(k:Int),sz):=by kernel_rfl):J X o:=
 have hk:k <ps.length:=(List.getElem?_eq_some_iff.1 hx).1
 jix (k:Int) cap sz (ha k hk) (by omega) hj hv
theorem OB{ps:List α}{b:Nat}{x:α}{a:Option Addr}(ix:Int)(cap sz:Nat)(ha:∀k,k <ps.length→a=some ⟨b,off,none⟩)(hx:ps[k]?=some x) (he:ix=(k:Int)) (hj:J X (kB (.pointer (some ⟨b,off+k*sz,none⟩)) o)) (hv:dP X.n (ixA X.P X.n) o=some (.slice a ps.length cap,ix,sz):=by kernel_rfl):J X o:=by
 subst he;exact iM cap sz ha hx hj hv
theorem QE{v:Value}{enc:α→List Value}{ps:List α}{L:Cells}{x:α}(sz:Nat)(kY:az v szo T2 enc ps L)(hx:ps[k]?=some x) (hj:∀b,Ot v b→J X (kB (.pointer (some ⟨b,k*sz,none⟩)) o)) (hv:dP X.n (ixA X.P X.n) o=some (v,(k:Int),sz):=by kernel_rfl):J X o:=by
 have hk:k <ps.length:=(List.getElem?_eq_some_iff.1 hx).1
 obtain⟨b,hb⟩:=aBN kY hk
 have gu:=hb
 obtain⟨n0,c,rfl⟩:=gu
 have hn:n0=ps.length:=by
  obtain⟨a,c',he⟩:=kY.form
  cases he;rfl
 subst hn
 have hj:=hj b hb
 exact jix (off:=0) (k:Int) c sz rfl (by omega) (by rw[Nat.zero_add];exact hj) hv
theorem pW{v:Value}{enc:α→List Value}{ps:List α}{L:Cells}{x:α}(ix:Int)(sz:Nat)(kY:az v szo T2 enc ps L)(hx:ps[k]?=some x) (he:ix=(k:Int)) (hj:∀b,Ot v b→J X (kB (.pointer (some ⟨b,k*sz,none⟩)) o)) (hv:dP X.n (ixA X.P X.n) o=some (v,ix,sz):=by kernel_rfl):J X o:=by
 subst he;exact QE sz kY hx hj hv
end
attribute [irreducible] dP kB MT eA rB uW ldW
section
variable {X:Cx} {o:Option JS}
theorem Oy{D:List Deferred}{t:Nat}{v:Value}(h:ij e t=some v):A n ((t,v)::e) D=A n e D:=by
 simp only[A]
 congr 1
 congr 1
 funext i
 simp only[get]
 cases hb:Nat.beq t i with
 |false=>rfl
 |true=>
  have:=Nat.eq_of_beq_eq_true hb
  subst this
  exact(ni h).symm
def Pv(j:Nat)(v:Value):List (Nat×Value)→List (Nat×Value)
 | []=>[]
 | (i,w)::r=>bif Nat.beq i j then (i,v)::r else (i,w)::Pv j v r
theorem Gg{j:Nat}{v:Value}:∀ {l:List (Nat×Value)},PV l j=some v→Pv j v l=l
 | (i,w)::r,h=>by
  simp only[PV] at h
  simp only[Pv]
  cases hb:Nat.beq i j with
  |true=>rw[hb] at h;simp only[cond_true,Option.some.injEq] at h;subst h;rfl
  |false=>rw[hb] at h;simp only[cond_false] at h ⊢;rw[Gg h]
def apu(t:Nat):JS→Option Value
 | ⟨.H0 _ _ Pl _ _,_,_,_⟩=>PV Pl t
 |s=>ij s.env t
def J3(t:Nat):Option JS→Option Value
 |some s=>apu t s
 |none=>none
def Zy(t:Nat)(v:Value):JS→JS
 | ⟨.H0 ops base Pl Sl k,e,w,kn⟩=>⟨.H0 ops base (Pv t v Pl) Sl k,e,w,kn⟩
 | ⟨p,e,w,kn⟩=>⟨p,(t,v)::e,w,kn⟩
def Pw(t:Nat)(v:Value):Option JS→Option JS
 |some s=>some (Zy t v s)
 |none=>none
theorem jw(t:Nat)(v:Value){w:Value}(hw:w=v)(hj:J X (Pw t v o))(hv:J3 t o=some w:=by kernel_rfl):J X o:=by
 subst hw
 cases o with
 |none=>exact hj
 |some s=>
  rcases s with ⟨p,e,I9,kn⟩
  intro bY
  have hj:=hj
  cases p with
  |H0 ops base Pl Sl k=>
   simp only[J3,apu] at hv
   have:Pv t w Pl=Pl:=Gg hv
   simp only[Pw,Zy,this] at hj
   exact hj bY
  |ops a b c=>have:=hj bY;simp only[Zy,JP] at this;rw[Oy hv] at this;exact this
  |code a b=>have:=hj bY;simp only[Zy,JP] at this;rw[Oy hv] at this;exact this
  |nxt a=>have:=hj bY;simp only[Zy,JP] at this;rw[Oy hv] at this;exact this
  |fin a=>have:=hj bY;simp only[Zy,JP] at this;rw[Oy hv] at this;exact this
theorem ji(t:Nat){c b:Bool}(h:c=b)(hj:J X (Pw t (.bool b) o))(hv:J3 t o=some (.bool c):=by kernel_rfl):J X o:=jw t _ (by rw[h]) hj hv
theorem js(t:Nat)(c:Bool)(h1:c=true→J X (Pw t (.bool true) o))(h2:c=false→J X (Pw t (.bool false) o))(hv:J3 t o=some (.bool c):=by kernel_rfl):J X o:=by
 cases hc:c with
 |true=>exact ji t hc (h1 hc) hv
 |false=>exact ji t hc (h2 hc) hv
def aB9(P:Program)(n:Nat)(p:Oper)(e:Env):Option (Obj×Option Nat):=match p.op with
 | .alloc T=>match aZ P T with
  |some ti=>some (.cells ⟨ti.zero⟩ T (0,0),none)
  |none=>none
 | .box T x=>match bp n e x with
  |some v=>some (.cells ⟨eB v⟩ T (0,0),none)
  |none=>none
 | .buildSlice T m ps=>match aZ P T with
  |some ⟨.slice E,_,_,_⟩=>match aZ P E with
   |some te=>match OH n e ps.toList with
    |some pv=>match oT (fun i=>some (i*te.size,te.size)) (c8 te.zero m) (uf pv) with
     |some l=>bif Nat.beq te.zero.length te.size&&Nat.ble (m*te.size) 16777216 then some (.cells ⟨l⟩ E (0,0),some m) else none
     |none=>none
    |none=>none
   |none=>none
  |_=>none
 | .range T x=>match aZ P T with
  |some ⟨.string,_,_,_⟩=>match bp n e x with
   |some (.string b)=>some (.stringIter b 0,none)
   |_=>none
  |_=>none
 |_=>none
def aeB(b:Nat):Option Nat→Value
 |some m=> .slice (some ⟨b,0,none⟩) m m
 |none=> .pointer (some ⟨b,0,none⟩)
def ath(P:Program)(n b:Nat):Option JS→Option JS
 |some ⟨.ops ops (i::todo) k,e,w,kn⟩=>match qM n ⟨.ops ops (i::todo) k,e,w,kn⟩ with
  |some (true,p,_)=>match aB9 P n p e with
   |some (ob,m)=>some ⟨.ops ops todo k,upd p.dst (aeB b m) e,.b b ob::w,kn⟩
   |none=>none
  |_=>none
 |_=>none
theorem Rb{ops:Array Oper}{k:List KI}{e':Env}{w:List Sg}(h:qM n ⟨.ops ops (i::todo) k,e,w,kn⟩=some (g,p,e')):ops[i]?=some p∧e'=e∧(g=true→ay ops n e p.guard=true):=by
 simp only[qM] at h
 split at h<;>try (cases h;done)
 rename_i p1 ho
 split at h<;>try (cases h;done)
 rename_i g1 hg
 cases h
 refine⟨ho,rfl,fun hg'=>?_⟩
 subst hg'
 have:=n9 hg []
 rwa[List.append_nil] at this
theorem jn(hj:∀b,J X (ath X.P X.n b o)):J X o:=by
 unfold ath at hj
 split at hj
 ·rename_i ops i todo k e w kn
  split at hj
  ·rename_i p e' hh
   obtain⟨ho,rfl,hw⟩:=Rb hh
   have hw:=hw rfl
   intro bY
   rcases p with ⟨dst,op,ty,pos,db,g⟩
   split at hj
   ·rename_i ob m hn
    have key:∀b,ab X.C X.fn X.aB ops todo (KQ X k) (A X.n (upd dst (aeB b m) e') X.D) ⟨X.ro,(b,ob)::den w⟩:=fun b=>by
     have:=hj b bY
     simp only[JP,iW] at this
     exact this
    unfold aB9 at hn
    split at hn
    ·rename_i T aA
     dsimp only at aA;subst aA
     split at hn<;>try (cases hn;done)
     rename_i ti ee
     cases hn
     obtain⟨bD,tf⟩:=aw ee
     exact al4 X.hC ho hw tf fun b _=>key b
    ·rename_i T x aA
     dsimp only at aA;subst aA
     split at hn<;>try (cases hn;done)
     rename_i v hx
     cases hn
     exact aB1 X.hC ho hw hx (by rw[mA]) fun b _=>key b
    ·rename_i T m0 ps aA
     dsimp only at aA;subst aA
     split at hn<;>try (cases hn;done)
     rename_i E _ _ _ ee
     split at hn<;>try (cases hn;done)
     rename_i te uy
     split at hn<;>try (cases hn;done)
     rename_i pv Js
     split at hn<;>try (cases hn;done)
     rename_i l hl
     cases hc:(Nat.beq te.zero.length te.size&&Nat.ble (m0*te.size) 16777216) with
     |false=>rw[hc] at hn;cases hn
     |true=>
      rw[hc] at hn;simp only[cond_true,Option.some.injEq,Prod.mk.injEq] at hn
      obtain⟨rfl,rfl⟩:=hn
      simp only[Bool.and_eq_true] at hc
      obtain⟨bD,tf⟩:=aw ee
      obtain⟨BG,rh⟩:=aw uy
      exact M4 X.hC ho hw tf rh hc.1 Js hc.2 hl fun b _=>key b
    ·rename_i T x aA
     dsimp only at aA;subst aA
     split at hn<;>try (cases hn;done)
     rename_i ee
     split at hn<;>try (cases hn;done)
     rename_i bs hx
     cases hn
     obtain⟨bD,tf⟩:=aw ee
     exact T6 X.hC ho hw tf hx fun b _=>key b
    cases hn
   exact(hj 0).elim
  exact(hj 0).elim
 exact(hj 0).elim
def ajD(n:Nat)(p:Oper)(e:Env):Option (FuncId×List Value):=match p.op with
 | .call ⟨.value x,xs,_⟩=>match bp n e x with
  |some (.func (.func f) ⟨fi⟩ ⟨ca⟩)=>match yj n e xs.toList with
   |some vs=>some (f,fi++vs++ca)
   |none=>none
  |_=>none
 |_=>none
def yG(P:Program)(n:Nat)(p:Oper)(e:Env):Option (FuncId×List Value):=match ajD n p e with
 |some (f,vs)=>bif BZ P f then some (f,vs) else none
 |none=>none
theorem qZ(h:yG P n p e=some (f,vs)):FF P f∧∃x xs at_ fi ca ws,p.op= .call ⟨.value x,xs,at_⟩∧bp n e x=some (.func (.func f) ⟨fi⟩ ⟨ca⟩)∧vD n e xs=some ws∧vs=fi++ws++ca:=by
 unfold yG at h
 split at h<;>try (cases h;done)
 rename_i f' oD hc
 cases hb:BZ P f' with
 |false=>rw[hb] at h;cases h
 |true=>
  rw[hb] at h;simp only[cond_true,Option.some.injEq,Prod.mk.injEq] at h
  obtain⟨rfl,rfl⟩:=h
  refine⟨lj hb,?_⟩
  unfold ajD at hc
  split at hc<;>try (cases hc;done)
  rename_i x xs at_ aA
  split at hc<;>try (cases hc;done)
  rename_i f fi ca hx
  split at hc<;>try (cases hc;done)
  rename_i ws sB
  cases hc
  exact⟨x,xs,at_,fi,ca,ws,aA,hx,sB,rfl⟩
theorem Sq(a b c:List Value):(⟨a⟩:Array Value)++⟨b⟩++⟨c⟩=⟨a++b++c⟩:=by simp
def nH(ps:List Nat)(v:Value)(Y:Cells):Option JS→Option JS
 |some ⟨.ops ops (i::todo) k,e,w,kn⟩=>match ops[i]? with
  |some p=>some ⟨.ops ops todo k,upd p.dst v e,.l Y::dL ps 0 w,kn⟩
  |none=>none
 |_=>none
def fx(n:Nat)(f:Oper→Env→Option β):Option JS→Option β
 |some ⟨.ops a b c,e,w,kn⟩=>dP n f (some ⟨.ops a b c,e,w,kn⟩)
 |_=>none
theorem dG{f:Oper→Env→Option β}{r:β}(h:fx n f o=some r):∃ops i todo k e w kn p,o=some ⟨.ops ops (i::todo) k,e,w,kn⟩∧ops[i]?=some p∧ay ops n e p.guard=true∧f p e=some r:=by
 unfold fx at h
 split at h<;>try (cases h;done)
 rename_i ops todo k e w kn
 obtain⟨s,p,e',hs,hh,hf⟩:=sO h
 cases hs
 cases todo with
 |nil=>cases hh
 |cons i todo=>
  obtain⟨ho,rfl,hw⟩:=Rb hh
  exact⟨ops,i,todo,k,e',w,kn,p,rfl,ho,hw rfl,hf⟩
def apX(ps lp:List Nat):Option JS→Option Cells
 |some s=>eA lp (some {s with rw:=dL ps 0 s.rw})
 |none=>none
theorem oC{ops:Array Oper}{k:List KI}{w:List Sg}{v:Value}(ho:ops[i]?=some p):nH ps v Y (some ⟨.ops ops (i::todo) k,e,w,kn⟩)=some ⟨.ops ops todo k,upd p.dst v e,.l Y::dL ps 0 w,kn⟩:=by
 simp only[nH,ho]
theorem SP{own:Cells}(ps lp:List Nat)(B:Cells)(hf:∀aC,Sub X.ro aC→Knows aC B→eV X.P f vs aC own Φ)(hj:∀v Y,Φ v Y→J X (nH ps v Y o))(h1:fx X.n (yG X.P X.n) o=some (f,vs):=by kernel_rfl)(h2:eA ps o=some own:=by kernel_rfl)(h3:apX ps lp o=some B:=by kernel_rfl):J X o:=by
 obtain⟨ops,i,todo,k,e,w,kn,p,rfl,ho,hw,hc⟩:=dG h1
 obtain⟨ff,x,xs,at_,fi,ca,ws,aA,hx,sB,rfl⟩:=qZ hc
 intro bY
 rcases p with ⟨dst,op,ty,pos,db,g⟩
 dsimp only at aA;subst aA
 have hp:=bL h2
 refine aet (own:=own) (B:=B) (Φ:=Φ) X.hC ho hw hx ff sB (Sq fi ws ca) hp (fun y hy=>(bL h3).mem_iff.2 (List.mem_append_left _ hy)) (fun aC hs hB=>hf aC hs hB) (fun v Y qF=>?_)
 have:=hj v Y qF
 simp only[nH,ho] at this
 have:=this bY
 simp only[JP,gI] at this
 exact this
theorem jc{own:Cells}(ps:List Nat)(hf:eV X.P f vs X.ro own Φ)(hj:∀v Y,Φ v Y→J X (nH ps v Y o))(h1:fx X.n (yG X.P X.n) o=some (f,vs):=by kernel_rfl)(h2:eA ps o=some own:=by kernel_rfl):J X o:=by
 obtain⟨ops,i,todo,k,e,w,kn,p,rfl,ho,hw,hc⟩:=dG h1
 obtain⟨ff,x,xs,at_,fi,ca,ws,aA,hx,sB,rfl⟩:=qZ hc
 intro bY
 rcases p with ⟨dst,op,ty,pos,db,g⟩
 dsimp only at aA;subst aA
 have hp:=bL h2
 refine ur (fi:=⟨fi⟩) (ca:=⟨ca⟩) (ws:=fi++ws++ca) X.hC ho hw hx ff sB (Sq fi ws ca) (Fn.weaken X.hC (eV.azU (s:=⟨X.ro,den w⟩) hp hf)) (fun v' s' hr=>?_) (fun ch s' hr=>by obtain⟨_,_,e,_⟩:=hr;cases e) (fun s' hr=>by obtain⟨_,_,e,_⟩:=hr;cases e)
 obtain⟨v,Y,hv,qF,hle⟩:=hr
 cases hv
 have:=hj _ Y qF
 simp only[nH,ho] at this
 have:=this bY
 simp only[JP,gI] at this
 exact this.more X.hC hle
theorem jp{V:Value}(lp:List Nat)(B:Cells)(hf:∀aC,Sub X.ro aC→Knows aC B→dz X.P f vs aC V)(hj:J X (MT B V o))(h1:dP X.n (yG X.P X.n) o=some (f,vs):=by kernel_rfl)(h3:eA lp o=some B:=by kernel_rfl):J X o:=by
 refine jGN h1 h3 (fun s p e ho hh hc=>?_) hj
 obtain⟨ff,x,xs,at_,fi,ca,ws,aA,hx,sB,rfl⟩:=qZ hc
 rcases p with ⟨dst,op,ty,pos,db,g⟩
 dsimp only at aA;subst aA
 refine⟨rfl,fun s0 G7 vo ops i tz rest hw s' hs todo Q hk=>?_⟩
 have hez:Ext ⟨X.ro,B⟩ s':=fun b ob hb=>hs _ _ (hb.elim (fun h=>G7 _ _ (.inl h)) fun h=>vo (b,ob) h)
 exact Qh X.hC tz hw (bk hx) ff (xN sB) (Sq fi ws ca) hez (fun aC h1=>hf aC (Ga h1) fun y hy=>h1 _ _ (.inr hy)) hk
end
attribute [irreducible] fx Pw J3 ath nH apX
def tE(P:Program)(f:FuncId):Func:=match P.funcs[f]? with
 |some fn=>fn
 |none=>default
abbrev RX(ro:Nat→Option Obj)(Φ:Value→Cells→Prop):Ending→St→Prop:=fun en s'=>∃v X,en= .returned v∧s'=⟨ro,X⟩∧Φ v X
def X0(P:Program)(hm:P.follows .mixedOrders=true)(f:FuncId)(ro:Nat→Option Obj)(R:Ending→St→Prop):Cx:=⟨P,CP P,fq,hm,f,none,(tE P f).ntmps,[],ro,rO P (tE P f) R⟩
def lg(P:Program)(f:FuncId)(args:List Value)(own:List Sg)(kn:Cells):Option JS:=match P.funcs[f]? with
 |some fn=>match fn.body with
  |some c=>bif Nat.ble args.length fn.ntmps then some ⟨.code c [],fZ 0 args,own,⟨kn,[]⟩⟩ else none
  |none=>none
 |none=>none
theorem aub{hm:P.follows .mixedOrders=true}{ro:Nat→Option Obj}(own:List Sg)(kn:Cells)(hk:Knows ro kn)(h:J (X0 P hm f ro R) (lg P f args own kn)):Fn (CP P) P f ⟨args⟩ ⟨ro,den own⟩ R:=by
 unfold lg at h
 split at h<;>try exact h.elim
 rename_i fn hf
 split at h<;>try exact h.elim
 rename_i c hc
 cases hl:Nat.ble args.length fn.ntmps with
 |false=>rw[hl] at h;exact h.elim
 |true=>
  rw[hl] at h
  have vk:tE P f=fn:=by simp only[tE,hf]
  have:=h hk
  simp only[JP,X0,KQ,vk] at this
  exact RF fq hf hc rfl hl this
theorem bG(hm:P.follows .mixedOrders=true){ro:Nat→Option Obj}{L:Cells}(own:List Sg)(kn:Cells)(hk:Knows ro kn)(h:J (X0 P hm f ro (RX ro Φ)) (lg P f args own kn))(hL:den own=L:=by rfl):eV P f args ro L Φ:=by
 subst hL;exact aub own kn hk h
def Cj(P:Program)(n:Nat)(e:Env)(w:List Sg)(kn:Cells):List Nat→List ResultVar→Option (List Value×List (Nat×Nat))
 |_,[]=>some ([],[])
 |hs,.tmp t::rs=>match bp n e (.tmp t) with
  |some v=>match Cj P n e w kn hs rs with
   |some (vs,q)=>some (v::vs,q)
   |none=>none
  |none=>none
 |h::hs,.cell t T::rs=>match bp n e (.tmp t) with
  |some (.pointer (some ⟨b,off,none⟩))=>match BE w kn h with
   |some (b',l)=>match ldv P T l off with
    |some v=>match Cj P n e w kn hs rs with
     |some (vs,q)=>some (v::vs,(b',b)::q)
     |none=>none
    |none=>none
   |none=>none
  |_=>none
 | [],.cell _ _::_=>none
def j8(P:Program)(n:Nat)(f:FuncId)(hs:List Nat):Option JS→Option (Value×List (Nat×Nat))
 |some ⟨.fin _,e,w,kn⟩=>match Cj P n e w kn.c hs (tE P f).results.toList with
  |some (vs,q)=>some (uV vs,q)
  |none=>none
 |_=>none
def tC:Option (Value×List (Nat×Nat))→Option Value
 |some (v,_)=>some v
 |none=>none
def S6:Option (Value×List (Nat×Nat))→List Nat
 |some (_,q)=>Vp q
 |none=>[0]
def S5:Option (Value×List (Nat×Nat))→List Nat
 |some (_,q)=>Tv q
 |none=>[1]
theorem tX{w:List Sg}{kn:Cells}(bY:Knows X.ro kn):∀ {hs:List Nat} {rs:List ResultVar} {vs:List Value} {q:List (Nat×Nat)},Cj X.P X.n e w kn hs rs=some (vs,q)→(∀p∈q,p.1=p.2)→Fb X.P ⟨X.ro,den w⟩ X.n e rs vs
 |_,[],vs,q,h,_=>by simp only[Cj,Option.some.injEq,Prod.mk.injEq] at h;obtain⟨rfl,rfl⟩:=h;exact .nil
 |hs,.tmp t::rs,vs,q,h,hq=>by
  simp only[Cj] at h
  split at h<;>try (cases h;done)
  rename_i v hv
  split at h<;>try (cases h;done)
  rename_i oD q' hr
  simp only[Option.some.injEq,Prod.mk.injEq] at h;obtain⟨rfl,rfl⟩:=h
  exact .tmp hv (tX bY hr hq)
 | [],.cell _ _::_,vs,q,h,_=>by simp only[Cj] at h;cases h
 |h0::hs,.cell t T::rs,vs,q,h,hq=>by
  simp only[Cj] at h
  split at h<;>try (cases h;done)
  rename_i b off hv
  split at h<;>try (cases h;done)
  rename_i b' l hc
  split at h<;>try (cases h;done)
  rename_i v hld
  split at h<;>try (cases h;done)
  rename_i oD q' hr
  simp only[Option.some.injEq,Prod.mk.injEq] at h;obtain⟨rfl,rfl⟩:=h
  have hb:b'=b:=hq _ List.mem_cons_self
  subst hb
  obtain⟨t',fz,hh⟩:=z0 (X:=X) bY hc
  have ih:=tX bY hr fun p hp=>hq p (List.mem_cons_of_mem _ hp)
  unfold ldv at hld
  split at hld<;>try (cases hld;done)
  rename_i ti ee
  obtain⟨bD,tf⟩:=aw ee
  cases ha:ti.agg with
  |true=>
   rw[ha] at hld tf;simp only[cond_true] at hld
   split at hld<;>try (cases hld;done)
   rename_i vs2 EW
   cases hld
   exact .agg tf hv ⟨_,_,_,hh,EW⟩ ih
  |false=>
   rw[ha] at hld tf;simp only[cond_false] at hld
   exact .cell tf hv ⟨_,_,_,hh,hld⟩ ih
def Dg:Option JS→Bool
 |some ⟨.fin .ret,_,_,_⟩=>true
 |some ⟨.fin .normal,_,_,_⟩=>true
 |_=>false
theorem tG{o:Option JS}(h:Dg o=true):∃ex e w kn,o=some ⟨.fin ex,e,w,kn⟩∧(ex= .ret∨ex= .normal):=by
 unfold Dg at h
 split at h
 ·exact⟨_,_,_,_,rfl,.inl rfl⟩
 ·exact⟨_,_,_,_,rfl,.inr rfl⟩
 cases h
def aeY:Option JS→Bool
 |some ⟨.ops ..,_,_,_⟩=>true
 |some ⟨.code ..,_,_,_⟩=>true
 |_=>false
structure QR(X:Cx)(R:Ending→St→Prop):Prop where
 q:X.Q=rO X.P (tE X.P X.fn) R
 d:X.D=[]
theorem q0{hm:P.follows .mixedOrders=true}{ro:Nat→Option Obj}:QR (X0 P hm f ro R) R:=⟨rfl,rfl⟩
theorem QR.a{ro:Nat→Option Obj}(h:QR X R):QR (X.at ro) R:=⟨h.q,h.d⟩
theorem bh{ro:Nat→Option Obj}:Knows ro []:=fun _ h=>by cases h
section
variable {X:Cx} {o:Option JS}
theorem aH{pZ:Nat→Option Obj}(hq:QR X R)(v:Value)(hs ps:List Nat)(Y:Cells)(fM:Sub pZ X.ro)(hR:R (.returned v) ⟨pZ,Y⟩)(h1:tC (j8 X.P X.n X.fn hs o)=some v:=by kernel_rfl)(h2:S6 (j8 X.P X.n X.fn hs o)=S5 (j8 X.P X.n X.fn hs o):=by kernel_rfl)(h3:eA ps o=some Y:=by kernel_rfl)(h4:Dg o=true:=by kernel_rfl):J X o:=by
 obtain⟨ex,e,w,kn,rfl,hex⟩:=tG h4
 simp only[j8] at h1 h2
 cases hr:Cj X.P X.n e w kn.c hs (tE X.P X.fn).results.toList with
 |none=>rw[hr] at h1;cases h1
 |some x=>
  rcases x with ⟨vs,q⟩
  simp only[hr,tC,Option.some.injEq,S6,S5] at h1 h2
  intro bY
  have sC:=tX bY hr (my h2)
  have hp:=bL h3
  show X.Q ex (A X.n e X.D) ⟨X.ro,den w⟩
  rw[hq.q,hq.d]
  exact PB (s0:=⟨pZ,Y⟩) hex sC h1 (dZ hp fM) hR
def xw(X:Cx)(K:Act→St→Prop)(ef:ι→Env)(wf:ι→List Sg)(Inv:ι→Prop)(μ:ι→Nat)(m:Nat):Prop:=
 ∀j,Inv j→μ j <m→∀(e:Env) (s:St),ld e (ef j)→(⟨X.ro,den (wf j)⟩:St).le s→K (A X.n e X.D) s
def yl:List Nat→List (Act→St→Prop)→Code→List KI→Option (Code×List KI)
 | [],_,c,k=>some (c,k)
 |0::p,Ks,.seq a b,k=>yl p Ks a (.seq b::k)
 |1::p,Ks,.seq _ b,k=>yl p Ks b k
 |2::p,K::Ks,.seq a _,k=>yl p Ks a (.next K::k)
 |_::p,Ks,.block id c,k=>yl p Ks c (.block id::k)
 |_::p,Ks,.scope c,k=>yl p Ks c k
 |0::p,Ks,.cond _ a _,k=>yl p Ks a k
 |_::p,Ks,.cond _ _ b,k=>yl p Ks b k
 |_::p,K::Ks,.loop c,k=>yl p Ks c (.next K::k)
 |_::p,Ks,.rangeFunc _ _ _ b,_=>yl p Ks b []
 |_,_,_,_=>none
def JN(P:Program)(f:FuncId)(p:List Nat)(Ks:List (Act→St→Prop)):Option (Code×List KI):=match (tE P f).body with
 |some c=>yl p Ks c []
 |none=>none
def stC(e:Env)(w:List Sg):Option (Code×List KI)→Option JS
 |some (c,k)=>some ⟨.code c k,e,w,⟨[],[]⟩⟩
 |none=>none
def stW(P:Program)(f:FuncId)(p:List Nat)(Ks:List (Act→St→Prop))(e:Env)(w:List Sg):Option JS:=stC e w (JN P f p Ks)
def yD:Option JS→Option (Code×List KI)
 |some ⟨.code c k,_,_,_⟩=>some (c,k)
 |_=>none
def lpB(K:Act→St→Prop):Option (Code×List KI)→Option (Code×List KI)
 |some (.loop c,k)=>some (c,.next K::k)
 |_=>none
theorem ek(p:List Nat)(Ks:List (Act→St→Prop))(ef:ι→Env)(wf:ι→List Sg)(Inv:ι→Prop)(μ:ι→Nat)(i0:ι)(h0:Inv i0)(ps:List Nat)(hb:∀i,Inv i→∀K,xw X K ef wf Inv μ (μ i)→∀rest,J X (stW X.P X.fn p (Ks++[K]) (ef i++rest) (wf i)))
 (h1:uW (pU (ef i0)) o=some (ef i0):=by kernel_rfl)(hd:∀i,lkE (pU (ef i)) (ef i)=some (ef i):=by intro _;kernel_rfl)(h2:rB ps o=some (wf i0):=by kernel_rfl)(hp:∀K,JN X.P X.fn p (Ks++[K])=lpB K (yD o):=by intro _;kernel_rfl):J X o:=by
 have hT:∀i,xw X (fun _ _=>True) ef wf Inv μ (μ i):=fun _ _ _ _ _ _ _ _=>trivial
 have bad:∀(K:Act→St→Prop),lpB K (yD o)=none→(∀i,xw X K ef wf Inv μ (μ i))→J X o:=fun K h hK=>by
  have:=hb i0 h0 K (hK i0) []
  simp only[stW,hp,h,stC] at this
  exact this.elim
 cases o with
 |none=>exact bad _ rfl hT
 |some s=>
  rcases s with ⟨q,e,w,kn⟩
  cases q with
  |code c k=>
   cases c with
   |loop c=>
    intro bY
    refine aci X.hC ef (fun i=>⟨X.ro,den (wf i)⟩) Inv μ i0 h0 (kV (by rw[tt] at h1;exact h1)) (kV (hd i0)) (dZ (lY h2) (Sub.refl _)) fun i hi rest=>?_
    have:=hb i hi _ (fun j hj hm e s hc hle=>al7 j hj hm hc (kV (hd j)) hle) rest
    simp only[stW,hp,yD,lpB,stC] at this
    exact this fun _ h=>(List.not_mem_nil h).elim
   |_=>exact bad _ rfl hT
  |_=>exact bad _ rfl hT
def aad:Option JS→Option (Act→St→Prop)
 |some ⟨.nxt K,_,_,_⟩=>some K
 |_=>none
theorem bA{K:Act→St→Prop}{ef:ι→Env}{wf:ι→List Sg}{Inv:ι→Prop}{μ:ι→Nat}{m:Nat}(hK:xw X1 K ef wf Inv μ m)(j:ι)(h:Inv j)(hm:μ j <m)(ps:List Nat)(hs:Sub X1.ro X.ro)
 (h0:aad o=some K:=by kernel_rfl)(h1:uW (pU (ef j)) o=some (ef j):=by kernel_rfl)(h2:rB ps o=some (wf j):=by kernel_rfl)(hn:X1.n=X.n:=by rfl)(hD:X1.D=X.D:=by rfl):J X o:=by
 unfold aad at h0
 split at h0<;>try (cases h0;done)
 rename_i K' e w kn
 cases h0
 intro _
 rw[tt] at h1
 have:=hK j h hm e ⟨X.ro,den w⟩ (kV h1) (dZ (lY h2) hs)
 rw[hn,hD] at this
 exact this
def gS:List (List Nat)→List Sg→Option (List Cells)
 | [],_=>some []
 |p::r,w=>match PW p w with
  |some x=>match gS r w with
   |some y=>some (den x::y)
   |none=>none
  |none=>none
def gO(ps:List (List Nat)):Option JS→Option (List Cells)
 |some s=>bif GC ps.flatten then gS ps s.rw else none
 |none=>none
def ZB:List Sg→List Cells
 | []=>[]
 |x::w=>den [x]::ZB w
theorem Gh:∀(w:List Sg),(ZB w).flatten=den w
 | []=>rfl
 | .b i o::w=>by simp[ZB,iW,Gh w];rfl
 | .l L::w=>by simp[ZB,gI,Gh w];rfl
theorem W9:∀ {a b:List Nat} {w x y:List Sg},PW a w=some x→PW b w=some y→PW (a++b) w=some (x++y)
 | [],b,w,x,y,h,h2=>by simp only[PW,Option.some.injEq] at h;subst h;exact h2
 |i::a,b,w,x,y,h,h2=>by
  simp only[PW] at h
  split at h<;>try (cases h;done)
  rename_i z hz
  split at h<;>try (cases h;done)
  rename_i r hr
  cases h
  simp only[List.cons_append,PW,hz,W9 hr h2]
theorem aqH:∀ {ps:List (List Nat)} {w:List Sg} {l:List Cells},gS ps w=some l→∃z,PW ps.flatten w=some z∧den z=l.flatten
 | [],w,l,h=>by simp only[gS,Option.some.injEq] at h;subst h;exact⟨[],rfl,rfl⟩
 |p::r,w,l,h=>by
  simp only[gS] at h
  split at h<;>try (cases h;done)
  rename_i x hx
  split at h<;>try (cases h;done)
  rename_i y hy
  cases h
  obtain⟨z,h1,h2⟩:=aqH hy
  exact⟨x++z,by simpa using W9 hx h1,by simp[lP,h2]⟩
theorem KY{K:Act→St→Prop}{ef:ι→Env}{wf:ι→List Sg}{Inv:ι→Prop}{μ:ι→Nat}{m:Nat}(hK:xw X1 K ef wf Inv μ m)(j:ι)(h:Inv j)(hm:μ j <m)(ps:List (List Nat))(hs:Sub X1.ro X.ro)
 (h0:aad o=some K:=by kernel_rfl)(h1:uW (pU (ef j)) o=some (ef j):=by kernel_rfl)(h2:gO ps o=some (ZB (wf j)):=by kernel_rfl)(hn:X1.n=X.n:=by rfl)(hD:X1.D=X.D:=by rfl):J X o:=by
 unfold aad at h0
 split at h0<;>try (cases h0;done)
 rename_i K' e w kn
 cases h0
 intro _
 rw[tt] at h1
 have hp:(den w).Perm (den (wf j)++den (dL ps.flatten 0 w)):=by
  simp only[gO] at h2
  cases ho:GC ps.flatten with
  |false=>rw[ho] at h2;cases h2
  |true=>
   rw[ho] at h2
   obtain⟨z,h3,h4⟩:=aqH h2
   rw[Gh] at h4
   rw[←h4]
   exact xG h3 ho
 have:=hK j h hm e ⟨X.ro,den w⟩ (kV h1) (dZ hp hs)
 rw[hn,hD] at this
 exact this
def aIJ:Option (Code×List KI)→Option (Code×List KI)
 |some (_,.seq y::k)=>some (y,k)
 |_=>none
def axo(K:Act→St→Prop):Option JS→Option JS
 |some ⟨.code x (.seq _::k),e,w,kn⟩=>some ⟨.code x (.next K::k),e,w,kn⟩
 |_=>none
theorem A6(p:List Nat)(Ks:List (Act→St→Prop))(ef:ι→Env)(wf:ι→List Sg)(Inv:ι→Prop)(hj:∀i,Inv i→∀rest,J X (stW X.P X.fn p Ks (ef i++rest) (wf i)))(h:∀K,xw X K ef wf Inv (fun _=>0) 1→J X (axo K o))(hd:∀i,lkE (pU (ef i)) (ef i)=some (ef i):=by intro _;kernel_rfl)(hp:JN X.P X.fn p Ks=aIJ (yD o):=by kernel_rfl):J X o:=by
 unfold axo at h
 split at h
 ·rename_i x y k e w kn
  intro bY
  refine h (fun a s=>Wp X.C X.fn X.aB y (KQ X k) a s) (fun j hI _ e s hc hle=>?_) bY
  obtain⟨r,hr⟩:=gA (n:=X.n) (D:=X.D) hc (kV (hd j))
  rw[hr]
  have:=hj j hI r
  simp only[stW,hp,yD,aIJ,stC] at this
  exact(this fun _ h=>(List.not_mem_nil h).elim).more X.hC hle
 exact(h (fun _ _=>True) fun _ _ _ _ _ _ _=>trivial).elim
def expand:Cells→List Sg
 | []=>[]
 |x::l=> .b x.1 x.2::expand l
def Vy:Nat→List Sg→List Sg
 |_,[]=>[]
 |0,.l L::w=>expand L++w
 |0,x::w=>x::w
 |i+1,x::w=>x::Vy i w
theorem V8{w w':List Sg}{p:Pos}(h:den w'=den w)(hj:JP X kn e w' p):JP X kn e w p:=by
 cases p<;>simp only[JP,h] at hj ⊢ <;>exact hj
def aHV(i:Nat):Option JS→Option JS
 |some s=>some {s with rw:=Vy i s.rw}
 |none=>none
def YR:List Sg→Cells
 | []=>[]
 | .b i o::w=>(i,o)::YR w
 | .l _::w=>YR w
theorem xU:∀ {w:List Sg} {x:Nat×Obj},x∈YR w→x∈den w
 | .b i o::w,x,h=>by
  rw[iW]
  rcases List.mem_cons.1 h with rfl|h
  ·exact List.mem_cons_self
  exact List.mem_cons_of_mem _ (xU h)
 | .l L::w,x,h=>by rw[gI];exact List.mem_append_right _ (xU (w:=w) h)
def an0(ps:List Nat):Option JS→Option JS
 |some s=>match PW ps s.rw with
  |some w=>some {s with rw:=dL ps 0 s.rw,kn:=⟨YR w++s.kn.c,s.kn.nd⟩}
  |none=>none
 |none=>none
theorem IC:∀(k:List KI),KQ (X.at aK) k=KQ X k
 | []=>rfl
 | .seq _::k=>by simp only[KQ,IC k];rfl
 | .block _::k=>by simp only[KQ,IC k]
 | .next _::k=>by simp only[KQ,IC k]
theorem jf(ps:List Nat)(L:Cells)(h:∀aK,Sub X.ro aK→Knows aK L→J (X.at aK) (an0 ps o))(h2:eA ps o=some L:=by kernel_rfl)(hp:aeY o=true:=by kernel_rfl):J X o:=by
 have hpk:∀ {s:JS},eA ps (some s)=some L→∃w,PW ps s.rw=some w∧den w=L:=by
  intro s hs
  simp only[eA,rB] at hs
  cases hk:GC ps with
  |false=>rw[hk] at hs;cases hs
  |true=>
   rw[hk] at hs;simp only[cond_true] at hs
   split at hs<;>try (cases hs;done)
   rename_i w hw
   cases hs
   exact⟨w,hw,rfl⟩
 unfold aeY at hp
 split at hp
 ·rename_i ops todo k e w kn
  intro bY
  obtain⟨w1,hw1,rfl⟩:=hpk h2
  refine T3 X.hC (bL h2) fun aK hs hk=>?_
  have:=h aK hs hk
  simp only[an0,hw1] at this
  have:=this (fun x hx=>(List.mem_append.1 hx).elim (fun hx=>hk x (xU hx)) fun hx=>hs _ _ (bY x hx))
  simp only[JP,IC] at this
  exact this
 ·rename_i c k e w kn
  intro bY
  obtain⟨w1,hw1,rfl⟩:=hpk h2
  refine Zi X.hC (bL h2) fun aK hs hk=>?_
  have:=h aK hs hk
  simp only[an0,hw1] at this
  have:=this (fun x hx=>(List.mem_append.1 hx).elim (fun hx=>hk x (xU hx)) fun hx=>hs _ _ (bY x hx))
  simp only[JP,IC] at this
  exact this
 cases hp
def geO:Option JS→Option JS
 |some s=>some {s with rw:= .l []::s.rw}
 |none=>none
theorem oL(h:J X (geO o)):J X o:=by
 cases o with
 |none=>exact h
 |some s=>exact fun bY=>V8 (by simp[gI]) (h bY)
def sgS:Nat→List Sg→List Sg→List Sg
 |_,_,[]=>[]
 |0,l,_::w=>l++w
 |i+1,l,x::w=>x::sgS i l w
theorem WH{l:List Sg}:∀ {i:Nat} {w:List Sg} {x:Sg},yZ w i=some x→den [x]=den l→den (sgS i l w)=den w
 |_,[],_,h,_=>by cases h
 |0,y::w,x,h,hd=>by
  simp only[yZ,Option.some.injEq] at h;subst h
  have:den (y::w)=den [y]++den w:=by rw[←lP];rfl
  rw[this,hd,←lP];rfl
 |i+1,y::w,x,h,hd=>by
  have:=WH (w:=w) (i:=i) h hd
  cases y<;>simp[sgS,iW,gI,this]
def sgO(i:Nat)(l:List Sg):Option JS→Option JS
 |some s=>some {s with rw:=sgS i l s.rw}
 |none=>none
theorem jg(i:Nat)(l:List Sg)(h:J X (sgO i l o))(h2:eA [i] o=some (den l):=by kernel_rfl):J X o:=by
 cases o with
 |none=>exact h
 |some s=>
  have hn:∃x,yZ s.rw i=some x∧den [x]=den l:=by
   simp only[eA,rB,GC,ba,PW,Bool.not_false,Bool.true_and,cond_true] at h2
   cases hx:yZ s.rw i with
   |none=>rw[hx] at h2;cases h2
   |some x=>rw[hx] at h2;simp only[Option.some.injEq] at h2;exact⟨x,rfl,h2⟩
  obtain⟨x,hx,hd⟩:=hn
  exact fun bY=>V8 (WH hx hd) (h bY)
theorem jmw(i:Nat)(l:List Sg){L:Cells}(h:L=den l)(hj:J X (sgO i l o))(h2:eA [i] o=some L:=by kernel_rfl):J X o:=by
 subst h;exact jg i l hj h2
end
def Cx.wd(X:Cx)(D:List Deferred):Cx:={X with D:=D}
theorem SD{D:List Deferred}:∀(k:List KI),KQ (X.wd D) k=KQ X k
 | []=>rfl
 | .seq _::k=>by simp only[KQ,SD k];rfl
 | .block _::k=>by simp only[KQ,SD k]
 | .next _::k=>by simp only[KQ,SD k]
def FK(X:Cx)(K:Act→St→Prop)(ef:ι→Env)(wf:ι→List Sg)(df:ι→List Deferred)(Inv:ι→Prop)(μ:ι→Nat)(m:Nat):Prop:=
 ∀j,Inv j→μ j <m→∀(e:Env) (s:St),ld e (ef j)→(⟨X.ro,den (wf j)⟩:St).le s→K (A X.n e (df j)) s
section
variable {X:Cx} {o:Option JS}
theorem acj{C:Class}{fn:FuncId}{aB:Option Nat}{Q:Post}{env:Env}(hC:∀main T,C main T→Closed X.P main T)(qe:ι→Env)(sf:ι→St)(df:ι→List Deferred)(Inv:ι→Prop)(μ:ι→Nat){c:Code}(i0:ι)(h0:Inv i0)(hc:ld env (qe i0))(hd:∀i,ld (qe i) (qe i))(hs:(sf i0).le s)
 (round:∀i,Inv i→∀rest,Wp C fn aB c (mj (fun a s=>∃j,Inv j∧μ j <μ i∧(∃e,ld e (qe j)∧a=A n e (df j))∧(sf j).le s) Q) (A n (qe i++rest) (df i)) (sf i)):Wp C fn aB (.loop c) Q (A n env (df i0)) s:=by
 obtain⟨r0,vy⟩:=gA (n:=n) (D:=df i0) hc (hd i0)
 rw[vy]
 intro main T hT b k cs h1 h2 h3 h4
 have key:∀m i rest s,μ i=m→Inv i→(sf i).le s→T (G (aL b (A n (qe i++rest) (df i)) (.code c:: .inLoop c::k)) cs) s:=by
  intro m
  induction m using Nat.strongRecOn with
  |_ m ih=>
   intro i rest s hm hI hle
   refine(hC main T hT).mono _ _ _ hle ?_
   refine round i hI rest main T hT b (.inLoop c::k) cs h1 h2 h3 fun e a' s' q=>?_
   cases e with
   |normal=>
    obtain⟨j,zr,cN,⟨e,he,rfl⟩,yf⟩:=q
    obtain⟨adD,hr⟩:=gA (n:=n) (D:=df j) he (hd j)
    rw[hr]
    exact(hC main T hT).go rfl rfl (g':=G (aL b _ (.code c:: .inLoop c::k)) cs) (fun w=>by simp[G,stepG,stepG.exec,aL]) (ih _ (hm▸cN) j adD s' rfl zr yf)
   |exit id=>exact(h4 _ _ _ q).push rfl (by simp)
   |ret=>exact(h4 _ _ _ q).push (x:= .inLoop c) rfl (by simp)
   |panic ch=>exact(h4 _ _ _ q).push (x:= .inLoop c) rfl (by simp)
   |goto l=>exact(h4 _ _ _ q).elim
   |outgrown=>exact(h4 _ _ _ q).elim
 exact(hC main T hT).go rfl rfl (g':=G (aL b (A n (qe i0++r0) (df i0)) (.code c:: .inLoop c::k)) cs) (fun w=>by simp[G,stepG,stepG.exec,aL]) (key _ i0 r0 s rfl h0 hs)
theorem aCI(p:List Nat)(Ks:List (Act→St→Prop))(ef:ι→Env)(wf:ι→List Sg)(df:ι→List Deferred)(Inv:ι→Prop)(μ:ι→Nat)(i0:ι)(h0:Inv i0)(ps:List Nat)(hb:∀i,Inv i→∀K,FK X K ef wf df Inv μ (μ i)→∀rest,J (X.wd (df i)) (stW X.P X.fn p (Ks++[K]) (ef i++rest) (wf i)))
 (h1:uW (pU (ef i0)) o=some (ef i0):=by kernel_rfl)(hd:∀i,lkE (pU (ef i)) (ef i)=some (ef i):=by intro _;kernel_rfl)(h2:rB ps o=some (wf i0):=by kernel_rfl)(hp:∀K,JN X.P X.fn p (Ks++[K])=lpB K (yD o):=by intro _;kernel_rfl)(hD:X.D=df i0:=by rfl):J X o:=by
 have hT:∀i,FK X (fun _ _=>True) ef wf df Inv μ (μ i):=fun _ _ _ _ _ _ _ _=>trivial
 have bad:∀(K:Act→St→Prop),lpB K (yD o)=none→(∀i,FK X K ef wf df Inv μ (μ i))→J X o:=fun K h hK=>by
  have:=hb i0 h0 K (hK i0) []
  simp only[stW,hp,h,stC] at this
  exact this.elim
 cases o with
 |none=>exact bad _ rfl hT
 |some s=>
  rcases s with ⟨q,e,w,kn⟩
  cases q with
  |code c k=>
   cases c with
   |loop c=>
    intro bY
    show Wp X.C X.fn X.aB (.loop c) (KQ X k) (A X.n e X.D) ⟨X.ro,den w⟩
    rw[hD]
    refine acj (X:=X) X.hC ef (fun i=>(⟨X.ro,den (wf i)⟩:St)) df Inv μ i0 h0 (kV (by rw[tt] at h1;exact h1)) (fun i=>kV (hd i)) (dZ (lY h2) (Sub.refl _)) fun i hi rest=>?_
    have:=hb i hi (fun a s=>∃j,Inv j∧μ j <μ i∧(∃e,ld e (ef j)∧a=A X.n e (df j))∧(⟨X.ro,den (wf j)⟩:St).le s) (fun j hj hm e s hc hle=>⟨j,hj,hm,⟨e,hc,rfl⟩,hle⟩) rest
    simp only[stW,hp,yD,lpB,stC] at this
    have:=this fun _ h=>(List.not_mem_nil h).elim
    simp only[JP,KQ,SD] at this
    exact this
   |_=>exact bad _ rfl hT
  |_=>exact bad _ rfl hT
theorem jnD{K:Act→St→Prop}{ef:ι→Env}{wf:ι→List Sg}{df:ι→List Deferred}{Inv:ι→Prop}{μ:ι→Nat}{m:Nat}(hK:FK X1 K ef wf df Inv μ m)(j:ι)(h:Inv j)(hm:μ j <m)(ps:List (List Nat))(hs:Sub X1.ro X.ro)
 (h0:aad o=some K:=by kernel_rfl)(h1:uW (pU (ef j)) o=some (ef j):=by kernel_rfl)(h2:gO ps o=some (ZB (wf j)):=by kernel_rfl)(hn:X1.n=X.n:=by rfl)(hD:X.D=df j:=by rfl):J X o:=by
 have hK':xw (X1.wd (df j)) K ef wf (fun i=>i=j) μ m:=fun i hi hm e s hc hle=>by subst hi;exact hK _ h hm e s hc hle
 exact KY hK' j rfl hm ps hs h0 h1 h2 hn hD.symm
end
attribute [irreducible] gO geO tE lg axo stW yD JN aHV an0 sgO Dg aeY j8 S6 S5 tC aad
section
variable {X:Cx} {o:Option JS}
def Of(n:Nat)(p:Oper)(e:Env):Option (BinOp×TypeId×Value×Value):=match p.op with
 | .binOp op T x y _=>match bp n e x with
  |some v=>match bp n e y with
   |some w=>some (op,T,v,w)
   |none=>none
  |none=>none
 |_=>none
theorem uI{op:BinOp}{v w:Value}(h:Of n p e=some (op,T,v,w)):∃x y T',p.op= .binOp op T x y T'∧bp n e x=some v∧bp n e y=some w:=by
 unfold Of at h
 split at h<;>try (cases h;done)
 rename_i aA
 split at h<;>try (cases h;done)
 rename_i hx
 split at h<;>try (cases h;done)
 rename_i hy
 cases h
 exact⟨_,_,_,aA,hx,hy⟩
theorem jsa{a:ByteArray}(T:TypeId)(hb:(a.size:Int)+b.size≤9223372036854775807)(hj:J X (kB (.string (a++b)) o))(hv:dP X.n (Of X.n) o=some (.add,T,.string a,.string b):=by kernel_rfl):J X o:=by
 refine SQ hv (fun s p e _ hf=>?_) hj
 obtain⟨x,y,T',aA,hx,hy⟩:=uI hf
 rcases p with ⟨dst,op,ty,pos,db,g⟩
 dsimp only at aA;subst aA
 exact fun s0 ops i tz rest hw s' hs todo Q hk=>atb X.hC tz hw (bk hx) (bk hy) hb hk
theorem jrm{k:IntKind}{a b:Int}(T:TypeId)(hb:b≠0)(hj:J X (kB (.int k (a.tmod b)) o))(hv:dP X.n (Of X.n) o=some (.rem,T,.int k a,.int k b):=by kernel_rfl):J X o:=by
 refine SQ hv (fun s p e _ hf=>?_) hj
 obtain⟨x,y,T',aA,hx,hy⟩:=uI hf
 rcases p with ⟨dst,op,ty,pos,db,g⟩
 dsimp only at aA;subst aA
 exact fun s0 ops i tz rest hw s' hs todo Q hk=>aBU X.hC tz hw (bk hx) (bk hy) hb hk
theorem jsr{k k':IntKind}{a b:Int}(T:TypeId)(hb:0≤b)(hj:J X (kB (.int k (aT k a b)) o))(hv:dP X.n (Of X.n) o=some (.shr,T,.int k a,.int k' b):=by kernel_rfl):J X o:=by
 refine SQ hv (fun s p e _ hf=>?_) hj
 obtain⟨x,y,T',aA,hx,hy⟩:=uI hf
 rcases p with ⟨dst,op,ty,pos,db,g⟩
 dsimp only at aA;subst aA
 exact fun s0 ops i tz rest hw s' hs todo Q hk=>aBS X.hC tz hw (bk hx) (bk hy) hb hk
theorem jsh{k k':IntKind}{a b:Int}(T:TypeId)(hb:0≤b)(hj:J X (kB (.int k (dJ k a b)) o))(hv:dP X.n (Of X.n) o=some (.shl,T,.int k a,.int k' b):=by kernel_rfl):J X o:=by
 refine SQ hv (fun s p e _ hf=>?_) hj
 obtain⟨x,y,T',aA,hx,hy⟩:=uI hf
 rcases p with ⟨dst,op,ty,pos,db,g⟩
 dsimp only at aA;subst aA
 exact fun s0 ops i tz rest hw s' hs todo Q hk=>aBT X.hC tz hw (bk hx) (bk hy) hb hk
theorem jeq{m:List Value}{r:Bool}(hg:ny X.P T)(he:EqV X.P T (.agg ⟨l⟩) (.agg ⟨m⟩) r)(hj:J X (kB (.bool r) o))(hv:dP X.n (Of X.n) o=some (.eql,T,.agg ⟨l⟩,.agg ⟨m⟩):=by kernel_rfl):J X o:=by
 refine SQ hv (fun s p e _ hf=>?_) hj
 obtain⟨x,y,T',aA,hx,hy⟩:=uI hf
 rcases p with ⟨dst,op,ty,pos,db,g⟩
 dsimp only at aA;subst aA
 exact fun s0 ops i tz rest hw s' hs todo Q hk=>al2 X.hC tz hw (bk hx) (bk hy) hg he hk
theorem jne{m:List Value}{r:Bool}(hg:ny X.P T)(he:EqV X.P T (.agg ⟨l⟩) (.agg ⟨m⟩) r)(hj:J X (kB (.bool !r) o))(hv:dP X.n (Of X.n) o=some (.neq,T,.agg ⟨l⟩,.agg ⟨m⟩):=by kernel_rfl):J X o:=by
 refine SQ hv (fun s p e _ hf=>?_) hj
 obtain⟨x,y,T',aA,hx,hy⟩:=uI hf
 rcases p with ⟨dst,op,ty,pos,db,g⟩
 dsimp only at aA;subst aA
 exact fun s0 ops i tz rest hw s' hs todo Q hk=>aeo X.hC tz hw (bk hx) (bk hy) hg he hk
def G0(P:Program)(T:TypeId):Bool:=match aZ P T with
 |some ⟨.slice _,_,_,_⟩=>true
 |_=>false
theorem GZ(h:G0 P T=true):∃E sz bD z ag,TF P T (.slice E) sz bD z ag:=by
 unfold G0 at h
 split at h<;>try (cases h;done)
 rename_i ee
 obtain⟨bD,tf⟩:=aw ee
 exact⟨_,_,_,_,_,tf⟩
theorem jsn{a:Option Addr}{l c:Nat}(T:TypeId)(hj:J X (kB (.bool a.isNone) o))(hv:dP X.n (Of X.n) o=some (.eql,T,.slice a l c,.slice none 0 0):=by kernel_rfl)(hT:G0 X.P T=true:=by kernel_rfl):J X o:=by
 refine SQ hv (fun s p e _ hf=>?_) hj
 obtain⟨x,y,T',aA,hx,hy⟩:=uI hf
 obtain⟨E,sz,bD,z,ag,tf⟩:=GZ hT
 rcases p with ⟨dst,op,ty,pos,db,g⟩
 dsimp only at aA;subst aA
 exact fun s0 ops i tz rest hw s' hs todo Q hk=>alX X.hC tz hw tf (bk hx) (bk hy) hk
def EK(n:Nat)(e:Env):Option Operand→Option (Option Int)
 |none=>some none
 |some x=>match bp n e x with
  |some (.int _ a)=>some (some a)
  |_=>none
def adh(P:Program)(n:Nat)(p:Oper)(e:Env):Option (ByteArray×Option Int×Option Int):=match p.op with
 | .slice T x y z none=>match aZ P T with
  |some ⟨.string,_,_,_⟩=>match bp n e x with
   |some (.string b)=>match EK n e y with
    |some lo=>match EK n e z with
     |some hi=>some (b,lo,hi)
     |none=>none
    |none=>none
   |_=>none
  |_=>none
 |_=>none
def alp(P:Program)(n:Nat)(p:Oper)(e:Env):Option (Value×Option Int×Option Int×Nat):=match p.op with
 | .slice T x y z none=>match aZ P T with
  |some ⟨.slice E,_,_,_⟩=>match aZ P E with
   |some te=>match bp n e x with
    |some v=>match EK n e y with
     |some lo=>match EK n e z with
      |some hi=>some (v,lo,hi,te.size)
      |none=>none
     |none=>none
    |none=>none
   |none=>none
  |_=>none
 |_=>none
theorem nY{x:Option Operand}{a:Int}(h:EK n e x=some (some a)):∃y k,x=some y∧bp n e y=some (.int k a):=by
 unfold EK at h
 split at h
 ·cases h
 split at h<;>try (cases h;done)
 rename_i hx
 cases h
 exact⟨_,_,rfl,hx⟩
theorem CE{x:Option Operand}(h:EK n e x=some none):x=none:=by
 unfold EK at h
 split at h
 ·rfl
 split at h<;>cases h
theorem Mv{lo hi:Option Int}(h:adh P n p e=some (b,lo,hi)):∃T x y z sz bD zz ag,p.op= .slice T x y z none∧TF P T .string sz bD zz ag∧bp n e x=some (.string b)∧EK n e y=some lo∧EK n e z=some hi:=by
 unfold adh at h
 split at h<;>try (cases h;done)
 rename_i aA
 split at h<;>try (cases h;done)
 rename_i ee
 obtain⟨bD,tf⟩:=aw ee
 split at h<;>try (cases h;done)
 rename_i hx
 split at h<;>try (cases h;done)
 rename_i hy
 split at h<;>try (cases h;done)
 rename_i hz
 cases h
 exact⟨_,_,_,_,_,_,_,_,aA,tf,hx,hy,hz⟩
theorem WG{v:Value}{lo hi:Option Int}(h:alp P n p e=some (v,lo,hi,k)):∃T x y z E sz bD zz ag d BG z2 ag2,p.op= .slice T x y z none∧TF P T (.slice E) sz bD zz ag∧TF P E d k BG z2 ag2∧bp n e x=some v∧EK n e y=some lo∧EK n e z=some hi:=by
 unfold alp at h
 split at h<;>try (cases h;done)
 rename_i aA
 split at h<;>try (cases h;done)
 rename_i ee
 obtain⟨bD,tf⟩:=aw ee
 split at h<;>try (cases h;done)
 rename_i te uy
 obtain⟨BG,rh⟩:=aw uy
 split at h<;>try (cases h;done)
 rename_i hx
 split at h<;>try (cases h;done)
 rename_i hy
 split at h<;>try (cases h;done)
 rename_i hz
 cases h
 exact⟨_,_,_,_,_,_,_,_,_,_,_,_,_,aA,tf,rh,hx,hy,hz⟩
theorem jtB(hl:0≤lo∧lo≤hi∧hi≤b.size)(hj:J X (kB (.string (b.extract lo.toNat hi.toNat)) o))(hv:dP X.n (adh X.P X.n) o=some (b,some lo,some hi):=by kernel_rfl):J X o:=by
 refine SQ hv (fun s p e _ hf=>?_) hj
 obtain⟨T,x,y,z,sz,bD,zz,ag,aA,tf,hx,hy,hz⟩:=Mv hf
 obtain⟨y,k,rfl,G1⟩:=nY hy
 obtain⟨z,k',rfl,hz1⟩:=nY hz
 rcases p with ⟨dst,op,ty,pos,db,g⟩
 dsimp only at aA;subst aA
 exact fun s0 ops i tz rest hw s' hs todo Q hk=>T5 X.hC tz hw tf (bk hx) (bk G1) (bk hz1) hl hk
theorem jtH(hl:0≤hi∧hi≤b.size)(hj:J X (kB (.string (b.extract 0 hi.toNat)) o))(hv:dP X.n (adh X.P X.n) o=some (b,none,some hi):=by kernel_rfl):J X o:=by
 refine SQ hv (fun s p e _ hf=>?_) hj
 obtain⟨T,x,y,z,sz,bD,zz,ag,aA,tf,hx,hy,hz⟩:=Mv hf
 have hy:=CE hy;subst hy
 obtain⟨z,k',rfl,hz1⟩:=nY hz
 rcases p with ⟨dst,op,ty,pos,db,g⟩
 dsimp only at aA;subst aA
 exact fun s0 ops i tz rest hw s' hs todo Q hk=>Qe X.hC tz hw tf (bk hx) (bk hz1) hl hk
theorem jtL(hl:0≤lo∧lo≤b.size)(hj:J X (kB (.string (b.extract lo.toNat b.size)) o))(hv:dP X.n (adh X.P X.n) o=some (b,some lo,none):=by kernel_rfl):J X o:=by
 refine SQ hv (fun s p e _ hf=>?_) hj
 obtain⟨T,x,y,z,sz,bD,zz,ag,aA,tf,hx,hy,hz⟩:=Mv hf
 have hz:=CE hz;subst hz
 obtain⟨y,k,rfl,G1⟩:=nY hy
 rcases p with ⟨dst,op,ty,pos,db,g⟩
 dsimp only at aA;subst aA
 exact fun s0 ops i tz rest hw s' hs todo Q hk=>Qd X.hC tz hw tf (bk hx) (bk G1) hl hk
theorem jcH{v:Value}{enc:α→List Value}{ps:List α}(hs:bH X.ro v sz enc ps)(hl:0≤hi∧hi≤ps.length)(hj:∀v',bH X.ro v' sz enc (ps.take hi.toNat)→J X (kB v' o))(hv:dP X.n (alp X.P X.n) o=some (v,none,some hi,sz):=by kernel_rfl):J X o:=by
 obtain⟨a,b,off,cap,rfl,h2,h3,h4⟩:=id hs
 have hp:=bH.part hs (l:=0) (h:=hi.toNat) (by omega) (by omega)
 rw[List.drop_zero] at hp
 refine SQ hv (fun s p e _ hf=>?_) (hj _ hp)
 obtain⟨T,x,y,z,E,s1,bD,zz,ag,d,BG,z2,ag2,aA,tf,rh,hx,hy,hz⟩:=WG hf
 have hy:=CE hy;subst hy
 obtain⟨z,k',rfl,hz1⟩:=nY hz
 rcases p with ⟨dst,op,ty,pos,db,g⟩
 dsimp only at aA;subst aA
 intro s0 ops i tz rest hw s' nF todo Q hk
 refine bV X.hC tz hw (by simp) ?_
 have hb:0≤hi∧hi≤(cap:Int):=by omega
 have gu:(0:Int)≤0∧(0:Int)≤(hi.toNat:Int):=by omega
 rw[←aY] at hk
 simp only[execOp,Option.map_some,Option.map_none,Instr.sliceAt,Instr.slice,aG (bk (rest:=rest) hx),aG (bk (rest:=rest) hz1),aa,a8 tf,Instr.sliceBounds,Instr.sliceBound,asIntOf,ae,hb,gu,and_self,if_true,cv rh]
 exact hk
theorem jcB{v:Value}{enc:α→List Value}{ps:List α}(hs:bH X.ro v sz enc ps)(hl:0≤lo∧lo≤hi∧hi≤ps.length)(hj:∀v',bH X.ro v' sz enc ((ps.take hi.toNat).drop lo.toNat)→J X (kB v' o))(hv:dP X.n (alp X.P X.n) o=some (v,some lo,some hi,sz):=by kernel_rfl):J X o:=by
 obtain⟨a,b,off,cap,rfl,h2,h3,h4⟩:=id hs
 have hp:=bH.part hs (l:=lo.toNat) (h:=hi.toNat) (by omega) (by omega)
 refine SQ hv (fun s p e _ hf=>?_) (hj _ hp)
 obtain⟨T,x,y,z,E,s1,bD,zz,ag,d,BG,z2,ag2,aA,tf,rh,hx,hy,hz⟩:=WG hf
 obtain⟨y,k,rfl,G1⟩:=nY hy
 obtain⟨z,k',rfl,hz1⟩:=nY hz
 rcases p with ⟨dst,op,ty,pos,db,g⟩
 dsimp only at aA;subst aA
 intro s0 ops i tz rest hw s' nF todo Q hk
 refine bV X.hC tz hw (by simp) ?_
 have hb:0≤hi∧hi≤(cap:Int):=by omega
 have gu:0≤lo∧lo≤(hi.toNat:Int):=by omega
 rw[←aY] at hk
 simp only[execOp,Option.map_some,Option.map_none,Instr.sliceAt,Instr.slice,aG (bk (rest:=rest) hx),aG (bk (rest:=rest) G1),aG (bk (rest:=rest) hz1),aa,a8 tf,Instr.sliceBounds,Instr.sliceBound,asIntOf,ae,hb,gu,and_self,if_true,cv rh]
 exact hk
def lnV(P:Program)(n:Nat)(p:Oper)(e:Env):Option Value:=match p.op with
 | .call ⟨.builtin .len,⟨[x]⟩,⟨[T]⟩⟩=>bif G0 P T then bp n e x else none
 |_=>none
theorem A5{v:Value}{enc:α→List Value}{ps:List α}{L:Cells}(kY:az v sz T2 enc ps L)(hj:J X (kB (.int .i64 ps.length) o))(hv:dP X.n (lnV X.P X.n) o=some v:=by kernel_rfl):J X o:=by
 refine SQ hv (fun s p e _ hf=>?_) hj
 unfold lnV at hf
 split at hf<;>try (cases hf;done)
 rename_i x T aA
 cases hT:G0 X.P T with
 |false=>rw[hT] at hf;cases hf
 |true=>
  rw[hT] at hf;simp only[cond_true] at hf
  obtain⟨E,s1,bD,z,ag,tf⟩:=GZ hT
  rcases p with ⟨dst,op,ty,pos,db,g⟩
  dsimp only at aA;subst aA
  exact fun s0 ops i tz rest hw s' hs todo Q hk=>aep X.hC tz hw tf (bk hf) kY hk
def aae(ps:List Nat)(v:Value)(L':Cells):Option JS→Option JS:=nH ps v L'
theorem Xl{ops:Array Oper}{k:List KI}{w:List Sg}{v:Value}{L':Cells}(ho:ops[i]?=some p):aae ps v L' (some ⟨.ops ops (i::todo) k,e,w,kn⟩)=some ⟨.ops ops todo k,upd p.dst v e,.l L'::dL ps 0 w,kn⟩:=by
 unfold aae
 simp only[oC ho]
def alm(P:Program)(n:Nat)(p:Oper)(e:Env):Option (Addr×List Value×Nat):=match p.op with
 | .store T x y=>match aZ P T with
  |some ti=>match bp n e x with
   |some (.pointer (some a))=>match bp n e y with
    |some v=>some (a,eB v,ti.size)
    |none=>none
   |_=>none
  |none=>none
 |_=>none
theorem WC{a:Addr}(h:alm P n p e=some (a,l,sz)):∃T x y d bD z ag v,p.op= .store T x y∧TF P T d sz bD z ag∧bp n e x=some (.pointer (some a))∧bp n e y=some v∧v.cells=⟨l⟩:=by
 unfold alm at h
 split at h<;>try (cases h;done)
 rename_i aA
 split at h<;>try (cases h;done)
 rename_i ti ee
 obtain⟨bD,tf⟩:=aw ee
 split at h<;>try (cases h;done)
 rename_i hx
 split at h<;>try (cases h;done)
 rename_i hy
 cases h
 exact⟨_,_,_,_,_,_,_,_,aA,tf,hx,hy,by rw[mA]⟩
theorem QG{v:Value}{enc:α→List Value}{ps:List α}{L:Cells}{b:Nat}{a:α}(i f:Nat)(c:List Value)(e:α)(kY:az v sz E enc ps L)(hb:Ot v b)(hk:ps[k]?=some a) (he:enc e=dI (enc a) f c) (h1:c.all single=true) (hf:f+c.length≤sz) (hj:∀L',az v sz E enc (ps.set k e) L'→J X (aae [i] undef L' o)) (hv:fx X.n (alm X.P X.n) o=some (⟨b,k*sz+f,none⟩,c,c.length):=by kernel_rfl) (h2:eA [i] o=some L:=by kernel_rfl):J X o:=by
 obtain⟨ops,i0,todo,kk,ev,w,kn,p,rfl,ho,hw,hc⟩:=dG hv
 obtain⟨T,x,y,d,bD,z,ag,u,aA,tf,hx,hy,hu⟩:=WC hc
 intro bY
 rcases p with ⟨dst,op,ty,pos,db,g⟩
 dsimp only at aA;subst aA
 refine wm X.hC (bL h2)<|aBP X.hC ho hw tf hx hy hu rfl (List.all_eq_true.1 h1) kY hb hk he hf fun L' hL'=>?_
 have:=hj L' hL'
 rw[Xl ho] at this
 have:=this bY
 simp only[JP,gI] at this
 exact this
def apV(P:Program)(n:Nat)(p:Oper)(e:Env):Option (Value×Value×TypeId×Nat):=match p.op with
 | .call ⟨.builtin .append,⟨[x,y]⟩,⟨[T,U]⟩⟩=>match aZ P T with
  |some ⟨.slice E,_,_,_⟩=>bif G0 P U then (match aZ P E with
   |some te=>match P.info? E with
    |some ie=>bif Nat.beq te.zero.length te.size&&Nat.ble ie.bytes 65536 then (match bp n e x with
     |some v=>match bp n e y with
      |some w=>some (v,w,E,te.size)
      |none=>none
     |none=>none) else none
    |none=>none
   |none=>none) else none
  |_=>none
 |_=>none
theorem axD{v w:Value}(h:apV P n p e=some (v,w,E,sz)):∃x y T U s1 b1 z1 a1 E2 s2 b2 z2 a2 d bD z ag,p.op= .call ⟨.builtin .append,#[x,y],#[T,U]⟩∧TF P T (.slice E) s1 b1 z1 a1∧TF P U (.slice E2) s2 b2 z2 a2∧TF P E d sz bD z ag∧z.length=sz∧bD≤65536∧bp n e x=some v∧bp n e y=some w:=by
 unfold apV at h
 split at h<;>try (cases h;done)
 rename_i x y T U aA
 split at h<;>try (cases h;done)
 rename_i E' _ _ _ ee
 obtain⟨b1,tf1⟩:=aw ee
 cases hU:G0 P U with
 |false=>rw[hU] at h;cases h
 |true=>
  rw[hU] at h;simp only[cond_true] at h
  obtain⟨E2,s2,b2,z2,a2,rh⟩:=GZ hU
  split at h<;>try (cases h;done)
  rename_i te uy
  obtain⟨b3,tf3⟩:=aw uy
  split at h<;>try (cases h;done)
  rename_i ie hie
  cases hb:(Nat.beq te.zero.length te.size&&Nat.ble ie.bytes 65536) with
  |false=>rw[hb] at h;cases h
  |true=>
   rw[hb] at h;simp only[cond_true] at h
   split at h<;>try (cases h;done)
   rename_i hx
   split at h<;>try (cases h;done)
   rename_i hy
   simp only[Option.some.injEq,Prod.mk.injEq] at h
   obtain⟨rfl,rfl,rfl,rfl⟩:=h
   simp only[Bool.and_eq_true,Nat.ble_eq] at hb
   obtain⟨i2,g1,_,g3,_⟩:=tf3.info
   rw[hie] at g1;cases g1
   exact⟨x,y,T,U,_,b1,_,_,E2,s2,b2,z2,a2,_,b3,_,_,aA,tf1,rh,tf3,Nat.eq_of_beq_eq_true hb.1,by omega,hx,hy⟩
theorem jT{v w:Value}{enc:α→List Value}{ps qs:List α}{L:Cells}(is lp:List Nat)(B:Cells)(kY:az v sz E enc ps L)(IJ:∀s:St,Ext ⟨X.ro,[]⟩ s→(∀x∈B,s.has x.1 x.2)→Sl s w sz enc qs)(hq:∀p∈qs,∀c∈enc p,single c=true)(hb:ps.length+qs.length≤1048576)(hj:∀v' L',az v' sz E enc (ps++qs) L'→J X (aae is v' L' o))
 (hv:fx X.n (apV X.P X.n) o=some (v,w,E,sz):=by kernel_rfl)(h2:eA is o=some L:=by kernel_rfl)(h3:eA lp o=some B:=by kernel_rfl):J X o:=by
 obtain⟨ops,i0,todo,kk,ev,w0,kn,p,rfl,ho,hw,hc⟩:=dG hv
 obtain⟨x,y,T,U,s1,b1,z1,a1,E2,s2,b2,z2,a2,d,bD,z,ag,aA,tf1,rh,tf3,hz,hby,hx,hy⟩:=axD hc
 intro bY
 rcases p with ⟨dst,op,ty,pos,db,g⟩
 dsimp only at aA;subst aA
 have hp:=bL h2
 refine wm X.hC hp<|oap X.hC ho hw tf1 rh tf3 hz hx hy kY (IJ _ NT fun u hu=>?_) hq ⟨hb,hby⟩ fun v' L' hL'=>?_
 ·rcases R3 (X:=X) h3 u hu with h|h
  ·exact .inl h
  exact .inr (hp.mem_iff.1 h)
 have:=hj v' L' hL'
 rw[Xl ho] at this
 have:=this bY
 simp only[JP,gI] at this
 exact this
theorem aCK{w:Value}(enc:α→List Value){qs:List α}(lp:List Nat)(B:Cells)(IJ:∀s:St,Ext ⟨X.ro,[]⟩ s→(∀x∈B,s.has x.1 x.2)→Sl s w sz enc qs)(hq:∀p∈qs,∀c∈enc p,single c=true)(hb:qs.length≤1048576)(hj:∀v' L',az v' sz E enc qs L'→J X (aae [] v' L' o))
 (hv:fx X.n (apV X.P X.n) o=some (.slice none 0 0,w,E,sz):=by kernel_rfl)(h3:eA lp o=some B:=by kernel_rfl)(h2:eA [] o=some []:=by kernel_rfl):J X o:=
 jT (ps:=[]) [] lp B (az.nil sz E enc) IJ hq (by simpa using hb) (fun v' L' h=>hj v' L' h) hv h2 h3
end
attribute [irreducible] aae
end Go.L
