/- Part 4 of the proof. -/
import Derived.Test.YtknkndglfcfhkaaGreatDoorU3
import Derived.KernelRfl
import GoSem.Extern.Table
set_option maxRecDepth 100000
set_option linter.all false
namespace Go.L
open Go Go.Conc
variable {ro aI:Nat→Option Obj} {x y:Operand} {α ι β:Type} {T E T' T2 U:TypeId} {e:Env} {b:ByteArray} {sz n k off i szo gX uM cap id:Nat} {l vs args z':List Value} {P:Program} {f:FuncId} {R:Ending→St→Prop} {Φ:Value→Cells→Prop} {todo ps mI hs:List Nat} {s:St} {p o:Oper} {fz:Nat×Nat} {xs:Array Operand} {at_:Array TypeId} {hi lo:Int} {Y B rw' fr:Cells} {g wD:Bool}
theorem cv.part{b o m:Nat}{ws:List Value}(h:cv s b o m vs)(j k:Nat)(hj:sub vs j k=some ws):cv s b (o+j) k ws:=by
 obtain⟨l,t,fz,h1,h2⟩:=h
 obtain⟨h3,h4⟩:=sub_eq _ _ _ _ h2
 obtain⟨h5,h6⟩:=sub_eq _ _ _ _ hj
 refine⟨l,t,fz,h1,?_⟩
 have hlen:(o+j)+k≤l.length:=by
  rcases Nat.eq_zero_or_pos k with h0|h0
  ·subst h0
   have:o+j≤l.length:=by
    have h7:sub vs j 0=some ws:=hj
    have hjl:j≤vs.length:=by
     have key:∀(l:List Value) (j:Nat) (ws:List Value),sub l j 0=some ws→j≤l.length:=by
      intro l
      induction l with
      |nil=>intro j ws h;cases j with
       |zero=>simp
       |succ j=>simp[sub] at h
      |cons x l ih=>intro j ws h;cases j with
       |zero=>simp
       |succ j=>have:=ih j ws (by simpa [sub] using h);simp;omega
     exact key _ _ _ h7
    have hol:o+m≤l.length∨m=0:=by
     rcases Nat.eq_zero_or_pos m with h8|h8
     ·exact .inr h8
     left
     have:=h4 (m-1) vs[m-1] (by rw[List.getElem?_eq_getElem])
     have:=(List.getElem?_eq_some_iff.1 this).1
     omega
    rcases hol with h9|h9
    ·omega
    have aLz:∀(l:List Value) (o:Nat) (ws:List Value),sub l o 0=some ws→o≤l.length:=by
     intro l
     induction l with
     |nil=>intro j ws h;cases j with
      |zero=>simp
      |succ j=>simp[sub] at h
     |cons x l ih=>intro j ws h;cases j with
      |zero=>simp
      |succ j=>have:=ih j ws (by simpa [sub] using h);simp;omega
    rw[h9] at h2
    have:=aLz _ _ _ h2
    omega
   omega
  have:=h6 (k-1) ws[k-1] (by rw[List.getElem?_eq_getElem])
  have:=h4 _ _ this
  have:=(List.getElem?_eq_some_iff.1 this).1
  omega
 rw[iH hlen]
 congr 1
 apply List.ext_getElem?
 intro i
 by_cases hi:i <k
 ·have h7:=h4 _ _ (h6 i ws[i] (by rw[List.getElem?_eq_getElem]))
  rw[List.getElem?_take_of_lt hi,List.getElem?_drop,List.getElem?_eq_getElem (show i <ws.length by omega),←h7,Nat.add_assoc]
 rw[List.getElem?_eq_none (by simp;omega),List.getElem?_eq_none (by omega)]
def Gd(ag:Bool)(l:List Value)(o sz:Nat):Option Value:=bif ag then (match sub l o sz with|some m=>some (.agg ⟨m⟩)|none=>none) else nth l o
theorem Wi{t:TypeId}{z:List Value}{d:TypeDesc}{bB:Nat}{ag:Bool}(tf:TF P t d sz bB z ag){o:Nat}{v:Value}(hv:Gd ag l o sz=some v){k:Value→Sem α}{Q:α→St→Prop}{E:Halt→St→Prop}:bP P (part t ⟨l⟩ o >>= k) s Q E=bP P (k v) s Q E:=by
 cases ag with
 |false=>exact LV tf hv
 |true=>
  simp only[Gd,cond_true] at hv
  split at hv
  ·rename_i m hm
   cases hv
   exact LU tf hm
  cases hv
section rules
variable {P:Program} {C:Class} {fn:FuncId} {az:Option Nat} {Q:Post} {s:St} {n:Nat} {env:Env} {D:List Deferred}
variable {ops:Array Oper} {i:Nat} {rest:List Nat} {dst:Option Tmp} {ty:TypeId} {pos:String} {cX:Array Edge} {g:Option (Nat×Bool)}
variable {T:TypeId} {d:TypeDesc} {sz bB:Nat} {z:List Value} {ag:Bool}
theorem aef(hC:∀main T,C main T→Closed P main T){k:IntKind}{ix:Int}{len:Nat}{d':TypeDesc}{v:Value}(ho:ops[i]?=some ⟨dst,.index T x y,ty,pos,cX,g⟩) (hw:aw ops n env g=true)
 (tf:TF P T (.array len E) sz bB z ag) (jH:TF P E d' gX uM z' wD) (hx:bp n env x=some (.agg ⟨l⟩)) (hy:bp n env y=some (.int k ix)) (hi:0≤ix∧ix <len) (hv:Gd wD l (ix.toNat*gX) gX=some v)
 (h:ab C fn az ops rest Q (A n (upd dst v env) D) s):ab C fn az ops (i::rest) Q (A n env D) s:=by
 refine bR hC ho hw (by simp) ?_
 simp only[execOp,Instr.index,aF hx,aF hy,asIntOf,asAgg,aa,ae,a8 tf,hi,and_self,if_true,cd jH]
 rw[Wi jH hv,←aY] at*
 exact h
end rules
section rules
variable {P:Program} {C:Class} {fn:FuncId} {az:Option Nat} {Q:Post} {s:St} {n:Nat} {env:Env} {D:List Deferred}
variable {ops:Array Oper} {i:Nat} {rest:List Nat} {dst:Option Tmp} {ty:TypeId} {pos:String} {cX:Array Edge} {g:Option (Nat×Bool)}
theorem wr(hC:∀main T,C main T→Closed P main T){l:List Nat}(hl:List.range ops.size=l)(h:ab C fn az ops l Q (A n env D) s):Wp C fn az (.region id ops false) Q (A n env D) s:=wp_region hC (hl▸h)
theorem on(hC:∀main T,C main T→Closed P main T){K:Act→St→Prop}(h:K (A n env D) s):ab C fn az ops [] (lM K Q) (A n env D) s:=tD hC h
end rules
theorem c:∀main T,CP P main T→Closed P main T:=eJ
def aT(k:IntKind)(a b:Int):Int:=a.fdiv (2^(min b.toNat k.bits))
def dz(k:IntKind)(a b:Int):Int:=k.wrap (a*2^(min b.toNat k.bits))
def Ug(k:IntKind)(a b:Int):Int:=k.wrap (BitVec.ofInt k.bits a&&& BitVec.ofInt k.bits b).toNat
def KB(k:IntKind)(a b:Int):Int:=k.wrap (BitVec.ofInt k.bits a|||BitVec.ofInt k.bits b).toNat
def cU(k:IntKind)(a b:Int):Int:=k.wrap (BitVec.ofInt k.bits a^^^BitVec.ofInt k.bits b).toNat
theorem OS(k:IntKind)(h:k.signed=false)(n:Int):0≤k.wrap n∧k.wrap n <2^k.bits:=by
 have hp:(0:Int) <2^k.bits:=Int.pow_pos (by decide)
 simp only[IntKind.wrap,h,Bool.false_and,Bool.false_eq_true,if_false]
 exact⟨Int.emod_nonneg _ (by omega),Int.emod_lt_of_pos _ hp⟩
theorem r5(k:IntKind)(h:k.signed=false)(n:Int)(h0:0≤n)(h1:n <2^k.bits):k.wrap n=n:=by
 simp only[IntKind.wrap,h,Bool.false_and,Bool.false_eq_true,if_false]
 exact Int.emod_eq_of_lt h0 h1
theorem tM(a b:Int):0≤cU .u64 a b∧cU .u64 a b <18446744073709551616:=OS .u64 rfl _
theorem aLf{p0 p1 p2 p3 x:Int}(h: [p0,p1,p2,p3][k]?=some x):nth [.int .i64 p0,.int .i64 p1,.int .i64 p2,.int .i64 p3] k=some (.int .i64 x):=by
 rcases k with _|_|_|_|k
 all_goals first| (simp at h;subst h;rfl)|simp at h
theorem dR.azc{own:Cells}(hp:s.rw.Perm (own++fr))(hf:dR P f vs s.ro own Φ):
 Fn (CP P) P f ⟨vs⟩ s (fun en s'=>∃v X,en= .returned v∧Φ v X∧(⟨s.ro,X++fr⟩:St).le s'):=by
 refine Fn.mono (Fn.frame (fr:=fr) (B:=[]) (ro:=s.ro) (s:=s) hf (fun _ h=>(by cases h)) ⟨hp,fun b o hb=> .inl hb,Sub.refl _⟩) fun en s' Dt=>?_
 obtain⟨ym,⟨v,X,rfl,rfl,pQ⟩,hc⟩:=Dt
 exact⟨v,X,rfl,pQ,[],by simpa using hc.rw,fun b o hb=> .inl (hc.keep b o hb)⟩
def Knows(ro:Nat→Option Obj)(X:Cells):Prop:=∀x∈X,ro x.1=some x.2
theorem Knows.up{X:Cells}(h:Knows ro X)(hs:Sub ro aI):Knows aI X:=fun x hx=>hs _ _ (h x hx)
theorem Knows.left{X:Cells}(h:Knows ro (X++Y)):Knows ro X:=fun x hx=>h x (List.mem_append_left _ hx)
theorem Knows.right{X:Cells}(h:Knows ro (X++Y)):Knows ro Y:=fun x hx=>h x (List.mem_append_right _ hx)
theorem Knows.tail{x:Nat×Obj}(h:Knows ro (x::Y)):Knows ro Y:=fun y hy=>h y (List.mem_cons_of_mem _ hy)
theorem Knows.head{x:Nat×Obj}(h:Knows ro (x::Y)):ro x.1=some x.2:=h x List.mem_cons_self
theorem wO{b:Nat}{enc:α→List Value}{ps:List α}(h:s.has b (.cells ⟨(ps.map enc).flatten⟩ T fz))(hl:∀p∈ps,(enc p).length=sz){x:α}(hx:ps[k]?=some x):cv s b (0+k*sz) sz (enc x):=by
 have h2:=Cn ps hl k x hx
 have hm:x∈ps:=List.mem_of_getElem? hx
 have h3:=hl x hm
 refine⟨_,T,fz,h,?_⟩
 rw[Nat.zero_add,iH,h2]
 rw[jW ps hl]
 have:=(List.getElem?_eq_some_iff.1 hx).1
 calc k*sz+sz=(k+1)*sz:=by rw[Nat.succ_mul]
  _≤ps.length*sz:=Nat.mul_le_mul_right _ (by omega)
theorem bC{b:Nat}{enc:α→List Value}(ps:List α)(h:ro b=some (.cells ⟨(ps.map enc).flatten⟩ T fz))(hl:∀p∈ps,(enc p).length=sz):bI ro (.slice (some ⟨b,0,none⟩) ps.length ps.length) sz enc ps:=
 ⟨_,b,0,_,rfl,Nat.le_refl _,fun _ _=>rfl,fun _ _ hx=>wO (.inl h) hl hx⟩
section rules
variable {P:Program} {C:Class} {fn:FuncId} {az:Option Nat} {Q:Post} {s:St} {n:Nat} {env:Env} {D:List Deferred}
variable {ops:Array Oper} {i:Nat} {rest:List Nat} {dst:Option Tmp} {ty:TypeId} {pos:String} {cX:Array Edge} {g:Option (Nat×Bool)}
variable {T:TypeId} {d:TypeDesc} {sz bB:Nat} {z:List Value} {ag:Bool}
theorem aA6(hC:∀main T,C main T→Closed P main T){k k':IntKind}{a b:Int}(ho:ops[i]?=some ⟨dst,.binOp .shr T x y T',ty,pos,cX,g⟩) (hw:aw ops n env g=true)
 (hx:bp n env x=some (.int k a)) (hy:bp n env y=some (.int k' b)) (hb:0≤b) (h:ab C fn az ops rest Q (A n (upd dst (.int k (aT k a b)) env) D) s):ab C fn az ops (i::rest) Q (A n env D) s:=by
 refine sE hC ho hw (by simp) ?_ h
 simp only[execOp,aF hx,aF hy]
 have he:eqGuard .shr T x y (.int k a) (.int k' b)=Sem.pure ():=rfl
 have hv:binOp .shr T (.int k a) (.int k' b)=Sem.pure (.int k (aT k a b)):=by
  show Op.shift .shr k a k' b=_
  simp only[Op.shift,show ¬b <0 by omega,if_false];rfl
 rw[he]
 show Sem.bind (Sem.bind (Sem.pure ()) fun _=>binOp .shr T (.int k a) (.int k' b)) _=_
 simp only[Sem.bind,hv]
 rfl
theorem aA7(hC:∀main T,C main T→Closed P main T){k k':IntKind}{a b:Int}(ho:ops[i]?=some ⟨dst,.binOp .shl T x y T',ty,pos,cX,g⟩) (hw:aw ops n env g=true)
 (hx:bp n env x=some (.int k a)) (hy:bp n env y=some (.int k' b)) (hb:0≤b) (h:ab C fn az ops rest Q (A n (upd dst (.int k (dz k a b)) env) D) s):ab C fn az ops (i::rest) Q (A n env D) s:=by
 refine sE hC ho hw (by simp) ?_ h
 simp only[execOp,aF hx,aF hy]
 have he:eqGuard .shl T x y (.int k a) (.int k' b)=Sem.pure ():=rfl
 have hv:binOp .shl T (.int k a) (.int k' b)=Sem.pure (.int k (dz k a b)):=by
  show Op.shift .shl k a k' b=_
  simp only[Op.shift,show ¬b <0 by omega,if_false];rfl
 rw[he]
 show Sem.bind (Sem.bind (Sem.pure ()) fun _=>binOp .shl T (.int k a) (.int k' b)) _=_
 simp only[Sem.bind,hv]
 rfl
end rules
theorem bN{b:Nat}{enc:α→List Value}(ps:List α)(h:s.has b (.cells ⟨(ps.map enc).flatten⟩ T fz))(hl:∀p∈ps,(enc p).length=sz):Sl s (.slice (some ⟨b,0,none⟩) ps.length cap) sz enc ps:=
 ⟨_,b,0,cap,rfl,fun _ _=>rfl,fun _ _ hx=>wO h hl hx⟩
theorem bA{b:Nat}{enc:α→List Value}:ay (.slice (some ⟨b,0,none⟩) 0 0) sz T enc ([]:List α) [(b,.cells ⟨[]⟩ T (0,0))]:=
 .inr ⟨b,[],0,rfl,rfl,by simp,by simp,by simp,by simp⟩
theorem ay.form{v:Value}{enc:α→List Value}{ps:List α}{L:Cells}(h:ay v sz T enc ps L):∃a c,v= .slice a ps.length c:=by
 rcases h with ⟨h1,h2,_⟩| ⟨b,l,cap,h1,_⟩
 ·subst h2;exact⟨none,0,h1⟩
 exact⟨_,cap,h1⟩
def Oh(v:Value)(b:Nat):Prop:=∃n c,v= .slice (some ⟨b,0,none⟩) n c
theorem cw{v:Value}{enc:α→List Value}{ps:List α}{L:Cells}(h:ay v sz T enc ps L){b:Nat}(hb:Oh v b)(hs:∀x∈L,s.has x.1 x.2){x:α}(hx:ps[k]?=some x):cv s b (k*sz) sz (enc x):=by
 obtain⟨a,b',o,c,h1,h2,h3⟩:=h.sl hs
 have hk:=(List.getElem?_eq_some_iff.1 hx).1
 have h4:=h2 k hk
 obtain⟨n,c',h5⟩:=hb
 rw[h1] at h5
 cases h5
 cases h4
 have:=h3 k x hx
 rwa[Nat.zero_add] at this
theorem aA0{v:Value}{enc:α→List Value}{ps:List α}{L:Cells}(h:ay v sz T enc ps L)(hk:k <ps.length):∃b,Oh v b:=by
 rcases h with ⟨_,h2,_⟩| ⟨b,l,cap,h1,_⟩
 ·subst h2;simp at hk
 exact⟨b,_,_,h1⟩
theorem Rp{enc:α→List Value}:∀(ps:List α),(∀p∈ps,(enc p).length=sz)→∀(k:Nat) (x:α),(enc x).length=sz→k <ps.length→∀l:List Value,l.take (ps.length*sz)=(ps.map enc).flatten→(dw l (k*sz) (enc x)).take (ps.length*sz)=((ps.set k x).map enc).flatten:=by
 intro ps Uw k x hx hk l hl
 have hle:ps.length*sz≤l.length:=by
  have h1:=jW ps Uw
  rw[←hl,List.length_take] at h1
  omega
 have hks:k*sz+sz≤ps.length*sz:=by
  have:(k+1)*sz≤ps.length*sz:=Nat.mul_le_mul_right _ (by omega)
  rw[Nat.succ_mul] at this;exact this
 have hA:((ps.take k).map enc).flatten.length=k*sz:=by
  rw[jW _ (fun p hp=>Uw p (List.mem_of_mem_take hp)),List.length_take,Nat.min_eq_left (by omega)]
 have hC:((ps.drop (k+1)).map enc).flatten.length=(ps.length-(k+1))*sz:=by
  rw[jW _ (fun p hp=>Uw p (List.mem_of_mem_drop hp)),List.length_drop]
 have hB:=Uw ps[k] (List.getElem_mem hk)
 have aud:(ps.map enc).flatten=((ps.take k).map enc).flatten++(enc ps[k]++((ps.drop (k+1)).map enc).flatten):=by
  have h3:ps=ps.take k++ps[k]::ps.drop (k+1):=by rw[←List.drop_eq_getElem_cons hk,List.take_append_drop]
  have h4:=congrArg (fun q:List α=>(q.map enc).flatten) h3
  simp only[List.map_append,List.map_cons,List.flatten_append,List.flatten_cons] at h4
  exact h4
 have qy:l=((ps.take k).map enc).flatten++(enc ps[k]++(((ps.drop (k+1)).map enc).flatten++l.drop (ps.length*sz))):=by
  have h3:=(List.take_append_drop (ps.length*sz) l).symm
  rw[hl,aud] at h3
  simp only[List.append_assoc] at h3
  exact h3
 have oI:((ps.set k x).map enc).flatten=((ps.take k).map enc).flatten++(enc x++((ps.drop (k+1)).map enc).flatten):=by
  rw[List.set_eq_take_append_cons_drop,if_pos hk]
  simp only[List.map_append,List.map_cons,List.flatten_append,List.flatten_cons]
 have aM0:dw l (k*sz) (enc x)=((ps.take k).map enc).flatten++(enc x++(((ps.drop (k+1)).map enc).flatten++l.drop (ps.length*sz))):=by
  rw[qJ _ _ _ (by omega),hx,List.append_assoc]
  congr 1
  ·conv=>lhs;rw[qy]
   rw[←hA,List.take_left]
  congr 1
  conv=>lhs;rw[qy]
  rw[←List.append_assoc,←List.append_assoc,List.append_assoc _ _ (List.drop _ _)]
  rw[show k*sz+sz=(((ps.take k).map enc).flatten++enc ps[k]).length by rw[List.length_append,hA,hB],List.drop_left]
 rw[aM0,oI,←List.append_assoc,←List.append_assoc]
 have hlen:(((ps.take k).map enc).flatten++enc x++((ps.drop (k+1)).map enc).flatten).length=ps.length*sz:=by
  rw[List.length_append,List.length_append,hA,hx,hC]
  have:ps.length*sz=(k+1+(ps.length-(k+1)))*sz:=by congr 1;omega
  rw[this,Nat.add_mul,Nat.succ_mul]
 rw[←hlen,List.take_left,List.append_assoc]
section rules
variable {P:Program} {C:Class} {fn:FuncId} {az:Option Nat} {Q:Post} {s:St} {n:Nat} {env:Env} {D:List Deferred}
variable {ops:Array Oper} {i:Nat} {rest:List Nat} {dst:Option Tmp} {ty:TypeId} {pos:String} {cX:Array Edge} {g:Option (Nat×Bool)}
variable {T:TypeId} {d:TypeDesc} {sz bB:Nat} {z:List Value} {ag:Bool}
theorem TR(hC:∀main T,C main T→Closed P main T){w:Operand}{k k':IntKind}(ho:ops[i]?=some ⟨dst,.slice T x (some y) (some w) none,ty,pos,cX,g⟩) (hw:aw ops n env g=true) (tf:TF P T .string sz bB z ag)
 (hx:bp n env x=some (.string b)) (hy:bp n env y=some (.int k lo)) (hz:bp n env w=some (.int k' hi)) (hl:0≤lo∧lo≤hi∧hi≤b.size) (h:ab C fn az ops rest Q (A n (upd dst (.string (b.extract lo.toNat hi.toNat)) env) D) s):ab C fn az ops (i::rest) Q (A n env D) s:=by
 refine bR hC ho hw (by simp) ?_
 have h1:0≤hi∧hi≤(b.size:Int):=by omega
 have h2:0≤lo∧lo≤(hi.toNat:Int):=by omega
 simp only[execOp,Option.map_some,Option.map_none,Instr.sliceAt,Instr.slice,aF hx,aF hy,aF hz,aa,a8 tf,Instr.sliceBounds,Instr.sliceBound,asIntOf,ae,Option.isSome_none,Bool.false_eq_true,if_false,h1,h2,and_self,if_true]
 rw[←aY] at h
 exact h
theorem P5(hC:∀main T,C main T→Closed P main T){w:Operand}{k':IntKind}(ho:ops[i]?=some ⟨dst,.slice T x none (some w) none,ty,pos,cX,g⟩) (hw:aw ops n env g=true) (tf:TF P T .string sz bB z ag)
 (hx:bp n env x=some (.string b)) (hz:bp n env w=some (.int k' hi)) (hl:0≤hi∧hi≤b.size) (h:ab C fn az ops rest Q (A n (upd dst (.string (b.extract 0 hi.toNat)) env) D) s):ab C fn az ops (i::rest) Q (A n env D) s:=by
 refine bR hC ho hw (by simp) ?_
 simp only[execOp,Option.map_some,Option.map_none,Instr.sliceAt,Instr.slice,aF hx,aF hz,aa,a8 tf,Instr.sliceBounds,Instr.sliceBound,asIntOf,ae,Option.isSome_none,Bool.false_eq_true,if_false,hl,and_self,if_true]
 rw[←aY] at h
 exact h
theorem P3(hC:∀main T,C main T→Closed P main T){k:IntKind}(ho:ops[i]?=some ⟨dst,.slice T x (some y) none none,ty,pos,cX,g⟩) (hw:aw ops n env g=true) (tf:TF P T .string sz bB z ag)
 (hx:bp n env x=some (.string b)) (hy:bp n env y=some (.int k lo)) (hl:0≤lo∧lo≤b.size) (h:ab C fn az ops rest Q (A n (upd dst (.string (b.extract lo.toNat b.size)) env) D) s):ab C fn az ops (i::rest) Q (A n env D) s:=by
 refine bR hC ho hw (by simp) ?_
 simp only[execOp,Option.map_some,Option.map_none,Instr.sliceAt,Instr.slice,aF hx,aF hy,aa,a8 tf,Instr.sliceBounds,Instr.sliceBound,asIntOf,ae,Option.isSome_none,Bool.false_eq_true,if_false,hl,and_self,if_true]
 rw[←aY] at h
 exact h
theorem bI.part{a:Option Addr}{len:Nat}{enc:α→List Value}{ps:List α}(hs:bI ro (.slice a len cap) sz enc ps){l h:Nat}(hl:l≤h)(hh:h≤ps.length):bI ro (.slice (if cap=l then a else a.map (·.add (l*sz))) (h-l) (cap-l)) sz enc ((ps.take h).drop l):=by
 obtain⟨a',b,o,aQ5,h1,h2,h3,h4⟩:=hs
 cases h1
 have hlen:((ps.take h).drop l).length=h-l:=by rw[List.length_drop,List.length_take];omega
 refine⟨_,b,o+l*sz,_,by rw[hlen],by omega,fun k hk=>?_,fun i p hp=>?_⟩
 ·have:=h3 0 (by omega)
  subst this
  rw[if_neg (by omega)]
  simp[dH]
 rw[List.getElem?_drop] at hp
 have hi:l+i <h:=by
  have:=(List.getElem?_eq_some_iff.1 hp).1
  rw[List.length_take] at this;omega
 rw[List.getElem?_take_of_lt hi] at hp
 have:=h4 _ _ hp
 rwa[show o+(l+i)*sz=o+l*sz+i*sz by rw[Nat.add_mul];omega] at this
theorem aed(hC:∀main T,C main T→Closed P main T){v:Value}{enc:α→List Value}{ps:List α}{L:Cells}(ho:ops[i]?=some ⟨dst,.call ⟨.builtin .len,#[x],#[T]⟩,ty,pos,cX,g⟩) (hw:aw ops n env g=true)
 (tf:TF P T (.slice E) sz bB z ag) (hx:bp n env x=some v) (ku:ay v szo T2 enc ps L) (h:ab C fn az ops rest Q (A n (upd dst (.int .i64 ps.length) env) D) s):ab C fn az ops (i::rest) Q (A n env D) s:=by
 obtain⟨a,c,rfl⟩:=ku.form
 exact aBb hC ho hw tf hx h
end rules
theorem dI{K J:Cells}(hp:rw'.Perm (K++J))(h:Sub ro aI):(⟨ro,K⟩:St).le ⟨aI,rw'⟩:=⟨J,hp,fun b o hb=> .inl (h b o hb)⟩
theorem ai(h:l.all single=true):∀v∈l,single v=true:=List.all_eq_true.1 h
section any
variable {P:Program} {C:Class} {fn:FuncId} {az:Option Nat} {Q:Post} {s:St} {n:Nat} {D:List Deferred} {ops:Array Oper} {base:Env}
def aqT(C:Class)(fn:FuncId)(az:Option Nat)(ops:Array Oper)(n:Nat)(D:List Deferred)(base:Env)(Pl Sl:List (Nat×Value))(Q:Post)(s:St)(i:Nat):Prop:=
 ∀rest todo,(∀v s',(∀j w,(j,w)∈pending ops i Sl→eG C fn az ops n D j w (cg ops base j Pl) s→eG C fn az ops n D j w (cg ops base j Pl) s')→
  sZ C fn az ops n D base ((i,v)::Pl) (pending ops i Sl) Q s'→ab C fn az ops todo Q (A n (upd (aQ ops i) v (cg ops base i Pl++rest)) D) s')→
  ab C fn az ops (i::todo) Q (A n (cg ops base i Pl++rest) D) s
def xm(C:Class)(fn:FuncId)(az:Option Nat)(ops:Array Oper)(n:Nat)(D:List Deferred)(base:Env)(Pl Sl:List (Nat×Value))(Q:Post)(s:St):List Nat→Prop
 | []=>True
 |i::is=>aqT C fn az ops n D base Pl Sl Q s i∧xm C fn az ops n D base Pl Sl Q s is
theorem xm.mem{Pl Sl:List (Nat×Value)}:∀ {is:List Nat},xm C fn az ops n D base Pl Sl Q s is→∀i∈is,aqT C fn az ops n D base Pl Sl Q s i
 | [],_,i,hi=>by cases hi
 |k::is,h,i,hi=>by
  rcases List.mem_cons.1 hi with rfl|hi
  ·exact h.1
  exact xm.mem h.2 i hi
def ad8(ops:Array Oper)(ks:List Nat)(is:List Nat):Bool:=
 (List.range ops.size).all fun j=>ba j ks||ba j is||(bu ops j).any fun k=> !ba k ks
theorem abq{Pl Sl:List (Nat×Value)}(is:List Nat)(my:fy ops=true)(his:(is.all fun i=>Nat.blt i ops.size&& !ba i (ak Pl))=true)(lQ:nodupB (ak Pl)=true)(jA:oG ops (ak Pl)=true)(hs:fA (ak Sl) (ak Pl)=true)(ho:ad8 ops (ak Pl) is=true)
 (h:xm C fn az ops n D base Pl Sl Q s is)(dK:is.isEmpty=false):sZ C fn az ops n D base Pl Sl Q s:=by
 have qx:∀i∈is,i∉ak Pl:=fun i hi hm=>by
  have:=(List.all_eq_true.1 his) i hi
  rw[aJ.2 hm] at this;simp at this
 have I4:∀i∈is,i <ops.size:=fun i hi=>by
  have:=(List.all_eq_true.1 his) i hi
  simp only[Bool.and_eq_true,Nat.blt_eq] at this
  exact this.1
 have GP:∀(l:List (Nat×Value)),nodupB (ak l)=true→∀j v w,(j,v)∈l→(j,w)∈l→w=v:=by
  intro l
  induction l with
  |nil=>intro _ j v w h;cases h
  |cons x l ih=>
   rcases x with ⟨k,u⟩
   intro hb j v w h1 h2
   simp only[ak,nodupB,Bool.and_eq_true,Bool.not_eq_true'] at hb
   have hk:k∉ak l:=fun hm=>by rw[aJ.2 hm] at hb;cases hb.1
   rcases List.mem_cons.1 h1 with h1|h1<;>rcases List.mem_cons.1 h2 with h2|h2
   ·cases h1;cases h2;rfl
   ·cases h1;exact absurd (aP.2 ⟨_,h2⟩) hk
   ·cases h2;exact absurd (aP.2 ⟨_,h1⟩) hk
   exact ih hb.2 j v w h1 h2
 intro hSl X l
 induction l generalizing X with
 |nil=>
  intro env hX hl oJ hf
  cases is with
  |nil=>cases dK
  |cons i is=>exact absurd (hX i (oJ i (I4 i List.mem_cons_self))) (qx i List.mem_cons_self)
 |cons j l ih=>
  intro env hX hl oJ hf
  obtain⟨h1,h2,h3,h4⟩:=oJ
  by_cases hj:j∈ak Pl
  ·
   obtain⟨w,hw⟩:=aP.1 hj
   obtain⟨rest,hr⟩:=vV (n:=n) (D:=D) hf j h3 h2
   rw[hr]
   refine hSl j w (hl j w hw h2) s (Ext.refl s) rest l Q ?_
   rw[←CQ hr]
   refine ih (j::X) _ (fun k hk=>?_) (fun k u hk Bf=>hl k u hk (fun h=>Bf (List.mem_cons_of_mem _ h))) h4 (sQ my hf h1 h2 h3 (fun u hu=>GP Pl lQ j w u hw hu))
   rcases List.mem_cons.1 hk with rfl|hk
   ·exact hj
   exact hX k hk
  by_cases ze:j∈is
  ·have h:=xm.mem h j ze
   have qx:=qx j ze
   obtain⟨rest,hr⟩:=vV (n:=n) (D:=D) hf j h3 h2
   rw[hr]
   refine h rest l fun v s' hp ha=>?_
   rw[←CQ hr]
   have Nn:∀k,k∈ak Pl→j∉bu ops k:=by
    intro k hk hm
    have:=(List.all_eq_true.1 jA) k hk
    exact qx (bM.1 this j hm)
   have Uw:∀k u,(k,u)∈pending ops j Sl→(k,u)∈Sl:=fun k u hk=>(List.mem_filter.1 hk).1
   refine ha (fun k u hk=>?_) (j::X) l _ (fun k hk=>?_) (fun k u hk Bf=>?_) h4 ?_
   ·rw[cR (Nn k (bM.1 hs k (aP.2 ⟨u,Uw k u hk⟩)))]
    exact hp k u hk (hSl k u (Uw k u hk))
   ·rcases List.mem_cons.1 hk with rfl|hk
    ·simp[ak]
    exact List.mem_cons_of_mem _ (hX k hk)
   ·rcases List.mem_cons.1 hk with hk|hk
    ·cases hk;exact absurd (by simp) Bf
    have Nk:k∉X:=fun h=>Bf (List.mem_cons_of_mem _ h)
    refine List.mem_filter.2 ⟨hl k u hk Nk,?_⟩
    cases hm:ba k (bu ops j) with
    |false=>rfl
    |true=>exact absurd (h3 k (aJ.1 hm)) Nk
   refine sQ my (Co hf h2) h1 h2 h3 fun u hu=>?_
   rcases List.mem_cons.1 hu with hu|hu
   ·cases hu;rfl
   exact absurd (aP.2 ⟨_,hu⟩) qx
  exfalso
  have:=(List.all_eq_true.1 ho) j (List.mem_range.2 h1)
  have e1:ba j (ak Pl)=false:=by
   cases hm:ba j (ak Pl) with
   |false=>rfl
   |true=>exact absurd (aJ.1 hm) hj
  have e2:ba j is=false:=by
   cases hm:ba j is with
   |false=>rfl
   |true=>exact absurd (aJ.1 hm) ze
  rw[e1,e2] at this
  simp only[Bool.false_or,List.any_eq_true,Bool.not_eq_true'] at this
  obtain⟨k,hk,bV⟩:=this
  have:=hX k (h3 k hk)
  rw[aJ.2 this] at bV;cases bV
end any
section rules
variable {P:Program} {C:Class} {fn:FuncId} {az:Option Nat} {Q:Post} {s:St} {n:Nat} {env:Env} {D:List Deferred}
variable {ops:Array Oper} {i:Nat} {rest:List Nat} {dst:Option Tmp} {ty:TypeId} {pos:String} {cX:Array Edge} {g:Option (Nat×Bool)}
variable {T:TypeId} {d:TypeDesc} {sz bB:Nat} {z:List Value} {ag:Bool} {ro:Nat→Option Obj}
theorem vi{a:Act}(hC:∀main T,C main T→Closed P main T){rw:Cells}(hp:rw'.Perm rw)(h:ab C fn az ops todo Q a ⟨ro,rw⟩):ab C fn az ops todo Q a ⟨ro,rw'⟩:=
 ab.more (s:=⟨ro,rw⟩) (s':=⟨ro,rw'⟩) hC ⟨[],by rw[List.append_nil];exact hp,fun b o hb=> .inl hb⟩ h
theorem oap(hC:∀main T,C main T→Closed P main T){v w:Value}{enc:α→List Value}{ps qs:List α}{L R:List (Nat×Obj)}{d':TypeDesc}{E2:TypeId}{sz2 A0:Nat}{z2:List Value}{ag2:Bool} 
 (ho:ops[i]?=some ⟨dst,.call ⟨.builtin .append,#[x,y],#[T,U]⟩,ty,pos,cX,g⟩) (hw:aw ops n env g=true) (tf:TF P T (.slice E) sz bB z ag) (Sk:TF P U (.slice E2) sz2 A0 z2 ag2) (jH:TF P E d' gX uM z' wD) (hz:z'.length=gX)
 (hx:bp n env x=some v) (hy:bp n env y=some w) (ku:ay v gX E enc ps L) (KD:Sl ⟨ro,L++R⟩ w gX enc qs) (hq:∀p∈qs,∀c∈enc p,single c=true) (hb:vo (ps.length+qs.length) uM)
 (h:∀v' L',ay v' gX E enc (ps++qs) L'→ab C fn az ops rest Q (A n (upd dst v' env) D) ⟨ro,L'++R⟩):ab C fn az ops (i::rest) Q (A n env D) ⟨ro,L++R⟩:=
 P9 hC ho hw tf Sk jH hz hx hy ku KD (pre:=[]) rfl hq hb h
theorem ost(hC:∀main T,C main T→Closed P main T){b o:Nat}{v:Value}{R:List (Nat×Obj)}{c:List Value}{e:TypeId}(ho:ops[i]?=some ⟨dst,.store T x y,ty,pos,cX,g⟩) (hw:aw ops n env g=true) (tf:TF P T d sz bB z ag)
 (hx:bp n env x=some (.pointer (some ⟨b,o,none⟩))) (hy:bp n env y=some (v)) (hl:v.cells=⟨l⟩) (hn:l.length=sz) (h1:∀v∈l,single v=true) (hb:o+l.length≤c.length)
 (h:ab C fn az ops rest Q (A n (upd dst undef env) D) ⟨ro,(b,.cells ⟨dw c o l⟩ e (0,0))::R⟩):ab C fn az ops (i::rest) Q (A n env D) ⟨ro,(b,.cells ⟨c⟩ e (0,0))::R⟩:=
 EO hC ho hw tf hx hy hl hn h1 (L:=[]) rfl hb h
end rules
section rules
variable {P:Program} {C:Class} {fn:FuncId} {az:Option Nat} {Q:Post} {s:St} {n:Nat} {env:Env} {D:List Deferred}
variable {ops:Array Oper} {i:Nat} {rest:List Nat} {dst:Option Tmp} {ty:TypeId} {pos:String} {cX:Array Edge} {g:Option (Nat×Bool)}
theorem asQ(hC:∀main T,C main T→Closed P main T){k:IntKind}{a b:Int}(ho:ops[i]?=some ⟨dst,.call ⟨.builtin .min,#[x,y],#[T,U]⟩,ty,pos,cX,g⟩) (hw:aw ops n env g=true)
 (hx:bp n env x=some (.int k a)) (hy:bp n env y=some (.int k b)) (h:ab C fn az ops rest Q (A n (upd dst (.int k (min a b)) env) D) s):ab C fn az ops (i::rest) Q (A n env D) s:=by
 refine bR hC ho hw (by simp) ?_
 have e:(if b <a then b else a)=min a b:=by omega
 simp only[execOp,resolve,invoke,builtin,Builtin.min_,List.map_toArray,List.map_cons,List.map_nil,aF hx,aF hy,List.foldlM_cons,List.foldlM_nil,Builtin.min2,aa,ae,e]
 rw[←aY] at h
 exact h
theorem asR(hC:∀main T,C main T→Closed P main T){k:IntKind}{a b:Int}(ho:ops[i]?=some ⟨dst,.call ⟨.builtin .max,#[x,y],#[T,U]⟩,ty,pos,cX,g⟩) (hw:aw ops n env g=true)
 (hx:bp n env x=some (.int k a)) (hy:bp n env y=some (.int k b)) (h:ab C fn az ops rest Q (A n (upd dst (.int k (max a b)) env) D) s):ab C fn az ops (i::rest) Q (A n env D) s:=by
 refine bR hC ho hw (by simp) ?_
 have e:(if a <b then b else a)=max a b:=by omega
 simp only[execOp,resolve,invoke,builtin,Builtin.max_,List.map_toArray,List.map_cons,List.map_nil,aF hx,aF hy,List.foldlM_cons,List.foldlM_nil,Builtin.max2,aa,ae,e]
 rw[←aY] at h
 exact h
end rules
def cQ(a b:ByteArray):Bool:=a.toList==b.toList
def strLt(a b:ByteArray):Bool:=Op.bytesLess a.toList b.toList
section rules
variable {P:Program} {C:Class} {fn:FuncId} {az:Option Nat} {Q:Post} {s:St} {n:Nat} {env:Env} {D:List Deferred}
variable {ops:Array Oper} {i:Nat} {rest:List Nat} {dst:Option Tmp} {ty:TypeId} {pos:String} {cX:Array Edge} {g:Option (Nat×Bool)}
theorem asN(hC:∀main T,C main T→Closed P main T){a:ByteArray}(ho:ops[i]?=some ⟨dst,.binOp .add T x y T',ty,pos,cX,g⟩) (hw:aw ops n env g=true)
 (hx:bp n env x=some (.string a)) (hy:bp n env y=some (.string b)) (hb:(a.size:Int)+b.size≤9223372036854775807) (h:ab C fn az ops rest Q (A n (upd dst (.string (a++b)) env) D) s):ab C fn az ops (i::rest) Q (A n env D) s:=
 An hC ho hw hx hy (v:= .string (a++b)) (by
  simp only[Op.stringOp]
  rw[if_neg]
  ·rfl
  have:IntKind.i64.max=9223372036854775807:=by decide
  rw[this];push_cast;omega) rfl h
end rules
theorem aw0(b:ByteArray)(i:Nat)(h:i <b.size):b.get! i=b.data.toList[i]'(by simpa using h):=by
 have h':i <b.data.size:=h
 show b.data[i]! =_
 rw[getElem!_pos b.data i h']
 simp
theorem YD(b:ByteArray):∀(n i:Nat) (r:List UInt8),b.size-i=n→ByteArray.toList.loop b i r=r.reverse++b.data.toList.drop i
 |0,i,r,h=>by
  unfold ByteArray.toList.loop
  rw[if_neg (by omega),List.drop_eq_nil_of_le]
  ·simp
  show b.data.toList.length≤i
  rw[Array.length_toList]
  have:b.data.size=b.size:=rfl
  omega
 |n+1,i,r,h=>by
  unfold ByteArray.toList.loop
  have hi:i <b.size:=by omega
  rw[if_pos hi,YD b n (i+1) _ (by omega),aw0 b i hi]
  have hl:i <b.data.toList.length:=by rw[Array.length_toList];exact hi
  rw[List.drop_eq_getElem_cons hl]
  simp
theorem px(b:ByteArray):b.toList=b.data.toList:=by
 show ByteArray.toList.loop b 0 []=_
 rw[YD b _ 0 [] rfl]
 simp
theorem Bv{a:ByteArray}:cQ a b=true↔a=b:=by
 unfold cQ
 rw[px,px]
 simp only[beq_iff_eq]
 constructor
 ·intro h
  have:a.data=b.data:=Array.toList_inj.1 h
  cases a;cases b;simp at this;subst this;rfl
 rintro rfl;rfl
theorem zu(a b:ByteArray):cQ a b=(a.data.toList==b.data.toList):=by unfold cQ;rw[px,px]
theorem Pj(a b:ByteArray):strLt a b=Op.bytesLess a.data.toList b.data.toList:=by unfold strLt;rw[px,px]
def FnG(P:Program)(f:FuncId)(args:List Value)(ro:Nat→Option Obj)(own:Cells)(Φ:Value→(Nat→Option Obj)→Cells→Prop):Prop:=
 Fn (CP P) P f ⟨args⟩ ⟨ro,own⟩ (fun en s'=>∃v aI X,en= .returned v∧s'=⟨aI,X⟩∧Sub ro aI∧Φ v aI X)
theorem FnG.use{own:Cells}{Φ:Value→(Nat→Option Obj)→Cells→Prop}(hp:s.rw.Perm (own++fr))(hf:FnG P f vs s.ro own Φ):
 Fn (CP P) P f ⟨vs⟩ s (fun en s'=>∃v aI X,en= .returned v∧Sub s.ro aI∧Φ v aI X∧(⟨aI,X++fr⟩:St).le s'):=by
 refine Fn.mono (Fn.frame (fr:=fr) (B:=[]) (ro:=s.ro) (s:=s) hf (fun _ h=>(by cases h)) ⟨hp,fun b o hb=> .inl hb,Sub.refl _⟩) fun en s' Dt=>?_
 obtain⟨ym,⟨v,aI,X,rfl,rfl,hs,pQ⟩,hc⟩:=Dt
 refine⟨v,aI,X,rfl,hs,pQ,[],by simpa using hc.rw,fun b o hb=>?_⟩
 rcases hc.aH b o hb with h|h
 ·exact .inl h
 cases h
theorem F4:∀(A l:List Value) (o:Nat) (c:List Value),dw (A++l) (A.length+o) c=A++dw l o c
 | [],l,o,c=>by simp
 |a::A,l,o,[]=>by rw[kZ,kZ]
 |a::A,l,o,v::c=>by
  have:=F4 A l o (v::c)
  rw[show (a::A).length+o=A.length+o+1 by simp only[List.length_cons];omega]
  simp only[List.cons_append,dw,this]
theorem J0{m B:List Value}{o:Nat}{c:List Value}(h:o+c.length≤m.length):dw (m++B) o c=dw m o c++B:=by
 rw[qJ _ _ _ (by rw[List.length_append];omega),qJ _ _ _ h,List.take_append_of_le_length (by omega),List.drop_append_of_le_length h]
 simp only[List.append_assoc]
theorem ZI{m c:List Value}(h:c.length=m.length):dw m 0 c=c:=by
 rw[qJ _ _ _ (by omega)]
 simp[h]
theorem Vb{enc:α→List Value}{ps:List α}(Uw:∀p∈ps,(enc p).length=sz){x:α}(hx:ps[k]?=some x) (hl:l.take (ps.length*sz)=(ps.map enc).flatten):∃A B,A.length=k*sz∧l=A++(enc x++B):=by
 obtain⟨hk,rfl⟩:=List.getElem?_eq_some_iff.1 hx
 refine⟨((ps.take k).map enc).flatten,((ps.drop (k+1)).map enc).flatten++l.drop (ps.length*sz),?_,?_⟩
 ·rw[jW _ (fun p hp=>Uw p (List.mem_of_mem_take hp)),List.length_take,Nat.min_eq_left (by omega)]
 have h3:ps=ps.take k++ps[k]::ps.drop (k+1):=by rw[←List.drop_eq_getElem_cons hk,List.take_append_drop]
 have h4:=congrArg (fun q:List α=>(q.map enc).flatten) h3
 simp only[List.map_append,List.map_cons,List.flatten_append,List.flatten_cons] at h4
 have h5:=(List.take_append_drop (ps.length*sz) l).symm
 rw[hl,h4] at h5
 simpa only[List.append_assoc] using h5
theorem ZJ{enc:α→List Value}{ps:List α}(Uw:∀p∈ps,(enc p).length=sz){x:α}(hx:ps[k]?=some x) (hl:l.take (ps.length*sz)=(ps.map enc).flatten) {o:Nat} {c:List Value} (h:o+c.length≤sz):
 dw l (k*sz+o) c=dw l (k*sz) (dw (enc x) o c):=by
 have hxl:=Uw x (List.mem_of_getElem? hx)
 obtain⟨A,B,h1,rfl⟩:=Vb Uw hx hl
 have e0:∀q,dw (A++(enc x++B)) A.length q=A++dw (enc x++B) 0 q:=fun q=>F4 A _ 0 q
 rw[←h1,F4,e0,J0 (by omega),J0 (by rw[k7];omega),ZI (k7 _ _ _)]
section rules
variable {P:Program} {C:Class} {fn:FuncId} {az:Option Nat} {Q:Post} {ro:Nat→Option Obj} {n:Nat} {env:Env} {D:List Deferred}
variable {ops:Array Oper} {i:Nat} {rest:List Nat} {dst:Option Tmp} {ty:TypeId} {pos:String} {cX:Array Edge} {g:Option (Nat×Bool)}
variable {T:TypeId} {d:TypeDesc} {tsz bB:Nat} {z:List Value} {ag:Bool}
theorem aA2(hC:∀main T,C main T→Closed P main T){b o:Nat}{v w:Value}{a e:α}{c:List Value}{enc:α→List Value}{ps:List α}{L R:Cells}(ho:ops[i]?=some ⟨dst,.store T x y,ty,pos,cX,g⟩) (hw:aw ops n env g=true) (tf:TF P T d tsz bB z ag)
 (hx:bp n env x=some (.pointer (some ⟨b,k*sz+o,none⟩))) (hy:bp n env y=some w) (hl:w.cells=⟨c⟩) (hn:c.length=tsz) (h1:∀v∈c,single v=true) (ku:ay v sz E enc ps L) (hb:Oh v b) (hk:ps[k]?=some a) (he:enc e=dw (enc a) o c) (hf:o+c.length≤sz)
 (h:∀L',ay v sz E enc (ps.set k e) L'→ab C fn az ops rest Q (A n (upd dst undef env) D) ⟨ro,L'++R⟩):ab C fn az ops (i::rest) Q (A n env D) ⟨ro,L++R⟩:=by
 have hk1:k <ps.length:=(List.getElem?_eq_some_iff.1 hk).1
 rcases ku with ⟨_,h2,_⟩| ⟨b',l,cap,g1,g2,g3,g4,g5,g6⟩
 ·subst h2;simp at hk
 obtain⟨n',c',ma⟩:=hb
 rw[g1] at ma
 cases ma
 subst g2
 have hea:(enc a).length=sz:=g5 a (List.mem_of_getElem? hk)
 have Dt:(enc e).length=sz:=by rw[he,k7,hea]
 have hks:k*sz+sz≤ps.length*sz:=by
  have:(k+1)*sz≤ps.length*sz:=Nat.mul_le_mul_right _ (by omega)
  rw[Nat.succ_mul] at this;exact this
 have n9:ps.length*sz≤cap*sz:=Nat.mul_le_mul_right _ g4
 refine EO (L:=[]) (R:=R) hC ho hw tf hx hy hl hn h1 rfl (by omega)<|h [(b,.cells ⟨dw l (k*sz+o) c⟩ E (0,0))] (.inr ⟨b,_,cap,by rw[g1,List.length_set],rfl,by rw[k7,g3],by rw[List.length_set];exact g4,fun p hp=>?_,?_⟩)
 ·rcases List.mem_or_eq_of_mem_set hp with h5|h5
  ·exact g5 p h5
  subst h5;exact Dt
 rw[List.length_set,ZJ g5 hk g6 hf,←he]
 exact Rp ps g5 k e Dt hk1 l g6
end rules
section rules
variable {P:Program} {C:Class} {fn:FuncId} {az:Option Nat} {Q:Post} {s:St} {n:Nat} {env:Env} {D:List Deferred}
variable {ops:Array Oper} {i:Nat} {rest:List Nat} {dst:Option Tmp} {ty:TypeId} {pos:String} {cX:Array Edge} {g:Option (Nat×Bool)}
structure EF(P:Program)(f:FuncId)(e:Array Value→Sem Value):Prop where
 ef:∃fn,P.funcs[f]?=some fn∧(fn.name== "runtime.NumGoroutine")=false∧fn.body.isNone=true∧(Extern.findNext fn).isNone=true∧Extern.find fn=some e
theorem aeg(hC:∀main T,C main T→Closed P main T){e:Array Value→Sem Value}(ho:ops[i]?=some ⟨dst,.call ⟨.value (.func f),xs,at_⟩,ty,pos,cX,g⟩) (hw:aw ops n env g=true)
 (ef:EF P f e) (hx:uW n env xs=some vs) (h:bP P (e ⟨vs⟩) s (fun v s'=>ab C fn az ops rest Q (A n (upd dst v env) D) s') (fun _ _=>False)):ab C fn az ops (i::rest) Q (A n env D) s:=by
 obtain⟨fn',h1,h2,h3,h4,h5⟩:=ef.ef
 have h4':Extern.findNext fn'=none:=by
  cases hh:Extern.findNext fn' with
  |none=>rfl
  |some x=>rw[hh] at h4;cases h4
 refine bR hC ho hw (by simp) ?_
 simp only[execOp,resolve,ev,Deferred.ofValue,ae,rK hx]
 simp only[invoke,Array.append_empty,Array.empty_append,callFunc,eH,h1,h2,h3,h4',h5,if_true,Bool.false_eq_true,if_false]
 refine⟨rfl,?_⟩
 refine O4 (e ⟨vs⟩) (fun v=>(pure (Next.value v):Sem Next)) _ _ _<|uZ _ _ _ _ _ _ (fun v s' hv=>?_) (fun _ _ (hf:False)=>hf.elim) h
 rw[←aY] at hv
 exact hv
end rules
def Qv(a:ByteArray)(b:UInt8):Int:=
 match (List.range a.size).find? fun i=>a[i]! ==b with
 |some i=>i
 |none=> -1
section rules
variable {P:Program} {C:Class} {fn:FuncId} {az:Option Nat} {Q:Post} {s:St} {n:Nat} {env:Env} {D:List Deferred}
variable {ops:Array Oper} {i:Nat} {rest:List Nat} {dst:Option Tmp} {ty:TypeId} {pos:String} {cX:Array Edge} {g:Option (Nat×Bool)}
theorem aee(hC:∀main T,C main T→Closed P main T){a:ByteArray}{b:Int}(ho:ops[i]?=some ⟨dst,.call ⟨.value (.func f),xs,at_⟩,ty,pos,cX,g⟩) (hw:aw ops n env g=true)
 (ef:EF P f Extern.BytealgIndexByte.indexByte) (hx:uW n env xs=some [.string a,.int .u8 b]) (h:ab C fn az ops rest Q (A n (upd dst (.int .i64 (Qv a b.toNat.toUInt8)) env) D) s):ab C fn az ops (i::rest) Q (A n env D) s:=by
 refine aeg hC ho hw ef hx ?_
 unfold Qv at h
 show bP P (match (List.range a.size).find? fun i=>a[i]! ==b.toNat.toUInt8 with|some i=>pure (goInt i)|none=>pure (goInt (-1))) s _ _
 split
 ·rename_i j hj
  rw[hj] at h;exact h
 rename_i hj
 rw[hj] at h;exact h
theorem alC(hC:∀main T,C main T→Closed P main T){v:Value}(ho:ops[i]?=some ⟨dst,.call ⟨.value (.func f),xs,at_⟩,ty,pos,cX,g⟩) (hw:aw ops n env g=true)
 (ef:EF P f Extern.AbiNoEscape.same) (hx:uW n env xs=some [v]) (h:ab C fn az ops rest Q (A n (upd dst v env) D) s):ab C fn az ops (i::rest) Q (A n env D) s:=
 aeg hC ho hw ef hx h
end rules
theorem aa6{p:Nat}{c:UInt8}(h:b.data.toList[p]?=some c) (ha:c.toNat <128):p <b.size∧Utf8.decode b p=(c.toNat,1):=by
 rw[Array.getElem?_toList] at h
 obtain⟨h1,h2⟩:=Array.getElem?_eq_some_iff.1 h
 refine⟨h1,?_⟩
 have h3:b.get! (p+0)=c:=by
  show b.data[p+0]! =c
  rw[Nat.add_zero,getElem!_pos b.data p h1,h2]
 simp only[Utf8.decode,h3]
 rw[if_pos (by omega)]
section rules
variable {P:Program} {C:Class} {fn:FuncId} {az:Option Nat} {Q:Post} {ro:Nat→Option Obj} {n:Nat} {env:Env} {D:List Deferred}
variable {ops:Array Oper} {i:Nat} {rest:List Nat} {dst:Option Tmp} {ty:TypeId} {pos:String} {cX:Array Edge} {g:Option (Nat×Bool)}
theorem alE(hC:∀main T,C main T→Closed P main T){r p:Nat}{R:Cells}{c:UInt8}(ho:ops[i]?=some ⟨dst,.next x true,ty,pos,cX,g⟩) (hw:aw ops n env g=true) (hx:bp n env x=some (.pointer (some ⟨r,0,none⟩))) (hp:b.data.toList[p]?=some c) (ha:c.toNat <128)
 (h:ab C fn az ops rest Q (A n (upd dst (.tuple ⟨[.bool true,.int .i64 p,.int .i32 c.toNat]⟩) env) D) ⟨ro,(r,.stringIter b (p+1))::R⟩):ab C fn az ops (i::rest) Q (A n env D) ⟨ro,(r,.stringIter b p)::R⟩:=by
 obtain⟨h1,h2⟩:=aa6 hp ha
 refine ZW hC ho hw hx (L:=[]) rfl h1 ?_
 rw[h2]
 exact h
theorem alD(hC:∀main T,C main T→Closed P main T){r p:Nat}{R:Cells}(ho:ops[i]?=some ⟨dst,.next x true,ty,pos,cX,g⟩) (hw:aw ops n env g=true) (hx:bp n env x=some (.pointer (some ⟨r,0,none⟩))) (hp:b.data.toList[p]?=none)
 (h:ab C fn az ops rest Q (A n (upd dst (.tuple ⟨[.bool false]⟩) env) D) ⟨ro,(r,.stringIter b p)::R⟩):ab C fn az ops (i::rest) Q (A n env D) ⟨ro,(r,.stringIter b p)::R⟩:=by
 refine ZX hC ho hw hx (L:=[]) rfl ?_ h
 rw[Array.getElem?_toList,Array.getElem?_eq_none_iff] at hp
 exact Nat.not_lt.2 hp
end rules
theorem Fx(ops:Array Oper)(n:Nat)(env:Env)(D:List Deferred)(o:Oper)(j:Nat)(want:Bool)(d:Tmp)(hg:o.guard=some (j,want))(hd:(ops[j]?).bind (·.dst)=some d)
 (hv:bp n env (.tmp d)=some undef):Region.wanted o (yielded ops (A n env D).tmps)=false:=by
 unfold Region.wanted
 rw[hg]
 simp only[bp] at hv
 by_cases cK:d <n
 ·rw[show Nat.blt d n=true from by simpa [Nat.blt_eq] using cK] at hv
  simp only[cond_true] at hv
  simp only[yielded,hd,Option.bind_some,Oq]
  rw[if_pos cK,mz hv]
  rfl
 rw[show Nat.blt d n=false from by simpa [Nat.blt_eq,←Bool.not_eq_true] using cK] at hv
 cases hv
section rules
variable {P:Program} {C:Class} {fn:FuncId} {az:Option Nat} {Q:Post} {s:St} {n:Nat} {env:Env} {D:List Deferred}
variable {ops:Array Oper} {i:Nat} {rest:List Nat} {dst:Option Tmp} {ty:TypeId} {pos:String} {cX:Array Edge} {g:Option (Nat×Bool)}
theorem alB(hC:∀main T,C main T→Closed P main T){op:Op}{j:Nat}{want:Bool}{d:Tmp}(ho:ops[i]?=some ⟨dst,op,ty,pos,cX,some (j,want)⟩) (hd:(ops[j]?).bind (·.dst)=some d)
 (hv:bp n env (.tmp d)=some undef) (h:ab C fn az ops rest Q (A n (upd dst undef env) D) s):ab C fn az ops (i::rest) Q (A n env D) s:=by
 refine tC hC ho (Fx _ _ _ _ _ _ _ _ rfl hd hv) ?_
 rw[aY];exact h
end rules
section rules
variable {P:Program} {C:Class} {fn:FuncId} {Q:Post} {s:St} {n:Nat} {env:Env} {D:List Deferred}
variable {ops:Array Oper} {i:Nat} {rest:List Nat} {dst:Option Tmp} {ty:TypeId} {pos:String} {cX:Array Edge} {g:Option (Nat×Bool)}
theorem alG(hC:∀main T,C main T→Closed P main T){ca:List Value}(ho:ops[i]?=some ⟨dst,.defer ⟨.value x,#[],#[]⟩,ty,pos,cX,g⟩) (hw:aw ops n env g=true)
 (hx:bp n env x=some (.func (.func f) ⟨[]⟩ ⟨ca⟩)) (h:ab C fn none ops rest Q (A n (upd dst undef env) ({target:= .fn (.func f) ⟨ca⟩,args:= #[]}::D)) s):ab C fn none ops (i::rest) Q (A n env D) s:=by
 refine MK hC ho (Bq _ _ _ _ _ hw) (.inl rfl) ?_
 rw[dZ]
 simp only[execOp,resolve,aF hx,Deferred.ofValue,ae]
 refine⟨rfl,?_⟩
 have hA:({A n env D with defers:={target:= .fn (.func f) ⟨ca⟩,args:= #[]}::(A n env D).defers}:Act).put dst undef=A n (upd dst undef env) ({target:= .fn (.func f) ⟨ca⟩,args:= #[]}::D):=by
  rw[←aY];rfl
 rw[←hA] at h
 have he:(⟨[]⟩:Array Value)++Array.map (ev n env) #[]= #[]:=by simp
 rw[he]
 exact h
def Vn(C:Class)(P:Program)(fn:Func)(g:FuncId)(gn:Func)(t:Tmp)(rest:Code)(R:Ending→St→Prop):Post:=fun e a s=>
 (e= .normal∨e= .ret)∧∃ca:List Value,Nat.ble ca.length gn.ntmps=true∧a.defers=[{target:= .fn (.func g) ⟨ca⟩,args:= #[]}]∧
  Wp C g none rest (fun e2 a2 s2=>(e2= .normal∨e2= .ret)∧a2.defers=[]∧bP P (results fn a.tmps) s2 (fun v s3=>∃s0,s0.le s3∧R (.returned v) s0) (fun _ _=>False)) (A gn.ntmps (upd (some t) .nilIface (fG 0 ca)) []) s
theorem Hp(hC:∀main T,C main T→Closed P main T){fn:Func}{c:Code}{gid:FuncId}{gn:Func}{t:Tmp}{rc:Code}(hf:P.funcs[f]?=some fn) (hb:fn.body=some c) (hn:fn.ntmps=n) (hl:Nat.ble args.length n=true)
 (afP:IP P gid=some (gn,t,rc)) (h:Wp C f none c (Vn C P fn gid gn t rc R) (A n (fG 0 args) []) s):Fn C P f ⟨args⟩ s R:=by
 intro main T hT cl cs k1 k2
 have iD:=hC main T hT
 let b:Frame:={(default:Frame) with fn:=f,kind:= .normal,roundOf:=none}
 have gM:Frame.enter P f ⟨args⟩ .normal=aK b (A n (fG 0 args) []) [.code c]:=by
  rw[←kz args n (Nat.le_of_ble_eq_true hl)]
  simp[Frame.enter,aK,hf,hb,hn,b]
 rw[gM]
 obtain⟨hgf,Ay,Ip,id,o,at_,hgb,h1,h2,h3⟩:=(WI afP).ex
 have ff:FF P gid:=⟨gn,hgf,Ip,by rw[hgb];rfl⟩
 have rG:∀(todo:List Item) (a':Act) (s':St) (ca:List Value),Nat.ble ca.length gn.ntmps=true→a'.defers=[{target:= .fn (.func gid) ⟨ca⟩,args:= #[]}]→
  Wp C gid none rc (fun e2 a2 s2=>(e2= .normal∨e2= .ret)∧a2.defers=[]∧bP P (results fn a'.tmps) s2 (fun v s3=>∃s0,s0.le s3∧R (.returned v) s0) (fun _ _=>False)) (A gn.ntmps (upd (some t) .nilIface (fG 0 ca)) []) s'→
  T (G {aK b a' todo with mode:= .returning} (cl::cs)) s':=by
  intro todo a' s' ca hlc hd hw
  refine jm hC hT (.inl rfl) ff (ds:=[]) (a:= #[]) (ca:=⟨ca⟩) hd ?_
  let d:Frame:={(default:Frame) with fn:=gid,kind:= .deferred,roundOf:=none}
  have am4:Frame.enter P gid ((#[]:Array Value)++⟨ca⟩) .deferred=aK d (A gn.ntmps (fG 0 ca) []) [.code (.seq (.region id #[o] false) rc)]:=by
   rw[←kz ca gn.ntmps (Nat.le_of_ble_eq_true hlc)]
   simp[Frame.enter,aK,hgf,hgb,d]
  rw[am4]
  let c0:Frame:={aK b a' todo with mode:= .returning,defers:=[]}
  show T (G _ (c0::cl::cs)) s'
  refine iD.go rfl rfl (g':=G (aK d (A gn.ntmps (fG 0 ca) []) [.code (.region id #[o] false),.code rc]) (c0::cl::cs)) (fun w=>by simp[G,stepG,stepG.exec,aK])<|iD.go rfl rfl (g':=G (aK d (A gn.ntmps (fG 0 ca) []) [.inRegion #[o] [0],.code rc]) (c0::cl::cs)) (fun w=>by simp[G,stepG,stepG.exec,aK,List.range,List.range.loop])<|z0 hC hT (u:= .ret) (ρ:=fun _=>none) rfl rfl h1 h2 h3 .ret fun v' mP hv UC=>?_
  have hv':v'= .nilIface:=by
   rcases hv with hv|hv
   ·cases hv;rfl
   exact hv.2
  subst hv'
  refine iD.go rfl rfl (g':=G (aK d ((A gn.ntmps (fG 0 ca) []).put (some t) .nilIface) [.code rc]) ({c0 with mode:=mP}::cl::cs)) (fun w=>by simp[G,stepG,stepG.exec,aK]) ?_
  rw[aY]
  have QG:∀tmps,results gn tmps=Sem.pure (.tuple #[]):=by intro tmps;simp[results,Ay];rfl
  have xN:∀(V6:List Item) (a2:Act) (s2:St),a2.defers=[]→bP P (results fn a'.tmps) s2 (fun v s3=>∃s0,s0.le s3∧R (.returned v) s0) (fun _ _=>False)→T (G {aK d a2 V6 with mode:= .returning} ({c0 with mode:=mP}::cl::cs)) s2:=by
   intro V6 a2 s2 hd2 vz
   have lZ:T (G c0 (cl::cs)) s2:=su hC hT hf rfl rfl rfl rfl vz k1
   refine iD.go rfl rfl (fun w=>?_) lZ
   rcases UC with rfl| ⟨v,rfl⟩
   ·simp only[G,stepG,unwind,aK,d,hgf,QG,Sem.runT,sr,hd2]
    simp[GStep.after,doReturn,c0,aK]
   simp only[G,stepG,unwind,aK,d,hgf,QG,Sem.runT,sr,hd2]
   simp[GStep.after,doReturn,c0,aK]
  refine hw main T hT d [] _ rfl (by simp[d]) rfl fun e2 a2 s2 q=>?_
  obtain⟨q1,q2,q3⟩:=q
  rcases q1 with rfl|rfl
  ·exact iD.go rfl rfl (g':=G {aK d a2 [] with mode:= .returning} ({c0 with mode:=mP}::cl::cs)) (fun w=>by simp[G,stepG,stepG.exec,aK,d]) (xN _ _ _ q2 q3)
  exact fun V6=>iD.go rfl rfl (g':=G {aK d a2 (.code .ret::V6) with mode:= .returning} ({c0 with mode:=mP}::cl::cs)) (fun w=>by simp[G,stepG,stepG.exec,aK,d]) (xN _ _ _ q2 q3)
 refine h main T hT b [] (cl::cs) rfl (by simp[b]) rfl fun e a' s' q=>?_
 obtain⟨q1,ca,q0,q2,q3⟩:=q
 rcases q1 with rfl|rfl
 ·exact iD.go rfl rfl (g':=G {aK b a' [] with mode:= .returning} (cl::cs)) (fun w=>by simp[G,stepG,stepG.exec,aK,b]) (rG _ _ _ ca q0 q2 q3)
 exact fun todo=>iD.go rfl rfl (g':=G {aK b a' (.code .ret::todo) with mode:= .returning} (cl::cs)) (fun w=>by simp[G,stepG,stepG.exec,aK,b]) (rG _ _ _ ca q0 q2 q3)
end rules
section rules
variable {P:Program} {C:Class} {fn:FuncId} {az:Option Nat} {Q:Post} {s:St} {n:Nat} {env:Env} {D:List Deferred}
variable {ops:Array Oper} {i:Nat} {rest:List Nat} {dst:Option Tmp} {ty:TypeId} {pos:String} {cX:Array Edge} {g:Option (Nat×Bool)}
variable {T:TypeId} {sz bB:Nat} {z:List Value} {ag:Bool}
theorem alA(hC:∀main T,C main T→Closed P main T){a:Option Addr}{l c:Nat}(ho:ops[i]?=some ⟨dst,.binOp .eql T x y T',ty,pos,cX,g⟩) (hw:aw ops n env g=true) (tf:TF P T (.slice E) sz bB z ag)
 (hx:bp n env x=some (.slice a l c)) (hy:bp n env y=some (.slice none 0 0)) (h:ab C fn az ops rest Q (A n (upd dst (.bool a.isNone) env) D) s):ab C fn az ops (i::rest) Q (A n env D) s:=by
 refine bR hC ho hw (by simp) ?_
 have hg:eqGuard .eql T x y (.slice a l c) (.slice none 0 0)=Sem.pure ():=by cases a<;>rfl
 have hb:binOp .eql T (.slice a l c) (.slice none 0 0)=(Op.equal T (.slice a l c) (.slice none 0 0) >>= fun r=>pure (.bool r)):=by cases a<;>rfl
 have he:∀ {α:Type} (K:Bool→Sem α) (Q:α→St→Prop) (E:Halt→St→Prop),bP P (K a.isNone) s Q E→bP P (Op.equal T (.slice a l c) (.slice none 0 0) >>= K) s Q E:=by
  intro α K Q E hK
  have gen:∀d,bP P (Op.equalIn (d+1) T (.slice a l c) (.slice none 0 0) >>= K) s Q E:=by
   intro d
   cases a<;>(simp only[Op.equalIn,aa,a8 tf,ae,Option.isNone];exact hK)
  exact gen 9999
 simp only[execOp,aF hx,aF hy,hg,hb]
 show bP P ((Op.equal T (.slice a l c) (.slice none 0 0) >>= fun r=>(pure (Value.bool r):Sem Value)) >>= fun x=>(pure (Next.value x):Sem Next)) s _ _
 simp only[aa]
 refine he _ _ _ ?_
 rw[←aY] at h
 exact h
end rules
def adM:Op→Option (List Operand)
 | .move x=>some [x]
 | .assign x=>some [x]
 | .extract x _=>some [x]
 | .nilCheck x=>some [x]
 | .fieldAddr _ x _=>some [x]
 | .makeInterface _ x=>some [x]
 | .indexAddr _ x y=>some [x,y]
 |op=>F7 op
theorem PG{xs:List Operand}(h:adM o.op=some xs){f g:Operand→Value}(hfg:∀x∈xs,f x=g x):execOp f o=execOp g o:=by
 unfold adM at h
 split at h
 all_goals first
  | (rename_i heq;simp only[Option.some.injEq] at h;subst h;simp[execOp,heq,hfg];done)
  |exact tz h hfg
def evj(n:Nat)(e:Env)(x:Operand):Value:=(bp n e x).getD undef
theorem NL{f:Operand→Value}(hf:Ev n e f):∀ {xs:List Operand} {vs:List Value},xF n e xs=some vs→∀x∈xs,f x=evj n e x
 |y::l,vs,h,x,hx=>by
  simp only[xF] at h
  cases hv:bp n e y with
  |none=>rw[hv] at h;cases h
  |some v=>
   rw[hv] at h
   cases hr:xF n e l with
   |none=>rw[hr] at h;cases h
   |some r=>
    rcases List.mem_cons.1 hx with rfl|hx
    ·rw[hf _ _ hv,evj,hv];rfl
    exact NL hf hr x hx
def arV(P:Program)(n:Nat)(e:Env)(o:Oper):Option Value:=
 match adM o.op with
 |some xs=>match xF n e xs with
  |some _=>match bw P (execOp (evj n e) o) with
   |some (.value v)=>some v
   |_=>none
  |none=>none
 |none=>none
def aBz(P:Program)(n:Nat)(e:Env)(x:Operand)(T:TypeId):Option Value:=
 match aZ P T with
 |some ⟨.slice _,_,_,_⟩=>match bp n e x with
  |some (.slice _ len _)=>some (.int .i64 len)
  |_=>none
 |some ⟨.string,_,_,_⟩=>match bp n e x with
  |some (.string b)=>some (.int .i64 b.size)
  |_=>none
 |_=>none
def Vw(P:Program)(n:Nat)(e:Env)(T:TypeId)(ps:Array (Nat×Operand)):Option Value:=
 match aZ P T with
 |some ⟨.struct fields,_,z,_⟩=>match wQ P fields.toList with
  |some pl=>match OI n e ps.toList with
   |some pv=>match oh (fun i=>pl[i]?) z (tB pv) with
    |some l=>some (.agg ⟨l⟩)
    |none=>none
   |none=>none
  |none=>none
 |some ⟨.array _ E,_,z,_⟩=>match aZ P E with
  |some te=>match OI n e ps.toList with
   |some pv=>match oh (fun i=>some (i*te.size,te.size)) z (tB pv) with
    |some l=>some (.agg ⟨l⟩)
    |none=>none
   |none=>none
  |none=>none
 |_=>none
def acv(P:Program)(n:Nat)(e:Env)(o:Oper):Option Value:=
 match o.op with
 | .pick c x y=>match bp n e c with
  |some (.bool true)=>bp n e x
  |some (.bool false)=>bp n e y
  |_=>none
 | .makeFunc f x y=>match xF n e x.toList with
  |some x'=>match xF n e y.toList with
   |some y'=>some (.func f ⟨x'⟩ ⟨y'⟩)
   |none=>none
  |none=>none
 | .build T ps=>Vw P n e T ps
 | .call ⟨.builtin .len,⟨[x]⟩,⟨[T]⟩⟩=>aBz P n e x T
 |_=>arV P n e o
section val
variable {P:Program} {n:Nat} {e:Env} {o:Oper} {s:St} {v:Value}
theorem ak2(h:arV P n e o=some v):Yields P n e o s v:=by
 unfold arV at h
 split at h<;>try (cases h;done)
 rename_i xs hx
 split at h<;>try (cases h;done)
 rename_i vs Ef
 split at h<;>try (cases h;done)
 rename_i w hr
 cases h
 intro s' _ f hf K E hK
 rw[PG hx (NL hf Ef)]
 exact nX hr hK
theorem abf{ps:Array (Nat×Operand)}(heq:o.op= .build T ps)(h:Vw P n e T ps=some v):Yields P n e o s v:=by
 unfold Vw at h
 split at h<;>try (cases h;done)
 ·rename_i fields _ z _ dJ
  obtain⟨bB,tf⟩:=av dJ
  split at h<;>try (cases h;done)
  rename_i pl Sv
  split at h<;>try (cases h;done)
  rename_i pv I1
  split at h<;>try (cases h;done)
  rename_i l hl
  cases h
  intro s' mI f hf K E hK
  simp only[execOp,heq,Instr.build,aa,jN tf,a8 tf,dV tf]
  rw[Array.mapM_eq_mapM_toList]
  simp only[map_eq_pure_bind,aa,ae]
  rw[nK (yw Sv)]
  rw[kg] at hl
  have h1:=fill_eq _ _ _ _ hl
  have h3:(fun x=>(pl.toArray)[x]?:Nat→Option (Nat×Nat))=fun i=>pl[i]?:=by funext i;simp
  simp only[h3,hf.vg I1,h1,ae]
  exact hK
 rename_i len E _ z _ dJ
 obtain⟨bB,tf⟩:=av dJ
 split at h<;>try (cases h;done)
 rename_i te tO
 obtain⟨A0,qz⟩:=av tO
 split at h<;>try (cases h;done)
 rename_i pv I1
 split at h<;>try (cases h;done)
 rename_i l hl
 cases h
 intro s' mI f hf K E hK
 simp only[execOp,heq,Instr.build,aa,jN tf,a8 tf,dV tf,cd qz]
 rw[kg] at hl
 have h1:=fill_eq _ _ _ _ hl
 simp only[hf.vg I1,h1,ae]
 exact hK
theorem zq(h:acv P n e o=some v):Yields P n e o s v:=by
 unfold acv at h
 split at h
 ·rename_i c x y heq
  split at h<;>try (cases h;done)
  ·rename_i hc
   intro s' _ f hf K E hK
   simp only[execOp,heq,hf _ _ hc,hf _ _ h]
   exact hK
  rename_i hc
  intro s' _ f hf K E hK
  simp only[execOp,heq,hf _ _ hc,hf _ _ h]
  exact hK
 ·rename_i g x y heq
  split at h<;>try (cases h;done)
  rename_i x' hx
  split at h<;>try (cases h;done)
  rename_i y' hy
  cases h
  intro s' _ f hf K E hK
  simp only[execOp,heq,hf.arr hx,hf.arr hy]
  exact hK
 ·rename_i T ps heq;exact abf heq h
 ·rename_i x T heq
  unfold aBz at h
  split at h<;>try (cases h;done)
  ·rename_i dJ
   obtain⟨bB,tf⟩:=av dJ
   split at h<;>try (cases h;done)
   rename_i hx
   cases h
   intro s' _ f hf K E hK
   simp only[execOp,heq,resolve,invoke,builtin,Builtin.len_,List.map_toArray,List.map_cons,List.map_nil,hf _ _ hx,ae,List.getElem?_toArray,List.getElem?_cons_zero,a8 tf,aa]
   exact hK
  rename_i dJ
  obtain⟨bB,tf⟩:=av dJ
  split at h<;>try (cases h;done)
  rename_i hx
  cases h
  intro s' _ f hf K E hK
  simp only[execOp,heq,resolve,invoke,builtin,Builtin.len_,List.map_toArray,List.map_cons,List.map_nil,hf _ _ hx,ae,List.getElem?_toArray,List.getElem?_cons_zero,a8 tf,aa]
  exact hK
 exact ak2 h
end val
def ldv(P:Program)(T:TypeId)(l:List Value)(off:Nat):Option Value:=
 match aZ P T with
 |some ti=>bif ti.agg then (match sub l off ti.size with
  |some vs=>some (.agg ⟨vs⟩)
  |none=>none) else nth l off
 |none=>none
theorem aeS{v:Value}{b:Nat}{t:TypeId}(heq:o.op= .load T x)(hx:bp n e x=some (.pointer (some ⟨b,off,none⟩)))(hb:s.has b (.cells ⟨l⟩ t fz))(h:ldv P T l off=some v):Yields P n e o s v:=by
 unfold ldv at h
 split at h<;>try (cases h;done)
 rename_i ti dJ
 obtain⟨bB,tf⟩:=av dJ
 intro s' hs f hf K E hK
 cases ha:ti.agg with
 |true=>
  rw[ha] at h tf
  simp only[cond_true] at h
  split at h<;>try (cases h;done)
  rename_i vs Ef
  cases h
  simp only[execOp,heq,Instr.loadAt,hf _ _ hx,Instr.sureAddr,loadVar,aa,ae,j7 tf,if_true,cd tf]
  exact iG ⟨_,_,_,hs _ _ hb,Ef⟩ hK
 |false=>
  rw[ha] at h tf
  simp only[cond_false] at h
  simp only[execOp,heq,Instr.loadAt,hf _ _ hx,Instr.sureAddr,loadVar,aa,ae,j7 tf,Bool.false_eq_true,if_false]
  exact u2 ⟨_,_,_,hs _ _ hb,h⟩ hK
theorem atd{v:Value}{b m:Nat}(k:Nat)(heq:o.op= .load T x)(hx:bp n e x=some (.pointer (some ⟨b,off+k,none⟩)))(hb:cv s b off m l)(h:ldv P T l k=some v):Yields P n e o s v:=by
 unfold ldv at h
 split at h<;>try (cases h;done)
 rename_i ti dJ
 obtain⟨bB,tf⟩:=av dJ
 intro s' hs f hf K E hK
 cases ha:ti.agg with
 |true=>
  rw[ha] at h tf
  simp only[cond_true] at h
  split at h<;>try (cases h;done)
  rename_i vs Ef
  cases h
  simp only[execOp,heq,Instr.loadAt,hf _ _ hx,Instr.sureAddr,loadVar,aa,ae,j7 tf,if_true,cd tf]
  exact iG ((hb.ext hs).part k ti.size Ef) hK
 |false=>
  rw[ha] at h tf
  simp only[cond_false] at h
  simp only[execOp,heq,Instr.loadAt,hf _ _ hx,Instr.sureAddr,loadVar,aa,ae,j7 tf,Bool.false_eq_true,if_false]
  exact u2 ((hb.ext hs).cell k v (by rw[←rB];exact h)) hK
structure Cx where
 P:Program
 C:Class
 hC:∀main T,C main T→Closed P main T
 hm:P.follows .mixedOrders=true
 fn:FuncId
 az:Option Nat
 n:Nat
 D:List Deferred
 ro:Nat→Option Obj
 Q:Post
variable {X X1:Cx}
def Cx.at(X:Cx)(ro:Nat→Option Obj):Cx:={X with ro:=ro}
inductive KI where
 |seq (b:Code)
 |block (id:Nat)
 |next (K:Act→St→Prop)
inductive Sg where
 |b (i:Nat) (o:Obj)
 |l (L:Cells)
def den:List Sg→Cells
 | []=>[]
 | [.l L]=>L
 | .b i o::r=>(i,o)::den r
 | .l L::r=>L++den r
theorem iv(i:Nat)(o:Obj)(r:List Sg):den (.b i o::r)=(i,o)::den r:=by cases r<;>rfl
theorem fZ(L:Cells)(r:List Sg):den (.l L::r)=L++den r:=by cases r<;>simp[den]
inductive Pos where
 |ops (ops:Array Oper) (todo:List Nat) (k:List KI)
 |code (c:Code) (k:List KI)
 |nxt (K:Act→St→Prop)
 |HA (ops:Array Oper) (base:Env) (Pl Sl:List (Nat×Value)) (k:List KI)
 |fin (e:Exit)
structure Kn where
 c:Cells
 nd:List (Nat×Cells)
variable {kn:Kn}
structure JS where
 pos:Pos
 env:Env
 rw:List Sg
 kn:Kn
variable {s':JS}
def KQ(X:Cx):List KI→Post
 | []=>X.Q
 | .seq b::k=>lM (fun a s=>Wp X.C X.fn X.az b (KQ X k) a s) (KQ X k)
 | .block id::k=>qo id (KQ X k)
 | .next K::k=>lM K (KQ X k)
def Dg:Op→Bool
 | .load .. =>false
 | .lookup .. =>false
 | .call ⟨.value _,_,_⟩=>false
 | .call ⟨.invoke ..,_,_⟩=>false
 |_=>true
def vL(ops:Array Oper)(n:Nat)(e:Env):Option (Nat×Bool)→Option Bool
 |none=>some true
 |some (j,want)=>match aQ ops j with
  |some d=>match bp n e (.tmp d) with
   |some (.bool true)=>some want
   |some (.bool false)=>some (!want)
   |some (.tuple ⟨[]⟩)=>some false
   |_=>none
  |none=>none
def sB(ops:Array Oper)(n:Nat)(base:Env)(Pl:List (Nat×Value))(j:Nat):Bool:=match ops[j]? with
 |some p=>Dg p.op||(match vL ops n (cg ops base j Pl) p.guard with
  |some false=>true
  |_=>false)
 |none=>false
def PF(X:Cx)(nd:List (Nat×Cells))(ops:Array Oper)(base:Env)(Pl Sl:List (Nat×Value)):Prop:=
 (∀j u,(j,u)∈Sl→sB ops X.n base Pl j=true→∀s,eG X.C X.fn X.az ops X.n X.D j u (cg ops base j Pl) s)∧
 ∀j u B,(j,u)∈Sl→(j,B)∈nd→∀s,Ext ⟨X.ro,[]⟩ s→(∀x∈B,s.has x.1 x.2)→eG X.C X.fn X.az ops X.n X.D j u (cg ops base j Pl) s
def ndK:List (Nat×Cells)→List Nat
 | []=>[]
 | (i,_)::l=>i::ndK l
theorem MS:∀ {l:List (Nat×Cells)},(i,B)∈l→i∈ndK l
 | (j,C)::l,h=>by
  simp only[ndK]
  rcases List.mem_cons.1 h with h|h
  ·cases h;exact List.mem_cons_self
  exact List.mem_cons_of_mem _ (MS h)
def JP(X:Cx)(kn:Kn)(e:Env)(w:List Sg):Pos→Prop
 | .ops ops todo k=>ab X.C X.fn X.az ops todo (KQ X k) (A X.n e X.D) ⟨X.ro,den w⟩
 | .code c k=>Wp X.C X.fn X.az c (KQ X k) (A X.n e X.D) ⟨X.ro,den w⟩
 | .nxt K=>K (A X.n e X.D) ⟨X.ro,den w⟩
 | .HA ops base Pl Sl k=>PF X kn.nd ops base Pl Sl→sZ X.C X.fn X.az ops X.n X.D base Pl Sl (KQ X k) ⟨X.ro,den w⟩
 | .fin e'=>X.Q e' (A X.n e X.D) ⟨X.ro,den w⟩
def J(X:Cx):Option JS→Prop
 |none=>False
 |some s=>Knows X.ro s.kn.c→JP X s.kn s.env s.rw s.pos
def PI:List KI→Pos
 | []=> .fin .normal
 | .seq b::k=> .code b k
 | .block _::k=>PI k
 | .next K::_=> .nxt K
theorem tA{w:List Sg}:∀ {k:List KI},JP X kn e w (PI k)→KQ X k .normal (A X.n e X.D) ⟨X.ro,den w⟩
 | [],h=>h
 | .seq _::_,h=>h
 | .block _::k,h=>tA (k:=k) h
 | .next _::_,h=>h
def AP(id:Nat):List KI→Option Pos
 | []=>some (.fin (.exit id))
 | .seq _::k=>AP id k
 | .block i::k=>bif Nat.beq id i then some (PI k) else AP id k
 | .next _::k=>AP id k
theorem vY{w:List Sg}{p:Pos}:∀ {k:List KI},AP id k=some p→JP X kn e w p→KQ X k (.exit id) (A X.n e X.D) ⟨X.ro,den w⟩
 | [],h,hj=>by simp only[AP,Option.some.injEq] at h;subst h;exact hj
 | .seq _::k,h,hj=>vY (k:=k) h hj
 | .next _::k,h,hj=>vY (k:=k) h hj
 | .block i::k,h,hj=>by
  simp only[AP] at h
  cases hb:Nat.beq id i with
  |true=>
   rw[hb] at h;simp only[cond_true,Option.some.injEq] at h;subst h
   have:=Nat.eq_of_beq_eq_true hb;subst this
   exact DG (tA hj)
  |false=>
   rw[hb] at h;simp only[cond_false] at h
   exact DF hb (vY (k:=k) h hj)
theorem zy{a:Act}(h:X.Q .ret a s):∀(k:List KI),KQ X k .ret a s
 | []=>h
 | .seq _::k=>zy h k
 | .next _::k=>zy h k
 | .block _::k=>zy h k
def azL:Op→Bool
 | .move _| .assign _| .pick .. | .makeFunc .. | .extract .. | .nilCheck _| .fieldAddr .. | .makeInterface .. | .indexAddr .. | .index .. | .field .. | .binOp .. | .unOp .. | .convert .. | .build .. | .load .. | .lookup .. | .slice .. =>true
 | .call ⟨.builtin .len,_,_⟩| .call ⟨.builtin .cap,_,_⟩| .call ⟨.builtin .min,_,_⟩| .call ⟨.builtin .max,_,_⟩=>true
 |_=>false
def azM(ops:Array Oper)(i:Nat):Bool:=match ops[i]? with
 |some o=>azL o.op
 |none=>false
def enabled(ops:Array Oper)(ks:List Nat)(i:Nat):Bool:= !ba i ks&&fA (bu ops i) ks
def Yg(f:Nat→Bool):Nat→Nat→Option Nat
 |0,_=>none
 |k+1,i=>bif f i then some i else Yg f k (i+1)
def awR(ops:Array Oper)(i:Nat):Bool:=match ops[i]? with
 |some ⟨_,.call ⟨.value _,_,_⟩,_,_,_,_⟩=>true
 |_=>false
def anS(ops:Array Oper)(ks:List Nat):Option Nat:=
 match Yg (fun i=>enabled ops ks i&&azM ops i) ops.size 0 with
 |some i=>some i
 |none=>match Yg (fun i=>enabled ops ks i&&awR ops i) ops.size 0 with
  |some i=>some i
  |none=>Yg (enabled ops ks) ops.size 0
def p5(n:Nat):JS→Option (Bool×Oper×Env)
 | ⟨.ops ops (i::_) _,e,_,_⟩=>match ops[i]? with
  |some o=>match vL ops n e o.guard with
   |some g=>some (g,o,e)
   |none=>none
  |none=>none
 | ⟨.HA ops base Pl _ _,_,_,_⟩=>match anS ops (ak Pl) with
  |some i=>match ops[i]? with
   |some o=>match vL ops n (cg ops base i Pl) o.guard with
    |some g=>some (g,o,cg ops base i Pl)
    |none=>none
   |none=>none
  |none=>none
 |_=>none
def F5(v:Value):JS→Option JS
 | ⟨.ops ops (i::todo) k,e,w,kn⟩=>match ops[i]? with
  |some o=>some ⟨.ops ops todo k,upd o.dst v e,w,kn⟩
  |none=>none
 | ⟨.HA ops base Pl Sl k,e,w,kn⟩=>match anS ops (ak Pl) with
  |some i=>bif !ba i (ak Pl)&&(fA (bu ops i) (ak Pl)&&(oG ops (ak Pl)&&(fA (ak Sl) (ak Pl)&& !ba i (ndK kn.nd)))) then some ⟨.HA ops base ((i,v)::Pl) ((i,v)::Sl) k,e,w,kn⟩ else none
  |none=>none
 |_=>none
theorem ny{ops:Array Oper}{g:Option (Nat×Bool)}(h:vL ops n e g=some true)(rest:Env):aw ops n (e++rest) g=true:=by
 unfold vL at h
 split at h
 ·rfl
 rename_i j want
 split at h<;>try (cases h;done)
 rename_i d hd
 have hd:(ops[j]?).bind (·.dst)=some d:=hd
 split at h<;>try (cases h;done)
 ·rename_i hb;simp only[Option.some.injEq] at h;subst h
  exact td hd (bh hb) rfl
 rename_i hb;simp only[Option.some.injEq,Bool.not_eq_true'] at h;subst h
 exact td hd (bh hb) rfl
section
variable {X:Cx}
theorem yT{ops:Array Oper}{Q:Post}(ho:ops[i]?=some o) (h:vL ops X.n e o.guard=some false) (rest:Env) (hk:ab X.C X.fn X.az ops todo Q (A X.n (upd o.dst undef (e++rest)) X.D) s):ab X.C X.fn X.az ops (i::todo) Q (A X.n (e++rest) X.D) s:=by
 unfold vL at h
 split at h
 ·cases h
 rename_i j want hg
 split at h<;>try (cases h;done)
 rename_i d hd
 have hd:(ops[j]?).bind (·.dst)=some d:=hd
 split at h<;>try (cases h;done)
 ·rename_i hb;simp only[Option.some.injEq] at h;subst h
  exact tG X.hC ho hg hd (bh hb) rfl hk
 ·rename_i hb;simp only[Option.some.injEq,Bool.not_eq_false'] at h;subst h
  exact tG X.hC ho hg hd (bh hb) rfl hk
 rename_i hb
 rcases o with ⟨dst,op,ty,pos,cX,g⟩
 dsimp only at hg;subst hg
 exact alB X.hC ho hd (bh hb) hk
def Ia(X:Cx)(e:Env)(o:Oper)(s:St)(v:Value):Prop:=
 ∀(ops:Array Oper) (i:Nat),ops[i]?=some o→∀rest,aw ops X.n (e++rest) o.guard=true→∀s',Ext s s'→∀todo Q,ab X.C X.fn X.az ops todo Q (A X.n (upd o.dst v (e++rest)) X.D) s'→ab X.C X.fn X.az ops (i::todo) Q (A X.n (e++rest) X.D) s'
theorem jyS{s:JS}{v:Value}(hh:p5 X.n s=some (g,o,e))(hp:F5 v s=some s')
 (hv:match g with|true=>(Knows X.ro s.kn.c→Ia X e o ⟨X.ro,den s.rw⟩ v)∧(Dg o.op=true→∀s,Ia X e o s v)|false=>v=undef)(hj:J X (some s')):J X (some s):=by
 intro bV
 rcases s with ⟨p,e0,w,kn⟩
 cases p with
 |ops ops todo k=>
  cases todo with
  |nil=>cases hh
  |cons i todo=>
   simp only[p5] at hh
   split at hh<;>try (cases hh;done)
   rename_i o1 ho
   split at hh<;>try (cases hh;done)
   rename_i g1 hg
   cases hh
   simp only[F5,ho,Option.some.injEq] at hp;subst hp
   have hk:ab X.C X.fn X.az ops todo (KQ X k) (A X.n (upd o.dst v e) X.D) ⟨X.ro,den w⟩:=hj bV
   show ab X.C X.fn X.az ops (i::todo) (KQ X k) (A X.n e X.D) ⟨X.ro,den w⟩
   cases g with
   |true=>
    have:=hv.1 bV ops i ho [] (ny hg []) _ (Ext.refl _) todo (KQ X k)
    rw[List.append_nil] at this
    exact this hk
   |false=>
    dsimp only at hv;subst hv
    have:=yT (Q:=KQ X k) (s:=⟨X.ro,den w⟩) (todo:=todo) ho hg []
    rw[List.append_nil] at this
    exact this hk
 |HA ops base Pl Sl k=>
  simp only[p5] at hh
  split at hh<;>try (cases hh;done)
  rename_i i hi
  split at hh<;>try (cases hh;done)
  rename_i o1 ho
  split at hh<;>try (cases hh;done)
  rename_i g1 hg
  cases hh
  simp only[F5,hi] at hp
  cases hc:(!ba i (ak Pl)&&(fA (bu ops i) (ak Pl)&&(oG ops (ak Pl)&&(fA (ak Sl) (ak Pl)&& !ba i (ndK kn.nd))))) with
  |false=>rw[hc] at hp;cases hp
  |true=>
   rw[hc] at hp;simp only[cond_true,Option.some.injEq] at hp;subst hp
   simp only[Bool.and_eq_true,Bool.not_eq_true'] at hc
   have Ej:aQ ops i=o.dst:=by simp only[aQ,ho,Option.bind_some]
   intro hpf
   have qx:∀j,j∈ak Sl→i∉bu ops j:=fun j hj hd=>by
    have h1:=bM.1 hc.2.2.2.1 j hj
    have h2:=bM.1 (List.all_eq_true.1 hc.2.2.1 j h1) i hd
    rw[aJ.2 h2] at hc;exact absurd hc.1 (by simp)
   refine H7 i hc.1 hc.2.1 hc.2.2.1 hc.2.2.2.1 ?_ (hj bV ⟨fun j u Ir hp s0=>?_,fun j u B Ir hB s0 GM uK=>?_⟩)
   ·intro s1 hx rest todo Q hk
    rw[Ej] at hk
    cases g with
    |true=>exact hv.1 bV ops _ ho rest (ny hg rest) _ hx _ _ hk
    |false=>dsimp only at hv;subst hv;exact yT ho hg rest hk
   ·have hii:i∉bu ops i:=fun hd=>by
     have h2:=bM.1 hc.2.1 i hd
     rw[aJ.2 h2] at hc;exact absurd hc.1 (by simp)
    rcases List.mem_cons.1 Ir with h1|h1
    ·obtain⟨ze,rfl⟩:=Prod.mk.inj h1
     subst ze
     rw[cR hii]
     intro s1 hx rest todo Q hk
     rw[Ej] at hk
     cases g with
     |true=>
      have hpk:Dg o.op=true:=by
       simp only[sB,ho,cR hii,hg,Bool.or_false] at hp
       exact hp
      exact hv.2 hpk s0 ops _ ho rest (ny hg rest) _ hx _ _ hk
     |false=>dsimp only at hv;subst hv;exact yT ho hg rest hk
    have OH:j∈ak Sl:=aP.2 ⟨u,h1⟩
    rw[cR (qx j OH)]
    exact hpf.1 j u h1 (by simp only[sB,cR (qx j OH)] at hp;exact hp) s0
   rcases List.mem_cons.1 Ir with h1|h1
   ·obtain⟨ze,rfl⟩:=Prod.mk.inj h1
    subst ze
    have:=MS hB
    rw[aJ.2 this] at hc;exact absurd hc.2.2.2.2 (by simp)
   rw[cR (qx j (aP.2 ⟨u,h1⟩))]
   exact hpf.2 j u B h1 hB s0 GM uK
 |_=>cases hh
def alp(B:Cells)(v:Value):JS→Option JS
 | ⟨.ops ops (i::todo) k,e,w,kn⟩=>match ops[i]? with
  |some o=>some ⟨.ops ops todo k,upd o.dst v e,w,kn⟩
  |none=>none
 | ⟨.HA ops base Pl Sl k,e,w,kn⟩=>match anS ops (ak Pl) with
  |some i=>bif !ba i (ak Pl)&&(fA (bu ops i) (ak Pl)&&(oG ops (ak Pl)&&(fA (ak Sl) (ak Pl)&& !ba i (ndK kn.nd)))) then some ⟨.HA ops base ((i,v)::Pl) ((i,v)::Sl) k,e,w,⟨kn.c,(i,B)::kn.nd⟩⟩ else none
  |none=>none
 |_=>none
theorem jyN{s:JS}{v:Value}(hh:p5 X.n s=some (true,o,e))(hp:alp B v s=some s')(hB:∀x∈B,(⟨X.ro,den s.rw⟩:St).has x.1 x.2)(hnp:Dg o.op=false)
 (hv:∀s0,Ext ⟨X.ro,[]⟩ s0→(∀x∈B,s0.has x.1 x.2)→Ia X e o s0 v)(hj:J X (some s')):J X (some s):=by
 intro bV
 rcases s with ⟨p,e0,w,kn⟩
 cases p with
 |ops ops todo k=>
  have:F5 v ⟨.ops ops todo k,e0,w,kn⟩=some s':=by
   cases todo with
   |nil=>cases hh
   |cons i todo=>exact hp
  exact jyS hh this ⟨fun _=>hv _ NJ hB,fun h=>by rw[hnp] at h;cases h⟩ hj bV
 |HA ops base Pl Sl k=>
  simp only[p5] at hh
  split at hh<;>try (cases hh;done)
  rename_i i hi
  split at hh<;>try (cases hh;done)
  rename_i o1 ho
  split at hh<;>try (cases hh;done)
  rename_i g1 hg
  cases hh
  simp only[alp,hi] at hp
  cases hc:(!ba i (ak Pl)&&(fA (bu ops i) (ak Pl)&&(oG ops (ak Pl)&&(fA (ak Sl) (ak Pl)&& !ba i (ndK kn.nd))))) with
  |false=>rw[hc] at hp;cases hp
  |true=>
   rw[hc] at hp;simp only[cond_true,Option.some.injEq] at hp;subst hp
   simp only[Bool.and_eq_true,Bool.not_eq_true'] at hc
   have Ej:aQ ops i=o.dst:=by simp only[aQ,ho,Option.bind_some]
   intro hpf
   have qx:∀j,j∈ak Sl→i∉bu ops j:=fun j hj hd=>by
    have h1:=bM.1 hc.2.2.2.1 j hj
    have h2:=bM.1 (List.all_eq_true.1 hc.2.2.1 j h1) i hd
    rw[aJ.2 h2] at hc;exact absurd hc.1 (by simp)
   have hii:i∉bu ops i:=fun hd=>by
    have h2:=bM.1 hc.2.1 i hd
    rw[aJ.2 h2] at hc;exact absurd hc.1 (by simp)
   have bS:∀s0,Ext ⟨X.ro,[]⟩ s0→(∀x∈B,s0.has x.1 x.2)→eG X.C X.fn X.az ops X.n X.D i v (cg ops base i Pl) s0:=by
    intro s0 GM uK s1 hx rest todo Q hk
    rw[Ej] at hk
    exact hv s0 GM uK ops _ ho rest (ny hg rest) _ hx _ _ hk
   have aNm:sB ops X.n base ((i,v)::Pl) i=false:=by
    simp only[sB,ho,hnp,cR hii,hg,Bool.or_false]
   refine H7 i hc.1 hc.2.1 hc.2.2.1 hc.2.2.2.1 (bS _ NJ hB) (hj bV ⟨fun j u Ir hp s0=>?_,fun j u B' Ir hB' s0 GM uK=>?_⟩)
   ·rcases List.mem_cons.1 Ir with h1|h1
    ·obtain⟨ze,rfl⟩:=Prod.mk.inj h1
     subst ze
     rw[aNm] at hp;cases hp
    have OH:j∈ak Sl:=aP.2 ⟨u,h1⟩
    rw[cR (qx j OH)]
    exact hpf.1 j u h1 (by simp only[sB,cR (qx j OH)] at hp;exact hp) s0
   rcases List.mem_cons.1 Ir with h1|h1
   ·obtain⟨ze,rfl⟩:=Prod.mk.inj h1
    subst ze
    rw[cR hii]
    rcases List.mem_cons.1 hB' with h2|h2
    ·cases h2;exact bS s0 GM uK
    have:=MS h2
    rw[aJ.2 this] at hc;exact absurd hc.2.2.2.2 (by simp)
   have OH:j∈ak Sl:=aP.2 ⟨u,h1⟩
   rw[cR (qx j OH)]
   rcases List.mem_cons.1 hB' with h2|h2
   ·obtain⟨ze,rfl⟩:=Prod.mk.inj h2
    subst ze
    have h3:=bM.1 hc.2.2.2.1 _ OH
    rw[aJ.2 h3] at hc;exact absurd hc.1 (by simp)
   exact hpf.2 j u B' h1 h2 s0 GM uK
 |_=>cases hh
theorem jy{s:JS}{v:Value}(hh:p5 X.n s=some (g,o,e))(hp:F5 v s=some s')
 (hv:match g with|true=>ek o.op=true∧(Knows X.ro s.kn.c→Yields X.P X.n e o ⟨X.ro,den s.rw⟩ v)∧(Dg o.op=true→∀s,Yields X.P X.n e o s v)|false=>v=undef)(hj:J X (some s')):J X (some s):=by
 refine jyS hh hp ?_ hj
 cases g with
 |true=>exact⟨fun bV ops i ho rest hw s' hx todo Q hk=>lF X.hC ho rest hw hv.1 (hv.2.1 bV) hx hk,fun hp s ops i ho rest hw s' hx todo Q hk=>lF X.hC ho rest hw hv.1 (hv.2.2 hp s) hx hk⟩
 |false=>exact hv
end
def yx:List Sg→Nat→Option Sg
 | [],_=>none
 |x::_,0=>some x
 |_::l,i+1=>yx l i
def Tf:List Sg→Nat→Sg→List Sg
 | [],_,_=>[]
 |_::l,0,y=>y::l
 |x::l,i+1,y=>x::Tf l i y
def alI:Cells→Nat→Option (Nat×Obj)
 | [],_=>none
 |x::_,0=>some x
 |_::l,i+1=>alI l i
def AY(w:List Sg)(kn:Cells)(h:Nat):Option (Nat×List Value):=
 match yx w h with
 |some (.b b (.cells ⟨l⟩ _ _))=>some (b,l)
 |some _=>none
 |none=>match alI kn (h-64) with
  |some (b,.cells ⟨l⟩ _ _)=>some (b,l)
  |_=>none
def ac1(P:Program)(n:Nat)(e:Env)(w:List Sg)(h:Nat):Op→Option (List Sg×Nat×Nat)
 | .store T x y=>match bp n e x with
  |some (.pointer (some ⟨b,off,none⟩))=>match bp n e y with
   |some v=>match yx w h with
    |some (.b b' (.cells ⟨c⟩ t (0,0)))=>match aZ P T with
     |some ti=>bif Nat.beq (dO v).length ti.size&&(Nat.ble (off+(dO v).length) c.length&&(dO v).all single) then some (Tf w h (.b b' (.cells ⟨dw c off (dO v)⟩ t (0,0))),b,b') else none
     |none=>none
    |_=>none
   |none=>none
  |_=>none
 |_=>none
abbrev aqQ:=Option (JS×List Nat×List (Nat×Nat))
def awN(n:Nat)(e:Env)(k:List KI):Code→Option Pos
 | .skip=>some (PI k)
 | .seq a b=>some (.code a (.seq b::k))
 | .block id c=>some (.code c (.block id::k))
 | .region _ ops d=>bif d then (bif yZ ops then some (.HA ops e [] [] k) else none) else some (.ops ops (List.range ops.size) k)
 | .exit id=>AP id k
 | .ret=>some (.fin .ret)
 | .scope c=>some (.code c k)
 | .label _=>some (PI k)
 | .cond c a b=>match bp n e c with
  |some (.bool true)=>some (.code a k)
  |some (.bool false)=>some (.code b k)
  |_=>none
 |_=>none
def aiD(ops:Array Oper)(Pl:List (Nat×Value)):Bool:=fy ops&&(nodupB (ak Pl)&&(fA (List.range ops.size) (ak Pl)&&fA (ak Pl) (List.range ops.size)))
def opJ(P:Program)(n:Nat)(hs:List Nat)(s:JS):aqQ:=
 match p5 n s with
 |some (g,o,e)=>bif g then (match o.op with
  | .store .. =>match s,hs with
   | ⟨.ops ops (_::todo) k,_,w,kn⟩,h::hs=>match ac1 P n e w h o.op with
    |some (w',b,b')=>some (⟨.ops ops todo k,upd o.dst undef e,w',kn⟩,hs,[(b,b')])
    |none=>none
   |_,_=>none
  | .load T x=>match hs with
   |h::hs=>match bp n e x with
    |some (.pointer (some ⟨b,off,none⟩))=>match AY s.rw s.kn.c h with
     |some (b',l)=>match ldv P T l off with
      |some v=>match F5 v s with
       |some s'=>some (s',hs,[(b',b)])
       |none=>none
      |none=>none
     |none=>none
    |_=>none
   | []=>none
  |_=>bif ek o.op then (match acv P n e o with
   |some v=>match F5 v s with
    |some s'=>some (s',hs,[])
    |none=>none
   |none=>none) else none) else (match F5 undef s with
  |some s'=>some (s',hs,[])
  |none=>none)
 |none=>none
def stepJ(P:Program)(n:Nat)(hs:List Nat)(s:JS):aqQ:=
 match s.pos with
 | .ops _ [] k=>some (⟨PI k,s.env,s.rw,s.kn⟩,hs,[])
 | .code c k=>match awN n s.env k c with
  |some p=>some (⟨p,s.env,s.rw,⟨s.kn.c,[]⟩⟩,hs,[])
  |none=>none
 | .HA ops base Pl _ k=>match anS ops (ak Pl) with
  |none=>bif aiD ops Pl then some (⟨PI k,iR ops base Pl,s.rw,s.kn⟩,hs,[]) else none
  |some _=>opJ P n hs s
 |_=>opJ P n hs s
section
variable {X:Cx}
theorem zx:∀ {w:List Sg} {h b:Nat} {o:Obj},yx w h=some (.b b o)→∃L R,den w=L++(b,o)::R∧∀o',den (Tf w h (.b b o'))=L++(b,o')::R
 | [],_,_,_,h=>by cases h
 |x::w,0,b,o,h=>by
  simp only[yx,Option.some.injEq] at h;subst h
  exact⟨[],den w,by simp[iv],fun o'=>by simp[Tf,iv]⟩
 |x::w,i+1,b,o,h=>by
  obtain⟨L,R,h1,h2⟩:=zx (w:=w) (h:=i) h
  cases x with
  |b i' o1=>exact⟨(i',o1)::L,R,by simp[iv,h1],fun o'=>by simp[Tf,iv,h2]⟩
  |l L1=>exact⟨L1++L,R,by simp[fZ,h1],fun o'=>by simp[Tf,fZ,h2]⟩
theorem Qa:∀ {l:Cells} {i:Nat} {x:Nat×Obj},alI l i=some x→x∈l
 | [],_,_,h=>by cases h
 |y::l,0,x,h=>by simp only[alI,Option.some.injEq] at h;subst h;exact List.mem_cons_self
 |y::l,i+1,x,h=>List.mem_cons_of_mem _ (Qa (l:=l) h)
theorem y3{w:List Sg}{kn:Cells}{h b:Nat}(hk:Knows X.ro kn)(hc:AY w kn h=some (b,l)):∃t fz,(⟨X.ro,den w⟩:St).has b (.cells ⟨l⟩ t fz):=by
 unfold AY at hc
 split at hc
 ·rename_i hn
  cases hc
  obtain⟨L,R,h1,_⟩:=zx hn
  exact⟨_,_,.inr (by show (_,_)∈den w;rw[h1];exact fg)⟩
 ·cases hc
 split at hc<;>try (cases hc;done)
 rename_i hn
 cases hc
 exact⟨_,_,.inl (hk _ (Qa hn))⟩
theorem anU{w:List Sg}{k:List KI}{c:Code}{p:Pos}(h:awN X.n e k c=some p)(hj:JP X ⟨kn.c,[]⟩ e w p):JP X kn e w (.code c k):=by
 unfold awN at h
 split at h
 ·cases h;exact wp_skip X.hC (tA hj)
 ·cases h;exact wp_seq X.hC hj
 ·cases h;exact wp_block X.hC hj
 ·rename_i id ops d
  cases d with
  |true=>
   simp only[cond_true] at h
   cases hd:yZ ops with
   |false=>rw[hd] at h;cases h
   |true=>
    rw[hd] at h;simp only[cond_true,Option.some.injEq] at h;subst h
    exact abp X.hC X.hm hd (hj ⟨fun _ _ h=>(List.not_mem_nil h).elim,fun _ _ _ h=>(List.not_mem_nil h).elim⟩)
  |false=>simp only[cond_false,Option.some.injEq] at h;subst h;exact wp_region X.hC hj
 ·exact wp_exit X.hC (vY h hj)
 ·cases h;exact wp_ret (zy hj k)
 ·cases h;exact OU X.hC hj
 ·cases h;exact wp_label X.hC (tA hj)
 ·split at h<;>try (cases h;done)
  ·rename_i hc;cases h;exact V3 X.hC hc rfl hj
  rename_i hc;cases h;exact V4 X.hC hc rfl hj
 cases h
theorem ad7{s:JS}{q:List (Nat×Nat)}(h:opJ X.P X.n hs s=some (s',mI,q))(hq:∀p∈q,p.1=p.2)(hj:J X (some s')):J X (some s):=by
 unfold opJ at h
 split at h<;>try (cases h;done)
 rename_i g o e hh
 cases g with
 |false=>
  simp only[cond_false] at h
  split at h<;>try (cases h;done)
  rename_i s1 hp
  cases h
  exact jy hh hp rfl hj
 |true=>
  simp only[cond_true] at h
  split at h
  ·rename_i T x y ax
   split at h<;>try (cases h;done)
   rename_i ops i todo k e1 w kn h0 hsx
   split at h<;>try (cases h;done)
   rename_i w' b b' bS
   cases h
   have Hd:b=b':=hq _ List.mem_cons_self
   subst Hd
   simp only[p5] at hh
   split at hh<;>try (cases hh;done)
   rename_i o1 ho
   split at hh<;>try (cases hh;done)
   rename_i g1 hg
   simp only[Option.some.injEq,Prod.mk.injEq] at hh
   obtain⟨rfl,rfl,rfl⟩:=hh
   intro bV
   have hj:=hj bV
   rw[ax] at bS
   simp only[ac1] at bS
   split at bS<;>try (cases bS;done)
   rename_i b0 off hx
   split at bS<;>try (cases bS;done)
   rename_i v hy
   split at bS<;>try (cases bS;done)
   rename_i b1 c t hn
   split at bS<;>try (cases bS;done)
   rename_i ti dJ
   cases hc:(Nat.beq (dO v).length ti.size&&(Nat.ble (off+(dO v).length) c.length&&(dO v).all single)) with
   |false=>rw[hc] at bS;cases bS
   |true=>
    rw[hc] at bS
    simp only[cond_true,Option.some.injEq,Prod.mk.injEq] at bS
    obtain⟨rfl,rfl,rfl⟩:=bS
    simp only[Bool.and_eq_true,Nat.ble_eq] at hc
    obtain⟨bB,tf⟩:=av dJ
    obtain⟨L,R,h1,h2⟩:=zx hn
    rcases o1 with ⟨dst,op,ty,pos,cX,gd⟩
    dsimp only at ax;subst ax
    have hw:=ny hg []
    rw[List.append_nil] at hw
    refine EO (v:=v) (l:=dO v) (L:=L) (R:=R) (c:=c) (e:=t) X.hC ho hw tf hx hy (by rw[lT]) (Nat.eq_of_beq_eq_true hc.1) (List.all_eq_true.1 hc.2.2) h1 hc.2.1 ?_
    have hj:ab X.C X.fn X.az ops todo (KQ X k) _ ⟨X.ro,den _⟩:=hj
    rw[h2] at hj
    exact hj
  ·rename_i T x ax
   split at h<;>try (cases h;done)
   rename_i h0 bX
   split at h<;>try (cases h;done)
   rename_i b off hx
   split at h<;>try (cases h;done)
   rename_i b' l hc
   split at h<;>try (cases h;done)
   rename_i v hv
   split at h<;>try (cases h;done)
   rename_i s1 hp
   cases h
   have Hd:b'=b:=hq _ List.mem_cons_self
   subst Hd
   refine jy hh hp ⟨by rw[ax];rfl,fun bV=>?_,fun hk=>by rw[ax] at hk;cases hk⟩ hj
   obtain⟨t,fz,hb⟩:=y3 bV hc
   exact aeS ax hx hb hv
  cases hn:ek o.op with
  |false=>rw[hn] at h;cases h
  |true=>
   rw[hn] at h;simp only[cond_true] at h
   split at h<;>try (cases h;done)
   rename_i v hv
   split at h<;>try (cases h;done)
   rename_i s1 hp
   cases h
   exact jy hh hp ⟨hn,fun _=>zq hv,fun _ _=>zq hv⟩ hj
theorem ac2{s:JS}{q:List (Nat×Nat)}(h:stepJ X.P X.n hs s=some (s',mI,q))(hq:∀p∈q,p.1=p.2)(hj:J X (some s')):J X (some s):=by
 unfold stepJ at h
 split at h
 ·rename_i ops k hp
  cases h
  rcases s with ⟨p,e,w,kn⟩
  dsimp only at hp;subst hp
  exact fun bV=>tD X.hC (tA (hj bV))
 ·rename_i c k hp
  rcases s with ⟨p,e,w,kn⟩
  dsimp only at hp;subst hp
  split at h<;>try (cases h;done)
  rename_i p hc
  cases h
  exact fun bV=>anU hc (hj bV)
 ·rename_i ops base Pl Sl k hp
  split at h
  ·cases hd:aiD ops Pl with
   |false=>rw[hd] at h;cases h
   |true=>
    rw[hd] at h;simp only[cond_true,Option.some.injEq,Prod.mk.injEq] at h
    obtain⟨rfl,rfl,rfl⟩:=h
    rcases s with ⟨p,e,w,kn⟩
    dsimp only at hp;subst hp
    simp only[aiD,Bool.and_eq_true] at hd
    exact fun bV _=>aje X.hC hd.1 hd.2.1 hd.2.2.1 hd.2.2.2 (tA (hj bV))
  exact ad7 h hq hj
 exact ad7 h hq hj
end
def abw(P:Program)(n:Nat):Nat→List Nat→JS→List (Nat×Nat)→Option (JS×List (Nat×Nat))
 |0,_,s,q=>some (s,q)
 |k+1,hs,s,q=>match stepJ P n hs s with
  |some (s',mI,q')=>abw P n k mI s' (q'++q)
  |none=>none
def adv(P:Program)(n k:Nat)(hs:List Nat):Option JS→Option (JS×List (Nat×Nat))
 |some s=>abw P n k hs s []
 |none=>none
def res:Option (JS×List (Nat×Nat))→Option JS
 |some (s,_)=>some s
 |none=>none
def U9:List (Nat×Nat)→List Nat
 | []=>[]
 | (a,_)::l=>a::U9 l
def Tc:List (Nat×Nat)→List Nat
 | []=>[]
 | (_,b)::l=>b::Tc l
def lhs:Option (JS×List (Nat×Nat))→List Nat
 |some (_,q)=>U9 q
 |none=>[0]
def rhs:Option (JS×List (Nat×Nat))→List Nat
 |some (_,q)=>Tc q
 |none=>[1]
theorem lR:∀ {q:List (Nat×Nat)},U9 q=Tc q→∀p∈q,p.1=p.2
 | (a,b)::l,h,p,hp=>by
  simp only[U9,Tc,List.cons.injEq] at h
  rcases List.mem_cons.1 hp with rfl|hp
  ·exact h.1
  exact lR h.2 p hp
theorem YK:∀ {k:Nat} {hs:List Nat} {s s':JS} {q q':List (Nat×Nat)},abw X.P X.n k hs s q=some (s',q')→(∀p∈q',p.1=p.2)→(J X (some s')→J X (some s))∧∀p∈q,p∈q'
 |0,_,_,_,_,_,h,_=>by simp only[abw,Option.some.injEq,Prod.mk.injEq] at h;obtain⟨rfl,rfl⟩:=h;exact⟨id,fun _ h=>h⟩
 |k+1,hs,s,s',q,q',h,hq=>by
  simp only[abw] at h
  split at h<;>try (cases h;done)
  rename_i s1 bX q1 bS
  obtain⟨h1,h2⟩:=YK h hq
  exact⟨fun hj=>ac2 bS (fun p hp=>hq p (h2 p (List.mem_append_left _ hp))) (h1 hj),fun p hp=>h2 p (List.mem_append_right _ hp)⟩
theorem jd{o:Option JS}(k:Nat)(hs:List Nat)(h:J X (res (adv X.P X.n k hs o)))(he:lhs (adv X.P X.n k hs o)=rhs (adv X.P X.n k hs o):=by kernel_rfl):J X o:=by
 cases o with
 |none=>exact h
 |some s=>
  simp only[adv] at he h
  cases hc:abw X.P X.n k hs s [] with
  |none=>rw[hc] at h;exact h.elim
  |some x=>
   rcases x with ⟨s',q⟩
   rw[hc] at he h
   exact(YK hc (lR he)).1 h
attribute [irreducible] adv res lhs rhs
def dE(n:Nat)(f:Oper→Env→Option β):Option JS→Option β
 |some s=>match p5 n s with
  |some (true,p,e)=>f p e
  |_=>none
 |none=>none
def jQ(v:Value):Option JS→Option JS
 |some s=>F5 v s
 |none=>none
def PK:List Nat→List Sg→Option (List Sg)
 | [],_=>some []
 |i::is,w=>match yx w i with
  |some x=>match PK is w with
   |some r=>some (x::r)
   |none=>none
  |none=>none
def dA(is:List Nat):Nat→List Sg→List Sg
 |_,[]=>[]
 |k,x::w=>bif ba k is then dA is (k+1) w else x::dA is (k+1) w
def Gi:List Nat→Bool
 | []=>true
 |i::is=> !ba i is&&Gi is
def qK(is:List Nat):Option JS→Option (List Sg)
 |some s=>bif Gi is then PK is s.rw else none
 |none=>none
def dL(is:List Nat)(o:Option JS):Option Cells:=match qK is o with
 |some w=>some (den w)
 |none=>none
def lkE:List Nat→Env→Option Env
 | [],_=>some []
 |t::ts,e=>match gE e t with
  |some v=>match lkE ts e with
   |some r=>some ((t,v)::r)
   |none=>none
  |none=>none
def mQ:Env→List Nat
 | []=>[]
 | (t,_)::e=>t::mQ e
def qP(ts:List Nat):Option JS→Option Env
 |some s=>lkE ts s.env
 |none=>none
theorem sI{ts:List Nat}{s:JS}:qP ts (some s)=lkE ts s.env:=rfl
theorem ko:∀ {ts:List Nat} {r:Env},lkE ts e=some r→kD e r
 | [],r,h=>by simp only[lkE,Option.some.injEq] at h;subst h;trivial
 |t::ts,r,h=>by
  simp only[lkE] at h
  split at h<;>try (cases h;done)
  rename_i v hv
  split at h<;>try (cases h;done)
  rename_i r' hr
  cases h
  exact⟨hv,ko hr⟩
theorem lh:∀(a b:List Sg),den (a++b)=den a++den b
 | [],b=>rfl
 | .b i o::a,b=>by simp[iv,lh a b]
 | .l L::a,b=>by simp[fZ,lh a b]
theorem w9:∀(w:List Sg) (k:Nat),dA [] k w=w
 | [],_=>rfl
 |x::w,k=>by simp[dA,ba,w9 w (k+1)]
theorem HB:∀ {w:List Sg} {i k:Nat} {is:List Nat} {x:Sg},yx w i=some x→ba (k+i) is=false→(den (dA is k w)).Perm (den [x]++den (dA ((k+i)::is) k w))
 | [],_,_,_,_,h,_=>by cases h
 |y::w,0,k,is,x,h,hi=>by
  simp only[yx,Option.some.injEq] at h;subst h
  have hz:∀(w:List Sg) (j:Nat),k <j→dA (k::is) j w=dA is j w:=by
   intro w
   induction w with
   |nil=>intro j _;rfl
   |cons z w ih=>
    intro j hj
    have:Nat.beq j k=false:=beq_false (by omega)
    simp only[dA,ba,this,Bool.false_or,ih (j+1) (by omega)]
  simp only[Nat.add_zero] at hi ⊢
  simp only[dA,hi,cond_false,ba,Nat.beq_refl,Bool.true_or,cond_true,hz w (k+1) (by omega)]
  cases y with
  |b i o=>rw[iv];exact .refl _
  |l L=>rw[fZ];exact .refl _
 |y::w,i+1,k,is,x,h,hi=>by
  have e:k+(i+1)=(k+1)+i:=by omega
  rw[e] at hi ⊢
  have hr:=HB (w:=w) (k:=k+1) (is:=is) h hi
  have dK:Nat.beq k ((k+1)+i)=false:=beq_false (by omega)
  simp only[dA,ba,dK,Bool.false_or]
  cases ba k is with
  |true=>simp only[cond_true];exact hr
  |false=>
   simp only[cond_false]
   cases y with
   |b i' o=>rw[iv,iv];exact(hr.cons _).trans List.perm_middle.symm
   |l L=>
    rw[fZ,fZ]
    refine(hr.append_left L).trans ?_
    rw[←List.append_assoc,←List.append_assoc]
    exact List.Perm.append_right _ List.perm_append_comm
theorem wR{w:List Sg}:∀ {is:List Nat} {r:List Sg},PK is w=some r→Gi is=true→(den w).Perm (den r++den (dA is 0 w))
 | [],r,h,_=>by simp only[PK,Option.some.injEq] at h;subst h;rw[w9];exact .refl _
 |i::is,r,h,ho=>by
  simp only[PK] at h
  split at h<;>try (cases h;done)
  rename_i x hx
  split at h<;>try (cases h;done)
  rename_i r' hr
  cases h
  simp only[Gi,Bool.and_eq_true,Bool.not_eq_true'] at ho
  have h1:=wR hr ho.2
  have h2:=HB (k:=0) (is:=is) hx (by rw[Nat.zero_add];exact ho.1)
  rw[Nat.zero_add] at h2
  refine h1.trans ((List.Perm.append_left _ h2).trans ?_)
  have:den (x::r')=den [x]++den r':=by rw[←lh];rfl
  rw[this,←List.append_assoc]
  exact List.Perm.append_right _ List.perm_append_comm
theorem lE{is:List Nat}{s:JS}{w:List Sg}(h:qK is (some s)=some w):(den s.rw).Perm (den w++den (dA is 0 s.rw)):=by
 simp only[qK] at h
 cases ho:Gi is with
 |false=>rw[ho] at h;cases h
 |true=>rw[ho] at h;exact wR h ho
theorem bH{is:List Nat}{s:JS}{L:Cells}(h:dL is (some s)=some L):(den s.rw).Perm (L++den (dA is 0 s.rw)):=by
 simp only[dL] at h
 split at h<;>try (cases h;done)
 rename_i w hw
 cases h
 exact lE hw
theorem RE{is:List Nat}{s:JS}{L:Cells}(h:dL is (some s)=some L):∀x∈L,(⟨X.ro,den s.rw⟩:St).has x.1 x.2:=fun x hx=> .inr ((bH h).mem_iff.2 (List.mem_append_left _ hx))
section
variable {X:Cx} {o:Option JS}
theorem r8{f:Oper→Env→Option β}{r:β}(h:dE n f o=some r):∃s p e,o=some s∧p5 n s=some (true,p,e)∧f p e=some r:=by
 unfold dE at h
 split at h<;>try (cases h;done)
 rename_i s
 split at h<;>try (cases h;done)
 rename_i p e hh
 exact⟨s,p,e,rfl,hh,h⟩
theorem jG{v:Value}{f:Oper→Env→Option β}{r:β}(h:dE X.n f o=some r)(hy:∀s p e,o=some s→p5 X.n s=some (true,p,e)→f p e=some r→ek p.op=true∧(Knows X.ro s.kn.c→Yields X.P X.n e p ⟨X.ro,den s.rw⟩ v)∧(Dg p.op=true→∀s,Yields X.P X.n e p s v))(hj:J X (jQ v o)):J X o:=by
 obtain⟨s,p,e,rfl,hh,hf⟩:=r8 h
 obtain⟨h1,h2,h3⟩:=hy s p e rfl hh hf
 simp only[jQ] at hj
 cases hp:F5 v s with
 |none=>rw[hp] at hj;exact hj.elim
 |some s'=>rw[hp] at hj;exact jy hh hp ⟨h1,h2,h3⟩ hj
theorem jGS{v:Value}{f:Oper→Env→Option β}{r:β}(h:dE X.n f o=some r)(hy:∀s p e,o=some s→f p e=some r→Ia X e p ⟨X.ro,den s.rw⟩ v∧(Dg p.op=true→∀s,Ia X e p s v))(hj:J X (jQ v o)):J X o:=by
 obtain⟨s,p,e,rfl,hh,hf⟩:=r8 h
 simp only[jQ] at hj
 cases hp:F5 v s with
 |none=>rw[hp] at hj;exact hj.elim
 |some s'=>rw[hp] at hj;exact jyS hh hp ⟨fun _=>(hy s p e rfl hf).1,(hy s p e rfl hf).2⟩ hj
def MD(B:Cells)(v:Value):Option JS→Option JS
 |some s=>alp B v s
 |none=>none
theorem jGN{v:Value}{f:Oper→Env→Option β}{r:β}(h:dE X.n f o=some r)(hB:dL ps o=some B)(hy:∀s p e,o=some s→p5 X.n s=some (true,p,e)→f p e=some r→Dg p.op=false∧∀s0,Ext ⟨X.ro,[]⟩ s0→(∀x∈B,s0.has x.1 x.2)→Ia X e p s0 v)(hj:J X (MD B v o)):J X o:=by
 obtain⟨s,p,e,rfl,hh,hf⟩:=r8 h
 obtain⟨h1,h2⟩:=hy s p e rfl hh hf
 simp only[MD] at hj
 cases hp:alp B v s with
 |none=>rw[hp] at hj;exact hj.elim
 |some s'=>rw[hp] at hj;exact jyN hh hp (RE hB) h1 h2 hj
theorem Sr{v:Value}{f:Oper→Env→Option β}{r:β}(h:dE X.n f o=some r)(hy:∀s p e,o=some s→f p e=some r→∀s0,Ia X e p s0 v)(hj:J X (jQ v o)):J X o:=
 jGS h (fun s p e ho hf=>⟨hy s p e ho hf _,fun _=>hy s p e ho hf⟩) hj
def arj(P:Program)(n:Nat)(p:Oper)(e:Env):Option Value:=bif ek p.op then acv P n e p else none
theorem je(v:Value){w:Value}(hw:w=v)(hj:J X (jQ v o))(hv:dE X.n (arj X.P X.n) o=some w:=by kernel_rfl):J X o:=by
 subst hw
 refine jG hv (fun s p e _ _ hf=>?_) hj
 unfold arj at hf
 cases hn:ek p.op with
 |false=>rw[hn] at hf;cases hf
 |true=>rw[hn] at hf;exact⟨rfl,fun _=>zq hf,fun _ _=>zq hf⟩
theorem ja(r:Int)(h: -9223372036854775808≤r∧r≤9223372036854775807)(hj:J X (jQ (.int .i64 r) o))(hv:dE X.n (arj X.P X.n) o=some (.int .i64 (IntKind.i64.wrap r)):=by kernel_rfl):J X o:=je _ (by rw[j6 r h]) hj hv
def ldA(P:Program)(n k:Nat)(vs:List Value)(p:Oper)(e:Env):Option (Option Addr):=match p.op with
 | .load T x=>match ldv P T vs k with
  |some _=>match bp n e x with
   |some (.pointer a)=>some a
   |_=>none
  |none=>none
 |_=>none
def ldW(P:Program)(n k:Nat)(vs:List Value)(o:Option JS):Value:=(dE n (fun p _=>match p.op with
 | .load T _=>ldv P T vs k
 |_=>none) o).getD undef
theorem oH{b m:Nat}(k:Nat)(ps:List Nat)(B:Cells)(hr:∀s:St,Ext ⟨X.ro,[]⟩ s→(∀x∈B,s.has x.1 x.2)→cv s b off m vs)(hj:J X (MD B (ldW X.P X.n k vs o) o))(hv:dE X.n (ldA X.P X.n k vs) o=some (some ⟨b,off+k,none⟩):=by kernel_rfl)(hB:dL ps o=some B:=by kernel_rfl):J X o:=by
 refine jGN hv hB (fun s p e ho hh hf=>?_) hj
 subst ho
 unfold ldA at hf
 split at hf<;>try (cases hf;done)
 rename_i T x ax
 split at hf<;>try (cases hf;done)
 rename_i v hv2
 split at hf<;>try (cases hf;done)
 rename_i a hx
 simp only[Option.some.injEq] at hf;subst hf
 have hw:ldW X.P X.n k vs (some s)=v:=by simp only[ldW,dE,hh,ax,hv2,Option.getD_some]
 rw[hw]
 exact⟨by rw[ax];rfl,fun s0 GM uK ops i ho rest hwt s' hs todo Q hk=>lF X.hC ho rest hwt (by rw[ax];rfl) (atd k ax hx (hr s0 GM uK) hv2) hs hk⟩
theorem jl{b m:Nat}(k:Nat)(hr:cv ⟨X.ro,[]⟩ b off m vs)(hj:J X (MD [] (ldW X.P X.n k vs o) o))(hv:dE X.n (ldA X.P X.n k vs) o=some (some ⟨b,off+k,none⟩):=by kernel_rfl):J X o:=by
 have hB:dL [] o=some []:=by
  obtain⟨s,_,_,rfl,_⟩:=r8 hv
  rfl
 exact oH k [] [] (fun s hs _=>hr.ext hs) hj hv hB
def ixA(P:Program)(n:Nat)(p:Oper)(e:Env):Option (Value×Int×Nat):=match p.op with
 | .indexAddr T x y=>match aZ P T with
  |some ⟨.slice E,_,_,_⟩=>match aZ P E with
   |some te=>match bp n e x with
    |some v=>match bp n e y with
     |some (.int _ ix)=>some (v,ix,te.size)
     |_=>none
    |none=>none
   |none=>none
  |_=>none
 |_=>none
theorem jix{a:Option Addr}{b len:Nat}(ix:Int)(cap sz:Nat)(ha:a=some ⟨b,off,none⟩)(hi:0≤ix∧ix <len)(hj:J X (jQ (.pointer (some ⟨b,off+ix.toNat*sz,none⟩)) o))(hv:dE X.n (ixA X.P X.n) o=some (.slice a len cap,ix,sz):=by kernel_rfl):J X o:=by
 refine jG hv (fun s p e ho hh hf=>?_) hj
 unfold ixA at hf
 split at hf<;>try (cases hf;done)
 rename_i T x y ax
 split at hf<;>try (cases hf;done)
 rename_i E _ _ _ dJ
 split at hf<;>try (cases hf;done)
 rename_i te tO
 split at hf<;>try (cases hf;done)
 rename_i v hx
 split at hf<;>try (cases hf;done)
 rename_i ik ix' hy
 simp only[Option.some.injEq,Prod.mk.injEq] at hf
 obtain⟨rfl,rfl,rfl⟩:=hf
 subst ha
 obtain⟨bB,tf⟩:=av dJ
 obtain⟨A0,qz⟩:=av tO
 have key:∀s,Yields X.P X.n e p s (.pointer (some ⟨b,off+ix'.toNat*te.size,none⟩)):=by
  intro s s' mI f hf K E hK
  simp only[execOp,ax,Instr.indexAt,hf _ _ hx,hf _ _ hy,asIntOf,aa,ae,a8 tf,hi,and_self,if_true,cd qz,dH]
  exact hK
 exact⟨by rw[ax];rfl,fun _=>key _,fun _=>key⟩
theorem iB{ps:List α}{b:Nat}{x:α}{a:Option Addr}(cap sz:Nat)(ha:∀k,k <ps.length→a=some ⟨b,off,none⟩)(hx:ps[k]?=some x) (hj:J X (jQ (.pointer (some ⟨b,off+k*sz,none⟩)) o)) (hv:dE X.n (ixA X.P X.n) o=some (.slice a ps.length cap,(k:Int),sz):=by kernel_rfl):J X o:=
 have hk:k <ps.length:=(List.getElem?_eq_some_iff.1 hx).1
 jix (k:Int) cap sz (ha k hk) (by omega) hj hv
theorem Oz{ps:List α}{b:Nat}{x:α}{a:Option Addr}(ix:Int)(cap sz:Nat)(ha:∀k,k <ps.length→a=some ⟨b,off,none⟩)(hx:ps[k]?=some x) (he:ix=(k:Int)) (hj:J X (jQ (.pointer (some ⟨b,off+k*sz,none⟩)) o)) (hv:dE X.n (ixA X.P X.n) o=some (.slice a ps.length cap,ix,sz):=by kernel_rfl):J X o:=by
 subst he;exact iB cap sz ha hx hj hv
theorem jxo{v:Value}{enc:α→List Value}{ps:List α}{L:Cells}{x:α}(sz:Nat)(ku:ay v szo T2 enc ps L)(hx:ps[k]?=some x) (hj:∀b,Oh v b→J X (jQ (.pointer (some ⟨b,k*sz,none⟩)) o)) (hv:dE X.n (ixA X.P X.n) o=some (v,(k:Int),sz):=by kernel_rfl):J X o:=by
 have hk:k <ps.length:=(List.getElem?_eq_some_iff.1 hx).1
 obtain⟨b,hb⟩:=aA0 ku hk
 have fK:=hb
 obtain⟨n0,c,rfl⟩:=fK
 have hn:n0=ps.length:=by
  obtain⟨a,c',he⟩:=ku.form
  cases he;rfl
 subst hn
 have hj:=hj b hb
 exact jix (off:=0) (k:Int) c sz rfl (by omega) (by rw[Nat.zero_add];exact hj) hv
theorem pP{v:Value}{enc:α→List Value}{ps:List α}{L:Cells}{x:α}(ix:Int)(sz:Nat)(ku:ay v szo T2 enc ps L)(hx:ps[k]?=some x) (he:ix=(k:Int)) (hj:∀b,Oh v b→J X (jQ (.pointer (some ⟨b,k*sz,none⟩)) o)) (hv:dE X.n (ixA X.P X.n) o=some (v,ix,sz):=by kernel_rfl):J X o:=by
 subst he;exact jxo sz ku hx hj hv
end
attribute [irreducible] dE jQ MD dL qK qP ldW
section
variable {X:Cx} {o:Option JS}
theorem Oo{D:List Deferred}{t:Nat}{v:Value}(h:gE e t=some v):A n ((t,v)::e) D=A n e D:=by
 simp only[A]
 congr 1
 congr 1
 funext i
 simp only[get]
 cases hb:Nat.beq t i with
 |false=>rfl
 |true=>
  have:=Nat.eq_of_beq_eq_true hb
  subst this
  exact(mz h).symm
def Ps(j:Nat)(v:Value):List (Nat×Value)→List (Nat×Value)
 | []=>[]
 | (i,w)::r=>bif Nat.beq i j then (i,v)::r else (i,w)::Ps j v r
theorem FK{j:Nat}{v:Value}:∀ {l:List (Nat×Value)},PJ l j=some v→Ps j v l=l
 | (i,w)::r,h=>by
  simp only[PJ] at h
  simp only[Ps]
  cases hb:Nat.beq i j with
  |true=>rw[hb] at h;simp only[cond_true,Option.some.injEq] at h;subst h;rfl
  |false=>rw[hb] at h;simp only[cond_false] at h ⊢;rw[FK h]
def ao1(t:Nat):JS→Option Value
 | ⟨.HA _ _ Pl _ _,_,_,_⟩=>PJ Pl t
 |s=>gE s.env t
def JD(t:Nat):Option JS→Option Value
 |some s=>ao1 t s
 |none=>none
def Zn(t:Nat)(v:Value):JS→JS
 | ⟨.HA ops base Pl Sl k,e,w,kn⟩=>⟨.HA ops base (Ps t v Pl) Sl k,e,w,kn⟩
 | ⟨p,e,w,kn⟩=>⟨p,(t,v)::e,w,kn⟩
def Pt(t:Nat)(v:Value):Option JS→Option JS
 |some s=>some (Zn t v s)
 |none=>none
theorem jw(t:Nat)(v:Value){w:Value}(hw:w=v)(hj:J X (Pt t v o))(hv:JD t o=some w:=by kernel_rfl):J X o:=by
 subst hw
 cases o with
 |none=>exact hj
 |some s=>
  rcases s with ⟨p,e,IL,kn⟩
  intro bV
  have hj:=hj
  cases p with
  |HA ops base Pl Sl k=>
   simp only[JD,ao1] at hv
   have:Ps t w Pl=Pl:=FK hv
   simp only[Pt,Zn,this] at hj
   exact hj bV
  |ops a b c=>have:=hj bV;simp only[Zn,JP] at this;rw[Oo hv] at this;exact this
  |code a b=>have:=hj bV;simp only[Zn,JP] at this;rw[Oo hv] at this;exact this
  |nxt a=>have:=hj bV;simp only[Zn,JP] at this;rw[Oo hv] at this;exact this
  |fin a=>have:=hj bV;simp only[Zn,JP] at this;rw[Oo hv] at this;exact this
theorem ji(t:Nat){c b:Bool}(h:c=b)(hj:J X (Pt t (.bool b) o))(hv:JD t o=some (.bool c):=by kernel_rfl):J X o:=jw t _ (by rw[h]) hj hv
theorem js(t:Nat)(c:Bool)(h1:c=true→J X (Pt t (.bool true) o))(h2:c=false→J X (Pt t (.bool false) o))(hv:JD t o=some (.bool c):=by kernel_rfl):J X o:=by
 cases hc:c with
 |true=>exact ji t hc (h1 hc) hv
 |false=>exact ji t hc (h2 hc) hv
def aBn(P:Program)(n:Nat)(p:Oper)(e:Env):Option (Obj×Option Nat):=match p.op with
 | .alloc T=>match aZ P T with
  |some ti=>some (.cells ⟨ti.zero⟩ T (0,0),none)
  |none=>none
 | .box T x=>match bp n e x with
  |some v=>some (.cells ⟨dO v⟩ T (0,0),none)
  |none=>none
 | .buildSlice T m ps=>match aZ P T with
  |some ⟨.slice E,_,_,_⟩=>match aZ P E with
   |some te=>match OI n e ps.toList with
    |some pv=>match oh (fun i=>some (i*te.size,te.size)) (cT te.zero m) (tB pv) with
     |some l=>bif Nat.beq te.zero.length te.size&&Nat.ble (m*te.size) 16777216 then some (.cells ⟨l⟩ E (0,0),some m) else none
     |none=>none
    |none=>none
   |none=>none
  |_=>none
 | .range T x=>match aZ P T with
  |some ⟨.string,_,_,_⟩=>match bp n e x with
   |some (.string b)=>some (.stringIter b 0,none)
   |_=>none
  |_=>none
 |_=>none
def aep(b:Nat):Option Nat→Value
 |some m=> .slice (some ⟨b,0,none⟩) m m
 |none=> .pointer (some ⟨b,0,none⟩)
def asT(P:Program)(n b:Nat):Option JS→Option JS
 |some ⟨.ops ops (i::todo) k,e,w,kn⟩=>match p5 n ⟨.ops ops (i::todo) k,e,w,kn⟩ with
  |some (true,p,_)=>match aBn P n p e with
   |some (ob,m)=>some ⟨.ops ops todo k,upd p.dst (aep b m) e,.b b ob::w,kn⟩
   |none=>none
  |_=>none
 |_=>none
theorem Q1{ops:Array Oper}{k:List KI}{e':Env}{w:List Sg}(h:p5 n ⟨.ops ops (i::todo) k,e,w,kn⟩=some (g,p,e')):ops[i]?=some p∧e'=e∧(g=true→aw ops n e p.guard=true):=by
 simp only[p5] at h
 split at h<;>try (cases h;done)
 rename_i p1 ho
 split at h<;>try (cases h;done)
 rename_i g1 hg
 cases h
 refine⟨ho,rfl,fun hg'=>?_⟩
 subst hg'
 have:=ny hg []
 rwa[List.append_nil] at this
theorem jn(hj:∀b,J X (asT X.P X.n b o)):J X o:=by
 unfold asT at hj
 split at hj
 ·rename_i ops i todo k e w kn
  split at hj
  ·rename_i p e' hh
   obtain⟨ho,rfl,hw⟩:=Q1 hh
   have hw:=hw rfl
   intro bV
   rcases p with ⟨dst,op,ty,pos,cX,g⟩
   split at hj
   ·rename_i ob m hn
    have key:∀b,ab X.C X.fn X.az ops todo (KQ X k) (A X.n (upd dst (aep b m) e') X.D) ⟨X.ro,(b,ob)::den w⟩:=fun b=>by
     have:=hj b bV
     simp only[JP,iv] at this
     exact this
    unfold aBn at hn
    split at hn
    ·rename_i T ax
     dsimp only at ax;subst ax
     split at hn<;>try (cases hn;done)
     rename_i ti dJ
     cases hn
     obtain⟨bB,tf⟩:=av dJ
     exact alH X.hC ho hw tf fun b _=>key b
    ·rename_i T x ax
     dsimp only at ax;subst ax
     split at hn<;>try (cases hn;done)
     rename_i v hx
     cases hn
     exact aBf X.hC ho hw hx (by rw[lT]) fun b _=>key b
    ·rename_i T m0 ps ax
     dsimp only at ax;subst ax
     split at hn<;>try (cases hn;done)
     rename_i E _ _ _ dJ
     split at hn<;>try (cases hn;done)
     rename_i te tO
     split at hn<;>try (cases hn;done)
     rename_i pv I1
     split at hn<;>try (cases hn;done)
     rename_i l hl
     cases hc:(Nat.beq te.zero.length te.size&&Nat.ble (m0*te.size) 16777216) with
     |false=>rw[hc] at hn;cases hn
     |true=>
      rw[hc] at hn;simp only[cond_true,Option.some.injEq,Prod.mk.injEq] at hn
      obtain⟨rfl,rfl⟩:=hn
      simp only[Bool.and_eq_true] at hc
      obtain⟨bB,tf⟩:=av dJ
      obtain⟨A0,qz⟩:=av tO
      exact MN X.hC ho hw tf qz hc.1 I1 hc.2 hl fun b _=>key b
    ·rename_i T x ax
     dsimp only at ax;subst ax
     split at hn<;>try (cases hn;done)
     rename_i dJ
     split at hn<;>try (cases hn;done)
     rename_i bs hx
     cases hn
     obtain⟨bB,tf⟩:=av dJ
     exact TS X.hC ho hw tf hx fun b _=>key b
    cases hn
   exact(hj 0).elim
  exact(hj 0).elim
 exact(hj 0).elim
def ai3(n:Nat)(p:Oper)(e:Env):Option (FuncId×List Value):=match p.op with
 | .call ⟨.value x,xs,_⟩=>match bp n e x with
  |some (.func (.func f) ⟨fi⟩ ⟨ca⟩)=>match xF n e xs.toList with
   |some vs=>some (f,fi++vs++ca)
   |none=>none
  |_=>none
 |_=>none
def xY(P:Program)(n:Nat)(p:Oper)(e:Env):Option (FuncId×List Value):=match ai3 n p e with
 |some (f,vs)=>bif Bj P f then some (f,vs) else none
 |none=>none
theorem qn(h:xY P n p e=some (f,vs)):FF P f∧∃x xs at_ fi ca ws,p.op= .call ⟨.value x,xs,at_⟩∧bp n e x=some (.func (.func f) ⟨fi⟩ ⟨ca⟩)∧uW n e xs=some ws∧vs=fi++ws++ca:=by
 unfold xY at h
 split at h<;>try (cases h;done)
 rename_i f' nU hc
 cases hb:Bj P f' with
 |false=>rw[hb] at h;cases h
 |true=>
  rw[hb] at h;simp only[cond_true,Option.some.injEq,Prod.mk.injEq] at h
  obtain⟨rfl,rfl⟩:=h
  refine⟨kM hb,?_⟩
  unfold ai3 at hc
  split at hc<;>try (cases hc;done)
  rename_i x xs at_ ax
  split at hc<;>try (cases hc;done)
  rename_i f fi ca hx
  split at hc<;>try (cases hc;done)
  rename_i ws rE
  cases hc
  exact⟨x,xs,at_,fi,ca,ws,ax,hx,rE,rfl⟩
theorem R6(a b c:List Value):(⟨a⟩:Array Value)++⟨b⟩++⟨c⟩=⟨a++b++c⟩:=by simp
def mL(ps:List Nat)(v:Value)(Y:Cells):Option JS→Option JS
 |some ⟨.ops ops (i::todo) k,e,w,kn⟩=>match ops[i]? with
  |some p=>some ⟨.ops ops todo k,upd p.dst v e,.l Y::dA ps 0 w,kn⟩
  |none=>none
 |_=>none
def eR(n:Nat)(f:Oper→Env→Option β):Option JS→Option β
 |some ⟨.ops a b c,e,w,kn⟩=>dE n f (some ⟨.ops a b c,e,w,kn⟩)
 |_=>none
theorem du{f:Oper→Env→Option β}{r:β}(h:eR n f o=some r):∃ops i todo k e w kn p,o=some ⟨.ops ops (i::todo) k,e,w,kn⟩∧ops[i]?=some p∧aw ops n e p.guard=true∧f p e=some r:=by
 unfold eR at h
 split at h<;>try (cases h;done)
 rename_i ops todo k e w kn
 obtain⟨s,p,e',hs,hh,hf⟩:=r8 h
 cases hs
 cases todo with
 |nil=>cases hh
 |cons i todo=>
  obtain⟨ho,rfl,hw⟩:=Q1 hh
  exact⟨ops,i,todo,k,e',w,kn,p,rfl,ho,hw rfl,hf⟩
def apu(ps lp:List Nat):Option JS→Option Cells
 |some s=>dL lp (some {s with rw:=dA ps 0 s.rw})
 |none=>none
theorem nP{ops:Array Oper}{k:List KI}{w:List Sg}{v:Value}(ho:ops[i]?=some p):mL ps v Y (some ⟨.ops ops (i::todo) k,e,w,kn⟩)=some ⟨.ops ops todo k,upd p.dst v e,.l Y::dA ps 0 w,kn⟩:=by
 simp only[mL,ho]
theorem OA{own:Cells}(ps lp:List Nat)(B:Cells)(hf:∀aH,Sub X.ro aH→Knows aH B→dR X.P f vs aH own Φ)(hj:∀v Y,Φ v Y→J X (mL ps v Y o))(h1:eR X.n (xY X.P X.n) o=some (f,vs):=by kernel_rfl)(h2:dL ps o=some own:=by kernel_rfl)(h3:apu ps lp o=some B:=by kernel_rfl):J X o:=by
 obtain⟨ops,i,todo,k,e,w,kn,p,rfl,ho,hw,hc⟩:=du h1
 obtain⟨ff,x,xs,at_,fi,ca,ws,ax,hx,rE,rfl⟩:=qn hc
 intro bV
 rcases p with ⟨dst,op,ty,pos,cX,g⟩
 dsimp only at ax;subst ax
 have hp:=bH h2
 refine aeh (own:=own) (B:=B) (Φ:=Φ) X.hC ho hw hx ff rE (R6 fi ws ca) hp (fun y hy=>(bH h3).mem_iff.2 (List.mem_append_left _ hy)) (fun aH hs hB=>hf aH hs hB) (fun v Y pQ=>?_)
 have:=hj v Y pQ
 simp only[mL,ho] at this
 have:=this bV
 simp only[JP,fZ] at this
 exact this
theorem jc{own:Cells}(ps:List Nat)(hf:dR X.P f vs X.ro own Φ)(hj:∀v Y,Φ v Y→J X (mL ps v Y o))(h1:eR X.n (xY X.P X.n) o=some (f,vs):=by kernel_rfl)(h2:dL ps o=some own:=by kernel_rfl):J X o:=by
 obtain⟨ops,i,todo,k,e,w,kn,p,rfl,ho,hw,hc⟩:=du h1
 obtain⟨ff,x,xs,at_,fi,ca,ws,ax,hx,rE,rfl⟩:=qn hc
 intro bV
 rcases p with ⟨dst,op,ty,pos,cX,g⟩
 dsimp only at ax;subst ax
 have hp:=bH h2
 refine tI (fi:=⟨fi⟩) (ca:=⟨ca⟩) (ws:=fi++ws++ca) X.hC ho hw hx ff rE (R6 fi ws ca) (Fn.weaken X.hC (dR.azc (s:=⟨X.ro,den w⟩) hp hf)) (fun v' s' hr=>?_) (fun ch s' hr=>by obtain⟨_,_,e,_⟩:=hr;cases e) (fun s' hr=>by obtain⟨_,_,e,_⟩:=hr;cases e)
 obtain⟨v,Y,hv,pQ,hle⟩:=hr
 cases hv
 have:=hj _ Y pQ
 simp only[mL,ho] at this
 have:=this bV
 simp only[JP,fZ] at this
 exact this.more X.hC hle
theorem jp{V:Value}(lp:List Nat)(B:Cells)(hf:∀aH,Sub X.ro aH→Knows aH B→dD X.P f vs aH V)(hj:J X (MD B V o))(h1:dE X.n (xY X.P X.n) o=some (f,vs):=by kernel_rfl)(h3:dL lp o=some B:=by kernel_rfl):J X o:=by
 refine jGN h1 h3 (fun s p e ho hh hc=>?_) hj
 obtain⟨ff,x,xs,at_,fi,ca,ws,ax,hx,rE,rfl⟩:=qn hc
 rcases p with ⟨dst,op,ty,pos,cX,g⟩
 dsimp only at ax;subst ax
 refine⟨rfl,fun s0 GM uK ops i sM rest hw s' hs todo Q hk=>?_⟩
 have hez:Ext ⟨X.ro,B⟩ s':=fun b ob hb=>hs _ _ (hb.elim (fun h=>GM _ _ (.inl h)) fun h=>uK (b,ob) h)
 exact P8 X.hC sM hw (bh hx) ff (wY rE) (R6 fi ws ca) hez (fun aH h1=>hf aH (FG h1) fun y hy=>h1 _ _ (.inr hy)) hk
end
attribute [irreducible] eR Pt JD asT mL apu
def qh(P:Program)(f:FuncId):Func:=match P.funcs[f]? with
 |some fn=>fn
 |none=>default
abbrev RX(ro:Nat→Option Obj)(Φ:Value→Cells→Prop):Ending→St→Prop:=fun en s'=>∃v X,en= .returned v∧s'=⟨ro,X⟩∧Φ v X
def X0(P:Program)(hm:P.follows .mixedOrders=true)(f:FuncId)(ro:Nat→Option Obj)(R:Ending→St→Prop):Cx:=⟨P,CP P,eJ,hm,f,none,(qh P f).ntmps,[],ro,qX P (qh P f) R⟩
def jo(P:Program)(f:FuncId)(args:List Value)(own:List Sg)(kn:Cells):Option JS:=match P.funcs[f]? with
 |some fn=>match fn.body with
  |some c=>bif Nat.ble args.length fn.ntmps then some ⟨.code c [],fG 0 args,own,⟨kn,[]⟩⟩ else none
  |none=>none
 |none=>none
theorem aBS{hm:P.follows .mixedOrders=true}(own:List Sg)(kn:Cells)(hk:Knows ro kn)(h:J (X0 P hm f ro R) (jo P f args own kn)):Fn (CP P) P f ⟨args⟩ ⟨ro,den own⟩ R:=by
 unfold jo at h
 split at h<;>try exact h.elim
 rename_i fn hf
 split at h<;>try exact h.elim
 rename_i c hc
 cases hl:Nat.ble args.length fn.ntmps with
 |false=>rw[hl] at h;exact h.elim
 |true=>
  rw[hl] at h
  have ur:qh P f=fn:=by simp only[qh,hf]
  have:=h hk
  simp only[JP,X0,KQ,ur] at this
  exact Rn eJ hf hc rfl hl this
theorem bD(hm:P.follows .mixedOrders=true){L:Cells}(own:List Sg)(kn:Cells)(hk:Knows ro kn)(h:J (X0 P hm f ro (RX ro Φ)) (jo P f args own kn))(hL:den own=L:=by rfl):dR P f args ro L Φ:=by
 subst hL;exact aBS own kn hk h
def BA(P:Program)(n:Nat)(e:Env)(w:List Sg)(kn:Cells):List Nat→List ResultVar→Option (List Value×List (Nat×Nat))
 |_,[]=>some ([],[])
 |hs,.tmp t::rs=>match bp n e (.tmp t) with
  |some v=>match BA P n e w kn hs rs with
   |some (vs,q)=>some (v::vs,q)
   |none=>none
  |none=>none
 |h::hs,.cell t T::rs=>match bp n e (.tmp t) with
  |some (.pointer (some ⟨b,off,none⟩))=>match AY w kn h with
   |some (b',l)=>match ldv P T l off with
    |some v=>match BA P n e w kn hs rs with
     |some (vs,q)=>some (v::vs,(b',b)::q)
     |none=>none
    |none=>none
   |none=>none
  |_=>none
 | [],.cell _ _::_=>none
def gZ(P:Program)(n:Nat)(f:FuncId)(hs:List Nat):Option JS→Option (Value×List (Nat×Nat))
 |some ⟨.fin _,e,w,kn⟩=>match BA P n e w kn.c hs (qh P f).results.toList with
  |some (vs,q)=>some (uj vs,q)
  |none=>none
 |_=>none
def qF:Option (Value×List (Nat×Nat))→Option Value
 |some (v,_)=>some v
 |none=>none
def OL:Option (Value×List (Nat×Nat))→List Nat
 |some (_,q)=>U9 q
 |none=>[0]
def OJ:Option (Value×List (Nat×Nat))→List Nat
 |some (_,q)=>Tc q
 |none=>[1]
theorem tv{w:List Sg}{kn:Cells}(bV:Knows X.ro kn):∀ {hs:List Nat} {rs:List ResultVar} {vs:List Value} {q:List (Nat×Nat)},BA X.P X.n e w kn hs rs=some (vs,q)→(∀p∈q,p.1=p.2)→EA X.P ⟨X.ro,den w⟩ X.n e rs vs
 |_,[],vs,q,h,_=>by simp only[BA,Option.some.injEq,Prod.mk.injEq] at h;obtain⟨rfl,rfl⟩:=h;exact .nil
 |hs,.tmp t::rs,vs,q,h,hq=>by
  simp only[BA] at h
  split at h<;>try (cases h;done)
  rename_i v hv
  split at h<;>try (cases h;done)
  rename_i nU q' hr
  simp only[Option.some.injEq,Prod.mk.injEq] at h;obtain⟨rfl,rfl⟩:=h
  exact .tmp hv (tv bV hr hq)
 | [],.cell _ _::_,vs,q,h,_=>by simp only[BA] at h;cases h
 |h0::hs,.cell t T::rs,vs,q,h,hq=>by
  simp only[BA] at h
  split at h<;>try (cases h;done)
  rename_i b off hv
  split at h<;>try (cases h;done)
  rename_i b' l hc
  split at h<;>try (cases h;done)
  rename_i v hld
  split at h<;>try (cases h;done)
  rename_i nU q' hr
  simp only[Option.some.injEq,Prod.mk.injEq] at h;obtain⟨rfl,rfl⟩:=h
  have hb:b'=b:=hq _ List.mem_cons_self
  subst hb
  obtain⟨t',fz,hh⟩:=y3 (X:=X) bV hc
  have ih:=tv bV hr fun p hp=>hq p (List.mem_cons_of_mem _ hp)
  unfold ldv at hld
  split at hld<;>try (cases hld;done)
  rename_i ti dJ
  obtain⟨bB,tf⟩:=av dJ
  cases ha:ti.agg with
  |true=>
   rw[ha] at hld tf;simp only[cond_true] at hld
   split at hld<;>try (cases hld;done)
   rename_i vs2 Ef
   cases hld
   exact .agg tf hv ⟨_,_,_,hh,Ef⟩ ih
  |false=>
   rw[ha] at hld tf;simp only[cond_false] at hld
   exact .cell tf hv ⟨_,_,_,hh,hld⟩ ih
def yU:Option JS→Bool
 |some ⟨.fin .ret,_,_,_⟩=>true
 |some ⟨.fin .normal,_,_,_⟩=>true
 |_=>false
theorem sR{o:Option JS}(h:yU o=true):∃ex e w kn,o=some ⟨.fin ex,e,w,kn⟩∧(ex= .ret∨ex= .normal):=by
 unfold yU at h
 split at h
 ·exact⟨_,_,_,_,rfl,.inl rfl⟩
 ·exact⟨_,_,_,_,rfl,.inr rfl⟩
 cases h
def aeO:Option JS→Bool
 |some ⟨.ops ..,_,_,_⟩=>true
 |some ⟨.code ..,_,_,_⟩=>true
 |_=>false
structure QR(X:Cx)(R:Ending→St→Prop):Prop where
 q:X.Q=qX X.P (qh X.P X.fn) R
 d:X.D=[]
theorem q0{hm:P.follows .mixedOrders=true}:QR (X0 P hm f ro R) R:=⟨rfl,rfl⟩
theorem QR.a(h:QR X R):QR (X.at ro) R:=⟨h.q,h.d⟩
theorem bn:Knows ro []:=fun _ h=>by cases h
section
variable {X:Cx} {o:Option JS}
theorem aM{oU:Nat→Option Obj}(hq:QR X R)(v:Value)(hs ps:List Nat)(Y:Cells)(fw:Sub oU X.ro)(hR:R (.returned v) ⟨oU,Y⟩)(h1:qF (gZ X.P X.n X.fn hs o)=some v:=by kernel_rfl)(h2:OL (gZ X.P X.n X.fn hs o)=OJ (gZ X.P X.n X.fn hs o):=by kernel_rfl)(h3:dL ps o=some Y:=by kernel_rfl)(h4:yU o=true:=by kernel_rfl):J X o:=by
 obtain⟨ex,e,w,kn,rfl,hex⟩:=sR h4
 simp only[gZ] at h1 h2
 cases hr:BA X.P X.n e w kn.c hs (qh X.P X.fn).results.toList with
 |none=>rw[hr] at h1;cases h1
 |some x=>
  rcases x with ⟨vs,q⟩
  simp only[hr,qF,Option.some.injEq,OL,OJ] at h1 h2
  intro bV
  have rG:=tv bV hr (lR h2)
  have hp:=bH h3
  show X.Q ex (A X.n e X.D) ⟨X.ro,den w⟩
  rw[hq.q,hq.d]
  exact Px (s0:=⟨oU,Y⟩) hex rG h1 (dI hp fw) hR
def wG(X:Cx)(K:Act→St→Prop)(ef:ι→Env)(wf:ι→List Sg)(Inv:ι→Prop)(μ:ι→Nat)(m:Nat):Prop:=
 ∀j,Inv j→μ j <m→∀(e:Env) (s:St),kD e (ef j)→(⟨X.ro,den (wf j)⟩:St).le s→K (A X.n e X.D) s
def xG:List Nat→List (Act→St→Prop)→Code→List KI→Option (Code×List KI)
 | [],_,c,k=>some (c,k)
 |0::p,Ks,.seq a b,k=>xG p Ks a (.seq b::k)
 |1::p,Ks,.seq _ b,k=>xG p Ks b k
 |2::p,K::Ks,.seq a _,k=>xG p Ks a (.next K::k)
 |_::p,Ks,.block id c,k=>xG p Ks c (.block id::k)
 |_::p,Ks,.scope c,k=>xG p Ks c k
 |0::p,Ks,.cond _ a _,k=>xG p Ks a k
 |_::p,Ks,.cond _ _ b,k=>xG p Ks b k
 |_::p,K::Ks,.loop c,k=>xG p Ks c (.next K::k)
 |_::p,Ks,.rangeFunc _ _ _ b,_=>xG p Ks b []
 |_,_,_,_=>none
def Jo(P:Program)(f:FuncId)(p:List Nat)(Ks:List (Act→St→Prop)):Option (Code×List KI):=match (qh P f).body with
 |some c=>xG p Ks c []
 |none=>none
def stC(e:Env)(w:List Sg):Option (Code×List KI)→Option JS
 |some (c,k)=>some ⟨.code c k,e,w,⟨[],[]⟩⟩
 |none=>none
def stW(P:Program)(f:FuncId)(p:List Nat)(Ks:List (Act→St→Prop))(e:Env)(w:List Sg):Option JS:=stC e w (Jo P f p Ks)
def xV:Option JS→Option (Code×List KI)
 |some ⟨.code c k,_,_,_⟩=>some (c,k)
 |_=>none
def lpB(K:Act→St→Prop):Option (Code×List KI)→Option (Code×List KI)
 |some (.loop c,k)=>some (c,.next K::k)
 |_=>none
theorem dS(p:List Nat)(Ks:List (Act→St→Prop))(ef:ι→Env)(wf:ι→List Sg)(Inv:ι→Prop)(μ:ι→Nat)(i0:ι)(h0:Inv i0)(ps:List Nat)(hb:∀i,Inv i→∀K,wG X K ef wf Inv μ (μ i)→∀rest,J X (stW X.P X.fn p (Ks++[K]) (ef i++rest) (wf i)))
 (h1:qP (mQ (ef i0)) o=some (ef i0):=by kernel_rfl)(hd:∀i,lkE (mQ (ef i)) (ef i)=some (ef i):=by intro _;kernel_rfl)(h2:qK ps o=some (wf i0):=by kernel_rfl)(hp:∀K,Jo X.P X.fn p (Ks++[K])=lpB K (xV o):=by intro _;kernel_rfl):J X o:=by
 have hT:∀i,wG X (fun _ _=>True) ef wf Inv μ (μ i):=fun _ _ _ _ _ _ _ _=>trivial
 have bad:∀(K:Act→St→Prop),lpB K (xV o)=none→(∀i,wG X K ef wf Inv μ (μ i))→J X o:=fun K h hK=>by
  have:=hb i0 h0 K (hK i0) []
  simp only[stW,hp,h,stC] at this
  exact this.elim
 cases o with
 |none=>exact bad _ rfl hT
 |some s=>
  rcases s with ⟨q,e,w,kn⟩
  cases q with
  |code c k=>
   cases c with
   |loop c=>
    intro bV
    refine acb X.hC ef (fun i=>⟨X.ro,den (wf i)⟩) Inv μ i0 h0 (ko (by rw[sI] at h1;exact h1)) (ko (hd i0)) (dI (lE h2) (Sub.refl _)) fun i hi rest=>?_
    have:=hb i hi _ (fun j hj hm e s hc hle=>alK j hj hm hc (ko (hd j)) hle) rest
    simp only[stW,hp,xV,lpB,stC] at this
    exact this fun _ h=>(List.not_mem_nil h).elim
   |_=>exact bad _ rfl hT
  |_=>exact bad _ rfl hT
def ZY:Option JS→Option (Act→St→Prop)
 |some ⟨.nxt K,_,_,_⟩=>some K
 |_=>none
theorem bJ{K:Act→St→Prop}{ef:ι→Env}{wf:ι→List Sg}{Inv:ι→Prop}{μ:ι→Nat}{m:Nat}(hK:wG X1 K ef wf Inv μ m)(j:ι)(h:Inv j)(hm:μ j <m)(ps:List Nat)(hs:Sub X1.ro X.ro)
 (h0:ZY o=some K:=by kernel_rfl)(h1:qP (mQ (ef j)) o=some (ef j):=by kernel_rfl)(h2:qK ps o=some (wf j):=by kernel_rfl)(hn:X1.n=X.n:=by rfl)(hD:X1.D=X.D:=by rfl):J X o:=by
 unfold ZY at h0
 split at h0<;>try (cases h0;done)
 rename_i K' e w kn
 cases h0
 intro _
 rw[sI] at h1
 have:=hK j h hm e ⟨X.ro,den w⟩ (ko h1) (dI (lE h2) hs)
 rw[hn,hD] at this
 exact this
def gS:List (List Nat)→List Sg→Option (List Cells)
 | [],_=>some []
 |p::r,w=>match PK p w with
  |some x=>match gS r w with
   |some y=>some (den x::y)
   |none=>none
  |none=>none
def gO(ps:List (List Nat)):Option JS→Option (List Cells)
 |some s=>bif Gi ps.flatten then gS ps s.rw else none
 |none=>none
def Zq:List Sg→List Cells
 | []=>[]
 |x::w=>den [x]::Zq w
theorem FL:∀(w:List Sg),(Zq w).flatten=den w
 | []=>rfl
 | .b i o::w=>by simp[Zq,iv,FL w];rfl
 | .l L::w=>by simp[Zq,fZ,FL w];rfl
theorem WM:∀ {a b:List Nat} {w x y:List Sg},PK a w=some x→PK b w=some y→PK (a++b) w=some (x++y)
 | [],b,w,x,y,h,h2=>by simp only[PK,Option.some.injEq] at h;subst h;exact h2
 |i::a,b,w,x,y,h,h2=>by
  simp only[PK] at h
  split at h<;>try (cases h;done)
  rename_i z hz
  split at h<;>try (cases h;done)
  rename_i r hr
  cases h
  simp only[List.cons_append,PK,hz,WM hr h2]
theorem aqo:∀ {ps:List (List Nat)} {w:List Sg} {l:List Cells},gS ps w=some l→∃z,PK ps.flatten w=some z∧den z=l.flatten
 | [],w,l,h=>by simp only[gS,Option.some.injEq] at h;subst h;exact⟨[],rfl,rfl⟩
 |p::r,w,l,h=>by
  simp only[gS] at h
  split at h<;>try (cases h;done)
  rename_i x hx
  split at h<;>try (cases h;done)
  rename_i y hy
  cases h
  obtain⟨z,h1,h2⟩:=aqo hy
  exact⟨x++z,by simpa using WM hx h1,by simp[lh,h2]⟩
theorem M5{K:Act→St→Prop}{ef:ι→Env}{wf:ι→List Sg}{Inv:ι→Prop}{μ:ι→Nat}{m:Nat}(hK:wG X1 K ef wf Inv μ m)(j:ι)(h:Inv j)(hm:μ j <m)(ps:List (List Nat))(hs:Sub X1.ro X.ro)
 (h0:ZY o=some K:=by kernel_rfl)(h1:qP (mQ (ef j)) o=some (ef j):=by kernel_rfl)(h2:gO ps o=some (Zq (wf j)):=by kernel_rfl)(hn:X1.n=X.n:=by rfl)(hD:X1.D=X.D:=by rfl):J X o:=by
 unfold ZY at h0
 split at h0<;>try (cases h0;done)
 rename_i K' e w kn
 cases h0
 intro _
 rw[sI] at h1
 have hp:(den w).Perm (den (wf j)++den (dA ps.flatten 0 w)):=by
  simp only[gO] at h2
  cases ho:Gi ps.flatten with
  |false=>rw[ho] at h2;cases h2
  |true=>
   rw[ho] at h2
   obtain⟨z,h3,h4⟩:=aqo h2
   rw[FL] at h4
   rw[←h4]
   exact wR h3 ho
 have:=hK j h hm e ⟨X.ro,den w⟩ (ko h1) (dI hp hs)
 rw[hn,hD] at this
 exact this
def aF0:Option (Code×List KI)→Option (Code×List KI)
 |some (_,.seq y::k)=>some (y,k)
 |_=>none
def awL(K:Act→St→Prop):Option JS→Option JS
 |some ⟨.code x (.seq _::k),e,w,kn⟩=>some ⟨.code x (.next K::k),e,w,kn⟩
 |_=>none
theorem GF(p:List Nat)(Ks:List (Act→St→Prop))(ef:ι→Env)(wf:ι→List Sg)(Inv:ι→Prop)(hj:∀i,Inv i→∀rest,J X (stW X.P X.fn p Ks (ef i++rest) (wf i)))(h:∀K,wG X K ef wf Inv (fun _=>0) 1→J X (awL K o))(hd:∀i,lkE (mQ (ef i)) (ef i)=some (ef i):=by intro _;kernel_rfl)(hp:Jo X.P X.fn p Ks=aF0 (xV o):=by kernel_rfl):J X o:=by
 unfold awL at h
 split at h
 ·rename_i x y k e w kn
  intro bV
  refine h (fun a s=>Wp X.C X.fn X.az y (KQ X k) a s) (fun j hI _ e s hc hle=>?_) bV
  obtain⟨r,hr⟩:=fN (n:=X.n) (D:=X.D) hc (ko (hd j))
  rw[hr]
  have:=hj j hI r
  simp only[stW,hp,xV,aF0,stC] at this
  exact(this fun _ h=>(List.not_mem_nil h).elim).more X.hC hle
 exact(h (fun _ _=>True) fun _ _ _ _ _ _ _=>trivial).elim
def expand:Cells→List Sg
 | []=>[]
 |x::l=> .b x.1 x.2::expand l
def Vj:Nat→List Sg→List Sg
 |_,[]=>[]
 |0,.l L::w=>expand L++w
 |0,x::w=>x::w
 |i+1,x::w=>x::Vj i w
theorem VU{w w':List Sg}{p:Pos}(h:den w'=den w)(hj:JP X kn e w' p):JP X kn e w p:=by
 cases p<;>simp only[JP,h] at hj ⊢ <;>exact hj
def aE9(i:Nat):Option JS→Option JS
 |some s=>some {s with rw:=Vj i s.rw}
 |none=>none
def Yy:List Sg→Cells
 | []=>[]
 | .b i o::w=>(i,o)::Yy w
 | .l _::w=>Yy w
theorem xf:∀ {w:List Sg} {x:Nat×Obj},x∈Yy w→x∈den w
 | .b i o::w,x,h=>by
  rw[iv]
  rcases List.mem_cons.1 h with rfl|h
  ·exact List.mem_cons_self
  exact List.mem_cons_of_mem _ (xf h)
 | .l L::w,x,h=>by rw[fZ];exact List.mem_append_right _ (xf (w:=w) h)
def anE(ps:List Nat):Option JS→Option JS
 |some s=>match PK ps s.rw with
  |some w=>some {s with rw:=dA ps 0 s.rw,kn:=⟨Yy w++s.kn.c,s.kn.nd⟩}
  |none=>none
 |none=>none
theorem Ie:∀(k:List KI),KQ (X.at aI) k=KQ X k
 | []=>rfl
 | .seq _::k=>by simp only[KQ,Ie k];rfl
 | .block _::k=>by simp only[KQ,Ie k]
 | .next _::k=>by simp only[KQ,Ie k]
theorem jf(ps:List Nat)(L:Cells)(h:∀aI,Sub X.ro aI→Knows aI L→J (X.at aI) (anE ps o))(h2:dL ps o=some L:=by kernel_rfl)(hp:aeO o=true:=by kernel_rfl):J X o:=by
 have hpk:∀ {s:JS},dL ps (some s)=some L→∃w,PK ps s.rw=some w∧den w=L:=by
  intro s hs
  simp only[dL,qK] at hs
  cases hk:Gi ps with
  |false=>rw[hk] at hs;cases hs
  |true=>
   rw[hk] at hs;simp only[cond_true] at hs
   split at hs<;>try (cases hs;done)
   rename_i w hw
   cases hs
   exact⟨w,hw,rfl⟩
 unfold aeO at hp
 split at hp
 ·rename_i ops todo k e w kn
  intro bV
  obtain⟨w1,hw1,rfl⟩:=hpk h2
  refine TP X.hC (bH h2) fun aI hs hk=>?_
  have:=h aI hs hk
  simp only[anE,hw1] at this
  have:=this (fun x hx=>(List.mem_append.1 hx).elim (fun hx=>hk x (xf hx)) fun hx=>hs _ _ (bV x hx))
  simp only[JP,Ie] at this
  exact this
 ·rename_i c k e w kn
  intro bV
  obtain⟨w1,hw1,rfl⟩:=hpk h2
  refine YY X.hC (bH h2) fun aI hs hk=>?_
  have:=h aI hs hk
  simp only[anE,hw1] at this
  have:=this (fun x hx=>(List.mem_append.1 hx).elim (fun hx=>hk x (xf hx)) fun hx=>hs _ _ (bV x hx))
  simp only[JP,Ie] at this
  exact this
 cases hp
def geO:Option JS→Option JS
 |some s=>some {s with rw:= .l []::s.rw}
 |none=>none
theorem oR(h:J X (geO o)):J X o:=by
 cases o with
 |none=>exact h
 |some s=>exact fun bV=>VU (by simp[fZ]) (h bV)
def sgS:Nat→List Sg→List Sg→List Sg
 |_,_,[]=>[]
 |0,l,_::w=>l++w
 |i+1,l,x::w=>x::sgS i l w
theorem Wt{l:List Sg}:∀ {i:Nat} {w:List Sg} {x:Sg},yx w i=some x→den [x]=den l→den (sgS i l w)=den w
 |_,[],_,h,_=>by cases h
 |0,y::w,x,h,hd=>by
  simp only[yx,Option.some.injEq] at h;subst h
  have:den (y::w)=den [y]++den w:=by rw[←lh];rfl
  rw[this,hd,←lh];rfl
 |i+1,y::w,x,h,hd=>by
  have:=Wt (w:=w) (i:=i) h hd
  cases y<;>simp[sgS,iv,fZ,this]
def sgO(i:Nat)(l:List Sg):Option JS→Option JS
 |some s=>some {s with rw:=sgS i l s.rw}
 |none=>none
theorem jg(i:Nat)(l:List Sg)(h:J X (sgO i l o))(h2:dL [i] o=some (den l):=by kernel_rfl):J X o:=by
 cases o with
 |none=>exact h
 |some s=>
  have hn:∃x,yx s.rw i=some x∧den [x]=den l:=by
   simp only[dL,qK,Gi,ba,PK,Bool.not_false,Bool.true_and,cond_true] at h2
   cases hx:yx s.rw i with
   |none=>rw[hx] at h2;cases h2
   |some x=>rw[hx] at h2;simp only[Option.some.injEq] at h2;exact⟨x,rfl,h2⟩
  obtain⟨x,hx,hd⟩:=hn
  exact fun bV=>VU (Wt hx hd) (h bV)
theorem jmw(i:Nat)(l:List Sg){L:Cells}(h:L=den l)(hj:J X (sgO i l o))(h2:dL [i] o=some L:=by kernel_rfl):J X o:=by
 subst h;exact jg i l hj h2
end
def Cx.wd(X:Cx)(D:List Deferred):Cx:={X with D:=D}
theorem Si{D:List Deferred}:∀(k:List KI),KQ (X.wd D) k=KQ X k
 | []=>rfl
 | .seq _::k=>by simp only[KQ,Si k];rfl
 | .block _::k=>by simp only[KQ,Si k]
 | .next _::k=>by simp only[KQ,Si k]
def Fa(X:Cx)(K:Act→St→Prop)(ef:ι→Env)(wf:ι→List Sg)(df:ι→List Deferred)(Inv:ι→Prop)(μ:ι→Nat)(m:Nat):Prop:=
 ∀j,Inv j→μ j <m→∀(e:Env) (s:St),kD e (ef j)→(⟨X.ro,den (wf j)⟩:St).le s→K (A X.n e (df j)) s
section
variable {X:Cx} {o:Option JS}
theorem acd{C:Class}{fn:FuncId}{az:Option Nat}{Q:Post}{env:Env}(hC:∀main T,C main T→Closed X.P main T)(pd:ι→Env)(sf:ι→St)(df:ι→List Deferred)(Inv:ι→Prop)(μ:ι→Nat){c:Code}(i0:ι)(h0:Inv i0)(hc:kD env (pd i0))(hd:∀i,kD (pd i) (pd i))(hs:(sf i0).le s)
 (round:∀i,Inv i→∀rest,Wp C fn az c (lM (fun a s=>∃j,Inv j∧μ j <μ i∧(∃e,kD e (pd j)∧a=A n e (df j))∧(sf j).le s) Q) (A n (pd i++rest) (df i)) (sf i)):Wp C fn az (.loop c) Q (A n env (df i0)) s:=by
 obtain⟨r0,uR⟩:=fN (n:=n) (D:=df i0) hc (hd i0)
 rw[uR]
 intro main T hT b k cs h1 h2 h3 h4
 have key:∀m i rest s,μ i=m→Inv i→(sf i).le s→T (G (aK b (A n (pd i++rest) (df i)) (.code c:: .inLoop c::k)) cs) s:=by
  intro m
  induction m using Nat.strongRecOn with
  |_ m ih=>
   intro i rest s hm hI hle
   refine(hC main T hT).mono _ _ _ hle ?_
   refine round i hI rest main T hT b (.inLoop c::k) cs h1 h2 h3 fun e a' s' q=>?_
   cases e with
   |normal=>
    obtain⟨j,yS,cK,⟨e,he,rfl⟩,xD⟩:=q
    obtain⟨adl,hr⟩:=fN (n:=n) (D:=df j) he (hd j)
    rw[hr]
    exact(hC main T hT).go rfl rfl (g':=G (aK b _ (.code c:: .inLoop c::k)) cs) (fun w=>by simp[G,stepG,stepG.exec,aK]) (ih _ (hm▸cK) j adl s' rfl yS xD)
   |exit id=>exact(h4 _ _ _ q).push rfl (by simp)
   |ret=>exact(h4 _ _ _ q).push (x:= .inLoop c) rfl (by simp)
   |panic ch=>exact(h4 _ _ _ q).push (x:= .inLoop c) rfl (by simp)
   |goto l=>exact(h4 _ _ _ q).elim
   |outgrown=>exact(h4 _ _ _ q).elim
 exact(hC main T hT).go rfl rfl (g':=G (aK b (A n (pd i0++r0) (df i0)) (.code c:: .inLoop c::k)) cs) (fun w=>by simp[G,stepG,stepG.exec,aK]) (key _ i0 r0 s rfl h0 hs)
theorem aBV(p:List Nat)(Ks:List (Act→St→Prop))(ef:ι→Env)(wf:ι→List Sg)(df:ι→List Deferred)(Inv:ι→Prop)(μ:ι→Nat)(i0:ι)(h0:Inv i0)(ps:List Nat)(hb:∀i,Inv i→∀K,Fa X K ef wf df Inv μ (μ i)→∀rest,J (X.wd (df i)) (stW X.P X.fn p (Ks++[K]) (ef i++rest) (wf i)))
 (h1:qP (mQ (ef i0)) o=some (ef i0):=by kernel_rfl)(hd:∀i,lkE (mQ (ef i)) (ef i)=some (ef i):=by intro _;kernel_rfl)(h2:qK ps o=some (wf i0):=by kernel_rfl)(hp:∀K,Jo X.P X.fn p (Ks++[K])=lpB K (xV o):=by intro _;kernel_rfl)(hD:X.D=df i0:=by rfl):J X o:=by
 have hT:∀i,Fa X (fun _ _=>True) ef wf df Inv μ (μ i):=fun _ _ _ _ _ _ _ _=>trivial
 have bad:∀(K:Act→St→Prop),lpB K (xV o)=none→(∀i,Fa X K ef wf df Inv μ (μ i))→J X o:=fun K h hK=>by
  have:=hb i0 h0 K (hK i0) []
  simp only[stW,hp,h,stC] at this
  exact this.elim
 cases o with
 |none=>exact bad _ rfl hT
 |some s=>
  rcases s with ⟨q,e,w,kn⟩
  cases q with
  |code c k=>
   cases c with
   |loop c=>
    intro bV
    show Wp X.C X.fn X.az (.loop c) (KQ X k) (A X.n e X.D) ⟨X.ro,den w⟩
    rw[hD]
    refine acd (X:=X) X.hC ef (fun i=>(⟨X.ro,den (wf i)⟩:St)) df Inv μ i0 h0 (ko (by rw[sI] at h1;exact h1)) (fun i=>ko (hd i)) (dI (lE h2) (Sub.refl _)) fun i hi rest=>?_
    have:=hb i hi (fun a s=>∃j,Inv j∧μ j <μ i∧(∃e,kD e (ef j)∧a=A X.n e (df j))∧(⟨X.ro,den (wf j)⟩:St).le s) (fun j hj hm e s hc hle=>⟨j,hj,hm,⟨e,hc,rfl⟩,hle⟩) rest
    simp only[stW,hp,xV,lpB,stC] at this
    have:=this fun _ h=>(List.not_mem_nil h).elim
    simp only[JP,KQ,Si] at this
    exact this
   |_=>exact bad _ rfl hT
  |_=>exact bad _ rfl hT
theorem jnD{K:Act→St→Prop}{ef:ι→Env}{wf:ι→List Sg}{df:ι→List Deferred}{Inv:ι→Prop}{μ:ι→Nat}{m:Nat}(hK:Fa X1 K ef wf df Inv μ m)(j:ι)(h:Inv j)(hm:μ j <m)(ps:List (List Nat))(hs:Sub X1.ro X.ro)
 (h0:ZY o=some K:=by kernel_rfl)(h1:qP (mQ (ef j)) o=some (ef j):=by kernel_rfl)(h2:gO ps o=some (Zq (wf j)):=by kernel_rfl)(hn:X1.n=X.n:=by rfl)(hD:X.D=df j:=by rfl):J X o:=by
 have hK':wG (X1.wd (df j)) K ef wf (fun i=>i=j) μ m:=fun i hi hm e s hc hle=>by subst hi;exact hK _ h hm e s hc hle
 exact M5 hK' j rfl hm ps hs h0 h1 h2 hn hD.symm
end
attribute [irreducible] gO geO qh jo awL stW xV Jo aE9 anE sgO yU aeO gZ OL OJ qF ZY
section
variable {X:Cx} {o:Option JS}
def N6(n:Nat)(p:Oper)(e:Env):Option (BinOp×TypeId×Value×Value):=match p.op with
 | .binOp op T x y _=>match bp n e x with
  |some v=>match bp n e y with
   |some w=>some (op,T,v,w)
   |none=>none
  |none=>none
 |_=>none
theorem tX{op:BinOp}{v w:Value}(h:N6 n p e=some (op,T,v,w)):∃x y T',p.op= .binOp op T x y T'∧bp n e x=some v∧bp n e y=some w:=by
 unfold N6 at h
 split at h<;>try (cases h;done)
 rename_i ax
 split at h<;>try (cases h;done)
 rename_i hx
 split at h<;>try (cases h;done)
 rename_i hy
 cases h
 exact⟨_,_,_,ax,hx,hy⟩
theorem jsa{a:ByteArray}(T:TypeId)(hb:(a.size:Int)+b.size≤9223372036854775807)(hj:J X (jQ (.string (a++b)) o))(hv:dE X.n (N6 X.n) o=some (.add,T,.string a,.string b):=by kernel_rfl):J X o:=by
 refine Sr hv (fun s p e _ hf=>?_) hj
 obtain⟨x,y,T',ax,hx,hy⟩:=tX hf
 rcases p with ⟨dst,op,ty,pos,cX,g⟩
 dsimp only at ax;subst ax
 exact fun s0 ops i sM rest hw s' hs todo Q hk=>asN X.hC sM hw (bh hx) (bh hy) hb hk
theorem jrm{k:IntKind}{a b:Int}(T:TypeId)(hb:b≠0)(hj:J X (jQ (.int k (a.tmod b)) o))(hv:dE X.n (N6 X.n) o=some (.rem,T,.int k a,.int k b):=by kernel_rfl):J X o:=by
 refine Sr hv (fun s p e _ hf=>?_) hj
 obtain⟨x,y,T',ax,hx,hy⟩:=tX hf
 rcases p with ⟨dst,op,ty,pos,cX,g⟩
 dsimp only at ax;subst ax
 exact fun s0 ops i sM rest hw s' hs todo Q hk=>aA8 X.hC sM hw (bh hx) (bh hy) hb hk
theorem jsr{k k':IntKind}{a b:Int}(T:TypeId)(hb:0≤b)(hj:J X (jQ (.int k (aT k a b)) o))(hv:dE X.n (N6 X.n) o=some (.shr,T,.int k a,.int k' b):=by kernel_rfl):J X o:=by
 refine Sr hv (fun s p e _ hf=>?_) hj
 obtain⟨x,y,T',ax,hx,hy⟩:=tX hf
 rcases p with ⟨dst,op,ty,pos,cX,g⟩
 dsimp only at ax;subst ax
 exact fun s0 ops i sM rest hw s' hs todo Q hk=>aA6 X.hC sM hw (bh hx) (bh hy) hb hk
theorem jsh{k k':IntKind}{a b:Int}(T:TypeId)(hb:0≤b)(hj:J X (jQ (.int k (dz k a b)) o))(hv:dE X.n (N6 X.n) o=some (.shl,T,.int k a,.int k' b):=by kernel_rfl):J X o:=by
 refine Sr hv (fun s p e _ hf=>?_) hj
 obtain⟨x,y,T',ax,hx,hy⟩:=tX hf
 rcases p with ⟨dst,op,ty,pos,cX,g⟩
 dsimp only at ax;subst ax
 exact fun s0 ops i sM rest hw s' hs todo Q hk=>aA7 X.hC sM hw (bh hx) (bh hy) hb hk
theorem jeq{m:List Value}{r:Bool}(hg:nS X.P T)(he:EqV X.P T (.agg ⟨l⟩) (.agg ⟨m⟩) r)(hj:J X (jQ (.bool r) o))(hv:dE X.n (N6 X.n) o=some (.eql,T,.agg ⟨l⟩,.agg ⟨m⟩):=by kernel_rfl):J X o:=by
 refine Sr hv (fun s p e _ hf=>?_) hj
 obtain⟨x,y,T',ax,hx,hy⟩:=tX hf
 rcases p with ⟨dst,op,ty,pos,cX,g⟩
 dsimp only at ax;subst ax
 exact fun s0 ops i sM rest hw s' hs todo Q hk=>alF X.hC sM hw (bh hx) (bh hy) hg he hk
theorem jne{m:List Value}{r:Bool}(hg:nS X.P T)(he:EqV X.P T (.agg ⟨l⟩) (.agg ⟨m⟩) r)(hj:J X (jQ (.bool !r) o))(hv:dE X.n (N6 X.n) o=some (.neq,T,.agg ⟨l⟩,.agg ⟨m⟩):=by kernel_rfl):J X o:=by
 refine Sr hv (fun s p e _ hf=>?_) hj
 obtain⟨x,y,T',ax,hx,hy⟩:=tX hf
 rcases p with ⟨dst,op,ty,pos,cX,g⟩
 dsimp only at ax;subst ax
 exact fun s0 ops i sM rest hw s' hs todo Q hk=>aec X.hC sM hw (bh hx) (bh hy) hg he hk
def GH(P:Program)(T:TypeId):Bool:=match aZ P T with
 |some ⟨.slice _,_,_,_⟩=>true
 |_=>false
theorem GG(h:GH P T=true):∃E sz bB z ag,TF P T (.slice E) sz bB z ag:=by
 unfold GH at h
 split at h<;>try (cases h;done)
 rename_i dJ
 obtain⟨bB,tf⟩:=av dJ
 exact⟨_,_,_,_,_,tf⟩
theorem jsn{a:Option Addr}{l c:Nat}(T:TypeId)(hj:J X (jQ (.bool a.isNone) o))(hv:dE X.n (N6 X.n) o=some (.eql,T,.slice a l c,.slice none 0 0):=by kernel_rfl)(hT:GH X.P T=true:=by kernel_rfl):J X o:=by
 refine Sr hv (fun s p e _ hf=>?_) hj
 obtain⟨x,y,T',ax,hx,hy⟩:=tX hf
 obtain⟨E,sz,bB,z,ag,tf⟩:=GG hT
 rcases p with ⟨dst,op,ty,pos,cX,g⟩
 dsimp only at ax;subst ax
 exact fun s0 ops i sM rest hw s' hs todo Q hk=>alA X.hC sM hw tf (bh hx) (bh hy) hk
def D5(n:Nat)(e:Env):Option Operand→Option (Option Int)
 |none=>some none
 |some x=>match bp n e x with
  |some (.int _ a)=>some (some a)
  |_=>none
def acZ(P:Program)(n:Nat)(p:Oper)(e:Env):Option (ByteArray×Option Int×Option Int):=match p.op with
 | .slice T x y z none=>match aZ P T with
  |some ⟨.string,_,_,_⟩=>match bp n e x with
   |some (.string b)=>match D5 n e y with
    |some lo=>match D5 n e z with
     |some hi=>some (b,lo,hi)
     |none=>none
    |none=>none
   |_=>none
  |_=>none
 |_=>none
def akZ(P:Program)(n:Nat)(p:Oper)(e:Env):Option (Value×Option Int×Option Int×Nat):=match p.op with
 | .slice T x y z none=>match aZ P T with
  |some ⟨.slice E,_,_,_⟩=>match aZ P E with
   |some te=>match bp n e x with
    |some v=>match D5 n e y with
     |some lo=>match D5 n e z with
      |some hi=>some (v,lo,hi,te.size)
      |none=>none
     |none=>none
    |none=>none
   |none=>none
  |_=>none
 |_=>none
theorem nn{x:Option Operand}{a:Int}(h:D5 n e x=some (some a)):∃y k,x=some y∧bp n e y=some (.int k a):=by
 unfold D5 at h
 split at h
 ·cases h
 split at h<;>try (cases h;done)
 rename_i hx
 cases h
 exact⟨_,_,rfl,hx⟩
theorem BK{x:Option Operand}(h:D5 n e x=some none):x=none:=by
 unfold D5 at h
 split at h
 ·rfl
 split at h<;>cases h
theorem LX{lo hi:Option Int}(h:acZ P n p e=some (b,lo,hi)):∃T x y z sz bB zz ag,p.op= .slice T x y z none∧TF P T .string sz bB zz ag∧bp n e x=some (.string b)∧D5 n e y=some lo∧D5 n e z=some hi:=by
 unfold acZ at h
 split at h<;>try (cases h;done)
 rename_i ax
 split at h<;>try (cases h;done)
 rename_i dJ
 obtain⟨bB,tf⟩:=av dJ
 split at h<;>try (cases h;done)
 rename_i hx
 split at h<;>try (cases h;done)
 rename_i hy
 split at h<;>try (cases h;done)
 rename_i hz
 cases h
 exact⟨_,_,_,_,_,_,_,_,ax,tf,hx,hy,hz⟩
theorem Ws{v:Value}{lo hi:Option Int}(h:akZ P n p e=some (v,lo,hi,k)):∃T x y z E sz bB zz ag d A0 z2 ag2,p.op= .slice T x y z none∧TF P T (.slice E) sz bB zz ag∧TF P E d k A0 z2 ag2∧bp n e x=some v∧D5 n e y=some lo∧D5 n e z=some hi:=by
 unfold akZ at h
 split at h<;>try (cases h;done)
 rename_i ax
 split at h<;>try (cases h;done)
 rename_i dJ
 obtain⟨bB,tf⟩:=av dJ
 split at h<;>try (cases h;done)
 rename_i te tO
 obtain⟨A0,qz⟩:=av tO
 split at h<;>try (cases h;done)
 rename_i hx
 split at h<;>try (cases h;done)
 rename_i hy
 split at h<;>try (cases h;done)
 rename_i hz
 cases h
 exact⟨_,_,_,_,_,_,_,_,_,_,_,_,_,ax,tf,qz,hx,hy,hz⟩
theorem jtB(hl:0≤lo∧lo≤hi∧hi≤b.size)(hj:J X (jQ (.string (b.extract lo.toNat hi.toNat)) o))(hv:dE X.n (acZ X.P X.n) o=some (b,some lo,some hi):=by kernel_rfl):J X o:=by
 refine Sr hv (fun s p e _ hf=>?_) hj
 obtain⟨T,x,y,z,sz,bB,zz,ag,ax,tf,hx,hy,hz⟩:=LX hf
 obtain⟨y,k,rfl,GI⟩:=nn hy
 obtain⟨z,k',rfl,hz1⟩:=nn hz
 rcases p with ⟨dst,op,ty,pos,cX,g⟩
 dsimp only at ax;subst ax
 exact fun s0 ops i sM rest hw s' hs todo Q hk=>TR X.hC sM hw tf (bh hx) (bh GI) (bh hz1) hl hk
theorem jtH(hl:0≤hi∧hi≤b.size)(hj:J X (jQ (.string (b.extract 0 hi.toNat)) o))(hv:dE X.n (acZ X.P X.n) o=some (b,none,some hi):=by kernel_rfl):J X o:=by
 refine Sr hv (fun s p e _ hf=>?_) hj
 obtain⟨T,x,y,z,sz,bB,zz,ag,ax,tf,hx,hy,hz⟩:=LX hf
 have hy:=BK hy;subst hy
 obtain⟨z,k',rfl,hz1⟩:=nn hz
 rcases p with ⟨dst,op,ty,pos,cX,g⟩
 dsimp only at ax;subst ax
 exact fun s0 ops i sM rest hw s' hs todo Q hk=>P5 X.hC sM hw tf (bh hx) (bh hz1) hl hk
theorem jtL(hl:0≤lo∧lo≤b.size)(hj:J X (jQ (.string (b.extract lo.toNat b.size)) o))(hv:dE X.n (acZ X.P X.n) o=some (b,some lo,none):=by kernel_rfl):J X o:=by
 refine Sr hv (fun s p e _ hf=>?_) hj
 obtain⟨T,x,y,z,sz,bB,zz,ag,ax,tf,hx,hy,hz⟩:=LX hf
 have hz:=BK hz;subst hz
 obtain⟨y,k,rfl,GI⟩:=nn hy
 rcases p with ⟨dst,op,ty,pos,cX,g⟩
 dsimp only at ax;subst ax
 exact fun s0 ops i sM rest hw s' hs todo Q hk=>P3 X.hC sM hw tf (bh hx) (bh GI) hl hk
theorem jcH{v:Value}{enc:α→List Value}{ps:List α}(hs:bI X.ro v sz enc ps)(hl:0≤hi∧hi≤ps.length)(hj:∀v',bI X.ro v' sz enc (ps.take hi.toNat)→J X (jQ v' o))(hv:dE X.n (akZ X.P X.n) o=some (v,none,some hi,sz):=by kernel_rfl):J X o:=by
 obtain⟨a,b,off,cap,rfl,h2,h3,h4⟩:=id hs
 have hp:=bI.part hs (l:=0) (h:=hi.toNat) (by omega) (by omega)
 rw[List.drop_zero] at hp
 refine Sr hv (fun s p e _ hf=>?_) (hj _ hp)
 obtain⟨T,x,y,z,E,s1,bB,zz,ag,d,A0,z2,ag2,ax,tf,qz,hx,hy,hz⟩:=Ws hf
 have hy:=BK hy;subst hy
 obtain⟨z,k',rfl,hz1⟩:=nn hz
 rcases p with ⟨dst,op,ty,pos,cX,g⟩
 dsimp only at ax;subst ax
 intro s0 ops i sM rest hw s' mI todo Q hk
 refine bR X.hC sM hw (by simp) ?_
 have hb:0≤hi∧hi≤(cap:Int):=by omega
 have fK:(0:Int)≤0∧(0:Int)≤(hi.toNat:Int):=by omega
 rw[←aY] at hk
 simp only[execOp,Option.map_some,Option.map_none,Instr.sliceAt,Instr.slice,aF (bh (rest:=rest) hx),aF (bh (rest:=rest) hz1),aa,a8 tf,Instr.sliceBounds,Instr.sliceBound,asIntOf,ae,hb,fK,and_self,if_true,cd qz]
 exact hk
theorem jcB{v:Value}{enc:α→List Value}{ps:List α}(hs:bI X.ro v sz enc ps)(hl:0≤lo∧lo≤hi∧hi≤ps.length)(hj:∀v',bI X.ro v' sz enc ((ps.take hi.toNat).drop lo.toNat)→J X (jQ v' o))(hv:dE X.n (akZ X.P X.n) o=some (v,some lo,some hi,sz):=by kernel_rfl):J X o:=by
 obtain⟨a,b,off,cap,rfl,h2,h3,h4⟩:=id hs
 have hp:=bI.part hs (l:=lo.toNat) (h:=hi.toNat) (by omega) (by omega)
 refine Sr hv (fun s p e _ hf=>?_) (hj _ hp)
 obtain⟨T,x,y,z,E,s1,bB,zz,ag,d,A0,z2,ag2,ax,tf,qz,hx,hy,hz⟩:=Ws hf
 obtain⟨y,k,rfl,GI⟩:=nn hy
 obtain⟨z,k',rfl,hz1⟩:=nn hz
 rcases p with ⟨dst,op,ty,pos,cX,g⟩
 dsimp only at ax;subst ax
 intro s0 ops i sM rest hw s' mI todo Q hk
 refine bR X.hC sM hw (by simp) ?_
 have hb:0≤hi∧hi≤(cap:Int):=by omega
 have fK:0≤lo∧lo≤(hi.toNat:Int):=by omega
 rw[←aY] at hk
 simp only[execOp,Option.map_some,Option.map_none,Instr.sliceAt,Instr.slice,aF (bh (rest:=rest) hx),aF (bh (rest:=rest) GI),aF (bh (rest:=rest) hz1),aa,a8 tf,Instr.sliceBounds,Instr.sliceBound,asIntOf,ae,hb,fK,and_self,if_true,cd qz]
 exact hk
def lnV(P:Program)(n:Nat)(p:Oper)(e:Env):Option Value:=match p.op with
 | .call ⟨.builtin .len,⟨[x]⟩,⟨[T]⟩⟩=>bif GH P T then bp n e x else none
 |_=>none
theorem B0{v:Value}{enc:α→List Value}{ps:List α}{L:Cells}(ku:ay v sz T2 enc ps L)(hj:J X (jQ (.int .i64 ps.length) o))(hv:dE X.n (lnV X.P X.n) o=some v:=by kernel_rfl):J X o:=by
 refine Sr hv (fun s p e _ hf=>?_) hj
 unfold lnV at hf
 split at hf<;>try (cases hf;done)
 rename_i x T ax
 cases hT:GH X.P T with
 |false=>rw[hT] at hf;cases hf
 |true=>
  rw[hT] at hf;simp only[cond_true] at hf
  obtain⟨E,s1,bB,z,ag,tf⟩:=GG hT
  rcases p with ⟨dst,op,ty,pos,cX,g⟩
  dsimp only at ax;subst ax
  exact fun s0 ops i sM rest hw s' hs todo Q hk=>aed X.hC sM hw tf (bh hf) ku hk
def ZZ(ps:List Nat)(v:Value)(L':Cells):Option JS→Option JS:=mL ps v L'
theorem WY{ops:Array Oper}{k:List KI}{w:List Sg}{v:Value}{L':Cells}(ho:ops[i]?=some p):ZZ ps v L' (some ⟨.ops ops (i::todo) k,e,w,kn⟩)=some ⟨.ops ops todo k,upd p.dst v e,.l L'::dA ps 0 w,kn⟩:=by
 unfold ZZ
 simp only[nP ho]
def akW(P:Program)(n:Nat)(p:Oper)(e:Env):Option (Addr×List Value×Nat):=match p.op with
 | .store T x y=>match aZ P T with
  |some ti=>match bp n e x with
   |some (.pointer (some a))=>match bp n e y with
    |some v=>some (a,dO v,ti.size)
    |none=>none
   |_=>none
  |none=>none
 |_=>none
theorem Wo{a:Addr}(h:akW P n p e=some (a,l,sz)):∃T x y d bB z ag v,p.op= .store T x y∧TF P T d sz bB z ag∧bp n e x=some (.pointer (some a))∧bp n e y=some v∧v.cells=⟨l⟩:=by
 unfold akW at h
 split at h<;>try (cases h;done)
 rename_i ax
 split at h<;>try (cases h;done)
 rename_i ti dJ
 obtain⟨bB,tf⟩:=av dJ
 split at h<;>try (cases h;done)
 rename_i hx
 split at h<;>try (cases h;done)
 rename_i hy
 cases h
 exact⟨_,_,_,_,_,_,_,_,ax,tf,hx,hy,by rw[lT]⟩
theorem So{v:Value}{enc:α→List Value}{ps:List α}{L:Cells}{b:Nat}{a:α}(i f:Nat)(c:List Value)(e:α)(ku:ay v sz E enc ps L)(hb:Oh v b)(hk:ps[k]?=some a) (he:enc e=dw (enc a) f c) (h1:c.all single=true) (hf:f+c.length≤sz) (hj:∀L',ay v sz E enc (ps.set k e) L'→J X (ZZ [i] undef L' o)) (hv:eR X.n (akW X.P X.n) o=some (⟨b,k*sz+f,none⟩,c,c.length):=by kernel_rfl) (h2:dL [i] o=some L:=by kernel_rfl):J X o:=by
 obtain⟨ops,i0,todo,kk,ev,w,kn,p,rfl,ho,hw,hc⟩:=du hv
 obtain⟨T,x,y,d,bB,z,ag,u,ax,tf,hx,hy,hu⟩:=Wo hc
 intro bV
 rcases p with ⟨dst,op,ty,pos,cX,g⟩
 dsimp only at ax;subst ax
 refine vi X.hC (bH h2)<|aA2 X.hC ho hw tf hx hy hu rfl (List.all_eq_true.1 h1) ku hb hk he hf fun L' hL'=>?_
 have:=hj L' hL'
 rw[WY ho] at this
 have:=this bV
 simp only[JP,fZ] at this
 exact this
def apV(P:Program)(n:Nat)(p:Oper)(e:Env):Option (Value×Value×TypeId×Nat):=match p.op with
 | .call ⟨.builtin .append,⟨[x,y]⟩,⟨[T,U]⟩⟩=>match aZ P T with
  |some ⟨.slice E,_,_,_⟩=>bif GH P U then (match aZ P E with
   |some te=>match P.info? E with
    |some ie=>bif Nat.beq te.zero.length te.size&&Nat.ble ie.bytes 65536 then (match bp n e x with
     |some v=>match bp n e y with
      |some w=>some (v,w,E,te.size)
      |none=>none
     |none=>none) else none
    |none=>none
   |none=>none) else none
  |_=>none
 |_=>none
theorem aw2{v w:Value}(h:apV P n p e=some (v,w,E,sz)):∃x y T U s1 b1 z1 a1 E2 s2 b2 z2 a2 d bB z ag,p.op= .call ⟨.builtin .append,#[x,y],#[T,U]⟩∧TF P T (.slice E) s1 b1 z1 a1∧TF P U (.slice E2) s2 b2 z2 a2∧TF P E d sz bB z ag∧z.length=sz∧bB≤65536∧bp n e x=some v∧bp n e y=some w:=by
 unfold apV at h
 split at h<;>try (cases h;done)
 rename_i x y T U ax
 split at h<;>try (cases h;done)
 rename_i E' _ _ _ dJ
 obtain⟨b1,tf1⟩:=av dJ
 cases hU:GH P U with
 |false=>rw[hU] at h;cases h
 |true=>
  rw[hU] at h;simp only[cond_true] at h
  obtain⟨E2,s2,b2,z2,a2,qz⟩:=GG hU
  split at h<;>try (cases h;done)
  rename_i te tO
  obtain⟨b3,tf3⟩:=av tO
  split at h<;>try (cases h;done)
  rename_i ie hie
  cases hb:(Nat.beq te.zero.length te.size&&Nat.ble ie.bytes 65536) with
  |false=>rw[hb] at h;cases h
  |true=>
   rw[hb] at h;simp only[cond_true] at h
   split at h<;>try (cases h;done)
   rename_i hx
   split at h<;>try (cases h;done)
   rename_i hy
   simp only[Option.some.injEq,Prod.mk.injEq] at h
   obtain⟨rfl,rfl,rfl,rfl⟩:=h
   simp only[Bool.and_eq_true,Nat.ble_eq] at hb
   obtain⟨i2,g1,_,g3,_⟩:=tf3.info
   rw[hie] at g1;cases g1
   exact⟨x,y,T,U,_,b1,_,_,E2,s2,b2,z2,a2,_,b3,_,_,ax,tf1,qz,tf3,Nat.eq_of_beq_eq_true hb.1,by omega,hx,hy⟩
theorem iC{v w:Value}{enc:α→List Value}{ps qs:List α}{L:Cells}(is lp:List Nat)(B:Cells)(ku:ay v sz E enc ps L)(KD:∀s:St,Ext ⟨X.ro,[]⟩ s→(∀x∈B,s.has x.1 x.2)→Sl s w sz enc qs)(hq:∀p∈qs,∀c∈enc p,single c=true)(hb:ps.length+qs.length≤1048576)(hj:∀v' L',ay v' sz E enc (ps++qs) L'→J X (ZZ is v' L' o))
 (hv:eR X.n (apV X.P X.n) o=some (v,w,E,sz):=by kernel_rfl)(h2:dL is o=some L:=by kernel_rfl)(h3:dL lp o=some B:=by kernel_rfl):J X o:=by
 obtain⟨ops,i0,todo,kk,ev,w0,kn,p,rfl,ho,hw,hc⟩:=du hv
 obtain⟨x,y,T,U,s1,b1,z1,a1,E2,s2,b2,z2,a2,d,bB,z,ag,ax,tf1,qz,tf3,hz,hby,hx,hy⟩:=aw2 hc
 intro bV
 rcases p with ⟨dst,op,ty,pos,cX,g⟩
 dsimp only at ax;subst ax
 have hp:=bH h2
 refine vi X.hC hp<|oap X.hC ho hw tf1 qz tf3 hz hx hy ku (KD _ NJ fun u hu=>?_) hq ⟨hb,hby⟩ fun v' L' hL'=>?_
 ·rcases RE (X:=X) h3 u hu with h|h
  ·exact .inl h
  exact .inr (hp.mem_iff.1 h)
 have:=hj v' L' hL'
 rw[WY ho] at this
 have:=this bV
 simp only[JP,fZ] at this
 exact this
theorem aLS{w:Value}(enc:α→List Value){qs:List α}(lp:List Nat)(B:Cells)(KD:∀s:St,Ext ⟨X.ro,[]⟩ s→(∀x∈B,s.has x.1 x.2)→Sl s w sz enc qs)(hq:∀p∈qs,∀c∈enc p,single c=true)(hb:qs.length≤1048576)(hj:∀v' L',ay v' sz E enc qs L'→J X (ZZ [] v' L' o))
 (hv:eR X.n (apV X.P X.n) o=some (.slice none 0 0,w,E,sz):=by kernel_rfl)(h3:dL lp o=some B:=by kernel_rfl)(h2:dL [] o=some []:=by kernel_rfl):J X o:=
 iC (ps:=[]) [] lp B (ay.nil sz E enc) KD hq (by simpa using hb) (fun v' L' h=>hj v' L' h) hv h2 h3
end
attribute [irreducible] ZZ
end Go.L
