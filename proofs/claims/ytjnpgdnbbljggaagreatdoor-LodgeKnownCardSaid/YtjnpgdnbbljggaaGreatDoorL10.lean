/- Part 10 of the proof. -/
import Derived.Test.YtjnpgdnbbljggaaGreatDoorL9
set_option maxRecDepth 100000
set_option maxHeartbeats 4000000
set_option linter.all false
namespace Go.L
open Go Go.Conc Go.Proofs
open Go.ConcR (KK wgBlock WgAt stA smA rd wr)
open Go.ConcM (OsLater)
variable {ro:Nat→Option Obj} {F:List (Int×Value)} {Hb np ne p d n b1 bw ck y b3 bL j b2 sz bn dep by1 bl bg b4:Nat} {u v:Value} {xs zs ys:List Int} {need h D b x i f:Int} {α κ β:Type} {seen:List Nat} {T:TypeId} {Stop:Cells→Prop} {ps:List ByteArray} {z1:List Value} {ag:Bool}
def aO.set(x:aO)(d:Nat)(h:Int):aO:=match d with
 |0=>{x with a:=h}
 |1=>{x with b:=h}
 |2=>{x with c:=h}
 |_=>{x with d:=h}
theorem aO.set_set{x:aO}{h':Int}:(x.set d h).set d h'=x.set d h':=by
 rcases d with _|_|_|d<;>rfl
theorem aeD{x:aO}(hd:d <4):dI (eX x) (0+(d:Int).toNat*1) [.int .i64 h]=eX (x.set d h):=by
 rcases d with _|_|_|_|d<;>first|rfl|omega
theorem aeE{x:aO}(hd:d <4):Nat.ble ((0+(d:Int).toNat*1)+[v].length) (eX x).length=true:=by
 rcases d with _|_|_|_|d<;>first|rfl|omega
def iN(i k:Nat):List Int:=(List.range' i k).map fun(j:Nat)=>(j:Int)-1
def pQ(D S:Int)(H:Nat):Nat→aO→Nat→List aO
 |0,x,_=>if aj9 x D S then [x] else []
 |m+1,x,d=>(iN 0 (H+1)).flatMap fun h=>pQ D S H m (x.set d h) (d+1)
theorem QV{i k:Nat}:iN i (k+1)=((i:Int)-1)::iN (i+1) k:=by simp[iN,List.range'_succ]
def apK:Code→Code
 | .cond _ x _=>x
 |_=> .skip
def Ya:Code→Code
 | .block _ (.loop c)=>c
 | .block _ c=>c
 | .loop c=>c
 |_=> .skip
def mW(c:Code)(i:Nat):Array Oper:=cX (jF [c]) i
def amN(c:Code)(i:Nat):Code:=((jF [c])[i]?).getD .skip
noncomputable def cA:Code:=apK (amM 136 2)
noncomputable def cB:Code:=apK (amN cA 1)
noncomputable def cL:Code:=Ya (amM 136 4)
noncomputable def cI:Code:=Ya (amN cL 2)
theorem XT:jF [B5 136]=[.region 0 (kG 136 0) false,.region 1 (kG 136 1) false,.cond (.tmp 15) cA .skip,.region 4 (kG 136 3) false,.block 0 (.loop cL)]:=by kernel_rfl
theorem aEi:jF [cA]=[.region 2 (mW cA 0) false,.cond (.tmp 18) cB .skip,.ret]:=by kernel_rfl
theorem aEh:jF [cB]=[.region 3 (mW cB 0) false]:=by kernel_rfl
theorem agP:jF [cL]=[.region 5 (mW cL 0) false,.cond (.tmp 28) .skip (.exit 0),.block 1 cI,.region 6 (mW cL 3) false]:=by kernel_rfl
theorem aEg:jF [cI]=[.region 7 (mW cI 0) false,.region 8 (mW cI 1) false]:=by kernel_rfl
section
variable {M:yg Tryz.prog 225 4} {Wg Mu Hb:Nat} {W:fy} {mg:Os} {eg:Array (Nat×ByteArray)}
theorem aBc(hM:IA M)(hD:1≤W.D∧W.D≤4)(hH1:W.H≤100000)
 (h1:ro b1=some (.cells ⟨[pV Hb]⟩ 95 (0,0)))(hH:ro Hb=some (.pending ⟨W.cells (.slice none 0 0)⟩ 105)):
 ∀(m:Nat) (x:aO) (d:Nat) (os:List aO) (cl:Frame) (EH:List Frame) (L:Cells),((d+m:Nat):Int)=W.D→
 dg Tryz.prog false ((fx M Wg Mu Hb W mg eg).Stp os) (G (cl.finish (.tuple #[])) EH) ⟨ro,L⟩→
 dg Tryz.prog false ((fx M Wg Mu Hb W mg eg).Stp (pQ W.D W.S W.H m x d++os)) (G (Frame.enter Tryz.prog 136 ⟨[pV Hb,.agg ⟨eX x⟩,.int .i64 (d:Int),.func (.func 130) ⟨[]⟩ ⟨[pV Mu,pV b1]⟩]⟩ .normal) (cl::EH)) ⟨ro,L⟩:=by
 intro m
 induction m with
 |zero=>
  intro x d os cl EH L hd hk
  have hT:=fun l=>cN Tryz.prog false ((fx M Wg Mu Hb W mg eg).Stp l)
  refine Ms (fn:=(Tryz.prog.funcs[136]?).getD default) (c:=B5 136) (n:=40) (by kernel_rfl) (by kernel_rfl) (by kernel_rfl) (by rfl)<|og (hT _) XT fun l1 OJ=>?_
  refine xg qm (hT _)<|jn fun b5=>jd 1 []<|u7<|og (hT _) OJ fun l2 y6=>?_
  refine xg qm (hT _)<|jd 5 []<|jlh (b:=Hb) (off:=5) (l:=W.cells (.slice none 0 0)) hH (by decide) rfl<|jd 2 []<|u7<|Ea (hT _) (t:=true) (q:=decide ((d:Int)=W.D)) y6 (by simp;omega) fun l3 hl3=>?_
  refine og (hT _) aEi fun l4 hl4=>?_
  refine xg qm (hT _)<|jd 2 [0]<|jp (vs:=[pV Hb,.agg ⟨eX x⟩]) [] [] (fun aR hs hZ=>ZD (hs _ _ hH) hD)<|jd 1 []<|u7 ?_
  cases hp:aj9 x W.D W.S with
  |false=>
   refine Ea (hT _) (t:=false) (q:=false) hl4 rfl fun l5 hl5=>?_
   refine Wh (hT _)<|Pm (hT _) hl5 fun l6 hl6=>?_
   have hg:pQ W.D W.S W.H 0 x d++os=os:=by simp only[pQ,hp];rfl
   rw[hg]
   exact ayf qm (hT _) (fn:=(Tryz.prog.funcs[136]?).getD default) (.tuple #[]) [] [1] L (by kernel_rfl) hk
  |true=>
   refine Ea (hT _) (t:=true) (q:=true) hl4 rfl fun l5 hl5=>?_
   have hg:pQ W.D W.S W.H 0 x d++os=x::os:=by simp only[pQ,hp];rfl
   rw[hg]
   refine og (hT _) aEh fun l7 hl7=>?_
   have:=kA hl7
   subst this
   show TT _ _ (.inRegion (mW cB 0) (0::[1,2])::_) _ _ _ _ _
   refine S6 (hT _) (a:=bV (mW cB 0) 0) (.func (.func 130) ⟨[]⟩ ⟨[pV Mu,pV b1]⟩) (by kernel_rfl) (by kernel_rfl) (by decide) rfl<|ayi (hT _) (a:=bV (mW cB 0) 1) (q:=b5) (x:= .tmp 5) (U:=112) (l:=eX x) (.agg ⟨eX x⟩) (by kernel_rfl) (by kernel_rfl) (by kernel_rfl) (by kernel_rfl) (by decide) rfl [0] 112<|S7 (hT _) (T':=dg Tryz.prog false ((fx M Wg Mu Hb W mg eg).Stp os)) (a:=bV (mW cB 0) 2) (y:= .tmp 19) (f:=130) (fi:=[]) (ca:=[pV Mu,pV b1]) (ws:=[.agg ⟨eX x⟩]) (xs:= #[.tmp 20]) (ats:=Oa (bV (mW cB 0) 2)) [.agg ⟨eX x⟩,pV Mu,pV b1] (by kernel_rfl) (by kernel_rfl) (by kernel_rfl) (jH (by kernel_rfl)) (by decide) rfl (fun cl2 L2 fe=>aMD hM h1 hH fe)<|J0 (hT _)<|Pm (l:=l5) (hT _) hl5 fun l6 hl6=>?_
   exact ayf qm (hT _) (fn:=(Tryz.prog.funcs[136]?).getD default) (.tuple #[]) [] [1] L (by kernel_rfl) hk
 |succ m ih=>
  intro x d os cl EH L hd hk
  have hT:=fun l=>cN Tryz.prog false ((fx M Wg Mu Hb W mg eg).Stp l)
  have hd4:d <4:=by omega
  refine Ms (fn:=(Tryz.prog.funcs[136]?).getD default) (c:=B5 136) (n:=40) (by kernel_rfl) (by kernel_rfl) (by kernel_rfl) (by rfl)<|og (hT _) XT fun l1 OJ=>?_
  refine xg qm (hT _)<|jn fun b5=>jd 1 []<|u7<|og (hT _) OJ fun l2 y6=>?_
  refine xg qm (hT _)<|jd 5 []<|jlh (b:=Hb) (off:=5) (l:=W.cells (.slice none 0 0)) hH (by decide) rfl<|jd 2 []<|u7<|Ea (hT _) (t:=false) (q:=decide ((d:Int)=W.D)) y6 (by simp;omega) fun l3 hl3=>?_
  refine Wh (hT _)<|og (hT _) hl3 fun l4 hl4=>?_
  refine xg qm (hT _)<|jd 2 []<|u7<|Mt (hT _) hl4 fun l5 hl5=>?_
  have:=kA hl5
  subst this
  refine anL (hT _) (rest:=[]) rfl fun l6 hl6=>?_
  have:=kA hl6
  subst this
  have loop:∀(r i:Nat) (y:aO) (q:Int),r+i=W.H+1→q=(i:Int)-1→(∀h,y.set d h=x.set d h)→∀rest,
   TT (dg Tryz.prog false ((fx M Wg Mu Hb W mg eg).Stp ((iN i r).flatMap (fun h=>pQ W.D W.S W.H m (x.set d h) (d+1))++os))) (JA 136 .normal) ([cL].map .code++(.inLoop cL::(.inBlock 0::[]))) (cl::EH) 40 [] ro
    (some ⟨.fin .normal,[(0,pV Hb),(2,.int .i64 (d:Int)),(3,.func (.func 130) ⟨[]⟩ ⟨[pV Mu,pV b1]⟩),(5,pV b5),(8,.int .i64 q)]++rest,[.b b5 (.cells ⟨eX y⟩ 112 (0,0)),.l L],⟨[],[]⟩⟩):=by
   intro r
   induction r with
   |zero=>
    intro i y q hi hq hy rest
    refine og (hT _) agP fun m1 mh=>?_
    refine xg qm (hT _)<|jd 4 []<|jlh (b:=Hb) (off:=8) (l:=W.cells (.slice none 0 0)) hH (by decide) rfl<|jd 3 []<|u7<|Ea (hT _) (t:=false) (q:=decide (q <(W.H:Int))) mh (by simp;omega) fun m2 IP=>?_
    refine anM (hT _) (k':=[]) (by rw[AT];simp[exitTo]) ?_
    exact ayj (hT os) (fn:=(Tryz.prog.funcs[136]?).getD default) [1] L (by kernel_rfl) (by kernel_rfl) hk
   |succ r ih2=>
    intro i y q hi hq hy rest
    have hs:(iN i (r+1)).flatMap (fun h=>pQ W.D W.S W.H m (x.set d h) (d+1))++os=pQ W.D W.S W.H m (y.set d q) (d+1)++((iN (i+1) r).flatMap (fun h=>pQ W.D W.S W.H m (x.set d h) (d+1))++os):=by
     rw[QV,List.flatMap_cons,List.append_assoc,hy,hq]
    rw[hs]
    refine og (hT _) agP fun m1 mh=>?_
    refine xg qm (hT _)<|jd 4 []<|jlh (b:=Hb) (off:=8) (l:=W.cells (.slice none 0 0)) hH (by decide) rfl<|jd 3 []<|u7<|Ea (hT _) (t:=true) (q:=decide (q <(W.H:Int))) mh (by simp;omega) fun m2 IP=>?_
    refine Wh (hT _)<|Mt (hT _) IP fun m3 hm3=>?_
    refine og (hT _) aEg fun m4 hm4=>?_
    refine xg qm (hT _)<|jd 2 []<|xa (b:=b5) (off:=0) (len:=4) (sz:=1) (d:Int) (by omega)<|jsx 0 b5 (0+(d:Int).toNat*1) (eX y) [.int .i64 q] 112 (by intro v hv;rw[List.mem_singleton] at hv;subst hv;rfl) (aeE hd4) ?_
    refine jmw 0 [.b b5 (.cells ⟨eX (y.set d q)⟩ 112 (0,0))] (L:=[(b5,.cells ⟨dI (eX y) (0+(d:Int).toNat*1) [.int .i64 q]⟩ 112 (0,0))]) (by rw[aeD hd4];rfl) ?_
    refine jd 1 []<|u7<|og (hT _) hm4 fun m5 hm5=>?_
    have:=kA hm5
    subst this
    show TT _ _ (.inRegion (mW cI 1) (0::[1,2,3,4,5])::_) _ _ _ _ _
    refine S6 (hT _) (a:=bV (mW cI 1) 0) (pV Hb) (by kernel_rfl) (by kernel_rfl) (by decide) rfl<|ayi (hT _) (a:=bV (mW cI 1) 1) (q:=b5) (x:= .tmp 5) (U:=112) (l:=eX (y.set d q)) (.agg ⟨eX (y.set d q)⟩) (by kernel_rfl) (by kernel_rfl) (by kernel_rfl) (by kernel_rfl) (by decide) rfl [0] 112<|S6 (hT _) (a:=bV (mW cI 1) 2) (.int .i64 (d:Int)) (by kernel_rfl) (by kernel_rfl) (by decide) rfl<|S6 (hT _) (a:=bV (mW cI 1) 3) (.int .i64 (IntKind.i64.wrap ((d:Int)+1))) (by kernel_rfl) (by kernel_rfl) (by decide) rfl<|S6 (hT _) (a:=bV (mW cI 1) 4) (.func (.func 130) ⟨[]⟩ ⟨[pV Mu,pV b1]⟩) (by kernel_rfl) (by kernel_rfl) (by decide) rfl ?_
    refine S7 (hT _) (T':=dg Tryz.prog false ((fx M Wg Mu Hb W mg eg).Stp ((iN (i+1) r).flatMap (fun h=>pQ W.D W.S W.H m (x.set d h) (d+1))++os))) (a:=bV (mW cI 1) 5) (y:= .func 136) (f:=136) (fi:=[]) (ca:=[]) (ws:=[pV Hb,.agg ⟨eX (y.set d q)⟩,.int .i64 (IntKind.i64.wrap ((d:Int)+1)),.func (.func 130) ⟨[]⟩ ⟨[pV Mu,pV b1]⟩]) (xs:= #[.tmp 34,.tmp 35,.tmp 37,.tmp 38]) (ats:=Oa (bV (mW cI 1) 5))
     [pV Hb,.agg ⟨eX (y.set d q)⟩,.int .i64 ((d+1:Nat):Int),.func (.func 130) ⟨[]⟩ ⟨[pV Mu,pV b1]⟩] (by kernel_rfl) (by kernel_rfl) (by kernel_rfl) (jH (by kernel_rfl)) (by decide) rfl (fun cl2 L2 fe=>ih (y.set d q) (d+1) _ cl2 (cl::EH) L2 (by omega) fe) ?_ (hvs:=by rw[ir _ (by omega)];rfl)
    refine J0 (hT _)<|anN (hT _)<|og (hT _) hm3 fun m7 hm7=>?_
    have:=kA hm7
    subst this
    refine xg qm (hT _)<|jd 1 []<|ja (q+1) (by omega)<|jd 2 []<|u7<|acd (hT _)<|tSt (hT _) [(0,pV Hb),(2,.int .i64 (d:Int)),(3,.func (.func 130) ⟨[]⟩ ⟨[pV Mu,pV b1]⟩),(5,pV b5),(8,.int .i64 (q+1))] [.b b5 (.cells ⟨eX (y.set d q)⟩ 112 (0,0)),.l L] [0,1] fun rest=>ih2 (i+1) (y.set d q) (q+1) (by omega) (by omega) (fun h=>by rw[aO.set_set,hy]) rest
  exact tSt (hT _) [(0,pV Hb),(2,.int .i64 (d:Int)),(3,.func (.func 130) ⟨[]⟩ ⟨[pV Mu,pV b1]⟩),(5,pV b5),(8,.int .i64 (-1))] [.b b5 (.cells ⟨eX x⟩ 112 (0,0)),.l L] [0,1] fun rest=>loop (W.H+1) 0 x (-1) (by omega) (by omega) (fun h=>rfl) rest
end
noncomputable def ahu(v:Nat):Nat:=((sP Tryz.prog 231 v (Frame.enter Tryz.prog 133 #[.pointer (some ⟨0,0,none⟩),.int .i64 1] .normal)).getD []).length
noncomputable def aR4:Nat:=((vV Tryz.prog 231 4 (Frame.enter Tryz.prog 135 #[.pointer (some ⟨0,0,none⟩)] .deferred)).getD []).length
theorem auZ(W:Nat):sP Tryz.prog 231 0 (Frame.enter Tryz.prog 133 #[.pointer (some ⟨W,0,none⟩),.int .i64 1] .normal)=some (List.replicate (ahu 0) W):=by kernel_rfl
theorem auY(W:Nat):sP Tryz.prog 231 1 (Frame.enter Tryz.prog 133 #[.pointer (some ⟨W,0,none⟩),.int .i64 1] .normal)=some (List.replicate (ahu 1) W):=by kernel_rfl
theorem auX(W:Nat):sP Tryz.prog 231 2 (Frame.enter Tryz.prog 133 #[.pointer (some ⟨W,0,none⟩),.int .i64 1] .normal)=some (List.replicate (ahu 2) W):=by kernel_rfl
theorem auW(W:Nat):sP Tryz.prog 231 3 (Frame.enter Tryz.prog 133 #[.pointer (some ⟨W,0,none⟩),.int .i64 1] .normal)=some (List.replicate (ahu 3) W):=by kernel_rfl
theorem aD1(v:Nat)(h:v <4)(W:Nat):sP Tryz.prog 231 v (Frame.enter Tryz.prog 133 #[.pointer (some ⟨W,0,none⟩),.int .i64 1] .normal)=some (List.replicate (ahu v) W):=by
 match v,h with
 |0,_=>exact auZ W
 |1,_=>exact auY W
 |2,_=>exact auX W
 |3,_=>exact auW W
theorem auV(W:Nat):vV Tryz.prog 231 4 (Frame.enter Tryz.prog 135 #[.pointer (some ⟨W,0,none⟩)] .deferred)=some (List.replicate aR4 W):=by kernel_rfl
theorem amw:jF [B5 134]=[.region 0 (kG 134 0) false,.region 1 (kG 134 1) false]:=by kernel_rfl
section
variable {M:yg Tryz.prog 225 4} {Wg Mu Hb:Nat} {W:fy} {mg:Os} {eg:Array (Nat×ByteArray)}
theorem asF(hM:IA M){bh ba:Nat}(hD:1≤W.D∧W.D≤4)(hH1:W.H≤100000)
 (h1:ro b1=some (.cells ⟨[pV Hb]⟩ 95 (0,0)))(hH:ro Hb=some (.pending ⟨W.cells (.slice none 0 0)⟩ 105))
 (gh:ro bh=some (.cells ⟨[.int .i64 h]⟩ 3 (0,0)))(ga:ro ba=some (.cells ⟨[.func (.func 130) ⟨[]⟩ ⟨[pV Mu,pV b1]⟩]⟩ 232 (0,0))):
 dg Tryz.prog false ((fx M Wg Mu Hb W mg eg).Stp (pQ W.D W.S W.H (W.D.toNat-1) ⟨h,0,0,0⟩ 1)) (born Tryz.prog {target:= .fn (.func 134) ⟨[pV Wg,pV b1,pV bh,pV ba]⟩,args:= #[]}) ⟨ro,[]⟩:=by
 have hT:=fun l=>cN Tryz.prog false ((fx M Wg Mu Hb W mg eg).Stp l)
 refine ayl (fn:=(Tryz.prog.funcs[134]?).getD default) (c:=B5 134) (n:=9) (by kernel_rfl) (by kernel_rfl) (by kernel_rfl) (by kernel_rfl) (by rfl)<|og (hT _) amw fun l1 OJ=>?_
 show TT _ _ (.inRegion (kG 134 0) [0]::_) _ _ _ _ _
 refine aca (hT _) (a:=bV (kG 134 0) 0) (f:=135) (xs:= #[.tmp 0]) (vs:=[pV Wg]) (ats:=Oa (bV (kG 134 0) 0)) (by kernel_rfl) (by kernel_rfl) (by kernel_rfl) (by decide) rfl<|og (hT _) OJ fun l2 y6=>?_
 have:=kA y6
 subst this
 show TT _ _ (.inRegion (kG 134 1) (0::[1,2,3,4])::_) _ _ _ _ _
 refine tLd (hT _) (pV Hb) (a:=bV (kG 134 1) 0) (x:= .tmp 1) (U:=95) (q:=b1) (by kernel_rfl) (by kernel_rfl) (by kernel_rfl) (by kernel_rfl) (by decide) rfl (fun _ _ _ _=> .inl h1)<|tLd (hT _) (.int .i64 h) (a:=bV (kG 134 1) 1) (x:= .tmp 2) (U:=3) (q:=bh) (by kernel_rfl) (by kernel_rfl) (by kernel_rfl) (by kernel_rfl) (by decide) rfl (fun _ _ _ _=> .inl gh)<|S6 (hT _) (a:=bV (kG 134 1) 2) (.agg ⟨eX ⟨h,0,0,0⟩⟩) (by kernel_rfl) (by kernel_rfl) (by decide) rfl<|tLd (hT _) (.func (.func 130) ⟨[]⟩ ⟨[pV Mu,pV b1]⟩) (a:=bV (kG 134 1) 3) (x:= .tmp 3) (U:=232) (q:=ba) (by kernel_rfl) (by kernel_rfl) (by kernel_rfl) (by kernel_rfl) (by decide) rfl (fun _ _ _ _=> .inl ga) ?_
 refine S7 (hT _) (T':=dg Tryz.prog false ((fx M Wg Mu Hb W mg eg).Stp [])) (a:=bV (kG 134 1) 4) (y:= .func 136) (f:=136) (fi:=[]) (ca:=[]) (ws:=[pV Hb,.agg ⟨eX ⟨h,0,0,0⟩⟩,.int .i64 1,.func (.func 130) ⟨[]⟩ ⟨[pV Mu,pV b1]⟩]) (xs:= #[.tmp 4,.tmp 6,.const (.int .i64 1),.tmp 7]) (ats:=Oa (bV (kG 134 1) 4))
  [pV Hb,.agg ⟨eX ⟨h,0,0,0⟩⟩,.int .i64 ((1:Nat):Int),.func (.func 130) ⟨[]⟩ ⟨[pV Mu,pV b1]⟩] (by kernel_rfl) (by kernel_rfl) (by kernel_rfl) (jH (by kernel_rfl)) (by decide) rfl (fun cl2 L2 fe=>?_) ?_
 ·have:=aBc hM (Wg:=Wg) (mg:=mg) (eg:=eg) hD hH1 h1 hH (W.D.toNat-1) ⟨h,0,0,0⟩ 1 [] cl2 [dR Tryz.prog] L2 (by omega) fe
  rwa[List.append_nil] at this
 refine J0 (hT _)<|ajt (E:=fx M Wg Mu Hb W mg eg) (fn:=(Tryz.prog.funcs[134]?).getD default) (dn:=135) (by kernel_rfl) (by kernel_rfl) (by kernel_rfl) (auV Wg) FH rfl rfl
end
section
variable {M:yg Tryz.prog 225 4} {Wg Mu Hb:Nat} {W:fy} {mg:Os} {eg:Array (Nat×ByteArray)} {Fin:Goroutine→Prop} {c:Frame} {cs:List Frame}
def b1E(P:Program)(ty:TypeId):List Frame→Bool
 |f::s=>match SV P ty dr f s with
  |some (_,_,_,_,b1,_)=>b1.isEmpty
  |none=>false
 | []=>false
theorem acp{P:Program}{ty:TypeId}{X:Nat}{main:Bool}{Live:World→Prop}{st:Frame→Bool}{ds Dz:List FD}{cs:List Frame}{g:Goroutine}(hL:∀w,Live w→fF ty X w dr){ks:List (Nat×Nat)}(h:∀v,Comes X Dz [] ks (iG st P ty dr (cH ds v)))(hb:∀v,b1E P ty (cH ds v)=true)(cb:AtD ds cs g):
 ∃g',(∀w,stepG P main g w= .go g' w (ks.map (xX X)).toArray)∧∃m,Pure P main Live (AtD Dz cs) m g':=by
 obtain⟨f,fs,h1,rfl⟩:=cb
 obtain⟨v,hv⟩:=h1.mk
 have h:=h v
 have hb:=hb v
 rw[←hv] at h hb
 obtain⟨f',s',bs,h2,h3,h4⟩:=h.ok
 simp only[iG] at h2
 split at h2<;>try (cases h2;done)
 rename_i jO dH ws' ks' b1 b2 h5
 split at h2<;>try (cases h2;done)
 rename_i f2 s2 b3 h6
 simp only[Option.some.injEq,Prod.mk.injEq] at h2
 obtain⟨rfl,rfl,rfl,rfl,rfl⟩:=h2
 simp only[b1E,h5,List.isEmpty_iff] at hb
 exact⟨_,fun w=>Bh h5 (fun b hm=>h4 b (by simp[hm])) (fun b hm=>h4 b (by simp[hm])) (.inl ⟨rfl,hb⟩) cs main,Ny hL h6 (fun b hm=>h4 b (by simp[hm])) cs fun g hg=>⟨_,_,h3,hg⟩⟩
theorem aIU(X:Nat)(v:Nat→Nat→Value):b1E Tryz.prog 231 (cH (sKd X) v)=true:=by kernel_rfl
section
variable (hF:Fin (G (c.finish (.tuple #[])) cs)) (fN:∀g g',g.status= .running→g'.status= .running→(∀w,stepG Tryz.prog true g w= .go g' w #[])→Fin g'→Fin g)
include hF fN
theorem anu{g:Goroutine}(h:AtD (I3 Wg) (c::cs) g):∃g',(∀w,WgAt 231 Wg w 0 0→stepG Tryz.prog true g w= .go g' w #[rd (stA Wg)])∧(fx M Wg Mu Hb W mg eg).pw ((fx M Wg Mu Hb W mg eg).Ke Fin) g':=by
 obtain⟨f,fs,h1,rfl⟩:=h
 obtain⟨v,hv⟩:=h1.mk
 have h2:=w_0 Wg v
 rw[←hv] at h2
 obtain⟨f',s',oC,k1,k2,k3⟩:=dv h2 FH
 exact⟨_,fun w hw=>k3 _ _ w (.inr (gf (fx M Wg Mu Hb W mg eg).jK hw)),oO (E:=fx M Wg Mu Hb W mg eg) k1 k2 fun _ _ _ k1 k2=>yN (E:=fx M Wg Mu Hb W mg eg) hF fN k1 k2⟩
theorem axB{g:Goroutine}(h1:1≤n)(h4:n≤4)(h:AtD (Ed Wg n) (c::cs) g):∃g',(∀w,WgAt 231 Wg w ((n:Int)*KK) 0→stepG Tryz.prog true g w= .go g' (w.setCell (stA Wg) (.int .u64 ((n:Int)*KK+1))) #[rd (stA Wg),Go.ConcR.wr (stA Wg)])∧(fx M Wg Mu Hb W mg eg).pw ((fx M Wg Mu Hb W mg eg).Wr Fin) g':=by
 obtain⟨f,fs,hf,rfl⟩:=h
 obtain⟨v,hv⟩:=hf.mk
 obtain⟨k,h2⟩:=w_h Wg v h1 h4
 rw[←hv] at h2
 obtain⟨f',s',oC,k1,k2,k3⟩:=dv h2 FH
 exact⟨_,fun w hw=>k3 _ _ w (.inr (gf (fx M Wg Mu Hb W mg eg).jK hw)),oO (E:=fx M Wg Mu Hb W mg eg) k1 k2 fun _ _ _ k1 k2=>LA (E:=fx M Wg Mu Hb W mg eg) hF fN k1 k2⟩
theorem ant:∀(b:Nat),b≤4→∀ {g:Goroutine},AtD (I3 Wg) (c::cs) g→(fx M Wg Mu Hb W mg eg).W1 Fin b g
 |0,_,g,h=>⟨h.run.1,anu hF fN h⟩
 |b+1,hb,g,h=>by
  refine⟨h.run.1,anu hF fN h,fun n h1 h2=>?_⟩
  obtain⟨g',k1,m,k2⟩:=Mw (main:=true) (Live:=(fx M Wg Mu Hb W mg eg).jK.live) (fun w hw=>nO (fx M Wg Mu Hb W mg eg).jK hw) (fun v=>w_v Wg v h1 (by omega)) h
  refine⟨g',fun w hw=>k1 w (gf (fx M Wg Mu Hb W mg eg).jK hw),m,q6 (fun g hg=>?_) k2⟩
  refine⟨hg.run.1,axB hF fN h1 (by omega) hg,fun k hk=>?_⟩
  obtain⟨g2,j1,m2,j2⟩:=Mw (main:=true) (Live:=(fx M Wg Mu Hb W mg eg).jK.live) (fun w hw=>nO (fx M Wg Mu Hb W mg eg).jK hw) (fun v=>w_m Wg v (show n≤4 by omega) hk) hg
  exact⟨g2,fun w hw=>j1 w (gf (fx M Wg Mu Hb W mg eg).jK hw),m2,q6 (fun g hg=>ant b (by omega) hg) j2⟩
theorem ai5:(fx M Wg Mu Hb W mg eg).pw ((fx M Wg Mu Hb W mg eg).Kd Fin) (G (Frame.enter Tryz.prog 137 #[pV Wg] .normal) (c::cs)):=by
 obtain⟨m,hm⟩:=yo (main:=true) (Live:=(fx M Wg Mu Hb W mg eg).jK.live) (fun w hw=>nO (fx M Wg Mu Hb W mg eg).jK hw) (aIV Wg) (c::cs)
 refine⟨m,q6 (fun g hg=>?_) hm⟩
 obtain⟨g',k1,m2,k2⟩:=acp (main:=true) (Live:=(fx M Wg Mu Hb W mg eg).jK.live) (fun w hw=>nO (fx M Wg Mu Hb W mg eg).jK hw) (fun v=>aIT Wg v) (fun v=>aIU Wg v) hg
 exact⟨hg.run.1,g',fun w=>k1 w,m2,q6 (fun g hg=>ant hF fN 4 (by omega) hg) k2⟩
end
end
noncomputable def lL:Code:=Ya (amM 97 5)
noncomputable def lI:Code:=Ya (amN lL 2)
theorem avc:jF [B5 97]=[.region 0 (kG 97 0) false,.region 1 (kG 97 1) false,.region 2 (kG 97 2) false,.region 3 (kG 97 3) false,.region 4 (kG 97 4) false,.block 0 (.loop lL),.region 11 (kG 97 6) false]:=by kernel_rfl
theorem agQ:jF [lL]=[amN lL 0,.cond (.tmp 13) .skip (.exit 0),.block 1 lI,.region 9 (mW lL 3) false,.region 10 (mW lL 4) false,.region 6 (mW lL 5) false]:=by kernel_rfl
theorem avb:jF [lI]=[.region 7 (mW lI 0) false,.region 8 (mW lI 1) false]:=by kernel_rfl
def wkL(W:fy)(h:Int):List aO:=pQ W.D W.S W.H (W.D.toNat-1) ⟨h,0,0,0⟩ 1
def Aw(W:fy):List aO:=(iN 0 (W.H+1)).flatMap (wkL W)
theorem sM{f:α→List β}{B:Nat}:∀ {l:List α},(∀x∈l,(f x).length≤B)→(l.flatMap f).length≤l.length*B
 | [],_=>by simp
 |x::l,h=>by
  have h1:=h x (by simp)
  have h2:=sM (l:=l) fun y hy=>h y (by simp[hy])
  simp only[List.flatMap_cons,List.length_append,List.length_cons,Nat.succ_mul]
  omega
theorem AF(i k:Nat):(iN i k).length=k:=by simp[iN]
theorem KZ{S:Int}{H:Nat}:∀(m:Nat) (x:aO) (d:Nat),(pQ D S H m x d).length≤(H+1)^m
 |0,x,d=>by
  simp only[pQ]
  split<;>simp
 |m+1,x,d=>by
  have:=sM (f:=fun h=>pQ D S H m (x.set d h) (d+1)) (l:=iN 0 (H+1)) (B:=(H+1)^m) fun h _=>KZ m _ _
  rw[AF] at this
  simp only[pQ,Nat.pow_succ]
  rw[Nat.mul_comm];exact this
theorem Mc{W:fy}(hD:1≤W.D∧W.D≤4)(hH:W.H≤3)(h:Int):(wkL W h).length≤64:=by
 refine Nat.le_trans (KZ _ _ _)<|Nat.le_trans (Nat.pow_le_pow_left (show W.H+1≤4 by omega) _)<|Nat.le_trans (Nat.pow_le_pow_right (by omega) (show W.D.toNat-1≤3 by omega)) (by decide)
theorem QW(i k:Nat):iN i (k+1)=iN i k++[((i+k:Nat):Int)-1]:=by
 simp[iN,List.range'_concat]
section
variable {M:yg Tryz.prog 225 4} {W:fy}
theorem aBb(hM:IA M)(hD:1≤W.D∧W.D≤4)(hH3:W.H≤3):
 EY Tryz.prog 97 [pV Hb] ro [(Hb,.cells ⟨W.cells (.slice none 0 0)⟩ 105 (0,0))] (fun v Y=>v= .tuple #[]∧∃l u X,l.Perm (Aw W)∧aK u 4 112 eX l X∧Y=(Hb,.cells ⟨W.cells u⟩ 105 (0,0))::X):=by
 rintro fr main T ⟨rfl,mg,eg,Post,rfl⟩ cl EH kr _
 have hT:=Ad Tryz.prog mg eg Post
 refine Ms (fn:=(Tryz.prog.funcs[97]?).getD default) (c:=B5 97) (n:=20) (by kernel_rfl) (by kernel_rfl) (by kernel_rfl) (by rfl)<|og hT avc fun l1 OJ=>?_
 refine xg qm hT<|jn fun b1=>jd 1 []<|jg 1 [.b Hb (.cells ⟨W.cells (.slice none 0 0)⟩ 105 (0,0)),.l fr]<|u7<|og hT OJ fun l2 y6=>?_
 show TT _ _ (.inRegion (kG 97 1) (0::[])::_) _ _ _ _ _
 refine ayg hT (a:=bV (kG 97 1) 0) (f:=fun q=> .pointer (some ⟨q,0,none⟩)) (ob:= .cells #[.int .i32 0,.int .u32 0] 225 (0,0)) (by kernel_rfl) (by kernel_rfl) (fun e q=>by kernel_rfl) (by decide) rfl fun Mu=>?_
 refine J0 hT<|og hT y6 fun l3 hl3=>?_
 show TT _ _ (.inRegion (kG 97 2) (0::[])::_) _ _ _ _ _
 refine ayg hT (a:=bV (kG 97 2) 0) (f:=fun q=> .pointer (some ⟨q,0,none⟩)) (ob:=wgBlock 231 0 0) (by kernel_rfl) (by kernel_rfl) (fun e q=>by kernel_rfl) (by decide) rfl fun Wg=>?_
 refine J0 hT<|og hT hl3 fun l4 hl4=>?_
 refine xg qm hT<|jd 1 []<|jn fun ba=>jd 2 [0]<|u7<|aju (E:=fx M Wg Mu Hb W mg eg) (Fin:=VV (fx M Wg Mu Hb W mg eg) (Good Tryz.prog Post) (Aw W) (Sj (fx M Wg Mu Hb W mg eg) ro ((ba,.cells ⟨[.func (.func 130) ⟨[]⟩ ⟨[pV Mu,pV b1]⟩]⟩ 232 (0,0))::(b1,.cells ⟨[pV Hb]⟩ 95 (0,0))::fr))) (Q:=Good Tryz.prog Post) (v0:= .slice none 0 0) 1 2 4 ((ba,.cells ⟨[.func (.func 130) ⟨[]⟩ ⟨[pV Mu,pV b1]⟩]⟩ 232 (0,0))::(b1,.cells ⟨[pV Hb]⟩ 95 (0,0))::fr) hT (aK.nil _ _ _) (fun L aV hl=>?_)
 have gba:aV ba=some (.cells ⟨[.func (.func 130) ⟨[]⟩ ⟨[pV Mu,pV b1]⟩]⟩ 232 (0,0)):=hl.kn _ (.head _)
 have gb1:aV b1=some (.cells ⟨[pV Hb]⟩ 95 (0,0)):=hl.kn _ (.tail _ (.head _))
 have gH:aV Hb=some (.pending ⟨W.cells (.slice none 0 0)⟩ 105):=hl.hole
 generalize aRa:VV (fx M Wg Mu Hb W mg eg) (Good Tryz.prog Post) (Aw W) (Sj (fx M Wg Mu Hb W mg eg) ro ((ba,.cells ⟨[.func (.func 130) ⟨[]⟩ ⟨[pV Mu,pV b1]⟩]⟩ 232 (0,0))::(b1,.cells ⟨[pV Hb]⟩ 95 (0,0))::fr))=Fin
 have y9:∀pend nw os,Closed Tryz.prog true (TG (fx M Wg Mu Hb W mg eg) Fin L (Good Tryz.prog Post) pend nw os 0):=fun pend nw os=>ug (E:=fx M Wg Mu Hb W mg eg)
 refine og (y9 0 0 []) hl4 fun l5 hl5=>?_
 refine xg qm (y9 _ _ _)<|jn fun b0=>jd 2 [0]<|u7<|Mt (y9 _ _ _) hl5 fun l6 hl6=>?_
 refine anL (y9 _ _ _) (rest:=[]) rfl fun l7 hl7=>?_
 have:=kA hl7
 subst this
 have loop:∀(r i:Nat) (q:Int) (bh:Nat) (tS:Nat→Option Obj),r+i=W.H+1→q=(i:Int)-1→Sub aV tS→∀rest,
  TT (TG (fx M Wg Mu Hb W mg eg) Fin L (Good Tryz.prog Post) 0 i ((iN 0 i).flatMap (wkL W)) 0) (JA 97 .normal) ([lL].map .code++(.inLoop lL::(.inBlock 0::(l6.map .code++[])))) (cl::EH) 20 [] tS
   (some ⟨.fin .normal,[(1,pV b1),(3,pV Wg),(4,pV ba),(5,pV bh)]++rest,[.b bh (.cells ⟨[.int .i64 q]⟩ 3 (0,0))],⟨[],[]⟩⟩):=by
  intro r
  induction r with
  |zero=>
   intro i q bh tS hi hq hs rest
   have hH2:=hs _ _ gH
   refine Pm (y9 _ _ _) agQ fun m1 mh=>?_
   refine acb qm (y9 _ _ _)<|jd 2 [0]<|jl (b:=b1) (off:=0) (m:=1) (vs:=[pV Hb]) 0 ⟨_,_,_,.inl (hs _ _ gb1),rfl⟩<|jd 2 []<|jlh (b:=Hb) (off:=8) (l:=W.cells (.slice none 0 0)) hH2 (by decide) rfl<|jd 3 []<|u7<|Ea (y9 _ _ _) (t:=false) (q:=decide (q <(W.H:Int))) mh (by simp;omega) fun m2 IP=>?_
   refine anM (y9 _ _ _) (k':=l6.map .code++[]) (by rw[AT];simp[exitTo]) ?_
   refine og (y9 _ _ _) hl6 fun l8 hl8=>?_
   have:=kA hl8
   subst this
   show TT _ _ (.inRegion (kG 97 6) [0]::_) _ _ _ _ _
   have:i=W.H+1:=by omega
   subst this aRa
   refine aqT (E:=fx M Wg Mu Hb W mg eg) (a:=bV (kG 97 6) 0) (f:=137) (x:= .tmp 3) (ats:=Oa (bV (kG 97 6) 0)) hl hs hT (fun l u X1 hp gK=>?_) (by kernel_rfl) (by kernel_rfl) (by kernel_rfl) (jH (by kernel_rfl)) (by decide) rfl (fun Fin c cs hF fN=>ai5 hF fN)
   refine ayj hT (fn:=(Tryz.prog.funcs[97]?).getD default) [0] ((Hb,.cells ⟨W.cells u⟩ 105 (0,0))::(X1++((ba,.cells ⟨[.func (.func 130) ⟨[]⟩ ⟨[pV Mu,pV b1]⟩]⟩ 232 (0,0))::(b1,.cells ⟨[pV Hb]⟩ 95 (0,0))::fr))) (by kernel_rfl) (by kernel_rfl)<|kr (.tuple #[]) _ ⟨_,(Hb,.cells ⟨W.cells u⟩ 105 (0,0))::X1,rfl,dF (J:=[(ba,.cells ⟨[.func (.func 130) ⟨[]⟩ ⟨[pV Mu,pV b1]⟩]⟩ 232 (0,0)),(b1,.cells ⟨[pV Hb]⟩ 95 (0,0))]) ?_ (Sub.refl _),rfl,l,u,X1,hp,gK,rfl⟩
   rw[List.cons_append,List.cons_append,List.append_assoc]
   exact .cons _ (.append_left _ (List.perm_append_comm (l₁:=[_,_])))
  |succ r ih=>
   intro i q bh tS hi hq hs rest
   have hH2:=hs _ _ gH
   refine Pm (y9 _ _ _) agQ fun m1 mh=>?_
   refine acb qm (y9 _ _ _)<|jd 2 [0]<|jl (b:=b1) (off:=0) (m:=1) (vs:=[pV Hb]) 0 ⟨_,_,_,.inl (hs _ _ gb1),rfl⟩<|jd 2 []<|jlh (b:=Hb) (off:=8) (l:=W.cells (.slice none 0 0)) hH2 (by decide) rfl<|jd 3 []<|u7<|Ea (y9 _ _ _) (t:=true) (q:=decide (q <(W.H:Int))) mh (by simp;omega) fun m2 IP=>?_
   refine Wh (y9 _ _ _)<|Mt (y9 _ _ _) IP fun m3 hm3=>?_
   refine og (y9 _ _ _) avb fun m4 hm4=>?_
   show TT _ _ (.inRegion (mW lI 0) [0]::_) _ _ _ _ _
   refine aym (E:=fx M Wg Mu Hb W mg eg) (a:=bV (mW lI 0) 0) (f:=133) (x:= .tmp 3) (ats:=Oa (bV (mW lI 0) 0)) ?_ (by kernel_rfl) (by kernel_rfl) (by kernel_rfl) (jH (by kernel_rfl)) (by decide) rfl (by show i <4;omega) (aD1 i (by omega) Wg) FH
   refine og (y9 1 _ _) hm4 fun m5 hm5=>?_
   have:=kA hm5
   subst this
   show TT _ _ (.inRegion (mW lI 1) (0::[1])::_) _ _ _ _ _
   refine S6 (y9 1 _ _) (a:=bV (mW lI 1) 0) (.func (.func 134) ⟨[]⟩ ⟨[pV Wg,pV b1,pV bh,pV ba]⟩) (by kernel_rfl) (by kernel_rfl) (by decide) rfl ?_
   have y7:((iN 0 i).flatMap (wkL W)++wkL W q).length≤5000:=by
    have e1:=Mc hD hH3 q
    have e2:=sM (f:=wkL W) (l:=iN 0 i) (B:=64) fun h _=>Mc hD hH3 h
    rw[AF] at e2
    rw[List.length_append]
    omega
   refine aJM (E:=fx M Wg Mu Hb W mg eg) (wkL W q) (a:=bV (mW lI 1) 1) (f:=134) (y:= .tmp 17) (ca:=[pV Wg,pV b1,pV bh,pV ba]) (ats:=Oa (bV (mW lI 1) 1)) [(bh,.cells ⟨[.int .i64 q]⟩ 3 (0,0))] y7 (by kernel_rfl) (by kernel_rfl) (by kernel_rfl) (by decide) rfl (fun yW hs3 Fe=>⟨?_,?_⟩)
   ·have h13:=Sub.trans hs hs3
    exact asF hM hD (by omega) (h13 _ _ gb1) (h13 _ _ gH) (Fe _ (.head _)) (h13 _ _ gba)
   have UN:(iN 0 i).flatMap (wkL W)++wkL W q=(iN 0 (i+1)).flatMap (wkL W):=by
    rw[QW,List.flatMap_append,Nat.zero_add,←hq];simp
   rw[UN]
   refine J0 (y9 _ _ _) (anN (y9 _ _ _) ?_)
   refine og (y9 _ _ _) hm3 fun m7 hm7=>?_
   refine xg qm (y9 _ _ _)<|jl (b:=bh) (off:=0) (m:=1) (vs:=[.int .i64 q]) 0 ⟨_,_,_,.inl (Fe _ (.head _)),rfl⟩<|jd 1 []<|u7<|og (y9 _ _ _) hm7 fun m8 hm8=>?_
   refine xg qm (y9 _ _ _)<|jn fun bn=>jd 2 [0]<|u7<|og (y9 _ _ _) hm8 fun m9 hm9=>?_
   have:=kA hm9
   subst this
   refine xg qm (y9 _ _ _)<|jd 1 [0]<|ja (q+1) (by omega)<|jd 2 [0]<|u7<|acd (y9 _ _ _)<|tSt (y9 _ _ _) [(1,pV b1),(3,pV Wg),(4,pV ba),(5,pV bn)] [.b bn (.cells ⟨[.int .i64 (q+1)]⟩ 3 (0,0))] [0] fun rest=>ih (i+1) (q+1) bn yW (by omega) (by omega) (Sub.trans hs hs3) rest
 exact tSt (y9 _ _ _) [(1,pV b1),(3,pV Wg),(4,pV ba),(5,pV b0)] [.b b0 (.cells ⟨[.int .i64 (-1)]⟩ 3 (0,0))] [0] fun rest=>loop (W.H+1) 0 (-1) b0 aV (by omega) (by omega) (Sub.refl _) rest
end
noncomputable def ar0:yg Tryz.prog 225 4 where
 At:=Kt.At
 running:=Kt.running
 step:=fun h1 h2 h3=>Kt.step h1 h2 (Nat.le_trans h3 (by omega))
 block:=Kt.block
 la:=Kt.la
 ue:=Kt.ue
theorem aAp:IA ar0:=⟨fun Mu k cs=>Uj (W:=Mu) (cs:=cs) k,fun Mu k cs=>Ml (W:=Mu) (cs:=cs) k⟩
theorem aeX{W:fy}(hD:1≤W.D∧W.D≤4)(hH3:W.H≤3):
 EY Tryz.prog 97 [pV Hb] ro [(Hb,.cells ⟨W.cells (.slice none 0 0)⟩ 105 (0,0))] (fun v Y=>v= .tuple #[]∧∃l u X,l.Perm (Aw W)∧aK u 4 112 eX l X∧Y=(Hb,.cells ⟨W.cells u⟩ 105 (0,0))::X):=aBb aAp hD hH3
section
variable {X:Cx} {o:Option JS}
theorem jcF{f:FuncId}{vs:List Value}{own:Cells}{Φ:Value→Cells→Prop}(ps:List Nat)(Co:A8 X.P f=true)(hf:dX X.P f vs X.ro own Φ)(hj:∀v Y,Φ v Y→J X (ni ps v Y o))(h1:eJ X.n (X9 X.n) o=some (f,vs):=by kernel_rfl)(h2:dA ps o=some own:=by kernel_rfl):J X o:=by
 obtain⟨ops,i,todo,k,e,w,kn,p,rfl,ho,hw,hc⟩:=dD h1
 have hcb:wJ X.P X.n p e=some (f,vs):=by unfold wJ;rw[hc];simp only[Co,cond_true]
 obtain⟨ff,x,xs,at_,fi,ca,ws,av,hx,qS,rfl⟩:=pZ hcb
 intro bR
 rcases p with ⟨dst,op,ty,pos,dG,g⟩
 dsimp only at av;subst av
 have hp:=bK h2
 refine su (fi:=⟨fi⟩) (ca:=⟨ca⟩) (ws:=fi++ws++ca) X.hC ho hw hx ff qS (Oc fi ws ca) (Fn.weaken X.hC (dX.aqG (s:=⟨X.ro,den w⟩) hp hf)) (fun v' s' hr=>?_) (fun ch s' hr=>by obtain⟨_,_,e,_⟩:=hr;cases e) (fun s' hr=>by obtain⟨_,_,e,_⟩:=hr;cases e)
 obtain⟨v,Y,hv,pO,hle⟩:=hr
 cases hv
 have:=hj _ Y pO
 rw[nV ho] at this
 have:=this bR
 simp only[JP,gA] at this
 exact this.more X.hC hle
end
structure aH where
 (past:Int)
 (x y z:aO)
def aH.at(t:aH):Nat→aO
 |0=>t.x
 |1=>t.y
 |_=>t.z
def aH.put(t:aH)(k:Nat)(l:aO):aH:=match k with
 |0=>{t with x:=l}
 |1=>{t with y:=l}
 |_=>{t with z:=l}
def Fu(t:aH):List Value:=[zI t.past,zI t.x.a,zI t.x.b,zI t.x.c,zI t.x.d,zI t.y.a,zI t.y.b,zI t.y.c,zI t.y.d,zI t.z.a,zI t.z.b,zI t.z.c,zI t.z.d]
theorem Ue{k:Nat}(h:k <3):k=0∨k=1∨k=2:=by omega
theorem Cu{s:St}{b:Nat}{t:aH}{fz:Nat×Nat}{k:Nat}(h:s.has b (.cells ⟨Fu t⟩ T fz))(hk:k <3):da s b (1+(k:Int).toNat*4) 4 (eX (t.at k)):=by
 rcases Ue hk with rfl|rfl|rfl<;>exact⟨_,_,_,h,rfl⟩
theorem aji{t:aH}{k:Nat}{l:aO}(hk:k <3):dI (Fu t) (1+(k:Int).toNat*4) (eX l)=Fu (t.put k l):=by
 rcases Ue hk with rfl|rfl|rfl<;>rfl
theorem ajj{t:aH}{k:Nat}{l:aO}(hk:k <3):Nat.ble ((1+(k:Int).toNat*4)+(eX l).length) (Fu t).length=true:=by
 rcases Ue hk with rfl|rfl|rfl<;>rfl
theorem aH.VI{t:aH}{k:Nat}{l:aO}(h:j <k)(hk:k <3):(t.put k l).at j=t.at j:=by
 rcases Ue hk with rfl|rfl|rfl
 ·omega
 ·obtain rfl:j=0:=by omega
  rfl
 obtain rfl|rfl:j=0∨j=1:=by omega
 all_goals rfl
def EW(t:aH)(x:aO)(j d:Nat):Prop:=x.at d≠ -1∧x.at d=(t.at j).at d
def qt(D:Int)(t:aH)(p:Nat)(x:aO):Bool:=(List.range p).all fun j=>(List.range D.toNat).all fun d=> !(!decide (x.at d= -1)&&decide (x.at d=(t.at j).at d))
theorem au9{t:aH}{x:aO}(h:∀j,j <p→∀d,d <D.toNat→¬EW t x j d):qt D t p x=true:=by
 simp only[qt,List.all_eq_true,List.mem_range]
 intro j hj d hd
 have:=h j hj d hd
 simp only[EW] at this
 by_cases h1:x.at d= -1<;>by_cases h2:x.at d=(t.at j).at d<;>simp_all
theorem ava{t:aH}{x:aO}(hj:j <p)(hd:d <D.toNat)(h:EW t x j d):qt D t p x=false:=by
 cases hf:qt D t p x with
 |false=>rfl
 |true=>
  simp only[qt,List.all_eq_true,List.mem_range] at hf
  have:=hf j hj d hd
  simp only[EW] at h
  simp[h.1,←h.2] at this
theorem aAJ{W:fy}{t:aH}{x:aO}(hH:ro Hb=some (.cells ⟨W.cells u⟩ 105 (0,0)))(hD:1≤W.D∧W.D≤4)(hp:p≤3):eR zT 127 [zP Hb,.agg ⟨[zI t.past,zI t.x.a,zI t.x.b,zI t.x.c,zI t.x.d,zI t.y.a,zI t.y.b,zI t.y.c,zI t.y.d,zI t.z.a,zI t.z.b,zI t.z.c,zI t.z.d]⟩,zI (p:Int),.agg ⟨[zI x.a,zI x.b,zI x.c,zI x.d]⟩] ro (.bool (qt W.D t p x)):=by
 refine zE<|zD 2<|jn fun b5=>jn fun b7=>zD 7<|jah (b:=b5) (off:=1) (len:=3) (p:Int) (by omega)<|zD 4<|fX [1,0,1,0,0] [] (fun(zz:Nat)=>[(0,zP Hb),(7,zP b7),(14,(.slice (some ⟨b5,1,none⟩) (p:Int).toNat 3)),(15,zI (p:Int)),(16,zI (zz:Int))]) (fun zz=>[.b b7 (.cells ⟨[zI x.a,zI x.b,zI x.c,zI x.d]⟩ 112 (0,0)),.b b5 (.cells ⟨[zI t.past,zI t.x.a,zI t.x.b,zI t.x.c,zI t.x.d,zI t.y.a,zI t.y.b,zI t.y.c,zI t.y.d,zI t.z.a,zI t.z.b,zI t.z.c,zI t.z.d]⟩ 115 (0,0))]) (fun zz=>zz≤p∧∀j,j <zz→∀d,d <W.D.toNat→¬EW t x j d) (fun zz=>p-zz) 0 ⟨Nat.zero_le _,fun j hj=>absurd hj (Nat.not_lt_zero _)⟩ [0,1] ?_
 rintro k hI K1 cz rest
 refine zD 5<|zJ 17 ((k:Int) <(p:Int)) (fun h1=>?_) fun h1=>?_
 ·
  refine zD 6<|jix (a:=some ⟨b5,1,none⟩) (b:=b5) (off:=1) (len:=(p:Int).toNat) (k:Int) 3 4 rfl (by omega)<|uD (b:=b5) (off:=1+(k:Int).toNat*4) (m:=4) (vs:=[zI ((t.at k).a),zI ((t.at k).b),zI ((t.at k).c),zI ((t.at k).d)]) 0 [1] [(b5,.cells ⟨[zI t.past,zI t.x.a,zI t.x.b,zI t.x.c,zI t.x.d,zI t.y.a,zI t.y.b,zI t.y.c,zI t.y.d,zI t.z.a,zI t.z.b,zI t.z.c,zI t.z.d]⟩ 115 (0,0))] (fun s _ hZ=>(Cu (t:=t) (hZ _ (.head _)) (by omega)))<|jn fun Ba=>jd 8 [0]<|jl (b:=Hb) (off:=0) (m:=11) (vs:=[W.a0,W.a1,W.a2,W.a3,W.a4,zI W.D,zI W.S,W.a7,(.slice W.ha W.H W.ek),u,W.DR]) 5 ⟨_,_,_,.inl hH,rfl⟩<|zD 3<|fX [1,0,1,0,0,1,1,0,0,1,1,0,0] [K1] (fun(zz:Nat)=>[(0,zP Hb),(7,zP b7),(10,zP Ba),(14,(.slice (some ⟨b5,1,none⟩) (p:Int).toNat 3)),(15,zI (p:Int)),(16,zI (k:Int)),(24,zI W.D),(25,zI (zz:Int))]) (fun zz=>[.b Ba (.cells ⟨[zI ((t.at k).a),zI ((t.at k).b),zI ((t.at k).c),zI ((t.at k).d)]⟩ 112 (0,0)),.b b7 (.cells ⟨[zI x.a,zI x.b,zI x.c,zI x.d]⟩ 112 (0,0)),.b b5 (.cells ⟨[zI t.past,zI t.x.a,zI t.x.b,zI t.x.c,zI t.x.d,zI t.y.a,zI t.y.b,zI t.y.c,zI t.y.d,zI t.z.a,zI t.z.b,zI t.z.c,zI t.z.d]⟩ 115 (0,0))]) (fun zz=>(zz:Int)≤W.D∧∀e,e <zz→¬EW t x k e) (fun zz=>W.D.toNat-zz) 0 ⟨by omega,fun j hj=>absurd hj (Nat.not_lt_zero _)⟩ [0,1,2] ?_
  rintro d hJ K2 oy rest
  refine zD 5<|zJ 26 ((d:Int) <W.D) (fun h2=>?_) fun h2=>?_
  ·
   refine zD 12<|xa (b:=b7) (off:=0) (len:=4) (sz:=1) (d:Int) (by omega)<|uD (b:=b7) (off:=0+(d:Int).toNat*1) (m:=1) (vs:=[zI (x.at d)]) 0 [1] [(b7,.cells ⟨[zI x.a,zI x.b,zI x.c,zI x.d]⟩ 112 (0,0))] (fun s _ hZ=>fo (hZ _ (.head _)) (pN (x:=x) (by omega)))<|zD 2<|js 4 (!decide ((x.at d)=(-1))) (fun h3=>?_) (fun h3=>?_)
   ·
    have vK:=h3
    replace vK:=of_decide_eq_false (by simpa using vK)
    refine zD 1<|xa (b:=b7) (off:=0) (len:=4) (sz:=1) (d:Int) (by omega)<|uD (b:=b7) (off:=0+(d:Int).toNat*1) (m:=1) (vs:=[zI (x.at d)]) 0 [1] [(b7,.cells ⟨[zI x.a,zI x.b,zI x.c,zI x.d]⟩ 112 (0,0))] (fun s _ hZ=>fo (hZ _ (.head _)) (pN (x:=x) (by omega)))<|zD 1<|xa (b:=Ba) (off:=0) (len:=4) (sz:=1) (d:Int) (by omega)<|uD (b:=Ba) (off:=0+(d:Int).toNat*1) (m:=1) (vs:=[zI ((t.at k).at d)]) 0 [0] [(Ba,.cells ⟨[zI ((t.at k).a),zI ((t.at k).b),zI ((t.at k).c),zI ((t.at k).d)]⟩ 112 (0,0))] (fun s _ hZ=>fo (hZ _ (.head _)) (pN (x:=(t.at k)) (by omega)))<|zD 3<|zJ 40 ((x.at d)=((t.at k).at d)) (fun h4=>?_) fun h4=>?_
    ·
     refine zD 6<|zX (.bool false) ⟨by rw[ava (j:=k) (d:=d) (by omega) (by omega) ⟨by omega,by omega⟩],rfl⟩
    refine zD 3<|zW ((d:Int)+1)<|zD 2<|zY oy (d+1) ⟨by omega,fun e he=>(Nat.lt_succ_iff_lt_or_eq.1 he).elim (hJ.2 e) fun h=>by subst h;exact fun hm=>by simp only[EW] at hm;omega⟩ [0,1,2]
   have vK:=h3
   replace vK:=of_decide_eq_true (by simpa using vK)
   refine zD 12<|zW ((d:Int)+1)<|zD 2<|zY oy (d+1) ⟨by omega,fun e he=>(Nat.lt_succ_iff_lt_or_eq.1 he).elim (hJ.2 e) fun h=>by subst h;exact fun hm=>by simp only[EW] at hm;omega⟩ [0,1,2]
  refine zD 3<|zW ((k:Int)+1)<|zD 2<|zY cz (k+1) ⟨by omega,fun j hj=>(Nat.lt_succ_iff_lt_or_eq.1 hj).elim (hI.2 j) fun h=>by subst h;exact fun d2 hd2=>hJ.2 d2 (by omega)⟩ [1,2]
 refine zD 7<|zX (.bool true) ⟨by rw[au9 (fun j hj=>hI.2 j (by omega))],rfl⟩
theorem xM[DecidableEq κ]{k:κ}:∀ {F:List (κ×Value)} {i:Nat},oe k F i=none→oe k (F++[(k,v)]) i=some (i+F.length,v)
 | [],i,_=>by simp[oe]
 |x::l,i,h=>by
  simp only[oe] at h
  split at h
  ·cases h
  rename_i hk
  rw[List.cons_append,oe,if_neg hk,xM h,List.length_cons,show i+1+l.length=i+(l.length+1) by omega]
theorem Ry{κ:Type}[DecidableEq κ]{k:κ}{v:Value}:∀ {F:List (κ×Value)} {i j:Nat} {u:Value},oe k F i=some (j,u)→oe k (qu k v F (j-i)) i=some (j,v)
 | [],_,_,_,h=>by cases h
 |x::l,i,j,u,h=>by
  simp only[oe] at h
  split at h
  ·cases h;simp[qu,oe]
  rename_i hk
  have h2:=nS h
  have:=Ry (v:=v) h
  rw[show j-i=(j-(i+1))+1 by omega]
  simp only[qu,oe,if_neg hk];exact this
abbrev v4(a b c d:Int):Value:= .agg ⟨[zI a,zI b,zI c,zI d]⟩
theorem aRO{P:Program}{z:List Value}(tf:TF P T (.array 4 3) sz bL z ag)(t3:TF P 3 (.int .i64) 1 by1 z1 false)(a b c d a' b' c' d':Int):
 Yw P (dep+2) T (v4 a b c d) (v4 a' b' c' d') (a==a'&&(b==b'&&(c==c'&&(d==d'&&true)))):=by
 intro α s k Q E
 rw[Op.equalIn]
 simp only[af,a8 tf,cw t3]
 simp only[Std.Legacy.Range.forIn_eq_forIn_range',Std.Legacy.Range.size,Nat.sub_zero,Nat.add_sub_cancel,Nat.div_one,List.range'_succ,List.range'_zero,List.forIn_cons,List.forIn_nil,af,Nat.zero_add,Nat.mul_one]
 have p (l:List Value) (o:Nat) (v:Value) (h:nth l o=some v):Iw P 3 l o v:=dE t3 h
 rw[p _ 0 (zI a) rfl];simp only[af]
 rw[p _ 0 (zI a') rfl];simp only[af]
 rw[jv t3 a a']
 cases ha:a==a' with
 |false=>simp only[Bool.not_false,if_true,aj,af,Bool.false_and]
 |true=>
 simp only[Bool.not_true,Bool.false_eq_true,if_false,aj,Bool.true_and,af]
 rw[p _ 1 (zI b) rfl];simp only[af]
 rw[p _ 1 (zI b') rfl];simp only[af]
 rw[jv t3 b b']
 cases hb:b==b' with
 |false=>simp only[Bool.not_false,if_true,aj,af,Bool.false_and]
 |true=>
 simp only[Bool.not_true,Bool.false_eq_true,if_false,aj,Bool.true_and,af]
 rw[p _ 2 (zI c) rfl];simp only[af]
 rw[p _ 2 (zI c') rfl];simp only[af]
 rw[jv t3 c c']
 cases hc:c==c' with
 |false=>simp only[Bool.not_false,if_true,aj,af,Bool.false_and]
 |true=>
 simp only[Bool.not_true,Bool.false_eq_true,if_false,aj,Bool.true_and,af]
 rw[p _ 3 (zI d) rfl];simp only[af]
 rw[p _ 3 (zI d') rfl];simp only[af]
 rw[jv t3 d d']
 cases hd:d==d' with
 |false=>simp only[Bool.not_false,if_true,aj,af,Bool.false_and]
 |true=>simp only[Bool.not_true,Bool.false_eq_true,if_false,aj,Bool.true_and,af]
theorem ck4{P:Program}{z:List Value}(tf:TF P T (.array 4 3) sz bL z ag)(t3:TF P 3 (.int .i64) 1 by1 z1 false)(a b c d:Int):CkD P (dep+2) T (v4 a b c d):=by
 intro bb α K s Q E
 rw[Instr.checkKey]
 simp only[af,a8 tf]
 simp only[Std.Legacy.Range.forIn_eq_forIn_range',Std.Legacy.Range.size,Nat.sub_zero,Nat.add_sub_cancel,Nat.div_one,List.range'_succ,List.range'_zero,List.forIn_cons,List.forIn_nil,af,Nat.zero_add,cw t3,Nat.zero_mul,Nat.mul_one]
 have p (l:List Value) (o:Nat) (v:Value) (h:nth l o=some v):Iw P 3 l o v:=dE t3 h
 rw[p _ 0 (zI a) rfl];simp only[af];rw[EK t3 a bb];simp only[aj,af,cw t3,Nat.mul_one]
 rw[p _ 1 (zI b) rfl];simp only[af];rw[EK t3 b bb];simp only[aj,af,cw t3,Nat.mul_one]
 rw[p _ 2 (zI c) rfl];simp only[af];rw[EK t3 c bb];simp only[aj,af,cw t3,Nat.mul_one]
 rw[p _ 3 (zI d) rfl];simp only[af];rw[EK t3 d bb];simp only[aj,af]
abbrev kvL(x:aO):Value:= .agg ⟨eX x⟩
theorem Xe:Oq zT 112 kvL:=aeV (fD Tryz.typeInfo112 Tryz.underlying112 rfl rfl rfl rfl rfl rfl) (fun k=>⟨_,rfl⟩)
 (fun k=>ck4 (dep:=9998) (fD Tryz.typeInfo112 Tryz.underlying112 rfl rfl rfl rfl rfl rfl) gT _ _ _ _)
 (fun a b=>by
  have h:=aRO (dep:=9998) (fD Tryz.typeInfo112 Tryz.underlying112 rfl rfl rfl rfl rfl rfl) gT a.a a.b a.c a.d b.a b.b b.c b.d
  have e:(a.a==b.a&&(a.b==b.b&&(a.c==b.c&&(a.d==b.d&&true))))=decide (a=b):=by
   rcases a with ⟨x,y,z,t⟩;rcases b with ⟨u,v,w,r⟩
   rw[Bool.eq_iff_iff];simp
  rwa[e] at h)
 (fun k=>by simp[Instr.sameBits,eX])
def sC(k:IntKind)(a b:Int):Int:=k.wrap (BitVec.ofInt k.bits a&&& ~~~ BitVec.ofInt k.bits b).toNat
structure bY where
 (w m0 m1 m2:Value)
def bY.m(x:bY):Nat→Value
 |0=>x.m0
 |1=>x.m1
 |_=>x.m2
def uL(x:bY):List Value:=[x.w,x.m0,x.m1,x.m2]
theorem GJ{x:bY}{k:Nat}(h:k <3):nth (uL x) (1+(k:Int).toNat*1)=some (x.m k):=by
 rcases Ue h with rfl|rfl|rfl<;>rfl
structure bH where
 (name:ByteArray)
 (st no lt:Int)
 (late:Bool)
 (low high:Int)
def nf(x:bH):List Value:=[.string x.name,zI x.st,zI x.no,zI x.lt,.bool x.late,zI x.low,zI x.high]
structure wm(ro:Nat→Option Obj)(Hb:Nat)(W:fy)(u:Value)(np ne:Nat)(ls:List aO)(ps:List bY)(mk:Nat→Nat→aO→Int):Prop where
 h:ro Hb=some (.cells ⟨W.cells u⟩ 105 (0,0))
 d:1≤W.D∧W.D≤4
 n3:np≤3
 pe:∃xs:List ByteArray,xs.length=np∧cD ro W.a3 1 kT xs
 e:∃es:List bH,es.length=ne∧cD ro W.a7 7 nf es
 e5:ne≤5
 l:cD ro u 4 eX ls
 ll:ls.length≤5000
 p:cD ro W.DR 4 uL ps
 pl:ps.length≤1000
 m:∀i x,ps[i]?=some x→∀j,j <np→∃r es ck F,x.m j= .map (some r)∧ro r=some (.map es ck)∧oW kvL F es ck∧∀y∈ls,II (.int .u8 0) false y F= .int .u8 (mk i j y)
theorem wm.up{aR:Nat→Option Obj}{W:fy}{ls:List aO}{ps:List bY}{mk:Nat→Nat→aO→Int}(h:wm ro Hb W u np ne ls ps mk)(hs:Sub ro aR):wm aR Hb W u np ne ls ps mk:=
 ⟨hs _ _ h.h,h.d,h.n3,h.pe.imp fun _ k=>⟨k.1,k.2.up hs⟩,h.e.imp fun _ k=>⟨k.1,k.2.up hs⟩,h.e5,h.l.up hs,h.ll,h.p.up hs,h.pl,fun i x hi j hj=>by
  obtain⟨r,es,ck,F,h1,h2,h3,h4⟩:=h.m i x hi j hj
  exact⟨r,es,ck,F,h1,hs _ _ h2,h3,h4⟩⟩
def nu(D:Int)(ls:List aO)(mk:Nat→Nat→aO→Int)(need:Int):Nat→aH→Nat→Int→List aH
 |0,t,_,m=>bif !decide (sC .u8 need m=0) then [] else [t]
 |k+1,t,p,m=>ls.flatMap fun x=>bif qt D t p x then nu D ls mk need k (t.put p x) (p+1) (iOr .u8 m (mk t.past.toNat p x)) else []
def Ez(D:Int)(ls:List aO)(mk:Nat→Nat→aO→Int)(need:Int)(k:Nat)(t:aH)(p:Nat)(m:Int)(x:aO):List aH:=bif qt D t p x then nu D ls mk need k (t.put p x) (p+1) (iOr .u8 m (mk t.past.toNat p x)) else []
theorem HB{ls:List aO}{mk:Nat→Nat→aO→Int}{k:Nat}{t:aH}{m:Int}:nu D ls mk need (k+1) t p m=ls.flatMap (Ez D ls mk need k t p m):=rfl
def EU(t t':aH)(p:Nat):Prop:=∀x,t'.put p x=t.put p x
theorem EU.past{t t':aH}(h:EU t t' p):t'.past=t.past:=by
 have:=congrArg aH.past (h ⟨0,0,0,0⟩)
 have e:∀t:aH,(t.put p ⟨0,0,0,0⟩).past=t.past:=fun t=>by unfold aH.put;split<;>rfl
 rwa[e,e] at this
theorem EU.free{t t':aH}{x:aO}(h:EU t t' p)(hp:p <3):qt D t' p x=qt D t p x:=by
 have e:∀j,j <p→t'.at j=t.at j:=fun j hj=>by
  rw[←aH.VI (l:=⟨0,0,0,0⟩) hj hp,h,aH.VI hj hp]
 simp only[qt]
 rw[Bool.eq_iff_iff]
 simp only[List.all_eq_true,List.mem_range]
 exact⟨fun k j hj d hd=>by rw[←e j hj];exact k j hj d hd,fun k j hj d hd=>by rw[e j hj];exact k j hj d hd⟩
theorem aj5{t:aH}{x y:aO}:(t.put p x).put p y=t.put p y:=by
 rcases p with _|_|p<;>rfl
theorem EU.put{t t':aH}{y:aO}(h:EU t t' p):EU t (t'.put p y) p:=fun x=>by rw[aj5,h]
abbrev eTs(L:List aH):(Nat→Option Obj)→Nat→List Value→Cells→Prop:=fun _ k vs LL=>∃t,L[k]?=some t∧vs=[.agg ⟨Fu t⟩]∧LL=[]
structure aij(ro:Nat→Option Obj)(bl Hb:Nat)(need:Int)(bw bn bL bg:Nat):Prop where
 w:ro bw=some (.cells ⟨[zP Hb]⟩ 95 (0,0))
 n:ro bn=some (.cells ⟨[.int .u8 need]⟩ 129 (0,0))
 y:ro bL=some (.cells ⟨[.func (.yield bl) #[] #[]]⟩ 214 (0,0))
 g:ro bg=some (.cells ⟨[.func (.func 126) ⟨[]⟩ ⟨[zP bw,zP bn,zP bL,zP bg]⟩]⟩ 215 (0,0))
def ap4(bl Hb:Nat)(W:fy)(u:Value)(np ne:Nat)(ls:List aO)(ps:List bY)(mk:Nat→Nat→aO→Int)(need:Int)(bw bn bL bg:Nat)(L:List aH)(Inv:Nat→Cells→Prop)(Stop:Cells→Prop)(n:Nat):Prop:=
 ∀(ro:Nat→Option Obj) (p:Nat) (t:aH) (m:Int) (q:Nat) (B:Cells),aij ro bl Hb need bw bn bL bg→wm ro Hb W u np ne ls ps mk→p+n=np→(0≤t.past∧t.past <ps.length)→Part L q (nu W.D ls mk need n t p m)→Inv q B→YOK zT bl ro L.length (eTs L) Inv Stop→
  dX zT 126 [.agg ⟨Fu t⟩,zI (p:Int),.int .u8 m,zP bw,zP bn,zP bL,zP bg] ro B (fun r Y=>∃c,r= .bool c∧(c=true→Inv (q+(nu W.D ls mk need n t p m).length) Y)∧(c=false→Stop Y))
theorem aeC{l:List α}{x:α}(h:l[j]?=some x):l=l.take j++[x]++l.drop (j+1):=by
 rw[←eK h,List.take_append_drop]
theorem HM{l:List α}{x:α}{G:α→List β}(h:l[j]?=some x):((l.take (j+1)).flatMap G).length=((l.take j).flatMap G).length+(G x).length:=by
 rw[eK h,List.flatMap_append,List.length_append,List.flatMap_singleton]
theorem asp{q:Nat}{t:aH}{m:Int}{B:Cells}{L:List aH}{Inv:Nat→Cells→Prop}{W:fy}{ls:List aO}{ps:List bY}{mk:Nat→Nat→aO→Int}(ih:∀k,k <n→ap4 bl Hb W u np ne ls ps mk need bw bn bL bg L Inv Stop k)(ek:aij ro bl Hb need bw bn bL bg)(cq:wm ro Hb W u np ne ls ps mk)(hpn:p+n=np)(hpa:0≤t.past∧t.past <ps.length)(hP:Part L q (nu W.D ls mk need n t p m))(hB:Inv q B)(hy:YOK zT bl ro L.length (eTs L) Inv Stop):dX zT 126 [.agg ⟨[zI t.past,zI t.x.a,zI t.x.b,zI t.x.c,zI t.x.d,zI t.y.a,zI t.y.b,zI t.y.c,zI t.y.d,zI t.z.a,zI t.z.b,zI t.z.c,zI t.z.d]⟩,zI (p:Int),.int .u8 m,zP bw,zP bn,zP bL,zP bg] ro B (fun r Y=>∃c,r= .bool c∧(c=true→Inv (q+(nu W.D ls mk need n t p m).length) Y)∧(c=false→Stop Y)):=by
 obtain⟨gw,gn,gy,gg⟩:=id ek
 obtain⟨xs,Ha,qR⟩:=cq.pe
 obtain⟨me,PJ,PH,lQ,sD,PI,OC,OB⟩:=qR
 obtain⟨es,pP,jb⟩:=cq.e
 obtain⟨dS,uY,uW,dM,qy,uX,rX,rW⟩:=jb
 obtain⟨cV,nn,nk,cU,hle,pG,jR,lh⟩:=cq.l
 obtain⟨dh,ou,oh,cY,qT,qa,nD,nC⟩:=cq.p
 have hH:ro Hb=some (.cells ⟨[W.a0,W.a1,W.a2,.slice me xs.length lQ,W.a4,zI W.D,zI W.S,.slice dS es.length dM,(.slice W.ha W.H W.ek),.slice cV ls.length cU,.slice dh ps.length cY]⟩ 105 (0,0)):=by rw[←sD,←qy,←hle,←qT];exact cq.h
 have Nn:=cq.n3
 have ON:=cq.e5
 have A5:=cq.ll
 have xb:=cq.pl
 have Rm:=cq.d
 refine zC [.l B]<|zD 2<|jn fun b7=>zD 6<|jl (b:=bw) (off:=0) (m:=1) (vs:=[zP Hb]) 0 ⟨_,_,_,.inl gw,rfl⟩<|zD 3<|jl (b:=Hb) (off:=0) (m:=11) (vs:=[W.a0,W.a1,W.a2,.slice me xs.length lQ,W.a4,zI W.D,zI W.S,.slice dS es.length dM,(.slice W.ha W.H W.ek),.slice cV ls.length cU,.slice dh ps.length cY]) 3 ⟨_,_,_,.inl hH,rfl⟩<|zD 3<|zJ 20 ((p:Int)=(xs.length:Int)) (fun h1=>?_) fun h1=>?_
 ·
  refine zD 2 ?_
  obtain rfl:n=0:=by omega
  refine zD 1<|jl (b:=bn) (off:=0) (m:=1) (vs:=[.int .u8 need]) 0 ⟨_,_,_,.inl gn,rfl⟩<|zD 4<|js 25 (!decide ((sC .u8 need m)=0)) (fun h2=>?_) (fun h2=>?_)
  ·
   have w5:=h2
   replace w5:=of_decide_eq_false (by simpa using w5)
   refine zD 7<|zR (.bool true) [] [1] B ⟨_,rfl,(fun _=>by rw[show nu W.D ls mk need 0 t p m=[] by simp only[nu,h2];rfl];exact hB),nofun⟩
  have w5:=h2
  replace w5:=of_decide_eq_true (by simpa using w5)
  have af4:nu W.D ls mk need 0 t p m=[t]:=by simp only[nu,h2];rfl
  have hel:=Part.get (i:=0) (x:=t) hP (by rw[af4];rfl)
  refine jl (b:=bL) (off:=0) (m:=1) (vs:=[(.func (.yield bl) #[] #[])]) 0 ⟨_,_,_,.inl gy,rfl⟩<|jd 1 [0]<|jyc [1] (hy q [.agg ⟨[zI t.past,zI t.x.a,zI t.x.b,zI t.x.c,zI t.x.d,zI t.y.a,zI t.y.b,zI t.y.c,zI t.y.d,zI t.z.a,zI t.z.b,zI t.z.c,zI t.z.d]⟩] [] B ro hel.1 ⟨_,hel.2,rfl,rfl⟩ hB (Sub.refl _)) (Sub.refl _) ?_
  intro v26 Y26 aNc
  obtain⟨c26,rfl,aPI,aPt⟩:=yb aNc
  refine zD 4<|zR (.bool c26) [] [0] Y26 ⟨_,rfl,(fun h=>by rw[af4];exact aPI h),aPt⟩
 refine zD 4 ?_
 obtain⟨k,rfl⟩:∃k,n=k+1:=⟨n-1,by omega⟩
 rw[HB] at hP
 refine zD 1<|jl (b:=bw) (off:=0) (m:=1) (vs:=[zP Hb]) 0 ⟨_,_,_,.inl gw,rfl⟩<|zD 2<|jl (b:=Hb) (off:=0) (m:=11) (vs:=[W.a0,W.a1,W.a2,.slice me xs.length lQ,W.a4,zI W.D,zI W.S,.slice dS es.length dM,(.slice W.ha W.H W.ek),.slice cV ls.length cU,.slice dh ps.length cY]) 9 ⟨_,_,_,.inl hH,rfl⟩<|zD 4<|fX [1,1,0,1,0,0] [] (fun(zz:Nat×aH×Cells)=>[(1,zI (p:Int)),(2,.int .u8 m),(3,zP bw),(6,zP bg),(7,zP b7),(33,.slice cV ls.length cU),(34,zI (ls.length:Int)),(35,zI (zz.1:Int))]) (fun zz=>[.b b7 (.cells ⟨[zI zz.2.1.past,zI zz.2.1.x.a,zI zz.2.1.x.b,zI zz.2.1.x.c,zI zz.2.1.x.d,zI zz.2.1.y.a,zI zz.2.1.y.b,zI zz.2.1.y.c,zI zz.2.1.y.d,zI zz.2.1.z.a,zI zz.2.1.z.b,zI zz.2.1.z.c,zI zz.2.1.z.d]⟩ 115 (0,0)),.l zz.2.2]) (fun zz=>zz.1≤ls.length∧Inv (q+((ls.take zz.1).flatMap (Ez W.D ls mk need k t p m)).length) zz.2.2∧EU t zz.2.1 p) (fun zz=>ls.length-zz.1) (⟨0,t,B⟩) ⟨Nat.zero_le _,by simpa using hB,fun _=>rfl⟩ [0,1] ?_
 rintro⟨j,tt,B⟩ hJ K1 cz rest
 dsimp only at hJ
 refine zD 5<|zJ 36 ((j:Int) <(ls.length:Int)) (fun h3=>?_) fun h3=>?_
 ·
  refine zD 6 ?_
  obtain⟨lO,Ji⟩:=zG ls j
  refine jq cU 4 jR Ji<|jl 0 (lh _ _ Ji)<|jn fun wK=>jd 5 [0]<|jl (b:=bw) (off:=0) (m:=1) (vs:=[zP Hb]) 0 ⟨_,_,_,.inl gw,rfl⟩<|jd 3 [1,0]<|jp (vs:=[zP Hb,.agg ⟨[zI tt.past,zI tt.x.a,zI tt.x.b,zI tt.x.c,zI tt.x.d,zI tt.y.a,zI tt.y.b,zI tt.y.c,zI tt.y.d,zI tt.z.a,zI tt.z.b,zI tt.z.c,zI tt.z.d]⟩,zI (p:Int),.agg ⟨[zI lO.a,zI lO.b,zI lO.c,zI lO.d]⟩]) [] [] (fun aV hs hZ=>aAJ (t:=tt) (p:=p) (x:=lO) (hs _ _ cq.h) cq.d (by omega))<|zD 2<|js 44 (!(qt W.D tt p lO)) (fun h4=>?_) (fun h4=>?_)
  ·
   try simp only[zB] at h4
   have Dm:Ez W.D ls mk need k t p m lO=[]:=by simp only[Ez,show qt W.D t p lO=false from by rw[←hJ.2.2.free (by omega)];simpa using h4];rfl
   refine zD 3<|zW ((j:Int)+1)<|zD 2<|zF cz (⟨j+1,tt,B⟩) ⟨by dsimp only;rw[HM Ji,Dm];exact hJ.2.1,hJ.2.2⟩ [1,2]
  try simp only[zB] at h4
  have UX:qt W.D t p lO=true:=by rw[←hJ.2.2.free (by omega)];simpa using h4
  have hpt:=(hJ.2.2.put (y:=lO)).past
  have Dm:Ez W.D ls mk need k t p m lO=nu W.D ls mk need k (tt.put p lO) (p+1) (iOr .u8 m (mk (tt.put p lO).past.toNat p lO)):=by rw[hpt,hJ.2.2 lO];simp only[Ez,UX,cond_true]
  have hPg:Part L (q+((ls.take j).flatMap (Ez W.D ls mk need k t p m)).length) (nu W.D ls mk need k (tt.put p lO) (p+1) (iOr .u8 m (mk (tt.put p lO).past.toNat p lO))):=by rw[←Dm];exact Part.flat hP (aeC Ji)
  refine jd 7 [0]<|xa (b:=b7) (off:=1) (len:=3) (sz:=4) (p:Int) (by omega)<|jsx 1 b7 (1+(p:Int).toNat*4) [zI tt.past,zI tt.x.a,zI tt.x.b,zI tt.x.c,zI tt.x.d,zI tt.y.a,zI tt.y.b,zI tt.y.c,zI tt.y.d,zI tt.z.a,zI tt.z.b,zI tt.z.c,zI tt.z.d] [zI lO.a,zI lO.b,zI lO.c,zI lO.d] 115 (aP rfl) (ajj (t:=tt) (l:=lO) (by omega))<|jmw 0 [.b b7 (.cells ⟨[zI ((tt.put p lO).past),zI ((tt.put p lO).x.a),zI ((tt.put p lO).x.b),zI ((tt.put p lO).x.c),zI ((tt.put p lO).x.d),zI ((tt.put p lO).y.a),zI ((tt.put p lO).y.b),zI ((tt.put p lO).y.c),zI ((tt.put p lO).y.d),zI ((tt.put p lO).z.a),zI ((tt.put p lO).z.b),zI ((tt.put p lO).z.c),zI ((tt.put p lO).z.d)]⟩ 115 (0,0))] (L:=[(b7,.cells ⟨dI [zI tt.past,zI tt.x.a,zI tt.x.b,zI tt.x.c,zI tt.x.d,zI tt.y.a,zI tt.y.b,zI tt.y.c,zI tt.y.d,zI tt.z.a,zI tt.z.b,zI tt.z.c,zI tt.z.d] (1+(p:Int).toNat*4) [zI lO.a,zI lO.b,zI lO.c,zI lO.d]⟩ 115 (0,0))]) (by show [(b7,Obj.cells ⟨dI (Fu tt) (1+(p:Int).toNat*4) (eX lO)⟩ 115 (0,0))]=_;rw[aji (by omega)];rfl) ?_
  refine zD 3<|jl (b:=bg) (off:=0) (m:=1) (vs:=[.func (.func 126) ⟨[]⟩ ⟨[zP bw,zP bn,zP bL,zP bg]⟩]) 0 ⟨_,_,_,.inl gg,rfl⟩<|jd 2 [0]<|zW ((p:Int)+1)<|zD 1<|jl (b:=bw) (off:=0) (m:=1) (vs:=[zP Hb]) 0 ⟨_,_,_,.inl gw,rfl⟩<|zD 2<|jl (b:=Hb) (off:=0) (m:=11) (vs:=[W.a0,W.a1,W.a2,.slice me xs.length lQ,W.a4,zI W.D,zI W.S,.slice dS es.length dM,(.slice W.ha W.H W.ek),.slice cV ls.length cU,.slice dh ps.length cY]) 10 ⟨_,_,_,.inl hH,rfl⟩<|jd 3 [0] ?_
  obtain⟨Sz,UC⟩:=zG ps ((tt.put p lO).past.toNat)
  refine jsi ((tt.put p lO).past) cY 4 nD UC (Int.toNat_of_nonneg (show 0≤(tt.put p lO).past∧(tt.put p lO).past <((ps).length:Int) from (by omega)).1).symm<|zD 1<|xa (b:=ou) (off:=oh+(tt.put p lO).past.toNat*4+1) (len:=3) (sz:=1) (p:Int) (by omega) ?_
  obtain⟨mr,mes,mck,mF,hmv,tN,hmE,hmL⟩:=cq.m _ _ UC p (by omega)
  refine jl (b:=ou) (off:=oh+(tt.put p lO).past.toNat*4+1+(p:Int).toNat*1) (m:=1) (vs:=[(.map (some mr))]) 0 (show da ⟨ro,[]⟩ ou (oh+(tt.put p lO).past.toNat*4+1+(p:Int).toNat*1) 1 [.map (some mr)] from by have:=PG (nC _ _ UC) (GJ (x:=Sz) (k:=p) (by omega));rw[hmv] at this;simpa [Nat.add_assoc] using this) ?_
  refine jd 1 [1]<|dV 17 fun LW Mn Nv=>jlu (kv:=kvL) (F:=mF) (r:=mr) (K:=112) (lO:aO) (.int .u8 0) false [] [] Xe (fun s he _=>⟨_,_,he _ _ (.inl tN),hmE⟩)<|iv Nv [0,1,2]<|jw 17 (.int .u8 (mk (tt.put p lO).past.toNat p lO)) (hmL _ (zL Ji))<|zD 1<|dV 19 fun Bc Bm AN=>jc (vs:=[.agg ⟨[zI ((tt.put p lO).past),zI ((tt.put p lO).x.a),zI ((tt.put p lO).x.b),zI ((tt.put p lO).x.c),zI ((tt.put p lO).x.d),zI ((tt.put p lO).y.a),zI ((tt.put p lO).y.b),zI ((tt.put p lO).y.c),zI ((tt.put p lO).y.d),zI ((tt.put p lO).z.a),zI ((tt.put p lO).z.b),zI ((tt.put p lO).z.c),zI ((tt.put p lO).z.d)]⟩,zI ((p:Int)+1),.int .u8 (iOr .u8 m (mk (tt.put p lO).past.toNat p lO)),zP bw,zP bn,zP bL,zP bg]) [2] (ih k (by omega) _ (p+1) (tt.put p lO) _ (q+((ls.take j).flatMap (Ez W.D ls mk need k t p m)).length) _ ek cq (by omega) ⟨by rw[hJ.2.2.put.past];exact hpa.1,by rw[hJ.2.2.put.past];exact hpa.2⟩ hPg hJ.2.1 hy) ?_
  rintro _ Y68 ⟨c68,rfl,aPE,aPp⟩
  refine wC AN [[1],[],[]]<|zD 2<|js 69 (!c68) (fun h7=>?_) (fun h7=>?_)
  ·
   try simp only[zB] at h7
   refine zD 6<|zR (.bool false) [] [0] Y68 ⟨_,rfl,nofun,fun _=>aPp (by simp_all)⟩
  try simp only[zB] at h7
  refine zD 3<|zW ((j:Int)+1)<|zD 2<|zF cz (⟨j+1,(tt.put p lO),Y68⟩) ⟨by dsimp only;rw[HM Ji,Dm];rw[←Nat.add_assoc];exact aPE (by simp_all),hJ.2.2.put⟩ [1,0]
 refine zD 7<|zR (.bool true) [] [1] B ⟨_,rfl,(fun _=>by rw[HB];have:=hJ.2.1;rwa[List.take_of_length_le (by omega)] at this),nofun⟩
theorem aAI{W:fy}{ls:List aO}{ps:List bY}{mk:Nat→Nat→aO→Int}{L:List aH}{Inv:Nat→Cells→Prop}:∀n,ap4 bl Hb W u np ne ls ps mk need bw bn bL bg L Inv Stop n:=by
 intro n
 induction n using Nat.strongRecOn with
 |_ n ih=>exact fun ro p t m q B hc hI hpn hpa hP hB hy=>asp ih hc hI hpn hpa hP hB hy
def ajk(i:Nat):aH:=⟨(i:Int),⟨0,0,0,0⟩,⟨0,0,0,0⟩,⟨0,0,0,0⟩⟩
def PX(D:Int)(ls:List aO)(mk:Nat→Nat→aO→Int)(np:Nat)(need:Int)(i:Nat):List aH:=nu D ls mk need np (ajk i) 0 0
def dY(D:Int)(ls:List aO)(mk:Nat→Nat→aO→Int)(np k:Nat)(need:Int):List aH:=(List.range k).flatMap (PX D ls mk np need)
theorem Y5(h:j <n):∃r,List.range n=List.range j++[j]++r:=by
 refine⟨(List.range n).drop (j+1),?_⟩
 have h1:(List.range n).take (j+1)=List.range (j+1):=by rw[List.take_range,Nat.min_eq_left h]
 rw[←List.range_succ,←h1,List.take_append_drop]
def allM(n:Nat):Int:=IntKind.u8.wrap (eC .u8 1 (n:Int)-1)
theorem Un{W:fy}{ls:List aO}{ps:List bY}{mk:Nat→Nat→aO→Int}(cq:wm ro Hb W u np ne ls ps mk)(g1:ro bw=some (.cells ⟨[zP Hb]⟩ 95 (0,0)))(g2:ro bn=some (.cells ⟨[.int .u8 need]⟩ 129 (0,0))):ItX zT 125 [] [zP bw,zP bn] ro [] (dY W.D ls mk np ps.length need).length (eTs (dY W.D ls mk np ps.length need)) (fun Z=>Z=[]):=by
 intro bl aV Inv Stop hs hy B hB
 replace g1:=hs _ _ g1
 replace g2:=hs _ _ g2
 replace cq:=cq.up hs
 obtain⟨xs,Ha,qR⟩:=cq.pe
 obtain⟨me,PJ,PH,lQ,sD,PI,OC,OB⟩:=qR
 obtain⟨es,pP,jb⟩:=cq.e
 obtain⟨dS,uY,uW,dM,qy,uX,rX,rW⟩:=jb
 obtain⟨cV,nn,nk,cU,hle,pG,jR,lh⟩:=cq.l
 obtain⟨dh,ou,oh,cY,qT,qa,nD,nC⟩:=cq.p
 have hH:aV Hb=some (.cells ⟨[W.a0,W.a1,W.a2,.slice me xs.length lQ,W.a4,zI W.D,zI W.S,.slice dS es.length dM,(.slice W.ha W.H W.ek),.slice cV ls.length cU,.slice dh ps.length cY]⟩ 105 (0,0)):=by rw[←sD,←qy,←hle,←qT];exact cq.h
 have Nn:=cq.n3
 have ON:=cq.e5
 have A5:=cq.ll
 have xb:=cq.pl
 have Rm:=cq.d
 refine zC [.l B]<|zD 2<|jn fun b3=>zD 3<|jn fun b4=>jd 8 [0]<|jf [0,1] ((b4,.cells ⟨[.func (.func 126) ⟨[]⟩ ⟨[zP bw,zP bn,zP b3,zP b4]⟩]⟩ 215 (0,0))::[(b3,.cells ⟨[(.func (.yield bl) #[] #[])]⟩ 214 (0,0))]) fun yW cR fe=>jl (b:=bw) (off:=0) (m:=1) (vs:=[zP Hb]) 0 ⟨_,_,_,.inl (cR _ _ g1),rfl⟩<|zD 2<|jl (b:=Hb) (off:=0) (m:=11) (vs:=[W.a0,W.a1,W.a2,.slice me xs.length lQ,W.a4,zI W.D,zI W.S,.slice dS es.length dM,(.slice W.ha W.H W.ek),.slice cV ls.length cU,.slice dh ps.length cY]) 10 ⟨_,_,_,.inl (cR _ _ hH),rfl⟩<|zD 4<|fX [1,1,1,1,0,0] [] (fun(zz:Nat×Cells)=>[(4,zP b4),(11,zI (ps.length:Int)),(12,zI (zz.1:Int))]) (fun zz=>[.l zz.2]) (fun zz=>zz.1≤ps.length∧Inv ((List.range zz.1).flatMap (PX W.D ls mk np need)).length zz.2) (fun zz=>ps.length-zz.1) (⟨0,B⟩) ⟨Nat.zero_le _,by simpa using hB⟩ [0] ?_
 rintro⟨i,B⟩ hI K1 cz rest
 dsimp only at hI
 refine zD 5<|zJ 13 ((i:Int) <(ps.length:Int)) (fun h4=>?_) fun h4=>?_
 ·
  refine zD 10 ?_
  obtain⟨rr,hrr⟩:=Y5 (show i <ps.length by omega)
  refine zD 1<|jl (b:=b4) (off:=0) (m:=1) (vs:=[.func (.func 126) ⟨[]⟩ ⟨[zP bw,zP bn,zP b3,zP b4]⟩]) 0 ⟨_,_,_,.inl (fe _ (.head _)),rfl⟩<|zD 2<|jc (vs:=[.agg ⟨[zI (i:Int),zI 0,zI 0,zI 0,zI 0,zI 0,zI 0,zI 0,zI 0,zI 0,zI 0,zI 0,zI 0]⟩,zI 0,.int .u8 0,zP bw,zP bn,zP b3,zP b4]) [0] (aAI (need:=need) np _ 0 (ajk i) 0 ((List.range i).flatMap (PX W.D ls mk np need)).length _ ⟨(cR _ _ g1),(cR _ _ g2),fe _ (.tail _ (.head _)),fe _ (.head _)⟩ (cq.up cR) (Nat.zero_add _) ⟨Int.natCast_nonneg _,by show (i:Int) <_;omega⟩ (by have h:=Part.flat (L:=dY W.D ls mk np ps.length need) (p:=0) (G:=PX W.D ls mk np need) ⟨[],[],by simp[dY],rfl⟩ hrr;rwa[Nat.zero_add] at h) hI.2 (YOK.up hy cR)) ?_
  rintro _ Y18 ⟨c18,rfl,aPK,aPv⟩
  refine zD 2<|js 19 (!c18) (fun h5=>?_) (fun h5=>?_)
  ·
   try simp only[zB] at h5
   refine zD 2<|aS q0.a (.tuple ⟨[]⟩) [] [0] Y18 cR ⟨_,_,rfl,rfl,[],_,rfl,rfl,.inr (aPv (by simp_all))⟩
  try simp only[zB] at h5
  refine zD 3<|zW ((i:Int)+1)<|zD 2<|zF cz (⟨i+1,Y18⟩) (by dsimp only;rw[List.range_succ,List.flatMap_append,List.length_append,List.flatMap_singleton];exact aPK (by simp_all)) [0]
 refine zD 2<|aS q0.a (.tuple ⟨[]⟩) [] [0] B cR ⟨_,_,rfl,rfl,[],_,rfl,rfl,.inl (by have h:=hI.2;rwa[show i=ps.length by omega] at h)⟩
theorem M8:dX zT 95 [zP Hb,.int .u8 need] ro [] (fun r Y=>∃b2 b3,r= .func (.func 125) ⟨[]⟩ ⟨[zP b2,zP b3]⟩∧Y=[(b2,.cells ⟨[zP Hb]⟩ 95 (0,0)),(b3,.cells ⟨[.int .u8 need]⟩ 129 (0,0))]):=by
 refine zE<|zD 2<|jn fun b2=>jn fun b3=>zD 8<|zR (.func (.func 125) ⟨[]⟩ ⟨[zP b2,zP b3]⟩) [] [1,0] ((b2,.cells ⟨[zP Hb]⟩ 95 (0,0))::[(b3,.cells ⟨[.int .u8 need]⟩ 129 (0,0))]) ⟨_,_,rfl,rfl⟩
theorem zl{W:fy}{ls:List aO}{ps:List bY}{mk:Nat→Nat→aO→Int}(cq:wm ro Hb W u np ne ls ps mk):eR zT 72 [zP Hb] ro (.int .u8 (allM ne)):=by
 obtain⟨xs,Ha,qR⟩:=cq.pe
 obtain⟨me,PJ,PH,lQ,sD,PI,OC,OB⟩:=qR
 obtain⟨es,pP,jb⟩:=cq.e
 obtain⟨dS,uY,uW,dM,qy,uX,rX,rW⟩:=jb
 obtain⟨cV,nn,nk,cU,hle,pG,jR,lh⟩:=cq.l
 obtain⟨dh,ou,oh,cY,qT,qa,nD,nC⟩:=cq.p
 have hH:ro Hb=some (.cells ⟨[W.a0,W.a1,W.a2,.slice me xs.length lQ,W.a4,zI W.D,zI W.S,.slice dS es.length dM,(.slice W.ha W.H W.ek),.slice cV ls.length cU,.slice dh ps.length cY]⟩ 105 (0,0)):=by rw[←sD,←qy,←hle,←qT];exact cq.h
 have Nn:=cq.n3
 have ON:=cq.e5
 have A5:=cq.ll
 have xb:=cq.pl
 have Rm:=cq.d
 refine zE<|zD 10<|jl (b:=Hb) (off:=0) (m:=11) (vs:=[W.a0,W.a1,W.a2,.slice me xs.length lQ,W.a4,zI W.D,zI W.S,.slice dS es.length dM,(.slice W.ha W.H W.ek),.slice cV ls.length cU,.slice dh ps.length cY]) 7 ⟨_,_,_,.inl hH,rfl⟩<|zD 1<|jsh (k:= .u8) (k':= .i64) (a:=1) (b:=(es.length:Int)) 129 (by omega)<|zD 4<|zX (.int .u8 (IntKind.u8.wrap ((eC .u8 1 (es.length:Int))-1))) ⟨by rw[←pP];rfl,rfl⟩
theorem ax5{l:List α}(h:0 <l.length):(!l.isEmpty)=true:=by cases l<;>simp_all
theorem aqO{l:List α}(h:l.length=0):(!l.isEmpty)=false:=by cases l<;>simp_all
theorem Es{W:fy}{ls:List aO}{ps:List bY}{mk:Nat→Nat→aO→Int}(cq:wm ro Hb W u np ne ls ps mk):dX zT 71 [zP Hb,.int .u8 need] ro [] (fun r Y=>r= .bool (!(dY W.D ls mk np ps.length need).isEmpty)∧Y=[]):=by
 refine Uq aE [] [] bJ<|zD 2<|jn fun b4=>zD 6<|jc (vs:=[zP Hb,.int .u8 need]) [] (M8 (Hb:=Hb) (need:=need)) ?_
 rintro _ _ ⟨q2,q3,rfl,rfl⟩
 refine jg 0 [.b q2 (.cells ⟨[zP Hb]⟩ 95 (0,0)),.b q3 (.cells ⟨[.int .u8 need]⟩ 129 (0,0))]<|jf [0,1] ((q2,.cells ⟨[zP Hb]⟩ 95 (0,0))::[(q3,.cells ⟨[.int .u8 need]⟩ 129 (0,0))]) fun yW cR fe=>zD 2<|jrf [] (Un (need:=need) (cq.up cR) (fe _ (.head _)) (fe _ (.tail _ (.head _)))) (by rintro _ _ _ _ ⟨_,_,rfl,_⟩;rfl) (fun(zz:Bool)=>[.b b4 (.cells ⟨[.bool zz]⟩ 4 (0,0))]) (fun kk=>(fun(zz:Bool)=>zz=false∧kk=0)) (fun jump=>(fun(zz:Bool)=>jump= .ret∧zz=true∧0 <(dY W.D ls mk np ps.length need).length)) false ⟨rfl,rfl⟩ [0] ?_ ?_ ?_
 ·
  rintro bl4 bd4 kk4 vs4 LL4 bo Tq hk4 UY hI nz
  obtain⟨x4,hx4,rfl,rfl⟩:=UY
  refine zD 1<|jbg<|jd 6 [1]<|jys qy0 (Sub.refl _) .ret true ⟨rfl,rfl,by have:=(List.getElem?_eq_some_iff.1 hx4).1;omega⟩ [0,1]
 ·
  rintro bd4 bo Z4 hI hZ4
  subst hZ4
  refine jd 5 [2]<|jrM Ze.a.m (.bool false) [0] [1] [] [] cR ⟨by rw[aqO hI.2],rfl⟩
 rintro bd4 bo Z4 jump hS hZ4
 obtain⟨rfl,hS⟩:=hS
 subst hZ4
 exact jrM Ze.a.m (.bool bo) [0] [1] [] [] cR ⟨by rw[hS.1,ax5 hS.2],rfl⟩
theorem xD{f:FuncId}{fi ca:List Value}{B:Cells}{Jn:Nat→Cells→Prop}{W:fy}{ls:List aO}{ps:List bY}{mk:Nat→Nat→aO→Int}(cq:wm ro Hb W u np ne ls ps mk)(Co:A8 zT f=true)(hB:Jn 0 B)(aNA:∀k x,(dY W.D ls mk np ps.length (allM ne))[k]?=some x→∀aR,Sub ro aR→∀B,Jn k B→dX zT f (fi++[.agg ⟨Fu x⟩]++ca) aR B (fun _ Y=>Jn (k+1) Y)) (hN:(dY W.D ls mk np ps.length (allM ne)).length≤1000000):dX zT 47 [zP Hb,.agg ⟨[(.func (.func f) ⟨fi⟩ ⟨ca⟩)]⟩] ro B (fun r Y=>r= zI ((dY W.D ls mk np ps.length (allM ne)).length:Int)∧Jn (dY W.D ls mk np ps.length (allM ne)).length Y):=by
 refine Uq aE [.l B] [] bJ<|zD 2<|jn fun b3=>zD 4<|jn fun b5=>jd 7 [0]<|jp (vs:=[zP Hb]) [] [] (fun aV hs hZ=>zl (cq.up hs))<|jc (vs:=[zP Hb,.int .u8 (allM ne)]) [] (M8 (Hb:=Hb) (need:=(allM ne))) ?_
 rintro _ _ ⟨q2,q3,rfl,rfl⟩
 refine jg 0 [.b q2 (.cells ⟨[zP Hb]⟩ 95 (0,0)),.b q3 (.cells ⟨[.int .u8 (allM ne)]⟩ 129 (0,0))]<|jf [0,1] ((q2,.cells ⟨[zP Hb]⟩ 95 (0,0))::[(q3,.cells ⟨[.int .u8 (allM ne)]⟩ 129 (0,0))]) fun yW cR fe=>zD 2<|jrf [] (Un (need:=allM ne) (cq.up cR) (fe _ (.head _)) (fe _ (.tail _ (.head _)))) (by rintro _ _ _ _ ⟨_,_,rfl,_⟩;rfl) (fun(zz:Int×Cells)=>[.b b5 (.cells ⟨[zI zz.1]⟩ 3 (0,0)),.b b3 (.cells ⟨[(.func (.func f) ⟨fi⟩ ⟨ca⟩)]⟩ 118 (0,0)),.l zz.2]) (fun kk=>(fun(zz:Int×Cells)=>zz.1=(kk:Int)∧Jn kk zz.2)) (fun jump=>(fun(zz:Int×Cells)=>False)) (⟨0,B⟩) ⟨rfl,hB⟩ [0,1,2] ?_ ?_ ?_
 ·
  rintro bl4 bd4 kk4 vs4 LL4 ⟨n,B⟩ Tq hk4 UY hI nz
  obtain⟨x4,hx4,rfl,rfl⟩:=UY
  dsimp only at hI
  have UT:=(List.getElem?_eq_some_iff.1 hx4).1
  refine zD 1<|jn fun b6=>jd 2 [0]<|asL<|jd 4 [2]<|zW (n+1)<|jd 13 [2,3,3,0]<|jcF (vs:=fi++[Value.agg ⟨Fu x4⟩]++ca) [4] Co (aNA _ _ hx4 _ (cR.trans nz) _ hI.2) ?_
  rintro vv Y20 aQ7
  refine zD 1<|jyn qy0 (Sub.refl _) ⟨(n+1),Y20⟩ ⟨by dsimp only;omega,aQ7⟩ [2,3,4,0]
 ·
  rintro bd4 ⟨n,B⟩ Z4 hI hZ4
  dsimp only at hI
  subst hZ4
  refine jd 6 [2]<|jrM Ze.a.m (zI n) [0] [] [3] B cR ⟨by rw[hI.1],hI.2⟩
 rintro bd4 ⟨n,B⟩ Z4 jump hS hZ4
 exact hS.elim
theorem akZ{W:fy}{ls:List aO}{ps:List bY}{mk:Nat→Nat→aO→Int}(cq:wm ro Hb W u np ne ls ps mk)(hN:(dY W.D ls mk np ps.length (allM ne)).length≤1000000):dX zT 47 [zP Hb,.agg ⟨[.nilFunc]⟩] ro [] (fun r Y=>r= zI ((dY W.D ls mk np ps.length (allM ne)).length:Int)∧Y=[]):=by
 refine Uq aE [] [] bJ<|zD 2<|jn fun b3=>zD 4<|jn fun b5=>jd 7 [0]<|jp (vs:=[zP Hb]) [] [] (fun aV hs hZ=>zl (cq.up hs))<|jc (vs:=[zP Hb,.int .u8 (allM ne)]) [] (M8 (Hb:=Hb) (need:=(allM ne))) ?_
 rintro _ _ ⟨q2,q3,rfl,rfl⟩
 refine jg 0 [.b q2 (.cells ⟨[zP Hb]⟩ 95 (0,0)),.b q3 (.cells ⟨[.int .u8 (allM ne)]⟩ 129 (0,0))]<|jf [0,1] ((q2,.cells ⟨[zP Hb]⟩ 95 (0,0))::[(q3,.cells ⟨[.int .u8 (allM ne)]⟩ 129 (0,0))]) fun yW cR fe=>zD 2<|jrf [] (Un (need:=allM ne) (cq.up cR) (fe _ (.head _)) (fe _ (.tail _ (.head _)))) (by rintro _ _ _ _ ⟨_,_,rfl,_⟩;rfl) (fun(zz:Int)=>[.b b5 (.cells ⟨[zI zz]⟩ 3 (0,0)),.b b3 (.cells ⟨[.nilFunc]⟩ 118 (0,0))]) (fun kk=>(fun(zz:Int)=>zz=(kk:Int))) (fun jump=>(fun(zz:Int)=>False)) 0 rfl [0,1] ?_ ?_ ?_
 ·
  rintro bl4 bd4 kk4 vs4 LL4 n Tq hk4 UY hI nz
  obtain⟨x4,hx4,rfl,rfl⟩:=UY
  have UT:=(List.getElem?_eq_some_iff.1 hx4).1
  refine zD 1<|jn fun b6=>jd 2 [0]<|asL<|jd 4 [2]<|zW (n+1)<|jd 10 [2,3]<|jyn qy0 (Sub.refl _) (n+1) (by omega) [1,2,3]
 ·
  rintro bd4 n Z4 hI hZ4
  subst hZ4
  refine jd 6 [2]<|jrM Ze.a.m (zI n) [0] [] [] [] cR ⟨by rw[hI],rfl⟩
 rintro bd4 n Z4 jump hS hZ4
 exact hS.elim
theorem Zz{x:aO}{k:Nat}(h1:1≤k)(h:k≤4):nth (eX x) (0+((k:Int)-1).toNat*1)=some (zI (x.at (k-1))):=by
 obtain rfl|rfl|rfl|rfl:k=1∨k=2∨k=3∨k=4:=by omega
 all_goals rfl
def GY(x:aO):Nat→Int
 |0=>0
 |m+1=>GY x m+bif decide (x.at (m+1)=x.at m) then 0 else 1
def jB(D:Int)(x:aO):Int:=GY x (D.toNat-1)
theorem Ku{x:aO}{k:Nat}(h:1≤k):GY x k=GY x (k-1)+bif decide (x.at k=x.at (k-1)) then 0 else 1:=by
 obtain⟨m,rfl⟩:∃m,k=m+1:=⟨k-1,by omega⟩
 rfl
theorem yl{t:aH}{k:Nat}(hk:k <3)(hd:d <4):nth (Fu t) (1+(k:Int).toNat*4+(d:Int).toNat*1)=some (zI ((t.at k).at d)):=by
 have h4:d=0∨d=1∨d=2∨d=3:=by omega
 rcases Ue hk with rfl|rfl|rfl<;>rcases h4 with rfl|rfl|rfl|rfl<;>rfl
def AO(np:Nat)(t:aH)(h:Int)(d:Nat):Int:=c9 (fun j=>decide ((t.at j).at d=h)) (List.range np) 0
theorem asl{W:fy}{x:aO}(hH:ro Hb=some (.cells ⟨W.cells u⟩ 105 (0,0)))(hD:1≤W.D∧W.D≤4):eR zT 60 [zP Hb,.agg ⟨[zI x.a,zI x.b,zI x.c,zI x.d]⟩] ro (zI (jB W.D x)):=by
 refine zE<|zD 2<|jn fun b3=>zD 12<|fX [1,1,0,1,0,0] [] (fun(zz:Nat×Int)=>[(0,zP Hb),(3,zP b3),(4,zI 0),(5,zI zz.2),(6,zI (zz.1:Int))]) (fun zz=>[.b b3 (.cells ⟨[zI x.a,zI x.b,zI x.c,zI x.d]⟩ 112 (0,0))]) (fun zz=>(1≤zz.1∧(zz.1:Int)≤W.D)∧zz.2=GY x (zz.1-1)∧0≤zz.2∧zz.2≤zz.1) (fun zz=>W.D.toNat-zz.1) (⟨1,0⟩) ⟨⟨by dsimp only;omega,by dsimp only;omega⟩,rfl,by dsimp only;omega,by dsimp only;omega⟩ [0] ?_
 rintro⟨k,n⟩ hI K1 cz rest
 dsimp only at hI
 refine zD 8<|jl (b:=Hb) (off:=0) (m:=11) (vs:=[W.a0,W.a1,W.a2,W.a3,W.a4,zI W.D,zI W.S,W.a7,(.slice W.ha W.H W.ek),u,W.DR]) 5 ⟨_,_,_,.inl hH,rfl⟩<|zD 2<|zJ 13 ((k:Int) <W.D) (fun h1=>?_) fun h1=>?_
 ·
  refine zD 7<|xa (b:=b3) (off:=0) (len:=4) (sz:=1) (k:Int) (by omega)<|uD (b:=b3) (off:=0+(k:Int).toNat*1) (m:=1) (vs:=[zI (x.at k)]) 0 [0] [(b3,.cells ⟨[zI x.a,zI x.b,zI x.c,zI x.d]⟩ 112 (0,0))] (fun s _ hZ=>fo (hZ _ (.head _)) (pN (x:=x) (by omega)))<|zD 1<|zW ((k:Int)-1)<|xa (b:=b3) (off:=0) (len:=4) (sz:=1) ((k:Int)-1) (by omega)<|uD (b:=b3) (off:=0+((k:Int)-1).toNat*1) (m:=1) (vs:=[zI (x.at (k-1))]) 0 [0] [(b3,.cells ⟨[zI x.a,zI x.b,zI x.c,zI x.d]⟩ 112 (0,0))] (fun s _ hZ=>fo (hZ _ (.head _)) (Zz (x:=x) (by omega) (by omega)))<|zD 2<|js 23 (!decide ((x.at k)=(x.at (k-1)))) (fun h2=>?_) (fun h2=>?_)
  ·
   replace h2:=of_decide_eq_false (by simpa using h2)
   refine zD 3<|zW (n+1)<|zD 4<|zW ((k:Int)+1)<|zD 2<|zY cz (⟨k+1,(n+1)⟩) ⟨⟨by dsimp only;omega,by dsimp only;omega⟩,by dsimp only;rw[Nat.add_sub_cancel,Ku hI.1.1,hI.2.1,decide_eq_false (by omega)];rfl,by dsimp only;omega,by dsimp only;omega⟩ [0]
  replace h2:=of_decide_eq_true (by simpa using h2)
  refine zD 4<|zW ((k:Int)+1)<|zD 2<|zY cz (⟨k+1,n⟩) ⟨⟨by dsimp only;omega,by dsimp only;omega⟩,by dsimp only;rw[Nat.add_sub_cancel,Ku hI.1.1,hI.2.1,decide_eq_true (by omega),cond_true,Int.add_zero],by dsimp only;omega,by dsimp only;omega⟩ [0]
 refine zD 8<|zX (zI n) ⟨by rw[hI.2.1,jB,show W.D.toNat-1=k-1 by omega],rfl⟩
theorem aso{t:aH}{W:fy}{ls:List aO}{ps:List bY}{mk:Nat→Nat→aO→Int}(cq:wm ro Hb W u np ne ls ps mk)(hd:d <4):eR zT 51 [zP Hb,.agg ⟨[zI t.past,zI t.x.a,zI t.x.b,zI t.x.c,zI t.x.d,zI t.y.a,zI t.y.b,zI t.y.c,zI t.y.d,zI t.z.a,zI t.z.b,zI t.z.c,zI t.z.d]⟩,zI h,zI (d:Int)] ro (zI (AO np t h d)):=by
 obtain⟨xs,Ha,qR⟩:=cq.pe
 obtain⟨me,PJ,PH,lQ,sD,PI,OC,OB⟩:=qR
 obtain⟨es,pP,jb⟩:=cq.e
 obtain⟨dS,uY,uW,dM,qy,uX,rX,rW⟩:=jb
 obtain⟨cV,nn,nk,cU,hle,pG,jR,lh⟩:=cq.l
 obtain⟨dh,ou,oh,cY,qT,qa,nD,nC⟩:=cq.p
 have hH:ro Hb=some (.cells ⟨[W.a0,W.a1,W.a2,.slice me xs.length lQ,W.a4,zI W.D,zI W.S,.slice dS es.length dM,(.slice W.ha W.H W.ek),.slice cV ls.length cU,.slice dh ps.length cY]⟩ 105 (0,0)):=by rw[←sD,←qy,←hle,←qT];exact cq.h
 have Nn:=cq.n3
 have ON:=cq.e5
 have A5:=cq.ll
 have xb:=cq.pl
 have Rm:=cq.d
 refine zE<|zD 2<|jn fun b5=>zD 9<|jl (b:=Hb) (off:=0) (m:=11) (vs:=[W.a0,W.a1,W.a2,.slice me xs.length lQ,W.a4,zI W.D,zI W.S,.slice dS es.length dM,(.slice W.ha W.H W.ek),.slice cV ls.length cU,.slice dh ps.length cY]) 3 ⟨_,_,_,.inl hH,rfl⟩<|zD 4<|fX [1,0,1,0,0] [] (fun(zz:Nat)=>[(2,zI h),(3,zI (d:Int)),(5,zP b5),(15,zI (xs.length:Int)),(16,zI (zz:Int))]) (fun zz=>[.b b5 (.cells ⟨[zI t.past,zI t.x.a,zI t.x.b,zI t.x.c,zI t.x.d,zI t.y.a,zI t.y.b,zI t.y.c,zI t.y.d,zI t.z.a,zI t.z.b,zI t.z.c,zI t.z.d]⟩ 115 (0,0))]) (fun zz=>zz≤np∧AO np t h d=c9 (fun j=>decide ((t.at j).at d=h)) ((List.range np).drop zz) zz) (fun zz=>np-zz) 0 ⟨Nat.zero_le _,rfl⟩ [0] ?_
 rintro k hI K1 cz rest
 have hkr:k <np→(List.range np)[k]?=some k:=fun h=>List.getElem?_range h
 refine zD 5<|zJ 17 ((k:Int) <(xs.length:Int)) (fun h1=>?_) fun h1=>?_
 ·
  refine zD 14<|xa (b:=b5) (off:=1) (len:=3) (sz:=4) (k:Int) (by omega)<|xa (b:=b5) (off:=1+(k:Int).toNat*4) (len:=4) (sz:=1) (d:Int) (by omega)<|uD (b:=b5) (off:=1+(k:Int).toNat*4+(d:Int).toNat*1) (m:=1) (vs:=[zI ((t.at k).at d)]) 0 [0] [(b5,.cells ⟨[zI t.past,zI t.x.a,zI t.x.b,zI t.x.c,zI t.x.d,zI t.y.a,zI t.y.b,zI t.y.c,zI t.y.d,zI t.z.a,zI t.z.b,zI t.z.c,zI t.z.d]⟩ 115 (0,0))] (fun s _ hZ=>fo (hZ _ (.head _)) (yl (t:=t) (by omega) (by omega)))<|zD 3<|zJ 26 (((t.at k).at d)=h) (fun h2=>?_) fun h2=>?_
  ·
   refine zD 7<|zX (zI (k:Int)) ⟨by rw[hI.2,mM (hkr (by omega)),decide_eq_true (by omega)];rfl,rfl⟩
  refine zD 3<|zW ((k:Int)+1)<|zD 2<|zY cz (k+1) ⟨by omega,by rw[hI.2,mM (hkr (by omega)),decide_eq_false (by omega)];rfl⟩ [0]
 refine zD 7<|zX (zI (-1)) ⟨by rw[hI.2,List.drop_eq_nil_of_le (by rw[List.length_range];omega)];rfl,rfl⟩
theorem aeM{a n:Int}{c:Bool}(ha:0≤a∧a≤n)(hn:n≤1000000):dX zT 54 [zP y,.bool c] ro [(y,.cells ⟨[zI a,zI n]⟩ 122 (0,0))] (fun r Y=>r= .tuple ⟨[]⟩∧Y=[(y,.cells ⟨[zI (a+bif c then 1 else 0),zI (n+1)]⟩ 122 (0,0))]):=by
 refine zC [.b y (.cells ⟨[zI a,zI n]⟩ 122 (0,0))]<|jd 6 [0]<|zW (n+1)<|jd 8 [0]<|js 11 c (fun h1=>?_) (fun h1=>?_)
 ·
  subst h1
  refine jd 6 [0]<|zW (a+1)<|jd 4 [0]<|zR (.tuple ⟨[]⟩) [] [0] [(y,.cells ⟨[zI (a+1),zI (n+1)]⟩ 122 (0,0))] ⟨rfl,by first|rfl|simp⟩
 subst h1
 refine zD 2<|zR (.tuple ⟨[]⟩) [] [0] [(y,.cells ⟨[zI a,zI (n+1)]⟩ 122 (0,0))] ⟨rfl,by first|rfl|simp⟩
def SW(a n:Int):Value:=bif decide (n=0) then .tuple ⟨[zI 0,zI 9]⟩ else bif decide (a=n) then .tuple ⟨[zI 1,zI 0]⟩ else bif decide (a=0) then .tuple ⟨[zI 2,zI 0]⟩ else .tuple ⟨[zI 3,zI 0]⟩
theorem aAD{a n:Int}(g:ro y=some (.cells ⟨[zI a,zI n]⟩ 122 (0,0))):eR zT 56 [zP y] ro ((SW a n)):=by
 refine zE<|zD 12<|jl (b:=y) (off:=0) (m:=2) (vs:=[zI a,zI n]) 1 ⟨_,_,_,.inl g,rfl⟩<|zD 3<|zJ 4 (n=0) (fun h1=>?_) fun h1=>?_
 ·
  refine zD 7<|zX (.tuple ⟨[zI 0,zI 9]⟩) ⟨by rw[SW,decide_eq_true h1];rfl,rfl⟩
 refine zD 6<|jl (b:=y) (off:=0) (m:=2) (vs:=[zI a,zI n]) 0 ⟨_,_,_,.inl g,rfl⟩<|zD 3<|jl (b:=y) (off:=0) (m:=2) (vs:=[zI a,zI n]) 1 ⟨_,_,_,.inl g,rfl⟩<|zD 3<|zJ 10 (a=n) (fun h2=>?_) fun h2=>?_
 ·
  refine zD 7<|zX (.tuple ⟨[zI 1,zI 0]⟩) ⟨by rw[SW,decide_eq_false h1,cond_false,decide_eq_true h2];rfl,rfl⟩
 refine zD 6<|jl (b:=y) (off:=0) (m:=2) (vs:=[zI a,zI n]) 0 ⟨_,_,_,.inl g,rfl⟩<|zD 3<|zJ 20 (a=0) (fun h3=>?_) fun h3=>?_
 ·
  refine zD 7<|zX (.tuple ⟨[zI 2,zI 0]⟩) ⟨by rw[SW,decide_eq_false h1,cond_false,decide_eq_false h2,cond_false,decide_eq_true h3];rfl,rfl⟩
 refine zD 8<|zX (.tuple ⟨[zI 3,zI 0]⟩) ⟨by rw[SW,decide_eq_false h1,cond_false,decide_eq_false h2,cond_false,decide_eq_false h3];rfl,rfl⟩
theorem aoq{a:Int}{c:Bool}:dX zT 59 [zP y,zI x] ro [(y,.cells ⟨[zI a,zI b,.bool c]⟩ 126 (0,0))] (fun r Y=>r= .tuple ⟨[]⟩∧Y=[(y,.cells ⟨[zI (bif c then min a x else x),zI (bif c then max b x else x),.bool true]⟩ 126 (0,0))]):=by
 refine zC [.b y (.cells ⟨[zI a,zI b,.bool c]⟩ 126 (0,0))]<|jd 9 [0]<|js 8 (!c) (fun h1=>?_) (fun h1=>?_)
 ·
  try simp only[zB] at h1
  refine jd 25 [0,0,0,0]<|jmn (k:= .i64) (a:=x) (b:=x)<|jd 5 [0]<|jmx (k:= .i64) (a:=x) (b:=x)<|zD 2<|dV 16 fun tc tj sI=>jd 1 [0]<|wC sI []<|zD 2<|dV 19 fun LW Mn Nv=>jd 1 [0]<|wC Nv []<|zD 1<|zR (.tuple ⟨[]⟩) [] [0] [(y,.cells ⟨[zI (min x x),zI (max x x),.bool true]⟩ 126 (0,0))] ⟨rfl,by simp[h1]⟩
 try simp only[zB] at h1
 refine jd 10 [0]<|jmn (k:= .i64) (a:=a) (b:=x)<|jd 5 [0]<|jmx (k:= .i64) (a:=b) (b:=x)<|zD 2<|dV 16 fun Bc Bm AN=>jd 1 [0]<|wC AN []<|zD 2<|dV 19 fun Cq Cy AM=>jd 1 [0]<|wC AM []<|zD 1<|zR (.tuple ⟨[]⟩) [] [0] [(y,.cells ⟨[zI (min a x),zI (max b x),.bool c]⟩ 126 (0,0))] ⟨rfl,by simp[h1]⟩
theorem E9{n lo hi:Int}:eR zT 94 [zI n,zI lo,zI hi] ro (.bool (gY n lo hi)):=by
 refine zE<|zD 10<|jj 4 [(6,.bool false),(14,.bool ((decide (lo≤n))&&(decide (n≤hi))))] (fun nK=>?_) (fun hj=>?_)
 rotate_left
 refine js 10 (decide (lo≤n)) (fun h1=>?_) (fun h1=>?_)
 ·
  have qh:=h1
  replace qh:=of_decide_eq_true qh
  refine zD 4<|jw 14 (.bool ((decide (lo≤n))&&(decide (n≤hi)))) (w:= .bool (decide (n≤hi))) (by rw[h1]<;>rfl) ?_
  exact zK hj
 ·
  have qh:=h1
  replace qh:=of_decide_eq_false qh
  refine zD 4<|jw 14 (.bool ((decide (lo≤n))&&(decide (n≤hi)))) (w:= .bool false) (by rw[h1]<;>rfl) ?_
  exact zK hj
 refine zD 3<|zX (.bool ((decide (lo≤n))&&(decide (n≤hi)))) ⟨rfl,rfl⟩
theorem asG{w:ByteArray}(hp:cD ro v 1 kT ps)(hn:ps.length≤1000):eR zT 170 [v,.string w] ro (zI (c9 (eF w) ps 0)):=by
 obtain⟨dh,ou,oh,cY,rfl,qa,nD,nC⟩:=hp
 refine zE<|zD 12<|fX [1,0,1,0,0] [] (fun(zz:Nat)=>[(0,.slice dh ps.length cY),(1,.string w),(7,zI (ps.length:Int)),(8,zI (zz:Int))]) (fun zz=>[]) (fun zz=>zz≤ps.length∧c9 (eF w) ps 0=c9 (eF w) (ps.drop zz) zz) (fun zz=>ps.length-zz) 0 ⟨by omega,rfl⟩ [] ?_
 rintro k hI K1 cz rest
 refine zD 5<|zJ 9 ((k:Int) <(ps.length:Int)) (fun h1=>?_) fun h1=>?_
 ·
  refine zD 14 ?_
  obtain⟨yj,gD⟩:=zG ps k
  refine jq cY 1 nD gD<|jl 0 (nC _ _ gD)<|zD 2<|js 16 (eF w yj) (fun h2=>?_) (fun h2=>?_)
  ·
   refine zD 7<|zX (zI (k:Int)) ⟨by rw[hI.2,mM gD,show eF w yj=true from (by assumption)];rfl,rfl⟩
  refine zD 3<|zW ((k:Int)+1)<|zD 2<|zY cz (k+1) ⟨by omega,by rw[hI.2,mM gD,show eF w yj=false from (by assumption)];rfl⟩ []
 refine zD 7<|zX (zI (-1)) ⟨by rw[hI.2,xR (by omega)],rfl⟩
theorem aly{w:ByteArray}(hp:cD ro v 1 kT ps)(hn:ps.length≤1000):eR zT 124 [v,.string w] ro (.bool (decide (c9 (eF w) ps 0≥0))):=by
 obtain⟨dh,ou,oh,cY,rfl,qa,nD,nC⟩:=hp
 refine zE<|zD 8<|jp (vs:=[.slice dh ps.length cY,.string w]) [] [] (fun aV hs hZ=>asG ((show cD _ _ _ _ _ from ⟨dh,ou,oh,cY,rfl,qa,nD,nC⟩).up hs) (by first|omega| (simp only[List.length_set,zM];omega))) ?_
 refine zD 4<|zX (.bool (decide ((c9 (eF w) ps 0)≥0))) ⟨rfl,rfl⟩
theorem aLZ{w:ByteArray}(hw:gB w):eR zT 123 [.string w] ro (.tuple ⟨[.string (keyOf w),zI 0]⟩):=by
 refine zE<|zD 9<|jp (vs:=[.string w]) [] [] (fun aV hs hZ=>(T5 hw.n hw.s))<|zD 12<|jp (vs:=[.string w]) [] [] (fun aV hs hZ=>(nOf hw))<|zD 4<|zX (.tuple ⟨[.string (keyOf w),zI 0]⟩) ⟨rfl,rfl⟩
theorem W9{S:List (List az)}(hS:bU ro v S)(hO:eG S):dX zT 93 [.agg ⟨[v]⟩] ro [] (fun r Y=>aK r 3 41 bW (aG S) Y):=by
 obtain⟨ws,ht,fP⟩:=hS
 obtain⟨iZ,I9,I7,gk,rfl,I8,xo,xm⟩:=ht
 have hln:=fP.len
 have Df:=hO.two
 refine zE<|zD 2<|jn fun b1=>jd 15 [0]<|BD<|fX [1,1,0,1,0,0] [] (fun(zz:Nat×Value×Cells)=>[(2,zS),(3,zz.2.1),(9,.slice iZ ws.length gk),(10,zI (ws.length:Int)),(11,zI (zz.1:Int))]) (fun zz=>[.l zz.2.2,.b b1 (.cells ⟨[.slice iZ ws.length gk]⟩ 24 (0,0))]) (fun zz=>zz.1≤ws.length∧aK zz.2.1 3 41 bW (Jk S zz.1) zz.2.2) (fun zz=>ws.length-zz.1) (⟨0,zS,[]⟩) ⟨by dsimp only;omega,aK.nil _ _ _⟩ [0,1] ?_
 rintro⟨k,vO,LO⟩ hI K1 cz rest
 dsimp only at hI
 refine zD 5<|zJ 12 ((k:Int) <(ws.length:Int)) (fun h1=>?_) fun h1=>?_
 ·
  refine zD 7 ?_
  obtain⟨yj,gD⟩:=zG ws k
  refine jq gk 1 xo gD ?_
  obtain⟨Db,No,Va⟩:=fP.get gD
  obtain aCA:=hO.len _ (zL No)
  obtain⟨adm,azk,azi,PK,rfl,azj,adl,adk⟩:=Va
  refine jl 0 (xm _ _ gD)<|zD 10<|fX [1,1,0,1,0,0,1,1,0,0,1,1,0,0] [K1] (fun(zz:Nat×Value×Cells)=>[(2,zS),(3,zz.2.1),(4,zI (k:Int)),(9,.slice iZ ws.length gk),(10,zI (ws.length:Int)),(11,zI (k:Int)),(16,.slice adm Db.length PK),(17,zI (Db.length:Int)),(18,zI (zz.1:Int))]) (fun zz=>[.l zz.2.2,.b b1 (.cells ⟨[.slice iZ ws.length gk]⟩ 24 (0,0))]) (fun zz=>zz.1≤Db.length∧aK zz.2.1 3 41 bW (Jk S k++(Db.take zz.1).map (mU k)) zz.2.2) (fun zz=>Db.length-zz.1) (⟨0,vO,LO⟩) ⟨by dsimp only;omega,by simpa using hI.2⟩ [0,1] ?_
  rintro⟨i,vO,LO⟩ hJ K2 oy rest
  dsimp only at hJ
  refine zD 5<|zJ 19 ((i:Int) <(Db.length:Int)) (fun h2=>?_) fun h2=>?_
  ·
   refine zD 6 ?_
   obtain⟨OA,Hd⟩:=zG Db i
   refine jq PK 2 adl Hd<|jl 0 (adk _ _ Hd)<|jn fun b7=>jd 7 [0,0]<|jn fun b26=>wD (sz:=3) (ps:=(Jk S k++(Db.take i).map (mU k))) (qs:=[(⟨(k:Int),OA.n,OA.l⟩:ah)]) (enc:=bW) (w:= .slice (some ⟨b26,0,none⟩) 1 1) [2] [0] [(b26,.cells ⟨([(⟨(k:Int),OA.n,OA.l⟩:ah)].map bW).flatten⟩ 41 (0,0))] (hJ.2) (fun s _ hZ=>gG [(⟨(k:Int),OA.n,OA.l⟩:ah)] (hZ _ (.head _)) (by intro p hp;rfl)) (fun p _=>aP rfl) (by have:=FN hO k;simp only[List.length_append,List.length_map,List.length_take,List.length_cons,List.length_nil];omega) (fun v27 L27 Ho=>?_)
   obtain⟨aqD,aqy,aui⟩:=Ho.form
   subst aui
   refine zD 3<|zW ((i:Int)+1)<|zD 2<|zF oy (⟨i+1,(.slice aqD (((Jk S k++(Db.take i).map (mU k))++[(⟨(k:Int),OA.n,OA.l⟩:ah)])).length aqy),L27⟩) (by rw[eK Hd,List.map_append,←List.append_assoc];exact Ho) [0,3]
  refine zD 3<|zW ((k:Int)+1)<|zD 2<|zF cz (⟨k+1,vO,LO⟩) (by rw[afm No];have:=hJ.2;rwa[List.take_of_length_le (by omega)] at this) [0,1]
 refine zD 8<|zR (vO) [] [0] LO (by have:=hI.2;rwa[show k=S.length by omega] at this)
def dN(D:Int)(x:bH):Int:=bif !gY x.low 0 (D-1)|| !gY x.high 0 (D-1) then 1 else bif decide (x.low>x.high) then 5 else 0
def dZ(ns:Nat)(hs:List ah)(D:Int)(x:bH):Int:=
 bif x.late then (bif !gY x.st 0 ((ns:Int)-1) then 3 else bif !gY x.no 1 40|| !gY x.lt 0 4 then 1 else dN D x)
 else bif !decide (c9 (pJ x.st x.no x.lt) hs 0≥0) then 3 else dN D x
theorem Na{W:fy}{ws:List Value}{hs:List ah}{x:bH}(hH0:ro Hb=some (.cells ⟨W.cells u⟩ 105 (0,0)))(ht0:cD ro W.a0 1 w6 ws)(hh0:cD ro (.slice W.ha W.H W.ek) 3 bW hs)(hnt:ws.length≤1000)(hnh:hs.length≤1000)(hD:1≤W.D∧W.D≤4)(hx:gB x.name):eR zT 74 [zP Hb,.agg ⟨[.string x.name,zI x.st,zI x.no,zI x.lt,.bool x.late,zI x.low,zI x.high]⟩] ro (zI (dZ ws.length hs W.D x)):=by
 obtain⟨iZ,I9,I7,gk,qx,I8,xo,xm⟩:=ht0
 obtain⟨ov,TN,TJ,od,Ju,TK,SD,SC⟩:=hh0
 have hH:ro Hb=some (.cells ⟨[.slice iZ ws.length gk,W.a1,W.a2,W.a3,W.a4,zI W.D,zI W.S,W.a7,.slice ov hs.length od,u,W.DR]⟩ 105 (0,0)):=by rw[←qx,←Ju];exact hH0
 refine zE<|zD 2<|jn fun b3=>jd 7 [0]<|jp (vs:=[.string x.name]) [] [] (fun aV hs hZ=>(T5 hx.n hx.s))<|jd 15 [0]<|js 14 x.late (fun h1=>?_) (fun h1=>?_)
 ·
  refine jd 13 [0]<|jl (b:=Hb) (off:=0) (m:=11) (vs:=[.slice iZ ws.length gk,W.a1,W.a2,W.a3,W.a4,zI W.D,zI W.S,W.a7,.slice ov hs.length od,u,W.DR]) 0 ⟨_,_,_,.inl hH,rfl⟩<|zD 1<|zW ((ws.length:Int)-1)<|jp (vs:=[zI x.st,zI 0,zI ((ws.length:Int)-1)]) [] [] (fun aV hs hZ=>E9)<|zD 2<|js 28 (!(gY x.st 0 ((ws.length:Int)-1))) (fun h2=>?_) (fun h2=>?_)
  ·
   try simp only[zB] at h2
   refine zD 6<|zX (zI 3) ⟨by first| (simp[dZ,dN, *];done)| (simp_all[dZ,dN];done)| (simp[dZ,dN, *];omega)| (rcases h4 with h4|h4<;>simp[dZ,dN, *]),rfl⟩
  try simp only[zB] at h2
  refine jd 7 [0]<|jn fun b6=>jd 6 [0,0]<|jp (vs:=[zI x.no,zI 1,zI 40]) [] [] (fun aV hs hZ=>E9)<|zD 2<|jj 5 [(0,zP Hb),(3,zP b3),(4,zI 0),(41,.bool ((!(gY x.no 1 40))||(!(gY x.lt 0 4))))] (fun nK=>?_) (fun hj=>?_)
  rotate_left
  refine js 36 (!(gY x.no 1 40)) (fun h3=>?_) (fun h3=>?_)
  ·
   have vK:=h3
   try simp only[zB] at vK
   refine zD 5<|jw 41 (.bool ((!(gY x.no 1 40))||(!(gY x.lt 0 4)))) (w:= .bool true) (by rw[h3]<;>rfl) ?_
   exact zK hj
  ·
   have vK:=h3
   try simp only[zB] at vK
   refine jd 2 [0]<|jp (vs:=[zI x.lt,zI 0,zI 4]) [] [] (fun aV hs hZ=>E9)<|zD 2<|jw 41 (.bool ((!(gY x.no 1 40))||(!(gY x.lt 0 4)))) (w:= .bool (!(gY x.lt 0 4))) (by rw[h3]<;>rfl) ?_
   exact zK hj
  refine zD 1<|js 41 ((!(gY x.no 1 40))||(!(gY x.lt 0 4))) (fun h4=>?_) (fun h4=>?_)
  ·
   try simp only[zB] at h4
   refine zD 6<|zX (zI 1) ⟨by first| (simp[dZ,dN, *];done)| (simp_all[dZ,dN];done)| (simp[dZ,dN, *];omega)| (rcases h4 with h4|h4<;>simp[dZ,dN, *]),rfl⟩
  try simp only[zB] at h4
  refine jd 12 [1]<|jl (b:=Hb) (off:=0) (m:=11) (vs:=[.slice iZ ws.length gk,W.a1,W.a2,W.a3,W.a4,zI W.D,zI W.S,W.a7,.slice ov hs.length od,u,W.DR]) 5 ⟨_,_,_,.inl hH,rfl⟩<|zW (W.D-1)<|jp (vs:=[zI x.low,zI 0,zI (W.D-1)]) [] [] (fun aV hs hZ=>E9)<|zD 2<|js 10 (!(gY x.low 0 (W.D-1))) (fun h5=>?_) (fun h5=>?_)
  ·
   have Rn:=h5
   try simp only[zB] at Rn
   refine zD 19<|zX (zI 1) ⟨by first| (simp[dZ,dN, *];done)| (simp_all[dZ,dN];done)| (simp[dZ,dN, *];omega)| (rcases h4 with h4|h4<;>simp[dZ,dN, *]),rfl⟩
  have Rn:=h5
  try simp only[zB] at Rn
  refine jd 6 [1]<|jl (b:=Hb) (off:=0) (m:=11) (vs:=[.slice iZ ws.length gk,W.a1,W.a2,W.a3,W.a4,zI W.D,zI W.S,W.a7,.slice ov hs.length od,u,W.DR]) 5 ⟨_,_,_,.inl hH,rfl⟩<|zW (W.D-1)<|jp (vs:=[zI x.high,zI 0,zI (W.D-1)]) [] [] (fun aV hs hZ=>E9)<|zD 4<|js 50 (!(gY x.high 0 (W.D-1))) (fun h6=>?_) (fun h6=>?_)
  ·
   try simp only[zB] at h6
   refine zD 6<|zX (zI 1) ⟨by first| (simp[dZ,dN, *];done)| (simp_all[dZ,dN];done)| (simp[dZ,dN, *];omega)| (rcases h4 with h4|h4<;>simp[dZ,dN, *]),rfl⟩
  try simp only[zB] at h6
  refine jd 10 [1,1]<|zJ 73 (x.low>x.high) (fun h7=>?_) fun h7=>?_
  ·
   refine zD 6<|zX (zI 5) ⟨by first| (simp[dZ,dN, *];done)| (simp_all[dZ,dN];done)| (simp[dZ,dN, *];omega)| (rcases h4 with h4|h4<;>simp[dZ,dN, *]),rfl⟩
  refine zD 7<|zX (zI 0) ⟨by first| (simp[dZ,dN, *];done)| (simp_all[dZ,dN];done)| (simp[dZ,dN, *];omega)| (rcases h4 with h4|h4<;>simp[dZ,dN, *]),rfl⟩
 refine zD 6<|jl (b:=Hb) (off:=0) (m:=11) (vs:=[.slice iZ ws.length gk,W.a1,W.a2,W.a3,W.a4,zI W.D,zI W.S,W.a7,.slice ov hs.length od,u,W.DR]) 8 ⟨_,_,_,.inl hH,rfl⟩<|jd 2 [0]<|jp (vs:=[.slice ov hs.length od,.agg ⟨[zI x.st,zI x.no,zI x.lt]⟩]) [] [] (fun aV hs hZ=>KG ((show cD _ _ _ _ _ from ⟨ov,TN,TJ,od,rfl,TK,SD,SC⟩).up hs) (by first|omega| (simp only[List.length_set,zM];omega))) ?_
 refine zD 2<|js 49 (!(decide (c9 (pJ x.st x.no x.lt) hs 0≥0))) (fun h8=>?_) (fun h8=>?_)
 ·
  try simp only[zB] at h8
  refine zD 6<|zX (zI 3) ⟨by first| (simp[dZ,dN, *];done)| (simp_all[dZ,dN];done)| (simp[dZ,dN, *];omega)| (rcases h4 with h4|h4<;>simp[dZ,dN, *]),rfl⟩
 try simp only[zB] at h8
 refine jd 12 [0]<|jl (b:=Hb) (off:=0) (m:=11) (vs:=[.slice iZ ws.length gk,W.a1,W.a2,W.a3,W.a4,zI W.D,zI W.S,W.a7,.slice ov hs.length od,u,W.DR]) 5 ⟨_,_,_,.inl hH,rfl⟩<|zW (W.D-1)<|jp (vs:=[zI x.low,zI 0,zI (W.D-1)]) [] [] (fun aV hs hZ=>E9)<|zD 2<|js 10 (!(gY x.low 0 (W.D-1))) (fun h9=>?_) (fun h9=>?_)
 ·
  have h9g:=h9
  try simp only[zB] at h9g
  refine zD 19<|zX (zI 1) ⟨by first| (simp[dZ,dN, *];done)| (simp_all[dZ,dN];done)| (simp[dZ,dN, *];omega)| (rcases h4 with h4|h4<;>simp[dZ,dN, *]),rfl⟩
 have h9g:=h9
 try simp only[zB] at h9g
 refine jd 6 [0]<|jl (b:=Hb) (off:=0) (m:=11) (vs:=[.slice iZ ws.length gk,W.a1,W.a2,W.a3,W.a4,zI W.D,zI W.S,W.a7,.slice ov hs.length od,u,W.DR]) 5 ⟨_,_,_,.inl hH,rfl⟩<|zW (W.D-1)<|jp (vs:=[zI x.high,zI 0,zI (W.D-1)]) [] [] (fun aV hs hZ=>E9)<|zD 4<|js 50 (!(gY x.high 0 (W.D-1))) (fun A7=>?_) (fun A7=>?_)
 ·
  try simp only[zB] at A7
  refine zD 6<|zX (zI 1) ⟨by first| (simp[dZ,dN, *];done)| (simp_all[dZ,dN];done)| (simp[dZ,dN, *];omega)| (rcases h4 with h4|h4<;>simp[dZ,dN, *]),rfl⟩
 try simp only[zB] at A7
 refine jd 10 [0,0]<|zJ 73 (x.low>x.high) (fun zb=>?_) fun zb=>?_
 ·
  refine zD 6<|zX (zI 5) ⟨by first| (simp[dZ,dN, *];done)| (simp_all[dZ,dN];done)| (simp[dZ,dN, *];omega)| (rcases h4 with h4|h4<;>simp[dZ,dN, *]),rfl⟩
 refine zD 7<|zX (zI 0) ⟨by first| (simp[dZ,dN, *];done)| (simp_all[dZ,dN];done)| (simp[dZ,dN, *];omega)| (rcases h4 with h4|h4<;>simp[dZ,dN, *]),rfl⟩
def ahn:List ByteArray→List ByteArray→Bool
 |_,[]=>false
 |ks,w::l=>decide (c9 (eF (keyOf w)) ks 0≥0)||ahn (ks++[keyOf w]) l
def rY(xs:List ByteArray):Int:=bif decide ((xs.length:Int)=0) then 7 else bif decide ((xs.length:Int)>3) then 6 else bif ahn [] xs then 4 else 0
theorem XZ{l:List ByteArray}{ks:List ByteArray}{k:Nat}{w:ByteArray}(h:l[k]?=some w):ahn ks (l.drop k)=(decide (c9 (eF (keyOf w)) ks 0≥0)||ahn (ks++[keyOf w]) (l.drop (k+1))):=by rw[kP h];rfl
theorem W7{W:fy}{xs:List ByteArray}(hH0:ro Hb=some (.cells ⟨W.cells u⟩ 105 (0,0)))(De:cD ro W.a3 1 kT xs)(Di:xs.length≤1000)(qR:∀w∈xs,gB w):eR zT 92 [zP Hb] ro (zI (rY xs)):=by
 obtain⟨me,PJ,PH,lQ,sD,PI,OC,OB⟩:=De
 have hH:ro Hb=some (.cells ⟨[W.a0,W.a1,W.a2,.slice me xs.length lQ,W.a4,zI W.D,zI W.S,W.a7,(.slice W.ha W.H W.ek),u,W.DR]⟩ 105 (0,0)):=by rw[←sD];exact hH0
 refine zE<|zD 11<|jl (b:=Hb) (off:=0) (m:=11) (vs:=[W.a0,W.a1,W.a2,.slice me xs.length lQ,W.a4,zI W.D,zI W.S,W.a7,(.slice W.ha W.H W.ek),u,W.DR]) 3 ⟨_,_,_,.inl hH,rfl⟩<|zD 3<|zJ 14 ((xs.length:Int)=0) (fun h1=>?_) fun h1=>?_
 ·
  refine zD 6<|zX (zI 7) ⟨by rw[rY,decide_eq_true (by omega)];rfl,rfl⟩
 refine zD 9<|jl (b:=Hb) (off:=0) (m:=11) (vs:=[W.a0,W.a1,W.a2,.slice me xs.length lQ,W.a4,zI W.D,zI W.S,W.a7,(.slice W.ha W.H W.ek),u,W.DR]) 3 ⟨_,_,_,.inl hH,rfl⟩<|zD 3<|zJ 21 ((xs.length:Int)>3) (fun h2=>?_) fun h2=>?_
 ·
  refine zD 6<|zX (zI 6) ⟨by rw[rY,decide_eq_false (by omega),decide_eq_true (by omega)];rfl,rfl⟩
 refine zD 13<|jl (b:=Hb) (off:=0) (m:=11) (vs:=[W.a0,W.a1,W.a2,.slice me xs.length lQ,W.a4,zI W.D,zI W.S,W.a7,(.slice W.ha W.H W.ek),u,W.DR]) 3 ⟨_,_,_,.inl hH,rfl⟩<|zD 4<|BD<|fX [1,1,1,1,0,1,0,0] [] (fun(zz:Nat×Value×Cells×(List ByteArray))=>[(3,zz.2.1),(26,.slice me xs.length lQ),(27,zI (xs.length:Int)),(28,zI (zz.1:Int))]) (fun zz=>[.l zz.2.2.1]) (fun zz=>(zz.1≤xs.length∧zz.2.2.2.length=zz.1)∧aK zz.2.1 1 9 kT zz.2.2.2 zz.2.2.1∧rY xs=bif ahn zz.2.2.2 (xs.drop zz.1) then 4 else 0) (fun zz=>xs.length-zz.1) (⟨0,zS,[],[]⟩) ⟨⟨Nat.zero_le _,rfl⟩,aK.nil _ _ _,by dsimp only;rw[rY,decide_eq_false (by omega),decide_eq_false (by omega)];rfl⟩ [0] ?_
 rintro⟨k,v,L,ks⟩ hI K1 cz rest
 dsimp only at hI
 refine zD 5<|zJ 29 ((k:Int) <(xs.length:Int)) (fun h3=>?_) fun h3=>?_
 ·
  refine zD 6 ?_
  obtain⟨D5,tF⟩:=zG xs k
  refine jq lQ 1 OC tF<|jl 0 (OB _ _ tF)<|zD 5<|jp (vs:=[.string D5]) [] [] (fun aV hs hZ=>(aLZ (qR _ (zL tF))))<|zD 19<|jp (vs:=[v,.string (keyOf D5)]) [0] L (fun aV hs hZ=>aly (hI.2.1.n9 hZ) (by first|omega| (simp only[List.length_set,zM];omega))) ?_
  refine zD 1<|js 42 (decide (c9 (eF (keyOf D5)) ks 0≥0)) (fun h4=>?_) (fun h4=>?_)
  ·
   refine zD 6<|zX (zI 4) ⟨by rw[hI.2.2,XZ tF];simp[*],rfl⟩
  refine zD 5<|jn fun b45=>wD (sz:=1) (ps:=ks) (qs:=[(keyOf D5)]) (enc:=kT) (w:= .slice (some ⟨b45,0,none⟩) 1 1) [1] [0] [(b45,.cells ⟨([(keyOf D5)].map kT).flatten⟩ 9 (0,0))] (hI.2.1) (fun s _ hZ=>gG [(keyOf D5)] (hZ _ (.head _)) (by intro p hp;rfl)) (fun p _=>aP rfl) (by simp<;>omega) (fun v46 L46 afu=>?_)
  obtain⟨aJr,aI7,aPc⟩:=afu.form
  subst aPc
  refine zD 3<|zW ((k:Int)+1)<|zD 2<|zY cz (⟨k+1,(.slice aJr ((ks++[(keyOf D5)])).length aI7),L46,(ks++[(keyOf D5)])⟩) ⟨⟨by dsimp only;omega,by simp only[zM];omega⟩,afu,by dsimp only;rw[hI.2.2,XZ tF];simp[*]⟩ [0]
 refine zD 7<|zX (zI 0) ⟨by rw[hI.2.2,List.drop_eq_nil_of_le (by omega)];rfl,rfl⟩
def Hr(hs:List ah)(x:bH)(i:Int)(b:Bool):Int:=bif !x.late then c9 (pJ x.st x.no x.lt) hs 0 else bif b then i else-1
theorem asn{r:Nat}{W:fy}{m0 m1 m2:Value}{hs:List ah}{x:bH}{es:Array MapEntry}{F:List (ah×Value)}{b:Bool}(hH0:ro Hb=some (.cells ⟨W.cells u⟩ 105 (0,0)))(hh0:cD ro (.slice W.ha W.H W.ek) 3 bW hs)(hnh:hs.length≤1000)(hr:ro r=some (.map es ck))(hE:oW lv F es ck)(hl:II (zI 0) true (⟨x.st,x.no,x.lt⟩:ah) F= .tuple ⟨[zI i,.bool b]⟩):eR zT 140 [zP Hb,.agg ⟨[(.map (some r)),m0,m1,m2]⟩,.agg ⟨[.string x.name,zI x.st,zI x.no,zI x.lt,.bool x.late,zI x.low,zI x.high]⟩] ro (zI (Hr hs x i b)):=by
 obtain⟨ov,TN,TJ,od,Ju,TK,SD,SC⟩:=hh0
 have hH:ro Hb=some (.cells ⟨[W.a0,W.a1,W.a2,W.a3,W.a4,zI W.D,zI W.S,W.a7,.slice ov hs.length od,u,W.DR]⟩ 105 (0,0)):=by rw[←Ju];exact hH0
 refine zE<|zD 2<|jn fun b4=>jn fun b5=>jd 9 [0]<|js 11 (!x.late) (fun h1=>?_) (fun h1=>?_)
 ·
  try simp only[zB] at h1
  refine zD 6<|jl (b:=Hb) (off:=0) (m:=11) (vs:=[W.a0,W.a1,W.a2,W.a3,W.a4,zI W.D,zI W.S,W.a7,.slice ov hs.length od,u,W.DR]) 8 ⟨_,_,_,.inl hH,rfl⟩<|jd 2 [0]<|jp (vs:=[.slice ov hs.length od,.agg ⟨[zI x.st,zI x.no,zI x.lt]⟩]) [] [] (fun aV hs hZ=>QA ((show cD _ _ _ _ _ from ⟨ov,TN,TJ,od,rfl,TK,SD,SC⟩).up hs) (by first|omega| (simp only[List.length_set,zM];omega))) ?_
  refine zD 3<|zX (zI (c9 (pJ x.st x.no x.lt) hs 0)) ⟨by simp[Hr, *],rfl⟩
 try simp only[zB] at h1
 refine jd 9 [1,0]<|jlu (kv:=lv) (F:=F) (r:=r) (K:=41) (⟨x.st,x.no,x.lt⟩:ah) (zI 0) true [] [] wA (fun s he _=>⟨_,_,he _ _ (.inl hr),hE⟩)<|jw 24 (.tuple ⟨[zI i,.bool b]⟩) hl<|zD 10<|js 27 b (fun h2=>?_) (fun h2=>?_)
 ·
  subst h2
  refine zD 7<|zX (zI i) ⟨by simp[Hr, *],rfl⟩
 subst h2
 refine zD 7<|zX (zI (-1)) ⟨by simp[Hr, *],rfl⟩
def Fa:Nat→List Int→List Int
 |0,ys=>ys
 |j+1,ys=>if ys.getD (j+1) 0 <ys.getD j 0 then Fa j ((ys.set (j+1) (ys.getD j 0)).set j (ys.getD (j+1) 0)) else ys
def Gm:Nat→Nat→List Int→List Int
 |0,_,ys=>ys
 |n+1,i,ys=>Gm n (i+1) (Fa i ys)
def nJ(xs:List Int):List Int:=Gm (xs.length-1) 1 xs
theorem ZK{j:Int}(h:¬j>0):Fa j.toNat ys=ys:=by rw[show j.toNat=0 by omega];rfl
theorem amn{i:Nat}(h:ys[i]?=some x):ys.getD i 0=x:=by rw[List.getD_eq_getElem?_getD,h];rfl
theorem ZL{j y:Int}(hj:j>0)(hx:ys[j.toNat]?=some x) (hy:ys[(j-1).toNat]?=some y) (h:¬x <y):Fa j.toNat ys=ys:=by
 have e:j.toNat=(j-1).toNat+1:=by omega
 rw[e] at hx ⊢
 rw[Fa,amn hx,amn hy,if_neg h]
theorem Xm{j y x' y':Int}(hj:j>0)(hx:ys[j.toNat]?=some x) (hy:ys[(j-1).toNat]?=some y) (iM:ys[j.toNat]?=some x') (QJ:ys[(j-1).toNat]?=some y') (h:x <y):Fa j.toNat ys=Fa (j-1).toNat ((ys.set j.toNat y').set (j-1).toNat x'):=by
 rw[hx] at iM;rw[hy] at QJ;cases iM;cases QJ
 have e:j.toNat=(j-1).toNat+1:=by omega
 rw[e] at hx ⊢
 rw[Fa,amn hx,amn hy,if_pos h]
def Og(v:Value)(xs:List Int)(Y:Cells):Prop:=∃ys,(ys=nJ xs∧ys.Perm xs)∧aK v 1 3 dc ys Y
theorem Tf(h:nJ xs=Gm (n-i.toNat) i.toNat ys)(hi:0≤i∧i <n):nJ xs=Gm (n-(i+1).toNat) (i+1).toNat (Fa i.toNat ys):=by
 rw[h,show n-i.toNat=(n-(i+1).toNat)+1 by omega,show (i+1).toNat=i.toNat+1 by omega];rfl
theorem YO(h:nJ xs=Gm (n-i.toNat) i.toNat ys)(hi:¬i <n):ys=nJ xs:=by
 rw[h,show n-i.toNat=0 by omega];rfl
theorem azL{a:Int}:eR zT 177 [zI a,zI b] ro (.bool (decide (a <b))):=by
 refine zE<|zD 7<|jp (vs:=[zI a]) [] [] (fun aV hs hZ=>au4)<|zD 13<|zX (.bool (decide (a <b))) ⟨by simp,rfl⟩
theorem aLR{L:Cells}(ho:aK v 1 3 dc xs L)(hN:xs.length≤12):dX zT 171 [v,zI 0,zI (xs.length:Int)] ro L (fun r Y=>Og v xs Y):=by
 refine zC [.l L]<|zD 7<|fX [1,0,0] [] (fun(zz:Int×(List Int)×Cells)=>[(0,v),(1,zI 0),(2,zI (xs.length:Int)),(6,zI zz.1)]) (fun zz=>[.l zz.2.2]) (fun zz=>(1≤zz.1)∧aK v 1 3 dc zz.2.1 zz.2.2∧zz.2.1.Perm xs∧nJ xs=Gm (xs.length-zz.1.toNat) zz.1.toNat zz.2.1) (fun zz=>((xs.length:Int)-zz.1).toNat) (⟨1,xs,L⟩) ⟨by dsimp only;omega,ho,.refl _,rfl⟩ [0] ?_
 rintro⟨i,ys,L⟩ hI K1 cz rest
 dsimp only at hI
 have hyl:=hI.2.2.1.length_eq
 refine zD 7<|zJ 12 (i <(xs.length:Int)) (fun h1=>?_) fun h1=>?_
 ·
  refine zD 10<|fX [1,0,0,1,0,0,1,0,0] [K1] (fun(zz:Int×(List Int)×Cells)=>[(0,v),(1,zI 0),(2,zI (xs.length:Int)),(6,zI i),(7,zI zz.1)]) (fun zz=>[.l zz.2.2]) (fun zz=>(0≤zz.1∧zz.1≤i)∧aK v 1 3 dc zz.2.1 zz.2.2∧zz.2.1.Perm xs∧nJ xs=Gm (xs.length-(i+1).toNat) (i+1).toNat (Fa zz.1.toNat zz.2.1)) (fun zz=>zz.1.toNat) (⟨i,ys,L⟩) ⟨by dsimp only;omega,hI.2.1,hI.2.2.1,Tf hI.2.2.2 (by omega)⟩ [0] ?_
  rintro⟨j,ys,L⟩ hJ K2 oy rest
  dsimp only at hJ
  have hyl:=hJ.2.2.1.length_eq
  refine zD 7<|js 3 (decide (j>0)) (fun h2=>?_) (fun h2=>?_)
  ·
   have w5:=h2
   replace w5:=of_decide_eq_true w5
   refine zD 2 ?_
   obtain⟨YA,rZ⟩:=zG ys (j.toNat) (by first|omega| (simp only[List.length_set];omega))
   refine zH j 1 hJ.2.1 rZ fun b22 aPZ=>uD 0 [0] L (fun s _ hZ=>p9 hJ.2.1 aPZ hZ rZ)<|zD 2<|zW (j-1) ?_
   obtain⟨x27,Nj⟩:=zG ys ((j-1).toNat) (by first|omega| (simp only[List.length_set];omega))
   refine zH (j-1) 1 hJ.2.1 Nj fun b27 aPV=>uD 0 [0] L (fun s _ hZ=>p9 hJ.2.1 aPV hZ Nj)<|jp (vs:=[zI YA,zI x27]) [] [] (fun aV hs hZ=>azL)<|zD 2<|js 30 (decide (YA <x27)) (fun h3=>?_) (fun h3=>?_)
   ·
    refine zD 9<|zW (j-1)<|zD 2<|zW (j-1) ?_
    obtain⟨x41,Fb⟩:=zG ys ((j-1).toNat) (by first|omega| (simp only[List.length_set];omega))
    refine zH (j-1) 1 hJ.2.1 Fb fun b41 aPS=>uD 0 [0] L (fun s _ hZ=>p9 hJ.2.1 aPS hZ Fb)<|zD 2 ?_
    obtain⟨I2,xG⟩:=zG ys (j.toNat) (by first|omega| (simp only[List.length_set];omega))
    refine zH j 1 hJ.2.1 xG fun b45 auy=>uD 0 [0] L (fun s _ hZ=>p9 hJ.2.1 auy hZ xG) ?_
    obtain⟨x47,Jg⟩:=zG ys (j.toNat) (by first|omega| (simp only[List.length_set];omega))
    refine zH j 1 hJ.2.1 Jg fun b47 aPQ=>dV 15 fun Bc Bm AN=>jso 0 0 [zI x41] x41 hJ.2.1 aPQ Jg rfl rfl (Nat.le_of_ble_eq_true rfl) fun L5 ho6=>wC AN [] ?_
    obtain⟨x48,aBB⟩:=zG ((ys.set j.toNat x41)) ((j-1).toNat) (by first|omega| (simp only[List.length_set];omega))
    refine zH (j-1) 1 ho6 aBB fun b48 aPP=>dV 17 fun Cq Cy AM=>jso 0 0 [zI I2] I2 ho6 aPP aBB rfl rfl (Nat.le_of_ble_eq_true rfl) fun L8 ho9=>IJ AM<|zD 3<|zW (j-1)<|zD 2<|zF oy (⟨(j-1),((ys.set j.toNat x41).set ((j-1).toNat) I2),L8⟩) ⟨ho9,(CX xG Fb).trans hJ.2.2.1,by dsimp only;rw[hJ.2.2.2,Xm (by omega) rZ Nj xG Fb (of_decide_eq_true (by assumption))]⟩ [0]
   refine zD 4<|zW (i+1)<|zD 2<|zF cz (⟨(i+1),ys,L⟩) ⟨hJ.2.1,hJ.2.2.1,by dsimp only;rw[hJ.2.2.2,ZL (by omega) rZ Nj (of_decide_eq_false (by assumption))]⟩ [0]
  have w5:=h2
  replace w5:=of_decide_eq_false w5
  refine zD 16<|zW (i+1)<|zD 2<|zF cz (⟨(i+1),ys,L⟩) ⟨hJ.2.1,hJ.2.2.1,by dsimp only;rw[hJ.2.2.2,ZK (by omega)]⟩ [0]
 refine zD 2<|zR (.tuple ⟨[]⟩) [] [0] L ⟨ys,⟨YO hI.2.2.2 (by omega),hI.2.2.1⟩,hI.2.1⟩
theorem aLQ{L:Cells}{lim:Int}(ho:aK v 1 3 dc xs L)(hN:xs.length≤12):dX zT 128 [v,zI 0,zI (xs.length:Int),zI lim] ro L (fun r Y=>Og v xs Y):=by
 refine zC [.l L]<|zD 9<|fX [1,1,0,0] [] (fun(zz:Nat)=>[(0,v),(1,zI 0),(2,zI (xs.length:Int)),(3,zI lim),(8,.bool true),(9,.bool true)]) (fun zz=>[.l L]) (fun zz=>True) (fun zz=>zz) 0 trivial [0] ?_
 rintro z hI K1 cz rest
 refine zD 5<|zW ((xs.length:Int)-0)<|zD 8<|zJ 23 (((xs.length:Int)-0)≤12) (fun h1=>?_) fun h1=>?_
 ·
  refine zD 6<|jc (vs:=[v,zI 0,zI (xs.length:Int)]) [0] (aLR ho hN) ?_
  rintro aXq Y27 ⟨aWL,aNZ,aN7⟩
  refine zD 2<|zR (.tuple ⟨[]⟩) [] [0] Y27 ⟨_,aNZ,aN7⟩
 exfalso;omega
theorem azK{L:Cells}(ho:aK v 1 3 dc xs L)(hN:xs.length≤12):dX zT 96 [v] ro L (fun r Y=>Og v xs Y):=by
 refine zC [.l L]<|zD 3<|jol ho<|zD 6<|je (zU (xs.length:Int)) (abC (by omega))<|jp (vs:=[zU (xs.length:Int)]) [] [] (fun aV hs hZ=>(au6 (by omega)))<|jc (vs:=[v,zI 0,zI (xs.length:Int),zI (ZA xs.length)]) [0] (aLQ ho hN) ?_
 rintro aXs Y10 ⟨aWO,aN2,Z0⟩
 refine zD 1<|zR (.tuple ⟨[]⟩) [] [0] Y10 ⟨_,aN2,Z0⟩
abbrev vB(x:Int):Value:= zI x
theorem EC(a:Int):∀(es:List MapEntry) (F:List (Int×Value)) (i:Nat),es.map (fun e=>(e.key,e.val))=F.map (fun x=>(vB x.1,x.2))→Instr.findNow (.int .i64) (vB a) es i=some (oe a F i)
 | [],[],_,_=>rfl
 | [],_::_,_,h=>by simp at h
 |_::_,[],_,h=>by simp at h
 |e::es,x::F,i,h=>by
  simp only[List.map_cons,List.cons.injEq,Prod.mk.injEq] at h
  obtain⟨⟨h1,h2⟩,h3⟩:=h
  simp only[Instr.findNow,h1,Instr.sameNow,oe]
  by_cases hk:a=x.1
  ·simp[hk,h2]
  have hb:(a==x.1)=false:=by simp[hk]
  have:=EC a es F (i+1) h3
  simp only[hk,if_false,hb,if_true]
  exact this
theorem Dc:Oq zT 3 vB where
 chk b k α K s Q E h:=by rw[EK (dep:=9999) gT k b];exact h
 find k es F he α K s Q E h:=by
  simp only[Instr.findKey,af,a8 gT,EC k es F 0 he,aj]
  exact h
 stay k:=by simp[Instr.sameBits]
theorem Kj{f:α→Nat}{e:α}:∀ {l:List α},(l.map f).Nodup→e∈l→l.Perm (e::l.filter fun x=> !decide (f x=f e))
 | [],_,h=>by cases h
 |x::l,gX,h=>by
  simp only[List.map_cons,List.nodup_cons] at gX
  rcases List.mem_cons.1 h with rfl|h
  ·have:(e::l).filter (fun x=> !decide (f x=f e))=l:=by
    rw[List.filter_cons_of_neg (by simp)]
    refine List.filter_eq_self.2 fun y hy=>?_
    have:f y≠f e:=fun he=>gX.1 (he▸List.mem_map_of_mem hy)
    simp[this]
   rw[this]
  have cF:f x≠f e:=fun he=>gX.1 (he▸List.mem_map_of_mem h)
  rw[List.filter_cons_of_pos (by simp[cF])]
  exact(List.Perm.cons x (Kj gX.2 h)).trans (.swap _ _ _)
theorem G4{kv:κ→Value}{F:List (κ×Value)}{es:Array MapEntry}(hE:oW kv F es ck){e:MapEntry}(he:e∈cZ es seen):(cZ es seen).Perm (e::cZ es (seen++[e.born])):=by
 have h1:cZ es (seen++[e.born])=(cZ es seen).filter fun x=> !decide (x.born=e.born):=by
  simp only[cZ,List.filter_filter]
  refine List.filter_congr fun x _=>?_
  simp only[List.contains_eq_mem,List.mem_append,List.mem_singleton,Bool.decide_or,Bool.not_or]
  rw[Bool.and_comm]
 rw[h1]
 exact Kj (f:=fun x=>x.born) (hE.2.1.sublist (List.filter_sublist.map _)) he
def aeR:Value→Int
 | .int _ n=>n
 |_=>0
theorem keys_eq{es:Array MapEntry}(hE:oW vB F es ck):es.toList.map (fun e=>aeR e.key)=F.map (·.1):=by
 have h:=congrArg (List.map fun x:Value×Value=>aeR x.1) hE.1
 simpa [List.map_map,Function.comp_def,aeR] using h
def InS(es:Array MapEntry)(F:List (Int×Value))(seen:List Nat)(zs:List Int):Prop:=(zs++(cZ es seen).map fun e=>aeR e.key).Perm (F.map (·.1))
theorem InS.start{es:Array MapEntry}(hE:oW vB F es ck):InS es F [] []:=by
 simp only[InS,uC,List.nil_append];rw[keys_eq hE]
theorem InS.step{es:Array MapEntry}{e:MapEntry}{k:Int}(h:InS es F seen zs)(hE:oW vB F es ck)(he:e∈cZ es seen)(hk:e.key=vB k):InS es F (seen++[e.born]) (zs++[k]):=by
 refine List.Perm.trans ?_ h
 have h1:=((G4 hE he).map fun e=>aeR e.key).symm
 rw[List.map_cons,hk] at h1
 rw[List.append_assoc]
 exact .append_left _ h1
theorem InS.fin{es:Array MapEntry}(h:InS es F seen zs)(he:cZ es seen=[]):zs.Perm (F.map (·.1)):=by
 simpa [InS,he] using h
theorem InS.len{es:Array MapEntry}(h:InS es F seen zs):zs.length≤F.length:=by
 have:=h.length_eq
 simp only[List.length_append,List.length_map] at this
 omega
theorem aeL{m:Nat}{es:Array MapEntry}(hr:ro m=some (.map es ck))(hE:oW vB F es ck)(hn:F.length≤12):dX zT 49 [(.map (some m))] ro [] (fun r Y=>∃zs,zs.Perm (F.map (·.1))∧aK r 1 3 dc (nJ zs) Y):=by
 refine zE<|zD 12<|jmR hr fun r6=>jg 0 [.b r6 (qP m ck [])]<|zD 2<|BD<|fX [1,1,0,1,0,0] [] (fun(zz:(List Nat)×Value×Cells×(List Int))=>[(2,zS),(3,zz.2.1),(6,zP r6)]) (fun zz=>[.b r6 (qP m ck zz.1),.l zz.2.2.1]) (fun zz=>aK zz.2.1 1 3 dc zz.2.2.2 zz.2.2.1∧InS es F zz.1 zz.2.2.2) (fun zz=>(cZ es zz.1).length) (⟨[],zS,[],[]⟩) ⟨aK.nil _ _ _,InS.start hE⟩ [1,0] ?_
 rintro⟨seen,v,L,zs⟩ hI K1 cz rest
 dsimp only at hI
 refine zD 2<|jmN (it:=r6) (kv:=vB) (seen:=seen) 0 hr hE (fun k7 v7 e7 hf7 Jv hk7 hv7=>?_) (fun hz7=>?_)
 ·
  have hzl:=hI.2.len
  refine jg 0 [.b r6 (qP m ck (seen++[e7.born]))]<|zD 8<|jmE (it:=r6) 0 hr hE Jv hk7 hv7<|jg 0 [.b r6 (qP m ck (seen++[e7.born]))]<|zD 6<|jn fun LI=>wD (sz:=1) (ps:=zs) (qs:=[k7]) (enc:=dc) (w:= .slice (some ⟨LI,0,none⟩) 1 1) [2] [0] [(LI,.cells ⟨([k7].map dc).flatten⟩ 3 (0,0))] (hI.1) (fun s _ hZ=>gG [k7] (hZ _ (.head _)) (by intro p hp;rfl)) (fun p _=>aP rfl) (by simp<;>omega) (fun v14 L14 Dh=>?_)
  obtain⟨S2,O1,BK⟩:=Dh.form
  subst BK
  refine zD 2<|eW cz (⟨(seen++[e7.born]),(.slice S2 ((zs++[k7])).length O1),L14,(zs++[k7])⟩) ⟨Dh,hI.2.step hE Jv hk7⟩ (xC Jv) [2,0] (Sub.refl _)
 refine jg 0 [.b r6 (qP m ck seen)]<|zD 8<|jc (vs:=[v]) [1] (azK hI.1 (by have:=hI.2.len;omega)) ?_
 rintro aXr Y16 ⟨aWM,aN0,alS⟩
 refine zD 7<|zR (v) [] [0] Y16 ⟨zs,hI.2.fin hz7,by rw[←aN0.1];exact alS⟩
def lB(f k:Int):Bool:=decide (ZM .u8 (iL .u8 f k) 1=1)
def jD(f:Int):Nat→List Int
 |0=>[]
 |k+1=>jD f k++(bif lB f k then [(k:Int)] else [])
theorem akP{k:Nat}(h:lB f (k:Int)=true):jD f (k+1)=jD f k++[(k:Int)]:=by rw[jD,h];rfl
theorem akQ{k:Nat}(h:lB f (k:Int)=false):jD f (k+1)=jD f k:=by rw[jD,h];exact List.append_nil _
theorem C9(f:Int)(n:Nat):(jD f n).length≤n:=by
 induction n with
 |zero=>exact Nat.le_refl _
 |succ n ih=>rw[jD,List.length_append];cases lB f (n:Int)<;>simp<;>omega
theorem Uo:dX zT 102 [.int .u8 f] ro [] (fun r Y=>aK r 1 3 dc (jD f 5) Y):=by
 refine zE<|zD 14<|BD<|fX [1,1,0,1,0,0] [] (fun(zz:Nat×Value×Cells)=>[(0,.int .u8 f),(2,zS),(3,zz.2.1),(5,zI (zz.1:Int))]) (fun zz=>[.l zz.2.2]) (fun zz=>zz.1≤5∧aK zz.2.1 1 3 dc (jD f zz.1) zz.2.2) (fun zz=>5-zz.1) (⟨0,zS,[]⟩) ⟨by dsimp only;omega,aK.nil _ _ _⟩ [0] ?_
 rintro⟨k,v,L⟩ hI K1 cz rest
 dsimp only at hI
 have A5:=C9 f k
 refine zD 5<|zJ 6 ((k:Int) <5) (fun h1=>?_) fun h1=>?_
 ·
  refine zD 13<|jsr (k:= .u8) (k':= .i64) (a:=f) (b:=(k:Int)) 129 (by omega)<|zD 3<|zJ 12 ((ZM .u8 (iL .u8 f (k:Int)) 1)=1) (fun h2=>?_) fun h2=>?_
  ·
   refine zD 4<|jn fun b15=>wD (sz:=1) (ps:=(jD f k)) (qs:=[(k:Int)]) (enc:=dc) (w:= .slice (some ⟨b15,0,none⟩) 1 1) [1] [0] [(b15,.cells ⟨([(k:Int)].map dc).flatten⟩ 3 (0,0))] (hI.2) (fun s _ hZ=>gG [(k:Int)] (hZ _ (.head _)) (by intro p hp;rfl)) (fun p _=>aP rfl) (by simp<;>omega) (fun v16 L16 afz=>?_)
   obtain⟨aqF,aqA,af9⟩:=afz.form
   subst af9
   refine zD 3<|zW ((k:Int)+1)<|zD 2<|zF cz (⟨k+1,(.slice aqF (((jD f k)++[(k:Int)])).length aqA),L16⟩) (by dsimp only;rw[akP (decide_eq_true (by assumption))];exact afz) [0]
  refine zD 3<|zW ((k:Int)+1)<|zD 2<|zF cz (⟨k+1,v,L⟩) (by dsimp only;rw[akQ (decide_eq_false (by assumption))];exact hI.2) [0]
 refine zD 8<|zR (v) [] [0] L (by rw[←show k=5 by omega];exact hI.2)
theorem ak1{t:aH}{bp:Nat}{a:Int}{c:Bool}{W:fy}{ls:List aO}{ps:List bY}{mk:Nat→Nat→aO→Int}(cq:wm ro Hb W u np ne ls ps mk)(g2:ro bw=some (.cells ⟨[zP Hb]⟩ 95 (0,0)))(g3:ro bp=some (.cells ⟨[zI (p:Int)]⟩ 3 (0,0)))(hp:p <3):dX zT 58 [.agg ⟨[zI t.past,zI t.x.a,zI t.x.b,zI t.x.c,zI t.x.d,zI t.y.a,zI t.y.b,zI t.y.c,zI t.y.d,zI t.z.a,zI t.z.b,zI t.z.c,zI t.z.d]⟩,zP y,zP bw,zP bp] ro [(y,.cells ⟨[zI a,zI b,.bool c]⟩ 126 (0,0))] (fun r Y=>r= .tuple ⟨[]⟩∧Y=[(y,.cells ⟨[zI (bif c then min a (jB W.D (t.at p)) else (jB W.D (t.at p))),zI (bif c then max b (jB W.D (t.at p)) else (jB W.D (t.at p))),.bool true]⟩ 126 (0,0))]):=by
 refine zC [.b y (.cells ⟨[zI a,zI b,.bool c]⟩ 126 (0,0))]<|zD 2<|jn fun b4=>zD 2<|jl (b:=bw) (off:=0) (m:=1) (vs:=[zP Hb]) 0 ⟨_,_,_,.inl g2,rfl⟩<|jl (b:=bp) (off:=0) (m:=1) (vs:=[zI (p:Int)]) 0 ⟨_,_,_,.inl g3,rfl⟩<|zD 1<|xa (b:=b4) (off:=1) (len:=3) (sz:=4) (p:Int) (by omega)<|uD (b:=b4) (off:=1+(p:Int).toNat*4) (m:=4) (vs:=[zI ((t.at p).a),zI ((t.at p).b),zI ((t.at p).c),zI ((t.at p).d)]) 0 [0] [(b4,.cells ⟨[zI t.past,zI t.x.a,zI t.x.b,zI t.x.c,zI t.x.d,zI t.y.a,zI t.y.b,zI t.y.c,zI t.y.d,zI t.z.a,zI t.z.b,zI t.z.c,zI t.z.d]⟩ 115 (0,0))] (fun s _ hZ=>(Cu (t:=t) (hZ _ (.head _)) (by omega)))<|jp (vs:=[zP Hb,.agg ⟨[zI ((t.at p).a),zI ((t.at p).b),zI ((t.at p).c),zI ((t.at p).d)]⟩]) [] [] (fun aV hs hZ=>asl (x:=t.at p) (hs _ _ cq.h) cq.d)<|dV 6 fun tc tj sI=>jc (vs:=[zP y,zI (jB W.D (t.at p))]) [1] (aoq (y:=y) (a:=a) (b:=b) (c:=c)) ?_
 rintro _ _ ⟨rfl,rfl⟩
 refine jg 0 [.b y (.cells ⟨[zI (bif c then min a (jB W.D (t.at p)) else (jB W.D (t.at p))),zI (bif c then max b (jB W.D (t.at p)) else (jB W.D (t.at p))),.bool true]⟩ 126 (0,0))]<|wC sI [[1],[],[]]<|zD 1<|zR (.tuple ⟨[]⟩) [] [0] [(y,.cells ⟨[zI (bif c then min a (jB W.D (t.at p)) else (jB W.D (t.at p))),zI (bif c then max b (jB W.D (t.at p)) else (jB W.D (t.at p))),.bool true]⟩ 126 (0,0))] ⟨rfl,rfl⟩
theorem asi{t:aH}{a n:Int}(g1:ro b1=some (.cells ⟨[.func (.func 54) ⟨[zP y]⟩ ⟨[]⟩]⟩ 123 (0,0)))(g2:ro b2=some (.cells ⟨[zI (p:Int)]⟩ 3 (0,0)))(g3:ro b3=some (.cells ⟨[zI (d:Int)]⟩ 3 (0,0)))(g4:ro b4=some (.cells ⟨[zI h]⟩ 3 (0,0)))(hp:p <3)(hd:d <4)(ha:0≤a∧a≤n)(hn:n≤1000000):dX zT 55 [.agg ⟨[zI t.past,zI t.x.a,zI t.x.b,zI t.x.c,zI t.x.d,zI t.y.a,zI t.y.b,zI t.y.c,zI t.y.d,zI t.z.a,zI t.z.b,zI t.z.c,zI t.z.d]⟩,zP b1,zP b2,zP b3,zP b4] ro [(y,.cells ⟨[zI a,zI n]⟩ 122 (0,0))] (fun r Y=>r= .tuple ⟨[]⟩∧Y=[(y,.cells ⟨[zI (a+bif (decide ((t.at p).at d=h)) then 1 else 0),zI (n+1)]⟩ 122 (0,0))]):=by
 refine zC [.b y (.cells ⟨[zI a,zI n]⟩ 122 (0,0))]<|zD 2<|jn fun b5=>zD 2<|jl (b:=b1) (off:=0) (m:=1) (vs:=[.func (.func 54) ⟨[zP y]⟩ ⟨[]⟩]) 0 ⟨_,_,_,.inl g1,rfl⟩<|jl (b:=b2) (off:=0) (m:=1) (vs:=[zI (p:Int)]) 0 ⟨_,_,_,.inl g2,rfl⟩<|jl (b:=b3) (off:=0) (m:=1) (vs:=[zI (d:Int)]) 0 ⟨_,_,_,.inl g3,rfl⟩<|zD 1<|xa (b:=b5) (off:=1) (len:=3) (sz:=4) (p:Int) (by omega)<|xa (b:=b5) (off:=1+(p:Int).toNat*4) (len:=4) (sz:=1) (d:Int) (by omega)<|uD (b:=b5) (off:=1+(p:Int).toNat*4+(d:Int).toNat*1) (m:=1) (vs:=[zI ((t.at p).at d)]) 0 [0] [(b5,.cells ⟨[zI t.past,zI t.x.a,zI t.x.b,zI t.x.c,zI t.x.d,zI t.y.a,zI t.y.b,zI t.y.c,zI t.y.d,zI t.z.a,zI t.z.b,zI t.z.c,zI t.z.d]⟩ 115 (0,0))] (fun s _ hZ=>fo (hZ _ (.head _)) (yl (t:=t) (by omega) (by omega)))<|jl (b:=b4) (off:=0) (m:=1) (vs:=[zI h]) 0 ⟨_,_,_,.inl g4,rfl⟩<|zD 1<|dV 9 fun tc tj sI=>jc (vs:=[zP y,.bool (decide (((t.at p).at d)=h))]) [1] (aeM (y:=y) (c:=(decide ((t.at p).at d=h))) ha hn) ?_
 rintro _ _ ⟨rfl,rfl⟩
 refine jg 0 [.b y (.cells ⟨[zI (a+bif (decide ((t.at p).at d=h)) then 1 else 0),zI (n+1)]⟩ 122 (0,0))]<|wC sI [[],[1],[],[]]<|zD 1<|zR (.tuple ⟨[]⟩) [] [0] [(y,.cells ⟨[zI (a+bif (decide ((t.at p).at d=h)) then 1 else 0),zI (n+1)]⟩ 122 (0,0))] ⟨rfl,rfl⟩
theorem akY{t:aH}{m:Nat}{L:Cells}(g1:ro b1=some (.cells ⟨[.map (some m)]⟩ 109 (0,0)))(g2:ro b2=some (.cells ⟨[zI (p:Int)]⟩ 3 (0,0)))(g3:ro b3=some (.cells ⟨[zI (d:Int)]⟩ 3 (0,0)))(hp:p <3)(hd:d <4)(hm:fH m vB F L):dX zT 48 [.agg ⟨[zI t.past,zI t.x.a,zI t.x.b,zI t.x.c,zI t.x.d,zI t.y.a,zI t.y.b,zI t.y.c,zI t.y.d,zI t.z.a,zI t.z.b,zI t.z.c,zI t.z.d]⟩,zP b1,zP b2,zP b3] ro L (fun r Y=>r= .tuple ⟨[]⟩∧fH m vB (eQ ((t.at p).at d) (.bool true) F) Y):=by
 refine zC [.l L]<|zD 2<|jn fun b4=>zD 2<|jl (b:=b1) (off:=0) (m:=1) (vs:=[(.map (some m))]) 0 ⟨_,_,_,.inl g1,rfl⟩<|jl (b:=b2) (off:=0) (m:=1) (vs:=[zI (p:Int)]) 0 ⟨_,_,_,.inl g2,rfl⟩<|jl (b:=b3) (off:=0) (m:=1) (vs:=[zI (d:Int)]) 0 ⟨_,_,_,.inl g3,rfl⟩<|zD 1<|xa (b:=b4) (off:=1) (len:=3) (sz:=4) (p:Int) (by omega)<|xa (b:=b4) (off:=1+(p:Int).toNat*4) (len:=4) (sz:=1) (d:Int) (by omega)<|uD (b:=b4) (off:=1+(p:Int).toNat*4+(d:Int).toNat*1) (m:=1) (vs:=[zI ((t.at p).at d)]) 0 [0] [(b4,.cells ⟨[zI t.past,zI t.x.a,zI t.x.b,zI t.x.c,zI t.x.d,zI t.y.a,zI t.y.b,zI t.y.c,zI t.y.d,zI t.z.a,zI t.z.b,zI t.z.c,zI t.z.d]⟩ 115 (0,0))] (fun s _ hZ=>fo (hZ _ (.head _)) (yl (t:=t) (by omega) (by omega)))<|dV 7 fun tc tj sI=>Ut (kv:=vB) (F:=F) (r:=m) (K:=3) 1 ((t.at p).at d) (.bool true) Dc hm fun Lm2 IP=>IJ sI<|zD 1<|zR (.tuple ⟨[]⟩) [] [0] Lm2 ⟨rfl,IP⟩
theorem aAB{t:aH}{m:Nat}{L:Cells}{W:fy}{ls:List aO}{ps:List bY}{mk:Nat→Nat→aO→Int}(cq:wm ro Hb W u np ne ls ps mk)(g1:ro b1=some (.cells ⟨[.map (some m)]⟩ 109 (0,0)))(g2:ro b2=some (.cells ⟨[.func (.func 51) ⟨[zP Hb]⟩ ⟨[]⟩]⟩ 120 (0,0)))(g3:ro b3=some (.cells ⟨[zI h]⟩ 3 (0,0)))(g4:ro b4=some (.cells ⟨[zI (d:Int)]⟩ 3 (0,0)))(hd:d <4)(hm:fH m vB F L):dX zT 52 [.agg ⟨[zI t.past,zI t.x.a,zI t.x.b,zI t.x.c,zI t.x.d,zI t.y.a,zI t.y.b,zI t.y.c,zI t.y.d,zI t.z.a,zI t.z.b,zI t.z.c,zI t.z.d]⟩,zP b1,zP b2,zP b3,zP b4] ro L (fun r Y=>r= .tuple ⟨[]⟩∧fH m vB (eQ (AO np t h d) (.bool true) F) Y):=by
 refine zC [.l L]<|zD 2<|jn fun b5=>zD 2<|jl (b:=b1) (off:=0) (m:=1) (vs:=[(.map (some m))]) 0 ⟨_,_,_,.inl g1,rfl⟩<|jl (b:=b2) (off:=0) (m:=1) (vs:=[.func (.func 51) ⟨[zP Hb]⟩ ⟨[]⟩]) 0 ⟨_,_,_,.inl g2,rfl⟩<|jd 1 [0]<|jl (b:=b3) (off:=0) (m:=1) (vs:=[zI h]) 0 ⟨_,_,_,.inl g3,rfl⟩<|jl (b:=b4) (off:=0) (m:=1) (vs:=[zI (d:Int)]) 0 ⟨_,_,_,.inl g4,rfl⟩<|dV 5 fun tc tj sI=>jp (vs:=[zP Hb,.agg ⟨[zI t.past,zI t.x.a,zI t.x.b,zI t.x.c,zI t.x.d,zI t.y.a,zI t.y.b,zI t.y.c,zI t.y.d,zI t.z.a,zI t.z.b,zI t.z.c,zI t.z.d]⟩,zI h,zI (d:Int)]) [] [] (fun aV hs hZ=>aso (t:=t) (h:=h) (d:=d) (cq.up hs) hd)<|iv sI [0,1]<|dV 6 fun LW Mn Nv=>Ut (kv:=vB) (F:=F) (r:=m) (K:=3) 1 (AO np t h d) (.bool true) Dc hm fun Lm3 hm3=>IJ Nv<|zD 1<|zR (.tuple ⟨[]⟩) [] [0] Lm3 ⟨rfl,hm3⟩
theorem cD.cap{a:Option Addr}{c c':Nat}{enc:α→List Value}{ps:List α}(h:cD ro (.slice a n c) sz enc ps)(hc:n≤c'):cD ro (.slice a n c') sz enc ps:=by
 obtain⟨a',b,o,c2,he,h1,h2,h3⟩:=h
 simp only[Value.slice.injEq] at he
 obtain⟨rfl,rfl,rfl⟩:=he
 exact⟨_,b,o,c',rfl,hc,h2,h3⟩
def fS(x:aO):List Int:=[x.a,x.b,x.c,x.d]
def yV(t:aH):List Int:=[t.past,t.x.a,t.x.b,t.x.c,t.x.d,t.y.a,t.y.b,t.y.c,t.y.d,t.z.a,t.z.b,t.z.c,t.z.d]
theorem aqM{b:Nat}{t:aH}(h:ro b=some (.cells ⟨Fu t⟩ T (0,0)))(hp:p <3)(hn:n≤4):cD ro (.slice (some ⟨b,1+(p:Int).toNat*4,none⟩) n 4) 1 dc ((fS (t.at p)).take n):=by
 have h0:=bM (enc:=dc) (T:=T) (yV t) h (fun _ _=>rfl)
 have h4:n=0∨n=1∨n=2∨n=3∨n=4:=by omega
 rcases Ue hp with rfl|rfl|rfl<;>rcases h4 with rfl|rfl|rfl|rfl|rfl
 all_goals first
  |exact(cD.part h0 (l:=1) (h:=1) (by decide) (by simp[yV])).cap (by decide)
  |exact(cD.part h0 (l:=1) (h:=2) (by decide) (by simp[yV])).cap (by decide)
  |exact(cD.part h0 (l:=1) (h:=3) (by decide) (by simp[yV])).cap (by decide)
  |exact(cD.part h0 (l:=1) (h:=4) (by decide) (by simp[yV])).cap (by decide)
  |exact(cD.part h0 (l:=1) (h:=5) (by decide) (by simp[yV])).cap (by decide)
  |exact(cD.part h0 (l:=5) (h:=5) (by decide) (by simp[yV])).cap (by decide)
  |exact(cD.part h0 (l:=5) (h:=6) (by decide) (by simp[yV])).cap (by decide)
  |exact(cD.part h0 (l:=5) (h:=7) (by decide) (by simp[yV])).cap (by decide)
  |exact(cD.part h0 (l:=5) (h:=8) (by decide) (by simp[yV])).cap (by decide)
  |exact(cD.part h0 (l:=5) (h:=9) (by decide) (by simp[yV])).cap (by decide)
  |exact(cD.part h0 (l:=9) (h:=9) (by decide) (by simp[yV])).cap (by decide)
  |exact(cD.part h0 (l:=9) (h:=10) (by decide) (by simp[yV])).cap (by decide)
  |exact(cD.part h0 (l:=9) (h:=11) (by decide) (by simp[yV])).cap (by decide)
  |exact(cD.part h0 (l:=9) (h:=12) (by decide) (by simp[yV])).cap (by decide)
  |exact(cD.part h0 (l:=9) (h:=13) (by decide) (by simp[yV])).cap (by decide)
theorem ae7{n:Int}(hl:cD ro v 1 dc xs)(hn:xs.length≤1000000):eR zT 63 [v,zI n] ro (zI (c9 (fun y=>decide (n=y)) xs 0)):=by
 obtain⟨cV,nn,nk,cU,rfl,pG,jR,lh⟩:=hl
 refine zE<|zD 12<|fX [1,0,1,0,0] [] (fun(zz:Nat)=>[(0,.slice cV xs.length cU),(1,zI n),(7,zI (xs.length:Int)),(8,zI (zz:Int))]) (fun zz=>[]) (fun zz=>zz≤xs.length∧c9 (fun y=>decide (n=y)) xs 0=c9 (fun y=>decide (n=y)) (xs.drop zz) zz) (fun zz=>xs.length-zz) 0 ⟨by omega,rfl⟩ [] ?_
 rintro k hI K1 cz rest
 refine zD 5<|zJ 9 ((k:Int) <(xs.length:Int)) (fun h1=>?_) fun h1=>?_
 ·
  refine zD 14 ?_
  obtain⟨yj,gD⟩:=zG xs k
  refine jq cU 1 jR gD<|jl 0 (lh _ _ gD)<|zD 2<|zJ 16 (n=yj) (fun h2=>?_) fun h2=>?_
  ·
   refine zD 7<|zX (zI (k:Int)) ⟨by rw[hI.2,mM gD];simp[*],rfl⟩
  refine zD 3<|zW ((k:Int)+1)<|zD 2<|zY cz (k+1) ⟨by omega,by rw[hI.2,mM gD];simp[*]⟩ []
 refine zD 7<|zX (zI (-1)) ⟨by rw[hI.2,xR (by omega)],rfl⟩
theorem aM1{n:Int}(hl:cD ro v 1 dc xs)(hn:xs.length≤1000000):eR zT 141 [v,zI n] ro (.bool (decide (c9 (fun y=>decide (n=y)) xs 0≥0))):=by
 obtain⟨cV,nn,nk,cU,rfl,pG,jR,lh⟩:=hl
 refine zE<|zD 8<|jp (vs:=[.slice cV xs.length cU,zI n]) [] [] (fun aV hs hZ=>ae7 ((show cD _ _ _ _ _ from ⟨cV,nn,nk,cU,rfl,pG,jR,lh⟩).up hs) (by first|omega| (simp only[List.length_set,zM];omega))) ?_
 refine zD 4<|zX (.bool (decide ((c9 (fun y=>decide (n=y)) xs 0)≥0))) ⟨rfl,rfl⟩
theorem ak0{t:aH}{a:Int}{c:Bool}{W:fy}{ls:List aO}{ps:List bY}{mk:Nat→Nat→aO→Int}(cq:wm ro Hb W u np ne ls ps mk)(g1:ro b1=some (.cells ⟨[zI (p:Int)]⟩ 3 (0,0)))(g2:ro bw=some (.cells ⟨[zP Hb]⟩ 95 (0,0)))(g3:ro b3=some (.cells ⟨[zI h]⟩ 3 (0,0)))(hp:p <3):dX zT 62 [.agg ⟨[zI t.past,zI t.x.a,zI t.x.b,zI t.x.c,zI t.x.d,zI t.y.a,zI t.y.b,zI t.y.c,zI t.y.d,zI t.z.a,zI t.z.b,zI t.z.c,zI t.z.d]⟩,zP b1,zP bw,zP b3,zP y] ro [(y,.cells ⟨[zI a,zI b,.bool c]⟩ 126 (0,0))] (fun r Y=>r= .tuple ⟨[]⟩∧Y=(bif decide ((c9 (fun y=>decide (h=y)) ((fS (t.at p)).take W.D.toNat) 0)≥0) then [(y,.cells ⟨[zI (bif c then min a (c9 (fun y=>decide (h=y)) ((fS (t.at p)).take W.D.toNat) 0) else (c9 (fun y=>decide (h=y)) ((fS (t.at p)).take W.D.toNat) 0)),zI (bif c then max b (c9 (fun y=>decide (h=y)) ((fS (t.at p)).take W.D.toNat) 0) else (c9 (fun y=>decide (h=y)) ((fS (t.at p)).take W.D.toNat) 0)),.bool true]⟩ 126 (0,0))] else [(y,.cells ⟨[zI a,zI b,.bool c]⟩ 126 (0,0))])):=by
 obtain⟨xs,Ha,qR⟩:=cq.pe
 obtain⟨me,PJ,PH,lQ,sD,PI,OC,OB⟩:=qR
 obtain⟨es,pP,jb⟩:=cq.e
 obtain⟨dS,uY,uW,dM,qy,uX,rX,rW⟩:=jb
 obtain⟨cV,nn,nk,cU,hle,pG,jR,lh⟩:=cq.l
 obtain⟨dh,ou,oh,cY,qT,qa,nD,nC⟩:=cq.p
 have hH:ro Hb=some (.cells ⟨[W.a0,W.a1,W.a2,.slice me xs.length lQ,W.a4,zI W.D,zI W.S,.slice dS es.length dM,(.slice W.ha W.H W.ek),.slice cV ls.length cU,.slice dh ps.length cY]⟩ 105 (0,0)):=by rw[←sD,←qy,←hle,←qT];exact cq.h
 have Nn:=cq.n3
 have ON:=cq.e5
 have A5:=cq.ll
 have xb:=cq.pl
 have Rm:=cq.d
 refine zC [.b y (.cells ⟨[zI a,zI b,.bool c]⟩ 126 (0,0))]<|zD 2<|jn fun b5=>zD 3<|jl (b:=b1) (off:=0) (m:=1) (vs:=[zI (p:Int)]) 0 ⟨_,_,_,.inl g1,rfl⟩<|zD 1<|xa (b:=b5) (off:=1) (len:=3) (sz:=4) (p:Int) (by omega)<|jl (b:=bw) (off:=0) (m:=1) (vs:=[zP Hb]) 0 ⟨_,_,_,.inl g2,rfl⟩<|zD 3<|jl (b:=Hb) (off:=0) (m:=11) (vs:=[W.a0,W.a1,W.a2,.slice me xs.length lQ,W.a4,zI W.D,zI W.S,.slice dS es.length dM,(.slice W.ha W.H W.ek),.slice cV ls.length cU,.slice dh ps.length cY]) 5 ⟨_,_,_,.inl hH,rfl⟩<|jah (b:=b5) (off:=1+(p:Int).toNat*4) (len:=4) W.D (by omega)<|jl (b:=b3) (off:=0) (m:=1) (vs:=[zI h]) 0 ⟨_,_,_,.inl g3,rfl⟩<|jp (vs:=[(.slice (some ⟨b5,1+(p:Int).toNat*4,none⟩) W.D.toNat 4),zI h]) [0] [(b5,.cells ⟨[zI t.past,zI t.x.a,zI t.x.b,zI t.x.c,zI t.x.d,zI t.y.a,zI t.y.b,zI t.y.c,zI t.y.d,zI t.z.a,zI t.z.b,zI t.z.c,zI t.z.d]⟩ 115 (0,0))] (fun aV hs hZ=>ae7 (aqM (t:=t) hZ.head hp (by have:=cq.d;omega)) (by simp only[List.length_take,fS,List.length_cons,List.length_nil];omega)) ?_
 refine zD 7<|zJ 19 ((c9 (fun y=>decide (h=y)) ((fS (t.at p)).take W.D.toNat) 0)≥0) (fun h1=>?_) fun h1=>?_
 ·
  refine zD 3<|jc (vs:=[zP y,zI (c9 (fun y=>decide (h=y)) ((fS (t.at p)).take W.D.toNat) 0)]) [1] (aoq (y:=y) (a:=a) (b:=b) (c:=c)) ?_
  rintro _ _ ⟨rfl,rfl⟩
  refine jg 0 [.b y (.cells ⟨[zI (bif c then min a (c9 (fun y=>decide (h=y)) ((fS (t.at p)).take W.D.toNat) 0) else (c9 (fun y=>decide (h=y)) ((fS (t.at p)).take W.D.toNat) 0)),zI (bif c then max b (c9 (fun y=>decide (h=y)) ((fS (t.at p)).take W.D.toNat) 0) else (c9 (fun y=>decide (h=y)) ((fS (t.at p)).take W.D.toNat) 0)),.bool true]⟩ 126 (0,0))]<|zD 1<|zR (.tuple ⟨[]⟩) [] [0] [(y,.cells ⟨[zI (bif c then min a (c9 (fun y=>decide (h=y)) ((fS (t.at p)).take W.D.toNat) 0) else (c9 (fun y=>decide (h=y)) ((fS (t.at p)).take W.D.toNat) 0)),zI (bif c then max b (c9 (fun y=>decide (h=y)) ((fS (t.at p)).take W.D.toNat) 0) else (c9 (fun y=>decide (h=y)) ((fS (t.at p)).take W.D.toNat) 0)),.bool true]⟩ 126 (0,0))] ⟨rfl,by rw[decide_eq_true (by assumption)];rfl⟩
 refine zD 2<|zR (.tuple ⟨[]⟩) [] [1] [(y,.cells ⟨[zI a,zI b,.bool c]⟩ 126 (0,0))] ⟨rfl,by rw[decide_eq_false (by assumption)];rfl⟩
def nF(mk:Nat→Nat→aO→Int)(t:aH)(e:Int)(F:List (Int×Value)):Nat→List (Int×Value)
 |0=>F
 |k+1=>bif lB (mk t.past.toNat k (t.at k)) e then eQ (k:Int) (.bool true) (nF mk t e F k) else nF mk t e F k
theorem Me{mk:Nat→Nat→aO→Int}{t:aH}{e:Int}{k:Nat}(h:lB (mk t.past.toNat k (t.at k)) e=true):nF mk t e F (k+1)=eQ (k:Int) (.bool true) (nF mk t e F k):=by rw[nF,h];rfl
theorem Mf{mk:Nat→Nat→aO→Int}{t:aH}{e:Int}{k:Nat}(h:lB (mk t.past.toNat k (t.at k)) e=false):nF mk t e F (k+1)=nF mk t e F k:=by rw[nF,h];rfl
theorem asf{t:aH}{m e:Nat}{L:Cells}{W:fy}{ls:List aO}{ps:List bY}{mk:Nat→Nat→aO→Int}(cq:wm ro Hb W u np ne ls ps mk)(g1:ro bw=some (.cells ⟨[zP Hb]⟩ 95 (0,0)))(g2:ro b2=some (.cells ⟨[zI (e:Int)]⟩ 3 (0,0)))(g3:ro b3=some (.cells ⟨[.map (some m)]⟩ 109 (0,0)))(he:e≤5)(hpa:0≤t.past∧t.past <ps.length)(vG:∀k,k <np→t.at k∈ls)(hm:fH m vB F L):dX zT 67 [.agg ⟨[zI t.past,zI t.x.a,zI t.x.b,zI t.x.c,zI t.x.d,zI t.y.a,zI t.y.b,zI t.y.c,zI t.y.d,zI t.z.a,zI t.z.b,zI t.z.c,zI t.z.d]⟩,zP bw,zP b2,zP b3] ro L (fun r Y=>r= .tuple ⟨[]⟩∧fH m vB (nF mk t e F np) Y):=by
 obtain⟨xs,Ha,qR⟩:=cq.pe
 obtain⟨me,PJ,PH,lQ,sD,PI,OC,OB⟩:=qR
 obtain⟨es,pP,jb⟩:=cq.e
 obtain⟨dS,uY,uW,dM,qy,uX,rX,rW⟩:=jb
 obtain⟨cV,nn,nk,cU,hle,pG,jR,lh⟩:=cq.l
 obtain⟨dh,ou,oh,cY,qT,qa,nD,nC⟩:=cq.p
 have hH:ro Hb=some (.cells ⟨[W.a0,W.a1,W.a2,.slice me xs.length lQ,W.a4,zI W.D,zI W.S,.slice dS es.length dM,(.slice W.ha W.H W.ek),.slice cV ls.length cU,.slice dh ps.length cY]⟩ 105 (0,0)):=by rw[←sD,←qy,←hle,←qT];exact cq.h
 have Nn:=cq.n3
 have ON:=cq.e5
 have A5:=cq.ll
 have xb:=cq.pl
 have Rm:=cq.d
 refine zC [.l L]<|zD 2<|jn fun b4=>zD 3<|jl (b:=bw) (off:=0) (m:=1) (vs:=[zP Hb]) 0 ⟨_,_,_,.inl g1,rfl⟩<|zD 3<|jl (b:=Hb) (off:=0) (m:=11) (vs:=[W.a0,W.a1,W.a2,.slice me xs.length lQ,W.a4,zI W.D,zI W.S,.slice dS es.length dM,(.slice W.ha W.H W.ek),.slice cV ls.length cU,.slice dh ps.length cY]) 3 ⟨_,_,_,.inl hH,rfl⟩<|zD 4<|fX [1,1,0,0] [] (fun(zz:Nat×Cells)=>[(1,zP bw),(2,zP b2),(3,zP b3),(4,zP b4),(11,zI (xs.length:Int)),(12,zI (zz.1:Int))]) (fun zz=>[.l zz.2,.b b4 (.cells ⟨[zI t.past,zI t.x.a,zI t.x.b,zI t.x.c,zI t.x.d,zI t.y.a,zI t.y.b,zI t.y.c,zI t.y.d,zI t.z.a,zI t.z.b,zI t.z.c,zI t.z.d]⟩ 115 (0,0))]) (fun zz=>zz.1≤np∧fH m vB (nF mk t e F zz.1) zz.2) (fun zz=>np-zz.1) (⟨0,L⟩) ⟨Nat.zero_le _,hm⟩ [1,0] ?_
 rintro⟨k,L⟩ hI K1 cz rest
 dsimp only at hI
 refine zD 5<|zJ 13 ((k:Int) <(xs.length:Int)) (fun h1=>?_) fun h1=>?_
 ·
  refine zD 11<|jl (b:=bw) (off:=0) (m:=1) (vs:=[zP Hb]) 0 ⟨_,_,_,.inl g1,rfl⟩<|zD 2<|jl (b:=Hb) (off:=0) (m:=11) (vs:=[W.a0,W.a1,W.a2,.slice me xs.length lQ,W.a4,zI W.D,zI W.S,.slice dS es.length dM,(.slice W.ha W.H W.ek),.slice cV ls.length cU,.slice dh ps.length cY]) 10 ⟨_,_,_,.inl hH,rfl⟩<|jd 3 [1] ?_
  obtain⟨YA,rZ⟩:=zG ps (t.past.toNat)
  refine jsi t.past cY 4 nD rZ (Int.toNat_of_nonneg (show 0≤t.past∧t.past <((ps).length:Int) from (by omega)).1).symm<|zD 1<|xa (b:=ou) (off:=oh+t.past.toNat*4+1) (len:=3) (sz:=1) (k:Int) (by omega) ?_
  obtain⟨mr,mes,mck,mF,hmv,tN,hmE,hmL⟩:=cq.m _ _ rZ k (by omega)
  refine jl (b:=ou) (off:=oh+t.past.toNat*4+1+(k:Int).toNat*1) (m:=1) (vs:=[(.map (some mr))]) 0 (show da ⟨ro,[]⟩ ou (oh+t.past.toNat*4+1+(k:Int).toNat*1) 1 [.map (some mr)] from by have:=PG (nC _ _ rZ) (GJ (x:=YA) (k:=k) (by omega));rw[hmv] at this;simpa [Nat.add_assoc] using this) ?_
  refine zD 2<|xa (b:=b4) (off:=1) (len:=3) (sz:=4) (k:Int) (by omega)<|uD (b:=b4) (off:=1+(k:Int).toNat*4) (m:=4) (vs:=[zI ((t.at k).a),zI ((t.at k).b),zI ((t.at k).c),zI ((t.at k).d)]) 0 [1] [(b4,.cells ⟨[zI t.past,zI t.x.a,zI t.x.b,zI t.x.c,zI t.x.d,zI t.y.a,zI t.y.b,zI t.y.c,zI t.y.d,zI t.z.a,zI t.z.b,zI t.z.c,zI t.z.d]⟩ 115 (0,0))] (fun s _ hZ=>(Cu (t:=t) (hZ _ (.head _)) (by omega)))<|jls [15,16] ⟨fun z2 t3 AM=>?_,fun z5 t6 hL7=>?_,trivial⟩
  ·
   refine jlu (kv:=kvL) (F:=mF) (r:=mr) (K:=112) (t.at k) (.int .u8 0) false [] [] Xe (fun s he _=>⟨_,_,he _ _ (.inl tN),hmE⟩)<|iv AM [0,1]<|jw 15 (.int .u8 (mk t.past.toNat k (t.at k))) (hmL _ (vG _ (by omega)))<|jl (b:=b2) (off:=0) (m:=1) (vs:=[zI (e:Int)]) 0 ⟨_,_,_,.inl g2,rfl⟩<|jsr (k:= .u8) (k':= .i64) (a:=(mk t.past.toNat k (t.at k))) (b:=(e:Int)) 129 (by omega)<|zD 3<|zJ 34 ((ZM .u8 (iL .u8 (mk t.past.toNat k (t.at k)) (e:Int)) 1)=1) (fun h3=>?_) fun h3=>?_
   ·
    refine zD 2<|jl (b:=b3) (off:=0) (m:=1) (vs:=[(.map (some m))]) 0 ⟨_,_,_,.inl g3,rfl⟩<|zD 1<|Ut (kv:=vB) (F:=(nF mk t e F k)) (r:=m) (K:=3) 0 (k:Int) (.bool true) Dc hI.2 fun Lm4 hm4=>zD 2<|zW ((k:Int)+1)<|zD 2<|zF cz (⟨k+1,Lm4⟩) (by dsimp only;rw[Me (decide_eq_true (by assumption))];exact hm4) [0,1]
   refine zD 3<|zW ((k:Int)+1)<|zD 2<|zF cz (⟨k+1,L⟩) (by dsimp only;rw[Mf (decide_eq_false (by assumption))];exact hI.2) [0,1]
  refine jl (b:=b2) (off:=0) (m:=1) (vs:=[zI (e:Int)]) 0 ⟨_,_,_,.inl g2,rfl⟩<|iv hL7 [0,1]<|dV 15 fun ai1 ajn hL8=>jlu (kv:=kvL) (F:=mF) (r:=mr) (K:=112) (t.at k) (.int .u8 0) false [] [] Xe (fun s he _=>⟨_,_,he _ _ (.inl tN),hmE⟩)<|iv hL8 [0,1]<|jw 15 (.int .u8 (mk t.past.toNat k (t.at k))) (hmL _ (vG _ (by omega)))<|jsr (k:= .u8) (k':= .i64) (a:=(mk t.past.toNat k (t.at k))) (b:=(e:Int)) 129 (by omega)<|zD 3<|zJ 34 ((ZM .u8 (iL .u8 (mk t.past.toNat k (t.at k)) (e:Int)) 1)=1) (fun h7=>?_) fun h7=>?_
  ·
   refine zD 2<|jl (b:=b3) (off:=0) (m:=1) (vs:=[(.map (some m))]) 0 ⟨_,_,_,.inl g3,rfl⟩<|zD 1<|Ut (kv:=vB) (F:=(nF mk t e F k)) (r:=m) (K:=3) 0 (k:Int) (.bool true) Dc hI.2 fun Lm8 hm8=>zD 2<|zW ((k:Int)+1)<|zD 2<|zF cz (⟨k+1,Lm8⟩) (by dsimp only;rw[Me (decide_eq_true (by assumption))];exact hm8) [0,1]
  refine zD 3<|zW ((k:Int)+1)<|zD 2<|zF cz (⟨k+1,L⟩) (by dsimp only;rw[Mf (decide_eq_false (by assumption))];exact hI.2) [0,1]
 refine zD 2<|zR (.tuple ⟨[]⟩) [] [0] L ⟨rfl,by rw[show np=k by omega];exact hI.2⟩
structure cm where
 str:List (List az)
 ways:List (List cE)
 ar:List ByteArray
 rules:List dK
 days:Int
 stay:Int
 ax:List bH
def du(ro:Nat→Option Obj)(l:List Value)(K:cm):Prop:=∃(vS vT vP vR vE:Value) (fa:Option Addr) (fc:Nat),l=[vS,vT,.slice fa 0 fc,vP,vR,zI K.days,zI K.stay,vE]∧bU ro vS K.str∧lG ro vT K.ways∧cD ro vP 1 kT K.ar∧cD ro vR 2 kB K.rules∧cD ro vE 7 nf K.ax
theorem du.up{aR:Nat→Option Obj}{l:List Value}{K:cm}(h:du ro l K)(hs:Sub ro aR):du aR l K:=by
 obtain⟨vS,vT,vP,vR,vE,fa,fc,h0,h1,h2,h3,h4,h5⟩:=h
 exact⟨vS,vT,vP,vR,vE,fa,fc,h0,h1.up hs,h2.up hs,h3.up hs,h4.up hs,h5.up hs⟩
structure JN(K:cm):Prop where
 qv:eG K.str
 ways:s7 K.ways
 rules:K.rules.length≤4∧∀r∈K.rules,s8 r
 ar:K.ar.length≤1000∧∀w∈K.ar,gB w
 ax:K.ax.length≤1000∧∀x∈K.ax,gB x.name
def cm.hs(K:cm):List ah:=aG K.str
def cm.dZ(K:cm)(x:bH):Int:=Go.L.dZ K.str.length K.hs K.days x
def AU(f:bH→Int):List bH→Int
 | []=>0
 |x::l=>bif !decide (f x=0) then f x else AU f l
theorem XX{f:bH→Int}{l:List bH}{k:Nat}{x:bH}(h:l[k]?=some x):AU f (l.drop k)=bif !decide (f x=0) then f x else AU f (l.drop (k+1)):=by rw[kP h];rfl
def mG(K:cm):Int:=
 bif !decide (rY K.ar=0) then rY K.ar else bif decide (((K.hs).length:Int)=0) then 7 else bif decide ((K.ar.length:Int)*(K.hs.length:Int)>6) then 6 else
 bif !gY K.days 1 4|| !gY K.stay 1 K.days then 1 else bif decide ((K.ax.length:Int)>5) then 6 else AU K.dZ K.ax
theorem Gh{S:List (List az)}{ways:List (List cE)}(hW:s7 ways):1≤(dz S ways).length:=by
 match ways,hW with
 | [],_=>simp[dz]
 |l::_,hW=>
  have:=(hW.ok l (by simp)).1.1
  simpa [dz] using this
theorem WR:gB (bs [97]):=⟨⟨by decide,by decide⟩,.inl (show ∀b∈([97]:List UInt8),Ay b=true by decide)⟩
theorem mulR{a b:Nat}(ha:a≤3)(hb:b≤8):(a:Int)*(b:Int)≤24∧0≤(a:Int)*(b:Int):=by
 have:a*b≤3*8:=Nat.mul_le_mul ha hb
 have e:(a:Int)*(b:Int)=((a*b:Nat):Int):=by simp
 omega
theorem ML{xs:List ByteArray}(h:rY xs=0):1≤xs.length∧xs.length≤3:=by
 unfold rY at h
 by_cases h1:(xs.length:Int)=0
 ·rw[decide_eq_true h1] at h;simp at h
 by_cases h2:(xs.length:Int)>3
 ·rw[decide_eq_false h1,decide_eq_true h2] at h;simp at h
 omega
theorem xy{K:cm}(h:mG K=0):rY K.ar=0∧K.hs.length≠0∧(K.ar.length:Int)*(K.hs.length:Int)≤6∧((1≤K.days∧K.days≤4)∧1≤K.stay∧K.stay≤K.days)∧K.ax.length≤5∧AU K.dZ K.ax=0:=by
 unfold mG at h
 by_cases h1:rY K.ar=0
 ·rw[decide_eq_true h1] at h
  by_cases h2:((K.hs).length:Int)=0
  ·rw[decide_eq_true h2] at h;simp at h
  rw[decide_eq_false h2] at h
  by_cases h3:(K.ar.length:Int)*(K.hs.length:Int)>6
  ·rw[decide_eq_true h3] at h;simp at h
  rw[decide_eq_false h3] at h
  by_cases h4:(1≤K.days∧K.days≤4)∧1≤K.stay∧K.stay≤K.days
  ·have e:(!gY K.days 1 4|| !gY K.stay 1 K.days)=false:=by simp[gY,h4.1.1,h4.1.2,h4.2.1,h4.2.2]
   rw[e] at h
   by_cases h5:(K.ax.length:Int)>5
   ·rw[decide_eq_true h5] at h;simp at h
   rw[decide_eq_false h5] at h
   exact⟨h1,by omega,by omega,h4,by omega,h⟩
  have e:(!gY K.days 1 4|| !gY K.stay 1 K.days)=true:=by
   cases he:(!gY K.days 1 4|| !gY K.stay 1 K.days) with
   |true=>rfl
   |false=>simp[gY] at he;exact absurd ⟨⟨he.1.1,he.1.2⟩,he.2.1,he.2.2⟩ h4
  rw[e] at h;simp at h
 rw[decide_eq_false h1] at h;exact absurd h h1
theorem XW{f:bH→Int}{l:List bH}{k:Nat}{x:bH}(h:l[k]?=some x) (h0:f x=0):AU f (l.drop k)=AU f (l.drop (k+1)):=by rw[XX h,decide_eq_true h0];rfl
theorem XV{f:bH→Int}{l:List bH}{k:Nat}{x:bH}(h:l[k]?=some x) (h0:¬f x=0):AU f (l.drop k)=f x:=by rw[XX h,decide_eq_false h0];rfl
def cm.W(K:cm):List (List Int):=(dz K.str K.ways).map (·.ways)
theorem aop{l:List Value}{K:cm}(hK:du ro l K)(hC:JN K)(hE:mG K=0):dX zT 43 [.agg ⟨l⟩] ro [] (fun r Y=>∃b ha hc LH wa wn wc Lw,r= .tuple ⟨[zP b,.slice wa wn wc,zI 0]⟩∧Y=(b,.cells ⟨l++[.slice ha (aG K.str).length hc,zS,zS]⟩ 105 (0,0))::(LH++Lw)∧aK (.slice ha (aG K.str).length hc) 3 41 bW (aG K.str) LH∧wn=K.W.length∧∀tS,Knows tS Lw→aic tS (.slice wa wn wc) K.W):=by
 obtain⟨vS,vT,vP,vR,vE,fa,fc,rfl,hS,hT,hp,hr,he⟩:=hK
 have y3:=hp
 have Hx:=he
 have p6:=hr
 obtain⟨dh,ou,oh,cY,rfl,qa,nD,nC⟩:=hp
 obtain⟨dS,uY,uW,dM,rfl,uX,rX,rW⟩:=he
 have qzl:∀(i:Nat) (p:iD),([]:List iD)[i]?=some p→da ⟨ro,[]⟩ 0 (0+i*6) 6 (rG p):=fun _ _ h=>wz h
 obtain⟨p5,A4,iV⟩:=id hS
 have IK:=iV.len
 have Df:=hC.qv.two
 have AK:=qX (S:=K.str) hC.ways
 have hTp:=Gh (S:=K.str) hC.ways
 have hhl:=lA hC.qv
 have xb:=hC.ar.1
 have hel:=hC.ax.1
 obtain⟨oe1,oe2,oe3,oe4,oe5,oe6⟩:=xy hE
 have oel:=ML oe1
 simp only[cm.hs] at oe2 oe3
 refine zE<|zD 2<|jn fun b1=>jd 8 [0]<|jn fun Iq=>jd 6 [1]<|jc (vs:=[.agg ⟨[vS,vT,.slice fa 0 fc]⟩]) [] (XN hS hC.qv hT hC.ways) ?_
 rintro _ Lw ⟨wa,wn,wc,rfl,hwn,hWW⟩
 simp only[List.length_map] at hwn
 refine zD 21<|zJ 28 ((wn:Int)=0) (fun h1=>?_) fun h1=>?_
 ·
  exfalso;omega
 refine zD 9<|zJ 31 ((wn:Int)>4) (fun h2=>?_) fun h2=>?_
 ·
  exfalso;omega
 refine zD 6<|jp (vs:=[zP Iq]) [1] [(Iq,.cells ⟨[vS,vT,.slice fa 0 fc,.slice dh K.ar.length cY,vR,zI K.days,zI K.stay,.slice dS K.ax.length dM,zS,zS,zS]⟩ 105 (0,0))] (fun aV hs hZ=>W7 (W:=⟨vS,vT,.slice fa 0 fc,.slice dh K.ar.length cY,vR,.slice dS K.ax.length dM,zS,K.days,K.stay,none,0,0⟩) (u:= zS) hZ.head (y3.up hs) hC.ar.1 hC.ar.2)<|zD 7<|js 35 (!decide ((rY K.ar)=0)) (fun h3=>?_) (fun h3=>?_)
 ·
  replace h3:=of_decide_eq_false (by simpa using h3)
  exfalso;omega
 replace h3:=of_decide_eq_true (by simpa using h3)
 refine jd 8 [2]<|jc (vs:=[.agg ⟨[vS]⟩]) [] (W9 hS hC.qv) ?_
 rintro v41 L41 ZY
 obtain⟨O3,OZ,aug⟩:=ZY.form
 subst aug
 refine jd 14 [2,2]<|zJ 49 (((aG K.str).length:Int)=0) (fun h4=>?_) fun h4=>?_
 ·
  exfalso;omega
 refine jd 16 [2,2]<|ja ((K.ar.length:Int)*((aG K.str).length:Int)) (by have:=mulR (show K.ar.length≤3 by omega) hhl;omega) ?_
 refine zD 2<|zJ 62 (((K.ar.length:Int)*((aG K.str).length:Int))>6) (fun h5=>?_) fun h5=>?_
 ·
  exfalso;omega
 refine jd 7 [3]<|jp (vs:=[vR,.string (bs [97]),.string (bs [97])]) [] [] (fun aV hs hZ=>GV (p6.up hs) hC.rules.2 hC.rules.1 WR WR)<|jd 18 [3]<|jp (vs:=[zI K.days,zI 1,zI 4]) [] [] (fun aV hs hZ=>E9)<|zD 2<|jj 7 [(1,zP b1),(2,.pointer none),(3,zS),(4,zI 0),(5,zP Iq),(6,.slice wa wn wc),(83,.bool ((!(gY K.days 1 4))||(!(gY K.stay 1 K.days))))] (fun nK=>?_) (fun hj=>?_)
 rotate_left
 refine js 76 (!(gY K.days 1 4)) (fun h6=>?_) (fun h6=>?_)
 ·
  have BN:=h6
  try simp only[zB] at BN
  refine zD 7<|jw 83 (.bool ((!(gY K.days 1 4))||(!(gY K.stay 1 K.days)))) (w:= .bool true) (by rw[h6]<;>rfl) ?_
  exact zK hj
 ·
  have BN:=h6
  try simp only[zB] at BN
  refine jd 4 [3,3]<|jp (vs:=[zI K.stay,zI 1,zI K.days]) [] [] (fun aV hs hZ=>E9)<|zD 2<|jw 83 (.bool ((!(gY K.days 1 4))||(!(gY K.stay 1 K.days)))) (w:= .bool (!(gY K.stay 1 K.days))) (by rw[h6]<;>rfl) ?_
  exact zK hj
 refine zD 1<|js 83 ((!(gY K.days 1 4))||(!(gY K.stay 1 K.days))) (fun h7=>?_) (fun h7=>?_)
 ·
  try simp only[zB] at h7
  exfalso;simp[gY] at h7;omega
 try simp only[zB] at h7
 refine jd 10 [3]<|zJ 87 ((K.ax.length:Int)>5) (fun h8=>?_) fun h8=>?_
 ·
  exfalso;omega
 refine jd 11 [3]<|fX [1,1,1,1,1,1,1,1,1,1,1,1,1,0,1,0,0] [] (fun(zz:Nat)=>[(5,zP Iq),(6,.slice wa wn wc),(89,.slice dS K.ax.length dM),(90,zI (K.ax.length:Int)),(91,zI (zz:Int))]) (fun zz=>[.l L41,.l Lw,.b Iq (.cells ⟨[vS,vT,.slice fa 0 fc,.slice dh K.ar.length cY,vR,zI K.days,zI K.stay,.slice dS K.ax.length dM,(.slice O3 (aG K.str).length OZ),zS,zS]⟩ 105 (0,0)),.b b1 (.cells ⟨[vS,vT,.slice fa 0 fc,.slice dh K.ar.length cY,vR,zI K.days,zI K.stay,.slice dS K.ax.length dM]⟩ 33 (0,0))]) (fun zz=>zz≤K.ax.length∧AU K.dZ K.ax=AU K.dZ (K.ax.drop zz)) (fun zz=>K.ax.length-zz) 0 ⟨Nat.zero_le _,rfl⟩ (zN 0 4) ?_
 rintro k hI K1 cz rest
 refine zD 5<|zJ 92 ((k:Int) <(K.ax.length:Int)) (fun h9=>?_) fun h9=>?_
 ·
  refine zD 6 ?_
  obtain⟨JO,Hc⟩:=zG K.ax k
  refine jq dM 7 rX Hc<|jl 0 (rW _ _ Hc)<|jn fun wK=>jd 6 [0,0]<|jp (vs:=[zP Iq,.agg ⟨[.string JO.name,zI JO.st,zI JO.no,zI JO.lt,.bool JO.late,zI JO.low,zI JO.high]⟩]) [3,1] ((Iq,.cells ⟨[vS,vT,.slice fa 0 fc,.slice dh K.ar.length cY,vR,zI K.days,zI K.stay,.slice dS K.ax.length dM,(.slice O3 (aG K.str).length OZ),zS,zS]⟩ 105 (0,0))::L41) (fun aV hs hZ=>(show eR _ _ _ _ (zI (K.dZ JO)) from by rw[cm.dZ,←IK];exact Na (W:=⟨vS,vT,.slice fa 0 fc,.slice dh K.ar.length cY,vR,.slice dS K.ax.length dM,zS,K.days,K.stay,O3,(aG K.str).length,OZ⟩) (u:= zS) (ws:=p5) (hs:=(aG K.str)) hZ.head (A4.up hs) (ZY.n9 hZ.tail) (by omega) (by omega) (show 1≤K.days∧K.days≤4 by omega) (hC.ax.2 _ (zL Hc)))) ?_
  refine zD 7<|js 99 (!decide ((K.dZ JO)=0)) (fun A7=>?_) (fun A7=>?_)
  ·
   replace A7:=of_decide_eq_false (by simpa using A7)
   exfalso;have e:=XV (f:=K.dZ) Hc (by omega);rw[←hI.2,oe6] at e;omega
  replace A7:=of_decide_eq_true (by simpa using A7)
  refine zD 3<|zW ((k:Int)+1)<|zD 2<|zY cz (k+1) ⟨by omega,by rw[hI.2,XW Hc (by omega)]⟩ [1,2,3,4]
 refine zD 11<|zR (.tuple ⟨[zP Iq,.slice wa wn wc,zI 0]⟩) [] [2,0,1] ((Iq,.cells ⟨[vS,vT,.slice fa 0 fc,.slice dh K.ar.length cY,vR,zI K.days,zI K.stay,.slice dS K.ax.length dM,(.slice O3 (aG K.str).length OZ),zS,zS]⟩ 105 (0,0))::(L41++Lw)) ⟨_,_,_,_,_,_,_,_,rfl,rfl,ZY,by simp only[cm.W,List.length_map];exact hwn,hWW⟩
theorem AQ{f g:α→List β}:∀ {l:List α},(∀x∈l,(f x).Perm (g x))→(l.flatMap f).Perm (l.flatMap g)
 | [],_=> .nil
 |x::l,h=>by
  rw[List.flatMap_cons,List.flatMap_cons]
  exact(h x (by simp)).append (AQ fun y hy=>h y (by simp[hy]))
theorem HD{ls ls':List aO}{mk:Nat→Nat→aO→Int}(h:ls.Perm ls'):∀n t p m,(nu D ls mk need n t p m).Perm (nu D ls' mk need n t p m)
 |0,_,_,_=> .refl _
 |n+1,t,p,m=>by
  simp only[nu]
  refine(List.Perm.flatMap_right _ h).trans (AQ fun x _=>?_)
  cases qt D t p x with
  |false=>exact .refl _
  |true=>exact HD h n _ _ _
theorem YH{ls ls':List aO}{mk:Nat→Nat→aO→Int}{k:Nat}(h:ls.Perm ls'):(dY D ls mk np k need).Perm (dY D ls' mk np k need):=AQ fun _ _=>HD h _ _ _ _
def Nc(f:aH→Int)(L:List aH):List (Int×Value):=L.foldl (fun F t=>eQ (f t) (.bool true) F) []
theorem xN[DecidableEq κ]{k:κ}:∀ {F:List (κ×Value)} {i:Nat},oe k F i=none→k∉F.map (·.1)
 | [],_,_=>by simp
 |x::l,i,h=>by
  unfold oe at h
  split at h
  ·cases h
  rename_i cF
  simp only[List.map_cons,List.mem_cons,not_or]
  exact⟨cF,xN h⟩
theorem FE{k:κ}:∀ {F:List (κ×Value)} {i:Nat} {u:Value},F[i]?=some (k,u)→(qu k v F i).map (·.1)=F.map (·.1)
 | [],_,_,h=>by simp at h
 |x::l,0,u,h=>by simp at h;simp[qu,h]
 |x::l,i+1,u,h=>by simp at h;simp[qu,FE h]
theorem V9[DecidableEq κ]{k:κ}{F:List (κ×Value)}:(eQ k v F).map (·.1)=F.map (·.1)∧k∈F.map (·.1)∨(eQ k v F).map (·.1)=F.map (·.1)++[k]∧k∉F.map (·.1):=by
 unfold eQ
 split
 ·rename_i i u hf
  have h:=(nS hf).2
  rw[Nat.sub_zero] at h
  exact .inl ⟨FE h,List.mem_map.2 ⟨_,zL h,rfl⟩⟩
 rename_i hf
 exact .inr ⟨by simp,xN hf⟩
theorem JV[DecidableEq κ]{k:κ}{F:List (κ×Value)}(h:(F.map (·.1)).Nodup):((eQ k v F).map (·.1)).Nodup:=by
 rcases V9 (k:=k) (v:=v) (F:=F) with ⟨e,_⟩| ⟨e,hn⟩
 ·rwa[e]
 rw[e];exact List.nodup_append.2 ⟨h,by simp,fun a ha b hb KX=>by simp at hb;subst hb;subst KX;exact hn ha⟩
theorem V8[DecidableEq κ]{k x:κ}{F:List (κ×Value)}:x∈(eQ k v F).map (·.1)↔x=k∨x∈F.map (·.1):=by
 rcases V9 (k:=k) (v:=v) (F:=F) with ⟨e,h⟩| ⟨e,_⟩
 ·rw[e];exact⟨.inr,fun h'=>h'.elim (fun e=>e▸h) id⟩
 rw[e];simp[or_comm]
theorem K9{f:aH→Int}:∀(L:List aH) (F:List (Int×Value)),(F.map (·.1)).Nodup→((L.foldl (fun F t=>eQ (f t) (.bool true) F) F).map (·.1)).Nodup∧∀x,x∈(L.foldl (fun F t=>eQ (f t) (.bool true) F) F).map (·.1)↔x∈F.map (·.1)∨∃t∈L,f t=x
 | [],F,h=>⟨h,fun x=>by simp⟩
 |t::L,F,h=>by
  have:=K9 (f:=f) L (eQ (f t) (.bool true) F) (JV h)
  refine⟨this.1,fun x=>?_⟩
  rw[List.foldl_cons,this.2 x,V8]
  constructor
  ·rintro((rfl|h)| ⟨u,hu,rfl⟩)
   ·exact .inr ⟨t,by simp,rfl⟩
   ·exact .inl h
   exact .inr ⟨u,by simp[hu],rfl⟩
  rintro(h| ⟨u,hu,rfl⟩)
  ·exact .inl (.inr h)
  rcases List.mem_cons.1 hu with rfl|hu
  ·exact .inl (.inl rfl)
  exact .inr ⟨u,hu,rfl⟩
theorem KE{f:aH→Int}{L:List aH}{k:Nat}{t:aH}(h:L[k]?=some t):Nc f (L.take (k+1))=eQ (f t) (.bool true) (Nc f (L.take k)):=by
 rw[List.take_add_one,h];simp[Nc,List.foldl_append]
theorem ZF{f:aH→Int}{L L':List aH}{ds:List Int}(hz:zs.Perm ((Nc f L).map (·.1)))(hL:L.Perm L')(hd:ds.Nodup)(hm:(ds.all fun x=>L'.any fun t=>decide (f t=x))=true)(ha:(L'.all fun t=>ds.contains (f t))=true):zs.Perm ds:=by
 obtain⟨h1,h2⟩:=K9 (f:=f) L [] List.nodup_nil
 refine(List.perm_ext_iff_of_nodup ((hz.nodup_iff).2 h1) hd).2 fun x=>?_
 rw[hz.mem_iff,Nc,h2 x]
 simp only[List.map_nil,List.not_mem_nil,false_or]
 constructor
 ·rintro⟨t,ht,rfl⟩
  have:=List.all_eq_true.1 ha t (hL.mem_iff.1 ht)
  simpa using this
 intro hx
 obtain⟨t,ht,he⟩:=List.any_eq_true.1 (List.all_eq_true.1 hm x hx)
 exact⟨t,hL.mem_iff.2 ht,by simpa using he⟩
theorem GI{a:Int}(h:zs.Perm [a]):zs=[a]:=List.perm_singleton.1 h
theorem yu{a:Int}(h:zs.Perm [a,b]):zs=[a,b]∨zs=[b,a]:=by
 match zs,h.length_eq,h with
 | [x,y],_,h=>
  have h1:=h.mem_iff (a:=x)
  simp only[List.mem_cons,List.not_mem_nil,or_false,true_or,true_iff] at h1
  rcases h1 with rfl|rfl
  ·have:=GI (List.perm_cons _|>.1 h);simp at this;subst this;exact .inl rfl
  have:=GI (List.perm_cons _|>.1 (h.trans (.swap _ _ _)));simp at this;subst this;exact .inr rfl
theorem TP{a c:Int}(h:zs.Perm [a,b,c]):zs=[a,b,c]∨zs=[a,c,b]∨zs=[b,a,c]∨zs=[b,c,a]∨zs=[c,a,b]∨zs=[c,b,a]:=by
 match zs,h.length_eq,h with
 | [x,y,z],_,h=>
  have h1:=h.mem_iff (a:=x)
  simp only[List.mem_cons,List.not_mem_nil,or_false,true_or,true_iff] at h1
  rcases h1 with rfl|rfl|rfl
  ·rcases yu (List.perm_cons _|>.1 h) with e|e<;>simp at e<;>obtain⟨rfl,rfl⟩:=e<;>simp
  ·rcases yu (List.perm_cons _|>.1 (h.trans (.swap _ _ _))) with e|e<;>simp at e<;>obtain⟨rfl,rfl⟩:=e<;>simp
  have h2: [a,b,x].Perm [x,a,b]:=(List.Perm.cons _ (.swap _ _ _)).trans (.swap _ _ _)
  rcases yu (List.perm_cons _|>.1 (h.trans h2)) with e|e<;>simp at e<;>obtain⟨rfl,rfl⟩:=e<;>simp
def Kx(s:Int×Int×Bool)(x:Int):Int×Int×Bool:=(bif s.2.2 then min s.1 x else x,bif s.2.2 then max s.2.1 x else x,true)
theorem Ua(s:Int×Int×Bool)(x y:Int):Kx (Kx s x) y=Kx (Kx s y) x:=by
 obtain⟨a,b,c⟩:=s
 cases c<;>simp[Kx]<;>omega
def Eo(f:aH→Option Int)(s:Int×Int×Bool)(t:aH):Int×Int×Bool:=match f t with
 |some x=>Kx s x
 |none=>s
def Qn(f:aH→Option Int)(L:List aH):Int×Int×Bool:=L.foldl (Eo f) (0,0,false)
theorem Ql{f:aH→Option Int}{L L':List aH}(h:L.Perm L'):Qn f L=Qn f L':=by
 refine h.foldl_eq' (fun x _ y _ z=>?_) _
 simp only[Eo]
 cases f x<;>cases f y<;>simp[Ua]
theorem Qm{f:aH→Option Int}{L:List aH}{k:Nat}{t:aH}(h:L[k]?=some t):Qn f (L.take (k+1))=Eo f (Qn f (L.take k)) t:=by
 rw[List.take_add_one,h];simp[Qn,List.foldl_append]
def pY(q:aH→Bool)(L:List aH):Int:=((L.countP q:Nat):Int)
theorem DF{q:aH→Bool}{L L':List aH}(h:L.Perm L'):pY q L=pY q L':=by rw[pY,pY,h.countP_eq]
theorem Ly{q:aH→Bool}{L:List aH}{k:Nat}{t:aH}(h:L[k]?=some t):pY q (L.take (k+1))=pY q (L.take k)+bif q t then 1 else 0:=by
 rw[List.take_add_one,h]
 simp only[pY,List.countP_append,Option.toList,List.countP_cons,List.countP_nil]
 cases q t<;>simp
theorem X4{q:aH→Bool}{L:List aH}{k:Nat}(h:k≤L.length):0≤pY q (L.take k)∧pY q (L.take k)≤k:=by
 have:=List.countP_le_length (p:=q) (l:=L.take k)
 rw[List.length_take] at this
 unfold pY;omega
end Go.L
