/- Part 9 of the proof. -/
import Derived.Test.YtfhaegdkhpdedaaGreatDoorM8
set_option maxRecDepth 100000
set_option maxHeartbeats 4000000
set_option linter.all false
namespace Go.L
open Go Go.Conc Go.Proofs
open Go.ConcR (KK wgBlock WgAt stA smA rd wr)
open Go.ConcM (OsLater)
variable {ro:Nat→Option Obj} {ways:List (List aP)} {α β:Type} {l:List aP} {Stop:Cells→Prop} {Hb b p d b1 j ck bl i np ne dL fc b2 b3 NR r1 bw bn r dep by1 sz bg:Nat} {seen:List Nat} {u vS vT:Value} {need n D h t:Int} {ch:aP} {T:TypeId} {z1:List Value} {LL:Cells} {ag:Bool}
def cy.set(x:cy)(d:Nat)(h:Int):cy:=match d with
 |0=>{x with a:=h}
 |1=>{x with b:=h}
 |2=>{x with c:=h}
 |_=>{x with d:=h}
theorem cy.set_set{x:cy}{h':Int}:(x.set d h).set d h'=x.set d h':=by
 rcases d with _|_|_|d<;>rfl
theorem apk{x:cy}(hd:d <4):gZ (jF x) (0+(d:Int).toNat*1) [.int .i64 h]=jF (x.set d h):=by
 rcases d with _|_|_|_|d<;>first|rfl|omega
def apl{x:cy}{v:Value}(hd:d <4):Nat.ble ((0+(d:Int).toNat*1)+[v].length) (jF x).length=true:=by
 rcases d with _|_|_|_|d<;>first|rfl|omega
def mW(i k:Nat):List Int:=(List.range' i k).map λ(j:Nat)=>(j:Int)-1
def vA(D S:Int)(H:Nat):Nat->cy->Nat->List cy
 |0,x,_=>if awa x D S then [x] else []
 |m+1,x,d=>(mW 0 (H+1)).flatMap λh=>vA D S H m (x.set d h) (d+1)
theorem aaK{k:Nat}:mW i (k+1)=((i:Int)-1)::mW (i+1) k:=by rfl
def aCG:Code->Code
 | .cond _ x _=>x
 |_=> .skip
def aio:Code->Code
 | .block _ (.loop c)=>c
 | .block _ c=>c
 | .loop c=>c
 |_=> .skip
def rN(c:Code)(i:Nat):Array Oper:=fN (nS [c]) i
def azg(c:Code)(i:Nat):Code:=((nS [c])[i]?).getD .skip
noncomputable def cA:Code:=aCG (azf 151 2)
noncomputable def cB:Code:=aCG (azg cA 1)
noncomputable def cL:Code:=aio (azf 151 4)
noncomputable def cI:Code:=aio (azg cL 2)
def ah8:nS [I0 151]=[.region 0 (pM 151 0) false,.region 1 (pM 151 1) false,.cond (.tmp 15) cA .skip,.region 4 (pM 151 3) false,.block 0 (.loop cL)]:=by rfl
def aUY:nS [cA]=[.region 2 (rN cA 0) false,.cond (.tmp 18) cB .skip,.ret]:=by rfl
def aUX:nS [cB]=[.region 3 (rN cB 0) false]:=by rfl
def asK:nS [cL]=[.region 5 (rN cL 0) false,.cond (.tmp 28) .skip (.exit 0),.block 1 cI,.region 6 (rN cL 3) false]:=by rfl
def aUW:nS [cI]=[.region 7 (rN cI 0) false,.region 8 (rN cI 1) false]:=by rfl
section
variable {M:EA Tryz.prog 234 4} {Wg Mu Hb:Nat} {W:ky} {mQ:Os} {fE:Array (Nat×ByteArray)}
def aRg(hM:RJ M)(hD:1<=W.D/\W.D<=4)(hH1:W.H<=100000)
 (h1:ro b1=some (.cells ⟨[pV Hb]⟩ 103 (0,0)))(hH:ro Hb=some (.pending ⟨W.cells (.slice none 0 0)⟩ 113)):
 ∀(m:Nat) (x:cy) (d:Nat) (os:List cy) (cl:Frame) (NO:List Frame) (L:Cells),((d+m:Nat):Int)=W.D->
 gi Tryz.prog false ((fB M Wg Mu Hb W mQ fE).Stp os) (G (cl.finish (.tuple #[])) NO) ⟨ro,L⟩->
 gi Tryz.prog false ((fB M Wg Mu Hb W mQ fE).Stp (vA W.D W.S W.H m x d++os)) (G (Frame.enter Tryz.prog 151 ⟨[pV Hb,.agg ⟨jF x⟩,.int .i64 (d:Int),.func (.func 145) ⟨[]⟩ ⟨[pV Mu,pV b1]⟩]⟩ .normal) (cl::NO)) ⟨ro,L⟩:=by
 intro m
 induction m with
 |zero=>
  intro x d os cl NO L hd hk;have hT:=λl=>fH Tryz.prog false ((fB M Wg Mu Hb W mQ fE).Stp l);refine Vt (fn:=(Tryz.prog.funcs[151]?).getD default) (c:=I0 151) (n:=40) (by kernel_rfl) (by kernel_rfl) (by kernel_rfl) (by rfl)<|tL (hT _) ah8 λl1 hl1=>?_;refine Dq u2 (hT _)<|jn λb5=>jd 1 []<|Bx<|tL (hT _) hl1 λl2 Ip=>?_;refine Dq u2 (hT _)<|jd 5 []<|jlh (b:=Hb) (off:=5) (l:=W.cells (.slice none 0 0)) hH (by decide) rfl<|jd 2 []<|Bx<|Mh (hT _) (t:=true) (q:=decide ((d:Int)=W.D)) Ip (by simp;omega) λl3 hl3=>?_;refine tL (hT _) aUY λl4 hl4=>?_;refine Dq u2 (hT _)<|jd 2 [0]<|jp (vs:=[pV Hb,.agg ⟨jF x⟩]) [] [] (λbU hs hZ=>ajV (hs _ _ hH) hD)<|jd 1 []<|Bx ?_;cases hp:awa x W.D W.S with
  |false=>
   refine Mh (hT _) (t:=false) (q:=false) hl4 rfl λl5 hl5=>?_;refine agj (hT _)<|YK (hT _) hl5 λl6 Oe=>?_;have hg:vA W.D W.S W.H 0 x d++os=os:=by simp only[vA,hp];rfl
   rw[hg];exact aN6 u2 (hT _) (fn:=(Tryz.prog.funcs[151]?).getD default) (.tuple #[]) [] [1] L (by kernel_rfl) hk
  |true=>
   refine Mh (hT _) (t:=true) (q:=true) hl4 rfl λl5 hl5=>?_;have hg:vA W.D W.S W.H 0 x d++os=x::os:=by simp only[vA,hp];rfl
   rw[hg];refine tL (hT _) aUX λl7 Ww=>?_;have:=py Ww;subst this;show TT _ _ (.inRegion (rN cB 0) (0::[1,2])::_) _ _ _ _ _;refine acZ (hT _) (a:=dZ (rN cB 0) 0) (.func (.func 145) ⟨[]⟩ ⟨[pV Mu,pV b1]⟩) (by kernel_rfl) (by kernel_rfl) (by decide) rfl<|aN9 (hT _) (a:=dZ (rN cB 0) 1) (q:=b5) (x:= .tmp 5) (U:=120) (l:=jF x) (.agg ⟨jF x⟩) (by kernel_rfl) (by kernel_rfl) (by kernel_rfl) (by kernel_rfl) (by decide) rfl [0] 120<|ac0 (hT _) (T':=gi Tryz.prog false ((fB M Wg Mu Hb W mQ fE).Stp os)) (a:=dZ (rN cB 0) 2) (y:= .tmp 19) (f:=145) (fi:=[]) (ca:=[pV Mu,pV b1]) (ws:=[.agg ⟨jF x⟩]) (xs:= #[.tmp 20]) (ats:=Xy (dZ (rN cB 0) 2)) [.agg ⟨jF x⟩,pV Mu,pV b1] (by kernel_rfl) (by kernel_rfl) (by kernel_rfl) (nT (by kernel_rfl)) (by decide) rfl (λcl2 L2 gV=>bdN hM h1 hH gV)<|Tm (hT _)<|YK (l:=l5) (hT _) hl5 λl6 Oe=>?_;exact aN6 u2 (hT _) (fn:=(Tryz.prog.funcs[151]?).getD default) (.tuple #[]) [] [1] L (by kernel_rfl) hk
 |succ m ih=>
  intro x d os cl NO L hd hk;have hT:=λl=>fH Tryz.prog false ((fB M Wg Mu Hb W mQ fE).Stp l);have hd4:d <4:=by omega
  refine Vt (fn:=(Tryz.prog.funcs[151]?).getD default) (c:=I0 151) (n:=40) (by kernel_rfl) (by kernel_rfl) (by kernel_rfl) (by rfl)<|tL (hT _) ah8 λl1 hl1=>?_;refine Dq u2 (hT _)<|jn λb5=>jd 1 []<|Bx<|tL (hT _) hl1 λl2 Ip=>?_;refine Dq u2 (hT _)<|jd 5 []<|jlh (b:=Hb) (off:=5) (l:=W.cells (.slice none 0 0)) hH (by decide) rfl<|jd 2 []<|Bx<|Mh (hT _) (t:=false) (q:=decide ((d:Int)=W.D)) Ip (by simp;omega) λl3 hl3=>?_;refine agj (hT _)<|tL (hT _) hl3 λl4 hl4=>?_;refine Dq u2 (hT _)<|jd 2 []<|Bx<|Vu (hT _) hl4 λl5 hl5=>?_;have:=py hl5;subst this;refine aAx (hT _) (rest:=[]) rfl λl6 Oe=>?_;have:=py Oe;subst this;have loop:∀(r i:Nat) (y:cy) (q:Int),r+i=W.H+1->q=(i:Int)-1->(∀h,y.set d h=x.set d h)->∀rest,
   TT (gi Tryz.prog false ((fB M Wg Mu Hb W mQ fE).Stp ((mW i r).flatMap (λh=>vA W.D W.S W.H m (x.set d h) (d+1))++os))) (W5 151 .normal) ([cL].map .code++(.inLoop cL::(.inBlock 0::[]))) (cl::NO) 40 [] ro
    (some ⟨.fin .normal,[(0,pV Hb),(2,.int .i64 (d:Int)),(3,.func (.func 145) ⟨[]⟩ ⟨[pV Mu,pV b1]⟩),(5,pV b5),(8,.int .i64 q)]++rest,[.b b5 (.cells ⟨jF y⟩ 120 (0,0)),.l L],⟨[],[]⟩⟩):=by
   intro r
   induction r with
   |zero=>
    intro i y q hi hq hy rest;refine tL (hT _) asK λm1 oM=>?_;refine Dq u2 (hT _)<|jd 4 []<|jlh (b:=Hb) (off:=8) (l:=W.cells (.slice none 0 0)) hH (by decide) rfl<|jd 3 []<|Bx<|Mh (hT _) (t:=false) (q:=decide (q <(W.H:Int))) oM (by simp;omega) λm2 yx=>?_;refine aAy (hT _) (k':=[]) (by rw[Hf];simp[exitTo]) ?_;exact aOa (hT os) (fn:=(Tryz.prog.funcs[151]?).getD default) [1] L (by kernel_rfl) (by kernel_rfl) hk
   |succ r ih2=>
    intro i y q hi hq hy rest;have hs:(mW i (r+1)).flatMap (λh=>vA W.D W.S W.H m (x.set d h) (d+1))++os=vA W.D W.S W.H m (y.set d q) (d+1)++((mW (i+1) r).flatMap (λh=>vA W.D W.S W.H m (x.set d h) (d+1))++os):=by
     rw[aaK,iH,bC,hy,hq]
    rw[hs];refine tL (hT _) asK λm1 oM=>?_;refine Dq u2 (hT _)<|jd 4 []<|jlh (b:=Hb) (off:=8) (l:=W.cells (.slice none 0 0)) hH (by decide) rfl<|jd 3 []<|Bx<|Mh (hT _) (t:=true) (q:=decide (q <(W.H:Int))) oM (by simp;omega) λm2 yx=>?_;refine agj (hT _)<|Vu (hT _) yx λm3 hm3=>?_;refine tL (hT _) aUW λm4 hm4=>?_;refine Dq u2 (hT _)<|jd 2 []<|Jg (b:=b5) (off:=0) (len:=4) (sz:=1) (d:Int) (by omega)<|jsx 0 b5 (0+(d:Int).toNat*1) (jF y) [.int .i64 q] 120 (by intro v hv;rw[aV] at hv;subst hv;rfl) (apl hd4) ?_;refine jmw 0 [.b b5 (.cells ⟨jF (y.set d q)⟩ 120 (0,0))] (L:=[(b5,.cells ⟨gZ (jF y) (0+(d:Int).toNat*1) [.int .i64 q]⟩ 120 (0,0))]) (by rw[apk hd4];rfl) ?_;refine jd 1 []<|Bx<|tL (hT _) hm4 λm5 hm5=>?_;have:=py hm5;subst this;show TT _ _ (.inRegion (rN cI 1) (0::[1,2,3,4,5])::_) _ _ _ _ _;refine acZ (hT _) (a:=dZ (rN cI 1) 0) (pV Hb) (by kernel_rfl) (by kernel_rfl) (by decide) rfl<|aN9 (hT _) (a:=dZ (rN cI 1) 1) (q:=b5) (x:= .tmp 5) (U:=120) (l:=jF (y.set d q)) (.agg ⟨jF (y.set d q)⟩) (by kernel_rfl) (by kernel_rfl) (by kernel_rfl) (by kernel_rfl) (by decide) rfl [0] 120<|acZ (hT _) (a:=dZ (rN cI 1) 2) (.int .i64 (d:Int)) (by kernel_rfl) (by kernel_rfl) (by decide) rfl<|acZ (hT _) (a:=dZ (rN cI 1) 3) (.int .i64 (IntKind.i64.wrap ((d:Int)+1))) (by kernel_rfl) (by kernel_rfl) (by decide) rfl<|acZ (hT _) (a:=dZ (rN cI 1) 4) (.func (.func 145) ⟨[]⟩ ⟨[pV Mu,pV b1]⟩) (by kernel_rfl) (by kernel_rfl) (by decide) rfl ?_;refine ac0 (hT _) (T':=gi Tryz.prog false ((fB M Wg Mu Hb W mQ fE).Stp ((mW (i+1) r).flatMap (λh=>vA W.D W.S W.H m (x.set d h) (d+1))++os))) (a:=dZ (rN cI 1) 5) (y:= .func 151) (f:=151) (fi:=[]) (ca:=[]) (ws:=[pV Hb,.agg ⟨jF (y.set d q)⟩,.int .i64 (IntKind.i64.wrap ((d:Int)+1)),.func (.func 145) ⟨[]⟩ ⟨[pV Mu,pV b1]⟩]) (xs:= #[.tmp 34,.tmp 35,.tmp 37,.tmp 38]) (ats:=Xy (dZ (rN cI 1) 5))
     [pV Hb,.agg ⟨jF (y.set d q)⟩,.int .i64 ((d+1:Nat):Int),.func (.func 145) ⟨[]⟩ ⟨[pV Mu,pV b1]⟩] (by kernel_rfl) (by kernel_rfl) (by kernel_rfl) (nT (by kernel_rfl)) (by decide) rfl (λcl2 L2 gV=>ih (y.set d q) (d+1) _ cl2 (cl::NO) L2 (by omega) gV) ?_ (hvs:=by rw[lB _ (by omega)];rfl)
    refine Tm (hT _)<|aAz (hT _)<|tL (hT _) hm3 λm7 hm7=>?_;have:=py hm7;subst this;refine Dq u2 (hT _)<|jd 1 []<|ja (q+1) (by omega)<|jd 2 []<|Bx<|amZ (hT _)<|tSt (hT _) [(0,pV Hb),(2,.int .i64 (d:Int)),(3,.func (.func 145) ⟨[]⟩ ⟨[pV Mu,pV b1]⟩),(5,pV b5),(8,.int .i64 (q+1))] [.b b5 (.cells ⟨jF (y.set d q)⟩ 120 (0,0)),.l L] [0,1] λrest=>ih2 (i+1) (y.set d q) (q+1) (by omega) (by omega) (λh=>by rw[cy.set_set,hy]) rest
  exact tSt (hT _) [(0,pV Hb),(2,.int .i64 (d:Int)),(3,.func (.func 145) ⟨[]⟩ ⟨[pV Mu,pV b1]⟩),(5,pV b5),(8,.int .i64 (-1))] [.b b5 (.cells ⟨jF x⟩ 120 (0,0)),.l L] [0,1] λrest=>loop (W.H+1) 0 x (-1) (by omega) (by omega) (λh=>rfl) rest
end
noncomputable def atr(v:Nat):Nat:=((y5 Tryz.prog 240 v (Frame.enter Tryz.prog 148 #[.pointer (some ⟨0,0,none⟩),.int .i64 1] .normal)).getD []).length
noncomputable def bi2:Nat:=((B4 Tryz.prog 240 4 (Frame.enter Tryz.prog 150 #[.pointer (some ⟨0,0,none⟩)] .deferred)).getD []).length
def aJz(W:Nat):y5 Tryz.prog 240 0 (Frame.enter Tryz.prog 148 #[.pointer (some ⟨W,0,none⟩),.int .i64 1] .normal)=some (List.replicate (atr 0) W):=by kernel_rfl
def aJy(W:Nat):y5 Tryz.prog 240 1 (Frame.enter Tryz.prog 148 #[.pointer (some ⟨W,0,none⟩),.int .i64 1] .normal)=some (List.replicate (atr 1) W):=by kernel_rfl
def aJx(W:Nat):y5 Tryz.prog 240 2 (Frame.enter Tryz.prog 148 #[.pointer (some ⟨W,0,none⟩),.int .i64 1] .normal)=some (List.replicate (atr 2) W):=by kernel_rfl
def aJw(W:Nat):y5 Tryz.prog 240 3 (Frame.enter Tryz.prog 148 #[.pointer (some ⟨W,0,none⟩),.int .i64 1] .normal)=some (List.replicate (atr 3) W):=by kernel_rfl
def aUJ(v:Nat)(h:v <4)(W:Nat):y5 Tryz.prog 240 v (Frame.enter Tryz.prog 148 #[.pointer (some ⟨W,0,none⟩),.int .i64 1] .normal)=some (List.replicate (atr v) W):=by
 match v,h with
 |0,_=>exact aJz W
 |1,_=>exact aJy W
 |2,_=>exact aJx W
 |3,_=>exact aJw W
def aJv(W:Nat):B4 Tryz.prog 240 4 (Frame.enter Tryz.prog 150 #[.pointer (some ⟨W,0,none⟩)] .deferred)=some (List.replicate bi2 W):=by kernel_rfl
def ayQ:nS [I0 149]=[.region 0 (pM 149 0) false,.region 1 (pM 149 1) false]:=by rfl
section
variable {M:EA Tryz.prog 234 4} {Wg Mu Hb:Nat} {W:ky} {mQ:Os} {fE:Array (Nat×ByteArray)}
def aGp(hM:RJ M){bh ba:Nat}(hD:1<=W.D/\W.D<=4)(hH1:W.H<=100000)
 (h1:ro b1=some (.cells ⟨[pV Hb]⟩ 103 (0,0)))(hH:ro Hb=some (.pending ⟨W.cells (.slice none 0 0)⟩ 113))
 (gh:ro bh=some (.cells ⟨[.int .i64 h]⟩ 3 (0,0)))(ga:ro ba=some (.cells ⟨[.func (.func 145) ⟨[]⟩ ⟨[pV Mu,pV b1]⟩]⟩ 241 (0,0))):
 gi Tryz.prog false ((fB M Wg Mu Hb W mQ fE).Stp (vA W.D W.S W.H (W.D.toNat-1) ⟨h,0,0,0⟩ 1)) (born Tryz.prog {target:= .fn (.func 149) ⟨[pV Wg,pV b1,pV bh,pV ba]⟩,args:= #[]}) ⟨ro,[]⟩:=by
 have hT:=λl=>fH Tryz.prog false ((fB M Wg Mu Hb W mQ fE).Stp l);refine aOc (fn:=(Tryz.prog.funcs[149]?).getD default) (c:=I0 149) (n:=9) (by kernel_rfl) (by kernel_rfl) (by kernel_rfl) (by kernel_rfl) (by rfl)<|tL (hT _) ayQ λl1 hl1=>?_;show TT _ _ (.inRegion (pM 149 0) [0]::_) _ _ _ _ _;refine amX (hT _) (a:=dZ (pM 149 0) 0) (f:=150) (xs:= #[.tmp 0]) (vs:=[pV Wg]) (ats:=Xy (dZ (pM 149 0) 0)) (by kernel_rfl) (by kernel_rfl) (by kernel_rfl) (by decide) rfl<|tL (hT _) hl1 λl2 Ip=>?_;have:=py Ip;subst this;show TT _ _ (.inRegion (pM 149 1) (0::[1,2,3,4])::_) _ _ _ _ _;refine tLd (hT _) (pV Hb) (a:=dZ (pM 149 1) 0) (x:= .tmp 1) (U:=103) (q:=b1) (by kernel_rfl) (by kernel_rfl) (by kernel_rfl) (by kernel_rfl) (by decide) rfl (λ_ _ _ _=> .inl h1)<|tLd (hT _) (.int .i64 h) (a:=dZ (pM 149 1) 1) (x:= .tmp 2) (U:=3) (q:=bh) (by kernel_rfl) (by kernel_rfl) (by kernel_rfl) (by kernel_rfl) (by decide) rfl (λ_ _ _ _=> .inl gh)<|acZ (hT _) (a:=dZ (pM 149 1) 2) (.agg ⟨jF ⟨h,0,0,0⟩⟩) (by kernel_rfl) (by kernel_rfl) (by decide) rfl<|tLd (hT _) (.func (.func 145) ⟨[]⟩ ⟨[pV Mu,pV b1]⟩) (a:=dZ (pM 149 1) 3) (x:= .tmp 3) (U:=241) (q:=ba) (by kernel_rfl) (by kernel_rfl) (by kernel_rfl) (by kernel_rfl) (by decide) rfl (λ_ _ _ _=> .inl ga) ?_;refine ac0 (hT _) (T':=gi Tryz.prog false ((fB M Wg Mu Hb W mQ fE).Stp [])) (a:=dZ (pM 149 1) 4) (y:= .func 151) (f:=151) (fi:=[]) (ca:=[]) (ws:=[pV Hb,.agg ⟨jF ⟨h,0,0,0⟩⟩,.int .i64 1,.func (.func 145) ⟨[]⟩ ⟨[pV Mu,pV b1]⟩]) (xs:= #[.tmp 4,.tmp 6,.const (.int .i64 1),.tmp 7]) (ats:=Xy (dZ (pM 149 1) 4))
  [pV Hb,.agg ⟨jF ⟨h,0,0,0⟩⟩,.int .i64 ((1:Nat):Int),.func (.func 145) ⟨[]⟩ ⟨[pV Mu,pV b1]⟩] (by kernel_rfl) (by kernel_rfl) (by kernel_rfl) (nT (by kernel_rfl)) (by decide) rfl (λcl2 L2 gV=>?_) ?_
 .have:=aRg hM (Wg:=Wg) (mQ:=mQ) (fE:=fE) hD hH1 h1 hH (W.D.toNat-1) ⟨h,0,0,0⟩ 1 [] cl2 [gX Tryz.prog] L2 (by omega) gV;rwa[eR] at this
 refine Tm (hT _)<|avt (E:=fB M Wg Mu Hb W mQ fE) (fn:=(Tryz.prog.funcs[149]?).getD default) (dn:=150) (by kernel_rfl) (by kernel_rfl) (by kernel_rfl) (aJv Wg) N7 rfl rfl
end
section
variable {M:EA Tryz.prog 234 4} {Wg Mu Hb:Nat} {W:ky} {mQ:Os} {fE:Array (Nat×ByteArray)} {Fin:Goroutine->Prop} {c:Frame} {cs:List Frame}
def b1E(P:Program)(ty:TypeId):List Frame->Bool
 |f::s=>match acO P ty gq f s with
  |some (_,_,_,_,b1,_)=>b1.isEmpty
  |none=>false
 | []=>false
def ana{P:Program}{ty:TypeId}{X:Nat}{main:Bool}{Live:World->Prop}{st:Frame->Bool}{ds KY:List FD}{cs:List Frame}{g:Goroutine}(hL:∀w,Live w->j6 ty X w gq){ks:List (Nat×Nat)}(h:∀v,Comes X KY [] ks (mR st P ty gq (e9 ds v)))(hb:∀v,b1E P ty (e9 ds v)=true)(ei:AtD ds cs g):
 ∃g',(∀w,stepG P main g w= .go g' w (ks.map (Ed X)).toArray)/\∃m,Pure P main Live (AtD KY cs) m g':=by
 obtain⟨f,fs,h1,rfl⟩:=ei;obtain⟨v,hv⟩:=h1.mk;have h:=h v;have hb:=hb v;rw[<-hv] at h hb;obtain⟨f',s',bs,h2,h3,h4⟩:=h.ok;simp only[mR] at h2;split at h2<;>try (cases h2;done)
 rename_i n8 gJ ws' ks' b1 b2 h5;split at h2<;>try (cases h2;done)
 rename_i f2 s2 b3 h6;obtain⟨rfl,rfl,rfl,rfl,rfl⟩:=h2;simp only[b1E,h5,List.isEmpty_iff] at hb;exact⟨_,λw=>HF h5 (λb hm=>h4 b (by simp[hm])) (λb hm=>h4 b (by simp[hm])) (.inl ⟨rfl,hb⟩) cs main,WU hL h6 (λb hm=>h4 b (by simp[hm])) cs λg hg=>⟨_,_,h3,hg⟩⟩
def aZF(X:Nat)(v:Nat->Nat->Value):b1E Tryz.prog 240 (e9 (sKd X) v)=true:=by rfl
section
variable (hF:Fin (G (c.finish (.tuple #[])) cs)) (kp:∀g g',g.status= .running->g'.status= .running->(∀w,stepG Tryz.prog true g w= .go g' w #[])->Fin g'->Fin g)
include hF kp
def az1{g:Goroutine}(h:AtD (So Wg) (c::cs) g):∃g',(∀w,WgAt 240 Wg w 0 0->stepG Tryz.prog true g w= .go g' w #[rd (stA Wg)])/\(fB M Wg Mu Hb W mQ fE).pw ((fB M Wg Mu Hb W mQ fE).Ke Fin) g':=by
 obtain⟨f,fs,h1,rfl⟩:=h;obtain⟨v,hv⟩:=h1.mk;have h2:=w_0 Wg v;rw[<-hv] at h2;obtain⟨f',s',tZ,k1,k2,k3⟩:=gx h2 N7;exact⟨_,λw hw=>k3 _ _ w (.inr (kR (fB M Wg Mu Hb W mQ fE).oQ hw)),uK (E:=fB M Wg Mu Hb W mQ fE) k1 k2 λ_ _ _ k1 k2=>E8 hF kp k1 k2⟩
def aM0{g:Goroutine}{n:Nat}(h1:1<=n)(h4:n<=4)(h:AtD (Ml Wg n) (c::cs) g):∃g',(∀w,WgAt 240 Wg w ((n:Int)*KK) 0->stepG Tryz.prog true g w= .go g' (w.setCell (stA Wg) (.int .u64 ((n:Int)*KK+1))) #[rd (stA Wg),Go.ConcR.wr (stA Wg)])/\(fB M Wg Mu Hb W mQ fE).pw ((fB M Wg Mu Hb W mQ fE).Wr Fin) g':=by
 obtain⟨f,fs,hf,rfl⟩:=h;obtain⟨v,hv⟩:=hf.mk;obtain⟨k,h2⟩:=w_h Wg v h1 h4;rw[<-hv] at h2;obtain⟨f',s',tZ,k1,k2,k3⟩:=gx h2 N7;exact⟨_,λw hw=>k3 _ _ w (.inr (kR (fB M Wg Mu Hb W mQ fE).oQ hw)),uK (E:=fB M Wg Mu Hb W mQ fE) k1 k2 λ_ _ _ k1 k2=>UU (E:=fB M Wg Mu Hb W mQ fE) hF kp k1 k2⟩
def azZ:∀(b:Nat),b<=4->∀ {g:Goroutine},AtD (So Wg) (c::cs) g->(fB M Wg Mu Hb W mQ fE).W1 Fin b g
 |0,_,g,h=>⟨h.run.1,az1 hF kp h⟩
 |b+1,hb,g,h=>by
  refine⟨h.run.1,az1 hF kp h,λn h1 h2=>?_⟩;obtain⟨g',k1,m,k2⟩:=Vw (main:=true) (λw hw=>sZ (fB M Wg Mu Hb W mQ fE).oQ hw) (λv=>w_v Wg v h1 (by omega)) h;refine⟨g',λw hw=>k1 w (kR (fB M Wg Mu Hb W mQ fE).oQ hw),m,xP (λg hg=>?_) k2⟩;refine⟨hg.run.1,aM0 hF kp h1 (by omega) hg,λk hk=>?_⟩;obtain⟨g2,j1,m2,j2⟩:=Vw (main:=true) (λw hw=>sZ (fB M Wg Mu Hb W mQ fE).oQ hw) (λv=>w_m Wg v (show n<=4 by omega) hk) hg;exact⟨g2,λw hw=>j1 w (kR (fB M Wg Mu Hb W mQ fE).oQ hw),m2,xP (λg hg=>azZ b (by omega) hg) j2⟩
def au5:(fB M Wg Mu Hb W mQ fE).pw ((fB M Wg Mu Hb W mQ fE).Kd Fin) (G (Frame.enter Tryz.prog 152 #[pV Wg] .normal) (c::cs)):=by
 obtain⟨m,hm⟩:=EH (main:=true) (λw hw=>sZ (fB M Wg Mu Hb W mQ fE).oQ hw) (aZG Wg) (c::cs);refine⟨m,xP (λg hg=>?_) hm⟩;obtain⟨g',k1,m2,k2⟩:=ana (main:=true) (λw hw=>sZ (fB M Wg Mu Hb W mQ fE).oQ hw) (λv=>aZE Wg v) (λv=>aZF Wg v) hg;exact⟨hg.run.1,g',λw=>k1 w,m2,xP (λg hg=>azZ hF kp 4 (by omega) hg) k2⟩
end
end
noncomputable def lL:Code:=aio (azf 111 5)
noncomputable def lI:Code:=aio (azg lL 2)
def aJS:nS [I0 111]=[.region 0 (pM 111 0) false,.region 1 (pM 111 1) false,.region 2 (pM 111 2) false,.region 3 (pM 111 3) false,.region 4 (pM 111 4) false,.block 0 (.loop lL),.region 11 (pM 111 6) false]:=by rfl
def asL:nS [lL]=[azg lL 0,.cond (.tmp 13) .skip (.exit 0),.block 1 lI,.region 9 (rN lL 3) false,.region 10 (rN lL 4) false,.region 6 (rN lL 5) false]:=by rfl
def aJR:nS [lI]=[.region 7 (rN lI 0) false,.region 8 (rN lI 1) false]:=by rfl
def wkL(W:ky)(h:Int):List cy:=vA W.D W.S W.H (W.D.toNat-1) ⟨h,0,0,0⟩ 1
def BO(W:ky):List cy:=(mW 0 (W.H+1)).flatMap (wkL W)
theorem yZ{f:α->List β}{B:Nat}:∀ {l:List α},(∀x∈l,(f x).length<=B)->(l.flatMap f).length<=l.length*B
 | [],_=>by simp
 |x::l,h=>by
  have h1:=h x (by simp);have h2:=yZ (l:=l) λy hy=>h y (by grind)
  grind [aM,aK,Nat.succ_mul]
theorem GZ(i k:Nat):(mW i k).length=k:=by simp[mW]
theorem Uw{S:Int}{H:Nat}:∀(m:Nat) (x:cy) (d:Nat),(vA D S H m x d).length<=(H+1)^m
 |0,x,d=>by
  grind [vA]
 |m+1,x,d=>by
  have:=yZ (f:=λh=>vA D S H m (x.set d h) (d+1)) (l:=mW 0 (H+1)) λh _=>Uw m _ _
  grind [GZ,vA,Nat.pow_succ,Nat.mul_comm]
def Vd{W:ky}(hD:1<=W.D/\W.D<=4)(hH:W.H<=3)(h:Int):(wkL W h).length<=64:=by
 refine bS (Uw _ _ _)<|bS (Nat.pow_le_pow_left (show W.H+1<=4 by omega) _)<|bS (jU (by simp) (show W.D.toNat-1<=3 by omega)) (by simp)
theorem aaL(i k:Nat):mW i (k+1)=mW i k++[((i+k:Nat):Int)-1]:=by
 simp[mW,List.range'_concat]
section
variable {M:EA Tryz.prog 234 4} {W:ky}
def aRf(hM:RJ M)(hD:1<=W.D/\W.D<=4)(hH3:W.H<=3):
 RP Tryz.prog 111 [pV Hb] ro [(Hb,.cells ⟨W.cells (.slice none 0 0)⟩ 113 (0,0))] (λv Y=>v= .tuple #[]/\∃l u X,l.Perm (BO W)/\bJ u 4 120 jF l X/\Y=(Hb,.cells ⟨W.cells u⟩ 113 (0,0))::X):=by
 rintro fr main T ⟨rfl,mQ,fE,Post,rfl⟩ cl NO kr _;have hT:=Gn Tryz.prog mQ fE Post;refine Vt (fn:=(Tryz.prog.funcs[111]?).getD default) (c:=I0 111) (n:=20) (by kernel_rfl) (by kernel_rfl) (by kernel_rfl) (by rfl)<|tL hT aJS λl1 hl1=>?_;refine Dq u2 hT<|jn λb1=>jd 1 []<|jg 1 [.b Hb (.cells ⟨W.cells (.slice none 0 0)⟩ 113 (0,0)),.l fr]<|Bx<|tL hT hl1 λl2 Ip=>?_;show TT _ _ (.inRegion (pM 111 1) (0::[])::_) _ _ _ _ _;refine aN7 hT (a:=dZ (pM 111 1) 0) (f:=λq=> .pointer (some ⟨q,0,none⟩)) (ob:= .cells #[.int .i32 0,.int .u32 0] 234 (0,0)) (by kernel_rfl) (by kernel_rfl) (λe q=>by kernel_rfl) (by decide) rfl λMu=>?_;refine Tm hT<|tL hT Ip λl3 hl3=>?_;show TT _ _ (.inRegion (pM 111 2) (0::[])::_) _ _ _ _ _;refine aN7 hT (a:=dZ (pM 111 2) 0) (f:=λq=> .pointer (some ⟨q,0,none⟩)) (ob:=wgBlock 240 0 0) (by kernel_rfl) (by kernel_rfl) (λe q=>by kernel_rfl) (by decide) rfl λWg=>?_;refine Tm hT<|tL hT hl3 λl4 hl4=>?_;refine Dq u2 hT<|jd 1 []<|jn λba=>jd 2 [0]<|Bx<|avu (E:=fB M Wg Mu Hb W mQ fE) (Fin:=af1 (fB M Wg Mu Hb W mQ fE) (Good Tryz.prog Post) (BO W) (abX (fB M Wg Mu Hb W mQ fE) ro ((ba,.cells ⟨[.func (.func 145) ⟨[]⟩ ⟨[pV Mu,pV b1]⟩]⟩ 241 (0,0))::(b1,.cells ⟨[pV Hb]⟩ 103 (0,0))::fr))) (Q:=Good Tryz.prog Post) (v0:= .slice none 0 0) 1 2 4 ((ba,.cells ⟨[.func (.func 145) ⟨[]⟩ ⟨[pV Mu,pV b1]⟩]⟩ 241 (0,0))::(b1,.cells ⟨[pV Hb]⟩ 103 (0,0))::fr) hT (bJ.nil _ _ _) (λL cK hl=>?_);have gba:cK ba=some (.cells ⟨[.func (.func 145) ⟨[]⟩ ⟨[pV Mu,pV b1]⟩]⟩ 241 (0,0)):=hl.kn _ (.head _);have gb1:cK b1=some (.cells ⟨[pV Hb]⟩ 103 (0,0)):=hl.kn _ (.tail _ (.head _));have gH:cK Hb=some (.pending ⟨W.cells (.slice none 0 0)⟩ 113):=hl.hole;generalize bib:af1 (fB M Wg Mu Hb W mQ fE) (Good Tryz.prog Post) (BO W) (abX (fB M Wg Mu Hb W mQ fE) ro ((ba,.cells ⟨[.func (.func 145) ⟨[]⟩ ⟨[pV Mu,pV b1]⟩]⟩ 241 (0,0))::(b1,.cells ⟨[pV Hb]⟩ 103 (0,0))::fr))=Fin;have Jo:∀pend nw os,Closed Tryz.prog true (TG (fB M Wg Mu Hb W mQ fE) Fin L (Good Tryz.prog Post) pend nw os 0):=λpend nw os=>AB (E:=fB M Wg Mu Hb W mQ fE);refine tL (Jo 0 0 []) hl4 λl5 hl5=>?_;refine Dq u2 (Jo _ _ _)<|jn λb0=>jd 2 [0]<|Bx<|Vu (Jo _ _ _) hl5 λl6 Oe=>?_;refine aAx (Jo _ _ _) (rest:=[]) rfl λl7 Ww=>?_;have:=py Ww;subst this;have loop:∀(r i:Nat) (q:Int) (bh:Nat) (As:Nat->Option Obj),r+i=W.H+1->q=(i:Int)-1->Sub cK As->∀rest,
  TT (TG (fB M Wg Mu Hb W mQ fE) Fin L (Good Tryz.prog Post) 0 i ((mW 0 i).flatMap (wkL W)) 0) (W5 111 .normal) ([lL].map .code++(.inLoop lL::(.inBlock 0::(l6.map .code++[])))) (cl::NO) 20 [] As
   (some ⟨.fin .normal,[(1,pV b1),(3,pV Wg),(4,pV ba),(5,pV bh)]++rest,[.b bh (.cells ⟨[.int .i64 q]⟩ 3 (0,0))],⟨[],[]⟩⟩):=by
  intro r
  induction r with
  |zero=>
   intro i q bh As hi hq hs rest;have hH2:=hs _ _ gH;refine YK (Jo _ _ _) asL λm1 oM=>?_;refine amY u2 (Jo _ _ _)<|jd 2 [0]<|jl (b:=b1) (off:=0) (m:=1) (vs:=[pV Hb]) 0 ⟨_,_,_,.inl (hs _ _ gb1),rfl⟩<|jd 2 []<|jlh (b:=Hb) (off:=8) (l:=W.cells (.slice none 0 0)) hH2 (by decide) rfl<|jd 3 []<|Bx<|Mh (Jo _ _ _) (t:=false) (q:=decide (q <(W.H:Int))) oM (by simp;omega) λm2 yx=>?_;refine aAy (Jo _ _ _) (k':=l6.map .code++[]) (by rw[Hf];simp[exitTo]) ?_;refine tL (Jo _ _ _) Oe λl8 hl8=>?_;have:=py hl8;subst this;show TT _ _ (.inRegion (pM 111 6) [0]::_) _ _ _ _ _;have:i=W.H+1:=by omega
   subst this bib;refine aEx (E:=fB M Wg Mu Hb W mQ fE) (a:=dZ (pM 111 6) 0) (f:=152) (x:= .tmp 3) (ats:=Xy (dZ (pM 111 6) 0)) hl hs hT (λl u X1 hp kO=>?_) (by kernel_rfl) (by kernel_rfl) (by kernel_rfl) (nT (by kernel_rfl)) (by decide) rfl (λFin c cs hF kp=>au5 hF kp);refine aOa hT (fn:=(Tryz.prog.funcs[111]?).getD default) [0] ((Hb,.cells ⟨W.cells u⟩ 113 (0,0))::(X1++((ba,.cells ⟨[.func (.func 145) ⟨[]⟩ ⟨[pV Mu,pV b1]⟩]⟩ 241 (0,0))::(b1,.cells ⟨[pV Hb]⟩ 103 (0,0))::fr))) (by kernel_rfl) (by kernel_rfl)<|kr (.tuple #[]) _ ⟨_,(Hb,.cells ⟨W.cells u⟩ 113 (0,0))::X1,rfl,gG (J:=[(ba,.cells ⟨[.func (.func 145) ⟨[]⟩ ⟨[pV Mu,pV b1]⟩]⟩ 241 (0,0)),(b1,.cells ⟨[pV Hb]⟩ 103 (0,0))]) ?_ (Sub.refl _),rfl,l,u,X1,hp,kO,rfl⟩;rw[eg,eg,bC];exact .cons _ (.append_left _ (ir (l₁:=[_,_])))
  |succ r ih=>
   intro i q bh As hi hq hs rest;have hH2:=hs _ _ gH;refine YK (Jo _ _ _) asL λm1 oM=>?_;refine amY u2 (Jo _ _ _)<|jd 2 [0]<|jl (b:=b1) (off:=0) (m:=1) (vs:=[pV Hb]) 0 ⟨_,_,_,.inl (hs _ _ gb1),rfl⟩<|jd 2 []<|jlh (b:=Hb) (off:=8) (l:=W.cells (.slice none 0 0)) hH2 (by decide) rfl<|jd 3 []<|Bx<|Mh (Jo _ _ _) (t:=true) (q:=decide (q <(W.H:Int))) oM (by simp;omega) λm2 yx=>?_;refine agj (Jo _ _ _)<|Vu (Jo _ _ _) yx λm3 hm3=>?_;refine tL (Jo _ _ _) aJR λm4 hm4=>?_;show TT _ _ (.inRegion (rN lI 0) [0]::_) _ _ _ _ _;refine aOd (E:=fB M Wg Mu Hb W mQ fE) (a:=dZ (rN lI 0) 0) (f:=148) (x:= .tmp 3) (ats:=Xy (dZ (rN lI 0) 0)) ?_ (by kernel_rfl) (by kernel_rfl) (by kernel_rfl) (nT (by kernel_rfl)) (by decide) rfl (by show i <4;omega) (aUJ i (by omega) Wg) N7;refine tL (Jo 1 _ _) hm4 λm5 hm5=>?_;have:=py hm5;subst this;show TT _ _ (.inRegion (rN lI 1) (0::[1])::_) _ _ _ _ _;refine acZ (Jo 1 _ _) (a:=dZ (rN lI 1) 0) (.func (.func 149) ⟨[]⟩ ⟨[pV Wg,pV b1,pV bh,pV ba]⟩) (by kernel_rfl) (by kernel_rfl) (by decide) rfl ?_;have wx:((mW 0 i).flatMap (wkL W)++wkL W q).length<=5000:=by
    have e1:=Vd hD hH3 q;have e2:=yZ (f:=wkL W) (l:=mW 0 i) (B:=64) λh _=>Vd hD hH3 h;rw[GZ] at e2;rw[aM];omega
   refine ba5 (E:=fB M Wg Mu Hb W mQ fE) (wkL W q) (a:=dZ (rN lI 1) 1) (f:=149) (y:= .tmp 17) (ca:=[pV Wg,pV b1,pV bh,pV ba]) (ats:=Xy (dZ (rN lI 1) 1)) [(bh,.cells ⟨[.int .i64 q]⟩ 3 (0,0))] wx (by kernel_rfl) (by kernel_rfl) (by kernel_rfl) (by decide) rfl (λAH hs3 hk3=>⟨?_,?_⟩)
   .have G6:=Sub.trans hs hs3;exact aGp hM hD (by omega) (G6 _ _ gb1) (G6 _ _ gH) (hk3 _ (.head _)) (G6 _ _ gba)
   have hos:(mW 0 i).flatMap (wkL W)++wkL W q=(mW 0 (i+1)).flatMap (wkL W):=by
    rw[aaL,jC,iV,<-hq];simp
   rw[hos];refine Tm (Jo _ _ _) (aAz (Jo _ _ _) ?_);refine tL (Jo _ _ _) hm3 λm7 hm7=>?_;refine Dq u2 (Jo _ _ _)<|jl (b:=bh) (off:=0) (m:=1) (vs:=[.int .i64 q]) 0 ⟨_,_,_,.inl (hk3 _ (.head _)),rfl⟩<|jd 1 []<|Bx<|tL (Jo _ _ _) hm7 λm8 hm8=>?_;refine Dq u2 (Jo _ _ _)<|jn λbn=>jd 2 [0]<|Bx<|tL (Jo _ _ _) hm8 λm9 hm9=>?_;have:=py hm9;subst this;refine Dq u2 (Jo _ _ _)<|jd 1 [0]<|ja (q+1) (by omega)<|jd 2 [0]<|Bx<|amZ (Jo _ _ _)<|tSt (Jo _ _ _) [(1,pV b1),(3,pV Wg),(4,pV ba),(5,pV bn)] [.b bn (.cells ⟨[.int .i64 (q+1)]⟩ 3 (0,0))] [0] λrest=>ih (i+1) (q+1) bn AH (by omega) (by omega) (Sub.trans hs hs3) rest
 exact tSt (Jo _ _ _) [(1,pV b1),(3,pV Wg),(4,pV ba),(5,pV b0)] [.b b0 (.cells ⟨[.int .i64 (-1)]⟩ 3 (0,0))] [0] λrest=>loop (W.H+1) 0 (-1) b0 cK (by omega) (by omega) (Sub.refl _) rest
end
noncomputable def aFP:EA Tryz.prog 234 4 where
 At:=TV.At
 running:=TV.running
 step:=λh1 h2 h3=>TV.step h1 h2 (bS h3 (by omega))
 block:=TV.block
 la:=TV.la
 ue:=TV.ue
def aQy:RJ aFP:=⟨λMu k cs=>ad0 k,λMu k cs=>Vm k⟩
def apG{W:ky}(hD:1<=W.D/\W.D<=4)(hH3:W.H<=3):
 RP Tryz.prog 111 [pV Hb] ro [(Hb,.cells ⟨W.cells (.slice none 0 0)⟩ 113 (0,0))] (λv Y=>v= .tuple #[]/\∃l u X,l.Perm (BO W)/\bJ u 4 120 jF l X/\Y=(Hb,.cells ⟨W.cells u⟩ 113 (0,0))::X):=aRf aQy hD hH3
section
variable {X:Cx} {o:Option JS}
def jcF{f:FuncId}{vs:List Value}{own:Cells}{Φ:Value->Cells->Prop}(ps:List Nat)(Jm:Hu X.P f=true)(hf:eW X.P f vs X.ro own Φ)(hj:∀v Y,Φ v Y->J X (rV ps v Y o))(h1:iC X.n (ain X.n) o=some (f,vs):=by kernel_rfl)(h2:fT ps o=some own:=by kernel_rfl):J X o:=by
 obtain⟨ops,i,todo,k,e,w,kn,p,rfl,ho,hw,hc⟩:=gF h1;have hcb:y7 X.P X.n p e=some (f,vs):=by unfold y7;rw[hc];simp only[Jm,cH]
 obtain⟨ff,x,xs,at_,fi,ca,ws,a8,hx,xD,rfl⟩:=vK hcb;intro ep;rcases p with ⟨dst,op,ty,pos,fX,g⟩
 dsimp only at a8;subst a8;have hp:=dN h2;refine yQ (fi:=⟨fi⟩) (ca:=⟨ca⟩) (ws:=fi++ws++ca) X.hC ho hw hx ff xD (XA fi ws ca) (Fn.weaken X.hC (eW.aD0 (s:=⟨X.ro,den w⟩) hp hf)) (λv' s' hr=>?_) (λch s' hr=>by obtain⟨_,_,e,_⟩:=hr;cases e) (λs' hr=>by obtain⟨_,_,e,_⟩:=hr;cases e);obtain⟨v,Y,hv,uz,hle⟩:=hr;cases hv;have:=hj _ Y uz;rw[tx ho] at this;have:=this ep;simp only[JP,lv] at this;exact this.more X.hC hle
end
def Fy(lt:α->α->Bool):List α->α->List α
 | [],x=>[x]
 |y::R,x=>bif lt x y then y::Fy lt R x else x::y::R
theorem aau{lt:α->α->Bool}{x:α}:∀ {R:List α},(Fy lt R x).length=R.length+1
 | []=>rfl
 |y::R=>by
  simp only[Fy];cases lt x y with
  |true=>simp only[cH,aK,aau]
  |false=>rfl
theorem Ij{lt:α->α->Bool}{x z:α}:∀ {R:List α},z∈Fy lt R x↔z=x\/z∈R
 | []=>by simp[Fy]
 |y::R=>by
  simp only[Fy];cases lt x y with
  |true=>simp only[cH,aS,Ij];grind
  |false=>simp
theorem apL{lt:α->α->Bool}{x:α}:∀ {R B:List α},GP lt R.length (R.reverse++x::B)=(Fy lt R x).reverse++B
 | [],B=>rfl
 |y::R,B=>by
  have e1:((y::R).reverse++x::B)[R.length+1]?=some x:=by rw[rX (by simp)];simp
  have e2:((y::R).reverse++x::B)[R.length]?=some y:=by rw[iP (by simp),List.reverse_cons,rX (by simp)];simp
  have e3:(((y::R).reverse++x::B).set (R.length+1) y).set R.length x=R.reverse++x::(y::B):=by
   rw[List.reverse_cons,bC,List.set_append_right _ _ (by simp),List.set_append_right _ _ (by simp)];simp
  simp only[aK,GP,e1,e2,e3,Fy];cases lt x y with
  |true=>simp only[cH];rw[apL (R:=R) (B:=y::B)];simp
  |false=>simp
def VA{lt:α->α->Bool}:∀ {C R:List α},sR lt C.length R.length (R.reverse++C)=(C.foldl (Fy lt) R).reverse
 | [],R=>by simp[sR]
 |x::C,R=>by
  simp only[aK,sR,apL];rw[<-aau];exact VA
structure ab7{α:Type}(lt:α->α->Bool):Prop where
 tr:∀ {x y z:α},lt x y=true->lt y z=true->lt x z=true
 jB:∀ {x y:α},x≠y->lt x y=true\/lt y x=true
 asy:∀ {x y:α},lt x y=true->lt y x=false
def ahu{lt:α->α->Bool}(hL:ab7 lt){x:α}:∀ {R:List α},R.Pairwise (λa b=>lt b a=true)->x∉R->(Fy lt R x).Pairwise (λa b=>lt b a=true)
 | [],_,_=>by simp[Fy]
 |y::R,h,hx=>by
  rw[oU] at h;simp_all;simp only[Fy];cases hc:lt x y with
  |true=>
   simp only[cH];refine oU.2 ⟨λz hz=>?_,ahu hL h.2 hx.2⟩;rcases Ij.1 hz with rfl|hz
   .exact hc
   exact h.1 z hz
  |false=>
   have hyx:lt y x=true:=(hL.jB hx.1).resolve_left (by rw[hc];decide);refine oU.2 ⟨λz hz=>?_,oU.2 h⟩;rcases aS.1 hz with rfl|hz
   .exact hyx
   exact hL.tr (h.1 z hz) hyx
theorem ah3{lt:α->α->Bool}(hL:ab7 lt):∀ {C R:List α},R.Pairwise (λa b=>lt b a=true)->C.Nodup->(∀x∈C,x∉R)->(C.foldl (Fy lt) R).Pairwise (λa b=>lt b a=true)
 | [],R,h,_,_=>h
 |x::C,R,h,hn,hd=>by
  rw[j8] at hn;rw[nJ];refine ah3 hL (ahu hL h (hd x (by simp))) hn.2 λz hz hz2=>?_;rcases Ij.1 hz2 with rfl|hz2
  all_goals grind
theorem wX{lt:α->α->Bool}(hL:ab7 lt){xs:List α}(hn:xs.Nodup):(dh lt xs).Pairwise (λa b=>lt a b=true):=by
 cases xs with
 |nil=>simp[dh,sR]
 |cons a C=>
  have e:dh lt (a::C)=(C.foldl (Fy lt) [a]).reverse:=by
   have:=VA (lt:=lt) (C:=C) (R:=[a])
   grind [dh]
  grind [ah3,aV]
theorem AF{lt:α->α->Bool}(hL:ab7 lt):∀ {l m:List α},l.Pairwise (λa b=>lt a b=true)->m.Pairwise (λa b=>lt a b=true)->(∀x,x∈l↔x∈m)->l=m
 | [],[],_,_,_=>rfl
 | [],b::m,_,_,h=>absurd ((h b).2 (by simp)) (by simp)
 |a::l,[],_,_,h=>absurd ((h a).1 (by simp)) (by simp)
 |a::l,b::m,h1,h2,h=>by
  rw[oU] at h1 h2;have irr:∀ {x:α},lt x x=true->False:=λ{x} hx=>by have:=hL.asy hx;rw[hx] at this;cases this
  have Iv:a=b:=by
   rcases aS.1 ((h a).1 (by simp)) with e|ha
   .exact e
   rcases aS.1 ((h b).2 (by simp)) with e|hb
   .exact e.symm
   have k1:=h2.1 a ha;have k2:=h1.1 b hb;rw[hL.asy k1] at k2;cases k2
  subst Iv;congr 1;refine AF hL h1.2 h2.2 λx=>⟨λhx=>?_,λhx=>?_⟩
  all_goals grind
theorem w5{x y:ax}:Ib x y=true↔mH x y:=by
 grind [Ib,NP,orL,tN,mH]
theorem SB:ab7 Ib where
 tr h1 h2:=by rw[w5] at*;simp only[mH] at*;omega
 jB {x y} h:=by
  rw[w5,w5];simp only[mH];rcases x with ⟨a,b⟩;rcases y with ⟨c,d⟩
  grind
 asy {x y} h:=by
  grind [w5,Ib,mH]
def TE{f:α->Nat}{e:α}:∀ {l:List α},(l.map f).Nodup->e∈l->l.Perm (e::l.filter λx=> !decide (f x=f e))
 | [],_,h=>by cases h
 |x::l,kP,h=>by
  simp only[bV,j8] at kP;rcases aS.1 h with rfl|h
  .have:(e::l).filter (λx=> !decide (f x=f e))=l:=by
    simp_all
   rw[this]
  have eo:f x≠f e:=λhe=>kP.1 (he▸dR h);rw[List.filter_cons_of_pos (by simp[eo])];exact(List.Perm.cons x (TE kP.2 h)).trans (.swap _ _ _)
theorem P6{κ:Type}{kv:κ->Value}{F:List (κ×Value)}{es:Array MapEntry}(hE:yH kv F es ck){e:MapEntry}(he:e∈gK es seen):(gK es seen).Perm (e::gK es (seen++[e.born])):=by
 have h1:gK es (seen++[e.born])=(gK es seen).filter λx=> !decide (x.born=e.born):=by
  grind [gK,List.filter_filter]
 rw[h1];exact TE (hE.2.1.sublist (List.filter_sublist.map _)) he
def T8:Value->ar
 | .agg ⟨[.int _ a,.int _ b,.int _ c]⟩=>⟨a,b,c⟩
 |_=>⟨0,0,0⟩
def InP(es:Array MapEntry)(F:List (ar×Value))(seen:List Nat)(S:List (ar×Value)):Prop:=(S++(gK es seen).map λe=>(T8 e.key,e.val)).Perm F
def InP.start{es:Array MapEntry}{F:List (ar×Value)}(hE:yH mh F es ck):InP es F [] []:=by
 have h:=qt (List.map λx:Value×Value=>(T8 x.1,x.2)) hE.1;simp only[qR,ng] at h;have e:(F.map λx=>(T8 (mh x.1),x.2))=F:=by
  simp[T8,mh,id,List.map_id]
 simp only[InP,J9,aL];rw[h,e]
theorem InP.step{es:Array MapEntry}{F:List (ar×Value)}{S:List (ar×Value)}{e:MapEntry}{k:ar}{v:Value}(h:InP es F seen S)(hE:yH mh F es ck)(he:e∈gK es seen)(hk:e.key=mh k)(hv:e.val=v):InP es F (seen++[e.born]) (S++[(k,v)]):=by
 refine List.Perm.trans ?_ h;have h1:=((P6 hE he).map λe=>(T8 e.key,e.val)).symm;rw[bV,hk,hv] at h1;rw[bC];exact .append_left _ h1
theorem InP.fin{es:Array MapEntry}{F:List (ar×Value)}{S:List (ar×Value)}(h:InP es F seen S)(he:gK es seen=[]):S.Perm F:=by
 grind [InP]
theorem abk{lt:α->α->Bool}{x:α}:∀ {C R:List α},x∈C.foldl (Fy lt) R↔x∈R\/x∈C
 | [],R=>by simp
 |y::C,R=>by
  rw[nJ,abk,Ij,aS]
  grind
theorem ko{lt:α->α->Bool}{x:α}{xs:List α}:x∈dh lt xs↔x∈xs:=by
 cases xs with
 |nil=>rfl
 |cons a C=>
  have e:dh lt (a::C)=(C.foldl (Fy lt) [a]).reverse:=by
   have:=VA (lt:=lt) (C:=C) (R:=[a])
   grind [dh]
  grind [abk]
def iK(s:Int)(L:List ar):List ax:=(L.filter λx=>decide (x.h=s)).map λx=>⟨x.n,x.l⟩
theorem Lc{s l:Int}{L:List ar}:iK s (L++[⟨s,n,l⟩])=iK s L++[⟨n,l⟩]:=by simp[iK]
theorem Xk{s:Int}{x:ar}{L:List ar}(h:x.h≠s):iK s (L++[x])=iK s L:=by grind [iK]
theorem pE{s:Int}{L:List ar}:(iK s L).length<=L.length:=by grind [iK,dj]
theorem akW{s:Int}{L M:List ar}(h:L.Perm M):(iK s L).Perm (iK s M):=(h.filter _).map _
def uy(g:ar->List ar)(S:List (ar×Value)):List ar:=S.flatMap λe=>g e.1
theorem GR{g:ar->List ar}{es:Array MapEntry}{F S:List (ar×Value)}(h:InP es F seen S):(uy g S).length<=(uy g F).length:=by
 have:=(h.flatMap_right λe=>g e.1).length_eq
 grind [aM,uy]
theorem DU{g:ar->List ar}{S:List (ar×Value)}{k:ar}{v:Value}:uy g (S++[(k,v)])=uy g S++g k:=by simp[uy]
theorem vu{g:ar->List ar}{F:List (ar×Value)}{H:List ar}(h:F.map (·.1)=H):uy g F=H.flatMap g:=by grind [uy,List.flatMap_map]
theorem afW{g:ar->List ar}{F S:List (ar×Value)}{H:List ar}{s:Int}(h:S.Perm F)(hk:F.map (·.1)=H)(kP:(iK s (H.flatMap g)).Nodup):dh Ib (iK s (uy g S))=dh Ib (iK s (H.flatMap g)):=by
 have hp:(iK s (uy g S)).Perm (iK s (H.flatMap g)):=by
  rw[<-vu hk];grind [akW,uy,Perm]
 grind [AF,SB,wX,ko]
def ayK{IL:Array MapEntry}{F1:List (ar×Value)}{H:List ar}{g:ar->List ar}(Aj:RG ro r1 H g IL NR F1)(hn:(H.flatMap g).length<=12)(hS:∀h∈H,∀x∈g h,x.h=0)(kP:(iK 0 (H.flatMap g)).Nodup):eW zT 172 [(.map (some r1)),zI 1] ro [] (λr Y=>∃a n c,r= .agg ⟨[.slice a n c]⟩/\∀bU,Knows bU Y->bH bU (.slice a n c) [dh Ib (iK 0 (H.flatMap g))]):=by
 refine zE<|zD 2<|jn λb4=>zD 4<|aRo (E:=98) (z:= zS) λBe=>jg 0 [zxc Be 98 [zS]]<|zD 1<|jn λb5=>jd 6 [0]<|jmR Aj.m λN8=>jg 0 [.b N8 (w6 r1 NR [])]<|zD 2<|wN<|iE [1,1,0,1,0,0] [] (λ(zz:(List Nat)×(List (ar×Value))×Value×Cells×(List ax))=>[(4,zP b4),(5,zP b5),(16,zP N8)]) (λ(zz:(List Nat)×(List (ar×Value))×Value×Cells×(List ax))=>[.b N8 (w6 r1 NR zz.1),zxc Be 98 [zz.2.2.1],.l zz.2.2.2.1,zxc b5 24 [.slice (some ⟨Be,0,none⟩) 1 1],zxc b4 24 [zS]]) (λ(zz:(List Nat)×(List (ar×Value))×Value×Cells×(List ax))=>InP IL F1 zz.1 zz.2.1/\zz.2.2.2.2=iK 0 (uy g zz.2.1)/\bJ zz.2.2.1 2 39 cu zz.2.2.2.2 zz.2.2.2.1) (λ(zz:(List Nat)×(List (ar×Value))×Value×Cells×(List ax))=>(gK IL zz.1).length) (⟨[],[],zS,[],[]⟩) ⟨InP.start Aj.e,rfl,bJ.nil _ _ _⟩ [1,3,0,2,4] ?_;rintro⟨seen,T,w0,L0,p0⟩ hI K1 cX rest;dsimp only at hI;refine zD 2<|jmN (it:=N8) (kv:=mh) (seen:=seen) 0 Aj.m Aj.e (λRZ v17 e17 aeH qj aeE ap3=>?_) (λaxO=>?_)
 ·
  have hvv:dq ro v17 3 bL (g RZ):=Aj.v _ aeH;obtain⟨VL,qvb,qvo,Jd,rfl,qvk,Za,Y9⟩:=hvv;have hsg:∀x∈g RZ,x.h=0:=hS _ (by rw[<-Aj.k];exact List.mem_map_of_mem (f:=(·.1)) aeH);have dS:=DK qj;have dr:=hI.1.step Aj.e qj aeE ap3;have hbd:=GR (g:=g) dr;rw[DU,vu Aj.k,List.length_append] at hbd;refine jg 0 [.b N8 (w6 r1 NR (seen++[e17.born]))]<|zD 8<|jmE (it:=N8) 0 Aj.m Aj.e qj aeE ap3<|jg 0 [.b N8 (w6 r1 NR (seen++[e17.born]))]<|zD 10<|iE [1,1,0,1,0,0,1,1,0,1,1,0,0] [K1] (λ(zz:Nat×Value×Cells×(List ax))=>[(4,zP b4),(5,zP b5),(16,zP N8),(21,.slice VL ((g RZ).length) Jd),(22,zI ((g RZ).length:Int)),(23,zI (zz.1:Int))]) (λzz=>[.b N8 (w6 r1 NR (seen++[e17.born])),zxc Be 98 [zz.2.1],.l zz.2.2.1,zxc b5 24 [.slice (some ⟨Be,0,none⟩) 1 1],zxc b4 24 [zS]]) (λzz=>zz.1<=(g RZ).length/\zz.2.2.2=iK 0 (uy g T++(g RZ).take zz.1)/\bJ zz.2.1 2 39 cu zz.2.2.2 zz.2.2.1) (λzz=>(g RZ).length-zz.1) (⟨0,w0,L0,p0⟩) ⟨by dsimp only;omega,by simpa using hI.2.1,hI.2.2⟩ (zN 0 5) ?_;rintro⟨i,w0,L0,p0⟩ hJ K2 mb rest;dsimp only at hJ;have xE:p0.length<=(uy g T).length+i:=by rw[hJ.2.1];exact Nat.le_trans pE (by rw[List.length_append,List.length_take];omega)
  refine zD 5<|zJ 24 ((i:Int) <((g RZ).length:Int)) (λh1=>?_) λh1=>?_
  ·
   refine zD 6<|zxt (g RZ) i Jd 3 Za Y9 (λFq nA=>?_);have s8:=hsg _ (zL nA);obtain⟨xh,xn,xl⟩:=Fq;dsimp only at s8;subst s8;refine jn λb9=>jd 11 [0,4,0,4,0]<|jd 4 [2,0]<|zxo 12 λwA=>jn λU0=>eP wA (zN 1 6)<|zxo 13 λuD=>zxl cu U0 (⟨xn,xl⟩:ax) 4 0 (hJ.2.2) (λJx Jv L40 nP=>?_) (hb:=by simp only[List.length_cons,List.length_nil];omega);refine eE uD [[2],[5],[2],[5]]<|zD 1<|zxo 15 λCU=>jd 1 [4]<|kV CU<|zD 2<|zW ((i:Int)+1)<|zD 2<|zF mb (⟨i+1,(.slice Jx ((p0++[(⟨xn,xl⟩:ax)])).length Jv),L40,(p0++[(⟨xn,xl⟩:ax)])⟩) ⟨by dsimp only;rw[cU nA,<-List.append_assoc,Lc,<-hJ.2.1],nP⟩ [3,4,0,5,6]
  refine zD 2<|dY cX (⟨(seen++[e17.born]),(T++[(RZ,_)]),w0,L0,p0⟩) ⟨dr,by dsimp only;rw[hJ.2.1,DU,List.take_of_length_le (by omega)],hJ.2.2⟩ dS (zN 0 5) (Sub.refl _)
 refine jg 0 [.b N8 (w6 r1 NR seen)]<|jd 14 [3]<|iE [1,1,1,0,1,0,0] [] (λ(zz:Nat×Value×Cells×(List ax))=>[(4,zP b4),(5,zP b5),(44,.slice (some ⟨Be,0,none⟩) 1 1),(45,zI 1),(46,zI (zz.1:Int))]) (λzz=>[zxc Be 98 [zz.2.1],.l zz.2.2.1,zxc b5 24 [.slice (some ⟨Be,0,none⟩) 1 1],zxc b4 24 [zS]]) (λzz=>zz.1<=1/\zz.2.2.2=(if zz.1=0 then iK 0 (uy g T) else dh Ib (iK 0 (uy g T)))/\bJ zz.2.1 2 39 cu zz.2.2.2 zz.2.2.1) (λzz=>1-zz.1) (⟨0,w0,L0,p0⟩) ⟨by dsimp only;omega,hI.2.1,hI.2.2⟩ (zN 1 4) ?_;rintro⟨k,w0,L0,p0⟩ hQ K6 hK6 rest;dsimp only at hQ;refine zD 5<|zJ 47 ((k:Int) <1) (λh5=>?_) λh5=>?_
 ·
  refine zD 6 ?_;have hk0:k=0:=by omega
  refine jw 46 (zI 0) (show Value.int .i64 (k:Int)= zI 0 by rw[hk0];rfl) ?_;refine jd 6 [0]<|jc (vs:=[w0,.func (.func 182) ⟨[]⟩ ⟨[]⟩]) [1] (ae9 hQ.2.2 (by rw[hQ.2.1,if_pos hk0];exact Nat.le_trans pE (Nat.le_trans (GR hI.1) (by rw[vu Aj.k];exact hn)))) ?_;rintro aOx Y51 ⟨ama,aqe,aqB⟩;refine zD 5<|zF hK6 (⟨1,w0,Y51,ama⟩) ⟨by dsimp only;rw[if_neg (by decide),aqe.1,hQ.2.1,if_pos hk0],aqB⟩ [1,0,2,3]
 refine jd 8 [2,3] ?_;have hk1:k=1:=by omega
 have hae:=afW (s:=0) (hI.1.fin axO) Aj.k kP;exact zR (.agg ⟨[.slice (some ⟨Be,0,none⟩) 1 1]⟩) [3] [0,1] ((Be,.cells ⟨[w0]⟩ 98 (0,0))::L0) ⟨_,_,_,rfl,λbU hk=>⟨[w0],fK [w0] (hk _ (.head _)) (λ_ _=>rfl),.cons (by have:=hQ.2.2;rw[hQ.2.1,cJ (by omega),hae] at this;exact this.jI (λx hx=>hk x (.tail _ hx))) .nil⟩⟩
def ayJ{IL:Array MapEntry}{F1:List (ar×Value)}{H:List ar}{g:ar->List ar}(Aj:RG ro r1 H g IL NR F1)(hn:(H.flatMap g).length<=12)(hS:∀h∈H,∀x∈g h,x.h=0\/x.h=1)(kP:(iK 0 (H.flatMap g)).Nodup)(bfF:(iK 1 (H.flatMap g)).Nodup):eW zT 172 [(.map (some r1)),zI 2] ro [] (λr Y=>∃a n c,r= .agg ⟨[.slice a n c]⟩/\∀bU,Knows bU Y->bH bU (.slice a n c) [dh Ib (iK 0 (H.flatMap g)),dh Ib (iK 1 (H.flatMap g))]):=by
 refine zE<|zD 2<|jn λb4=>zD 4<|jmS (E:=98) (z:= zS) λBe=>jg 0 [zxc Be 98 [zS,zS]]<|zD 1<|jn λb5=>jd 6 [0]<|jmR Aj.m λN8=>jg 0 [.b N8 (w6 r1 NR [])]<|zD 2<|wN<|wN<|iE [1,1,0,1,0,0] [] (λ(zz:(List Nat)×(List (ar×Value))×Value×Cells×(List ax)×Value×Cells×(List ax))=>[(4,zP b4),(5,zP b5),(16,zP N8)]) (λ(zz:(List Nat)×(List (ar×Value))×Value×Cells×(List ax)×Value×Cells×(List ax))=>[.b N8 (w6 r1 NR zz.1),zxc Be 98 [zz.2.2.1,zz.2.2.2.2.2.1],.l zz.2.2.2.1,.l zz.2.2.2.2.2.2.1,zxc b5 24 [.slice (some ⟨Be,0,none⟩) 2 2],zxc b4 24 [zS]]) (λ(zz:(List Nat)×(List (ar×Value))×Value×Cells×(List ax)×Value×Cells×(List ax))=>InP IL F1 zz.1 zz.2.1/\zz.2.2.2.2.1=iK 0 (uy g zz.2.1)/\zz.2.2.2.2.2.2.2=iK 1 (uy g zz.2.1)/\bJ zz.2.2.1 2 39 cu zz.2.2.2.2.1 zz.2.2.2.1/\bJ zz.2.2.2.2.2.1 2 39 cu zz.2.2.2.2.2.2.2 zz.2.2.2.2.2.2.1) (λ(zz:(List Nat)×(List (ar×Value))×Value×Cells×(List ax)×Value×Cells×(List ax))=>(gK IL zz.1).length) (⟨[],[],zS,[],[],zS,[],[]⟩) ⟨InP.start Aj.e,rfl,rfl,bJ.nil _ _ _,bJ.nil _ _ _⟩ [2,4,1,0,3,5] ?_;rintro⟨seen,T,w0,L0,p0,w1,L1,p1⟩ hI K1 cX rest;dsimp only at hI;refine zD 2<|jmN (it:=N8) (kv:=mh) (seen:=seen) 0 Aj.m Aj.e (λRZ v17 e17 aeH qj aeE ap3=>?_) (λaxO=>?_)
 ·
  have hvv:dq ro v17 3 bL (g RZ):=Aj.v _ aeH;obtain⟨VL,qvb,qvo,Jd,rfl,qvk,Za,Y9⟩:=hvv;have hsg:∀x∈g RZ,x.h=0\/x.h=1:=hS _ (by rw[<-Aj.k];exact List.mem_map_of_mem (f:=(·.1)) aeH);have dS:=DK qj;have dr:=hI.1.step Aj.e qj aeE ap3;have hbd:=GR (g:=g) dr;rw[DU,vu Aj.k,List.length_append] at hbd;refine jg 0 [.b N8 (w6 r1 NR (seen++[e17.born]))]<|zD 8<|jmE (it:=N8) 0 Aj.m Aj.e qj aeE ap3<|jg 0 [.b N8 (w6 r1 NR (seen++[e17.born]))]<|zD 10<|iE [1,1,0,1,0,0,1,1,0,1,1,0,0] [K1] (λ(zz:Nat×Value×Cells×(List ax)×Value×Cells×(List ax))=>[(4,zP b4),(5,zP b5),(16,zP N8),(21,.slice VL ((g RZ).length) Jd),(22,zI ((g RZ).length:Int)),(23,zI (zz.1:Int))]) (λzz=>[.b N8 (w6 r1 NR (seen++[e17.born])),zxc Be 98 [zz.2.1,zz.2.2.2.2.1],.l zz.2.2.1,.l zz.2.2.2.2.2.1,zxc b5 24 [.slice (some ⟨Be,0,none⟩) 2 2],zxc b4 24 [zS]]) (λzz=>zz.1<=(g RZ).length/\zz.2.2.2.1=iK 0 (uy g T++(g RZ).take zz.1)/\zz.2.2.2.2.2.2=iK 1 (uy g T++(g RZ).take zz.1)/\bJ zz.2.1 2 39 cu zz.2.2.2.1 zz.2.2.1/\bJ zz.2.2.2.2.1 2 39 cu zz.2.2.2.2.2.2 zz.2.2.2.2.2.1) (λzz=>(g RZ).length-zz.1) (⟨0,w0,L0,p0,w1,L1,p1⟩) ⟨by dsimp only;omega,by simpa using hI.2.1,by simpa using hI.2.2.1,hI.2.2.2⟩ (zN 0 6) ?_;rintro⟨i,w0,L0,p0,w1,L1,p1⟩ hJ K2 mb rest;dsimp only at hJ;have xE:p0.length<=(uy g T).length+i:=by rw[hJ.2.1];exact Nat.le_trans pE (by rw[List.length_append,List.length_take];omega)
  have aSf:p1.length<=(uy g T).length+i:=by rw[hJ.2.2.1];exact bS pE (by rw[aM,cw];omega)
  refine zD 5<|zJ 24 ((i:Int) <((g RZ).length:Int)) (λh1=>?_) λh1=>?_
  ·
   refine zD 6<|zxt (g RZ) i Jd 3 Za Y9 (λFq nA=>?_);have s8:=hsg _ (zL nA);obtain⟨xh,xn,xl⟩:=Fq;dsimp only at s8;rcases s8 with rfl|rfl
   ·
    refine jn λb9=>jd 11 [0,5,0,5,0]<|jd 4 [2,0]<|zxo 12 λwA=>jn λU0=>eP wA (zN 1 7)<|zxo 13 λuD=>zxl cu U0 (⟨xn,xl⟩:ax) 4 0 (hJ.2.2.2.1) (λJx Jv L40 nP=>?_) (hb:=by simp only[List.length_cons,List.length_nil];omega);refine eE uD [[2],[6],[2],[6]]<|zD 1<|zxo 15 λCU=>jd 1 [4]<|kV CU<|zD 2<|zW ((i:Int)+1)<|zD 2<|zF mb (⟨i+1,(.slice Jx ((p0++[(⟨xn,xl⟩:ax)])).length Jv),L40,(p0++[(⟨xn,xl⟩:ax)]),w1,L1,p1⟩) ⟨by dsimp only;rw[cU nA,<-List.append_assoc,Lc,<-hJ.2.1],by dsimp only;rw[cU nA,<-List.append_assoc,Xk (x:=⟨0,xn,xl⟩) (s:=1) (show (0:Int)≠1 from by decide),<-hJ.2.2.1],nP,hJ.2.2.2.2⟩ [3,4,0,5,6,7]
   refine jn λb9=>jd 11 [0,5,0,5,0]<|jd 4 [2,0]<|zxo 12 λKB=>jn λU0=>eP KB (zN 1 7)<|zxo 13 λQB=>zxl cu U0 (⟨xn,xl⟩:ax) 5 0 (hJ.2.2.2.2) (λJx Jv L40 nP=>?_) (hb:=by simp only[List.length_cons,List.length_nil];omega);refine eE QB [[2],[6],[2],[6]]<|zD 1<|zxo 15 λhL8=>jd 1 [4]<|kV hL8<|zD 2<|zW ((i:Int)+1)<|zD 2<|zF mb (⟨i+1,w0,L0,p0,(.slice Jx ((p1++[(⟨xn,xl⟩:ax)])).length Jv),L40,(p1++[(⟨xn,xl⟩:ax)])⟩) ⟨by dsimp only;rw[cU nA,<-List.append_assoc,Xk (x:=⟨1,xn,xl⟩) (s:=0) (show (1:Int)≠0 from by decide),<-hJ.2.1],by dsimp only;rw[cU nA,<-List.append_assoc,Lc,<-hJ.2.2.1],hJ.2.2.2.1,nP⟩ [3,4,5,0,6,7]
  refine zD 2<|dY cX (⟨(seen++[e17.born]),(T++[(RZ,_)]),w0,L0,p0,w1,L1,p1⟩) ⟨dr,by dsimp only;rw[hJ.2.1,DU,List.take_of_length_le (by omega)],by dsimp only;rw[hJ.2.2.1,DU,List.take_of_length_le (by omega)],hJ.2.2.2⟩ dS (zN 0 6) (Sub.refl _)
 refine jg 0 [.b N8 (w6 r1 NR seen)]<|jd 14 [4]<|iE [1,1,1,0,1,0,0] [] (λ(zz:Nat×Value×Cells×(List ax)×Value×Cells×(List ax))=>[(4,zP b4),(5,zP b5),(44,.slice (some ⟨Be,0,none⟩) 2 2),(45,zI 2),(46,zI (zz.1:Int))]) (λzz=>[zxc Be 98 [zz.2.1,zz.2.2.2.2.1],.l zz.2.2.1,.l zz.2.2.2.2.2.1,zxc b5 24 [.slice (some ⟨Be,0,none⟩) 2 2],zxc b4 24 [zS]]) (λzz=>zz.1<=2/\zz.2.2.2.1=(if zz.1=0 then iK 0 (uy g T) else dh Ib (iK 0 (uy g T)))/\zz.2.2.2.2.2.2=(if zz.1<=1 then iK 1 (uy g T) else dh Ib (iK 1 (uy g T)))/\bJ zz.2.1 2 39 cu zz.2.2.2.1 zz.2.2.1/\bJ zz.2.2.2.2.1 2 39 cu zz.2.2.2.2.2.2 zz.2.2.2.2.2.1) (λzz=>2-zz.1) (⟨0,w0,L0,p0,w1,L1,p1⟩) ⟨by dsimp only;omega,hI.2.1,hI.2.2.1,hI.2.2.2⟩ (zN 1 5) ?_;rintro⟨k,w0,L0,p0,w1,L1,p1⟩ hQ K9 hK9 rest;dsimp only at hQ;refine zD 5<|zJ 47 ((k:Int) <2) (λh8=>?_) λh8=>?_
 ·
  refine zD 6 ?_;rcases(show k=0\/k=1 by omega) with hk0|hk0
  ·
   refine jw 46 (zI 0) (show Value.int .i64 (k:Int)= zI 0 by rw[hk0];rfl) ?_;refine jd 6 [0]<|jc (vs:=[w0,.func (.func 182) ⟨[]⟩ ⟨[]⟩]) [1] (ae9 hQ.2.2.2.1 (by first| (rw[hQ.2.1,if_pos hk0];exact Nat.le_trans pE (Nat.le_trans (GR hI.1) (by rw[vu Aj.k];exact hn)))| (rw[hQ.2.2.1,if_pos (by omega)];exact Nat.le_trans pE (Nat.le_trans (GR hI.1) (by rw[vu Aj.k];exact hn))))) ?_;rintro aOx Y51 ⟨ama,aqe,aqB⟩;refine zD 5<|zF hK9 (⟨1,w0,Y51,ama,w1,L1,p1⟩) ⟨by dsimp only;rw[if_neg (by decide),aqe.1,hQ.2.1,if_pos hk0],by dsimp only;rw[if_pos (by decide),hQ.2.2.1,if_pos (by omega)],aqB,hQ.2.2.2.2⟩ [1,0,2,3,4]
  refine jw 46 (zI 1) (show Value.int .i64 (k:Int)= zI 1 by rw[hk0];rfl) ?_;refine jd 6 [0]<|jc (vs:=[w1,.func (.func 182) ⟨[]⟩ ⟨[]⟩]) [2] (ae9 hQ.2.2.2.2 (by first| (rw[hQ.2.1,if_pos hk0];exact Nat.le_trans pE (Nat.le_trans (GR hI.1) (by rw[vu Aj.k];exact hn)))| (rw[hQ.2.2.1,if_pos (by omega)];exact Nat.le_trans pE (Nat.le_trans (GR hI.1) (by rw[vu Aj.k];exact hn))))) ?_;rintro aOx Y51 ⟨ama,aqe,aqB⟩;refine zD 5<|zF hK9 (⟨2,w0,L0,p0,w1,Y51,ama⟩) ⟨by dsimp only;rw[if_neg (by decide),hQ.2.1,if_neg (by omega)],by dsimp only;rw[if_neg (by decide),aqe.1,hQ.2.2.1,if_pos (by omega)],hQ.2.2.2.1,aqB⟩ [1,2,0,3,4]
 refine jd 8 [3,4] ?_;have hk1:k=2:=by omega
 have hae:=afW (s:=0) (hI.1.fin axO) Aj.k kP;have bhy:=afW (s:=1) (hI.1.fin axO) Aj.k bfF;exact zR (.agg ⟨[.slice (some ⟨Be,0,none⟩) 2 2]⟩) [4] [0,1,2] ((Be,.cells ⟨[w0,w1]⟩ 98 (0,0))::(L0++L1)) ⟨_,_,_,rfl,λbU hk=>⟨[w0,w1],fK [w0,w1] (hk _ (.head _)) (λ_ _=>rfl),.cons (by have:=hQ.2.2.2.1;rw[hQ.2.1,cJ (by omega),hae] at this;exact this.jI (λx hx=>hk x (.tail _ (cR _ hx)))) (.cons (by have:=hQ.2.2.2.2;rw[hQ.2.2.1,cJ (by omega),bhy] at this;exact this.jI (λx hx=>hk x (.tail _ (gv _ hx)))) .nil)⟩⟩
theorem BN{x y:ar}:pP x y=true↔x.h <y.h\/(x.h=y.h/\mH ⟨x.n,x.l⟩ ⟨y.n,y.l⟩):=by
 have hp:=w5 (x:=⟨x.n,x.l⟩) (y:=⟨y.n,y.l⟩)
 grind [Ib,pP,azi,orL,tN]
theorem Ih:ab7 pP where
 tr h1 h2:=by rw[BN] at*;simp only[mH] at*;omega
 jB {x y} h:=by
  rw[BN,BN];simp only[mH];rcases x with ⟨a,b,c⟩;rcases y with ⟨d,e,f⟩
  grind
 asy {x y} h:=by
  grind [BN,pP,mH]
def xz{g1 g2:ar->List ar}{h z:ar}:z∈Dk g1 g2 h↔∃x∈g1 h,z∈g2 x:=by rw[Dk,ko,eZ]
def xu(S:List (List ax))(c:aP):List (List ax):=(List.range S.length).map λ(s:Nat)=>dh Ib (iK (s:Int) ((aI S).flatMap (fY S c)))
structure rB where
 ways:List Int
 fin:List (List ax)
 g:ar->List ar
def oy:List (List aP)->rB->List rB
 | [],x=>[x]
 |l::rest,x=>l.zipIdx.flatMap λp=>if iG x.fin p.1=0 then oy rest ⟨x.ways++[(p.2:Int)],xu x.fin p.1,Dk x.g (fY x.fin p.1)⟩ else []
def dt(S:List (List ax))(ways:List (List aP)):List rB:=oy ways ⟨[],S,rO⟩
def Apart(H:List ar)(g:ar->List ar):Prop:=∀a∈H,∀b∈H,∀z,z∈g a->z∈g b->a=b
def Apart.one{H:List ar}:Apart H rO:=λa _ b _ z h1 h2=>by
 simp only[rO,aV] at h1 h2;rw[<-h1,h2]
def Apart.then'{H K:List ar}{g1 g2:ar->List ar}(h1:Apart H g1)(h2:Apart K g2)(hk:∀a∈H,∀x∈g1 a,x∈K):Apart H (Dk g1 g2):=λa ha b hb z Wo hz2=>by
 obtain⟨x,hx,hzx⟩:=xz.1 Wo;obtain⟨y,hy,hzy⟩:=xz.1 hz2;have:=h2 x (hk a ha x hx) y (hk b hb y hy) z hzx hzy;subst this;exact h1 a ha b hb x hx hy
theorem IF{p:α->Bool}{x:α}:∀ {l:List α} {k:Nat},x∈l->p x=true->bM p l k>=0
 | [],_,h,_=>by grind
 |y::l,k,h,hp=>by
  simp only[bM];cases hy:p y with
  |true=>simp
  |false=>
   rcases aS.1 h with rfl|h
   .grind
   exact IF h hp
theorem asN{l:List ax}(h:(⟨n,t⟩:ax)∈l):bM (cz n t) l 0>=0:=IF h (sW.2 rfl)
def Ey(S:List (List ax))(z:ar):Prop:=(0<=z.h/\z.h <(S.length:Int))/\p7 ⟨z.n,z.l⟩
theorem QO{x:ar}:∀ {u:List (ar×List ar)} {y:List ar},x∉u.map (·.1)->u.foldl (λy p=>if x=p.1 then p.2 else y) y=y
 | [],_,_=>rfl
 |p::u,y,h=>by
  simp only[bV,aS,not_or] at h;rw[nJ,cJ h.1,QO h.2]
def ah4{p:ar×List ar}:∀ {u:List (ar×List ar)} {y:List ar},(u.map (·.1)).Nodup->p∈u->u.foldl (λy q=>if p.1=q.1 then q.2 else y) y=p.2
 |q::u,y,hn,h=>by
  rw[bV,j8] at hn;rw[nJ];rcases aS.1 h with rfl|h
  .rw[dW rfl,QO hn.1]
  exact ah4 hn.2 h
def QL{u:List (ar×List ar)}{x:ar}(h:x∉u.map (·.1)):gU u x=[x]:=QO h
def MM{u:List (ar×List ar)}{p:ar×List ar}(hn:(u.map (·.1)).Nodup)(h:p∈u):gU u p.1=p.2:=ah4 hn h
structure Ex(S:List (List ax))(u:List (ar×List ar)):Prop where
 key:(u.map (·.1)).Nodup
 val:∀p∈u,(p.2.Nodup/\p.2.length<=2)/\∀z∈p.2,Ey S z
 dis:∀p∈u,∀q∈u,∀z,z∈p.2->z∈q.2->p.1=q.1
 new:∀p∈u,∀z∈p.2,z∈aI S->z∈u.map (·.1)
structure Gf(S:List (List ax))(g:ar->List ar):Prop where
 val:∀h∈aI S,((g h).Nodup/\(g h).length<=2)/\∀z∈g h,Ey S z
 ap:Apart (aI S) g
theorem Qq{S:List (List ax)}(hO:cg S){z:ar}(h:z∈aI S):Ey S z:=by
 obtain⟨j,l,p,h1,h2,h3,rfl⟩:=u1.1 h;exact⟨⟨Yl _,by grind [eV]⟩,hO.ok l (zL h2) p h3⟩
def Ex.mov{S:List (List ax)}{u:List (ar×List ar)}(h:Ex S u)(hO:cg S):Gf S (gU u):=by
 have key:∀x∈aI S,(∃p∈u,p.1=x/\gU u x=p.2)\/(x∉u.map (·.1)/\gU u x=[x]):=λx _=>by
  by_cases hx:x∈u.map (·.1)
  .obtain⟨p,hp,rfl⟩:=bB.1 hx;exact .inl ⟨p,hp,rfl,MM h.key hp⟩
  exact .inr ⟨hx,QL hx⟩
 refine⟨λx hx=>?_,λa ha b hb z h1 h2=>?_⟩
 .rcases key x hx with ⟨p,hp,_,e⟩| ⟨_,e⟩
  .rw[e];exact h.val p hp
  rw[e];exact⟨by simp,λz hz=>by rw[aV] at hz;subst hz;exact Qq hO hx⟩
 rcases key a ha with ⟨p,hp,rfl,e⟩| ⟨na,e⟩<;>rcases key b hb with ⟨q,hq,rfl,e'⟩| ⟨nb,e'⟩<;>rw[e] at h1<;>rw[e'] at h2
 .exact h.dis p hp q hq z h1 h2
 .rw[aV] at h2;subst h2;exact absurd (h.new p hp z h1 hb) nb
 .rw[aV] at h1;subst h1;exact absurd (h.new q hq z h2 ha) na
 rw[aV] at h1 h2;rw[<-h1,h2]
theorem N0{S:List (List ax)}{s:Nat}{l:List ax}{u:List (ar×List ar)}{K:List ax}(hl:S[s]?=some l) (hK:K.Nodup) (hm:∀x∈l,x∈K) (hk:u.map (·.1)=K.map (eV (s:Int))) (hv:∀p∈u,∃z,p.2=[z]/\Ey S z/\(z.h=(s:Int)\/z∉aI S)) (hd:∀p∈u,∀q∈u,p.2=q.2->p.1=q.1):Ex S u where
 key:=by
  rw[hk];refine LD.2 (hK.imp λ{a b} Iv e=>Iv ?_);rcases a with ⟨a,c⟩;rcases b with ⟨b,d⟩
  simp only[eV,ar.mk.injEq,true_and] at e;rw[e.1,e.2]
 val p hp:=by
  obtain⟨z,e,h1,_⟩:=hv p hp;rw[e];exact⟨by simp,λy hy=>by rw[aV] at hy;subst hy;exact h1⟩
 dis p hp q hq z h1 h2:=(by grind)
 new p hp z hz hh:=by
  obtain⟨y,e,_,h3⟩:=hv p hp;rw[e,aV] at hz;subst hz;rcases h3 with h3|h3
  .obtain⟨j,l',x,_,h4,h5,rfl⟩:=u1.1 hh;have hj:j=s:=by simp only[eV] at h3;omega
   subst hj;rw[hl] at h4;cases h4;rw[hk];exact dR (hm x h5)
  exact absurd hh h3
theorem yh{l:List ax}(h:l.Pairwise mH):l.Nodup:=h.imp λ{a b} h e=>by grind [mH]
theorem PG{s:Int}{x y:ax}(h:eV s x=eV s y):x=y:=by
 rcases x with ⟨a,b⟩;rcases y with ⟨c,d⟩
 simp only[eV,ar.mk.injEq,true_and] at h;rw[h.1,h.2]
theorem ZH:CW n= !mI n:=by simp[mI,CW]
theorem ahU{l:List ax}(h:l.Nodup):((l.filter λx=>mI x.n)++(l.filter λx=>CW x.n)).Nodup:=
 by grind [eF,ZH]
theorem aa2{l:List ax}{x:ax}(h:x∈l):x∈(l.filter λx=>mI x.n)++(l.filter λx=>CW x.n):=by
 grind [ZH,mI]
theorem ayL{γ:Type}{f:α->γ}{a:List α}{b:List β}(h:a.length=b.length):(a.zip b).map (λp=>f p.1)=a.map f:=by
 rw[show (λp=>f p.1)=f∘Prod.fst from rfl,<-qR,List.map_fst_zip (by omega)]
theorem anx{s:Int}{h:List ax}:(HR s h).map (·.1)=h.map (eV s):=by
 simp[HR,ng,ayL]
theorem VF{s:Int}{h:List ax}{p:ar×List ar}(hp:p∈HR s h):∃(i:Nat) (x y:ax),h[i]?=some x/\h[h.length-1-i]?=some y/\i <h.length/\p=(eV s x,[eV s y]):=by
 simp only[HR,bB] at hp;obtain⟨q,hq,rfl⟩:=hp
 grind [dA]
theorem agc{S:List (List ax)}{s:Nat}{l:List ax}(hO:cg S)(hl:S[s]?=some l):Ex S (Me (s:Int) l):=by
 have Da:=zL hl;have hn:=yh (hO.Sb l Da);have Bn:=(aB.1 hl).1;refine N0 hl (ahU hn) (λx hx=>aa2 hx) (by simp only[Me,pZ,iH,List.flatMap_nil,eR,cC,anx]) (λp hp=>?_) (λp hp q hq e=>?_)
 .obtain⟨h,hh,hp⟩:=eZ.1 hp;obtain⟨i,x,y,_,h2,_,rfl⟩:=VF hp;exact⟨_,rfl,⟨⟨Yl _,by simp only[eV];omega⟩,hO.ok l Da y (aa1 hh (zL h2))⟩,.inl rfl⟩
 obtain⟨h,hh,hp⟩:=eZ.1 hp;obtain⟨h',hh',hq⟩:=eZ.1 hq;obtain⟨i,x,y,h1,h2,h3,rfl⟩:=VF hp;obtain⟨i',x',y',h1',h2',h3',rfl⟩:=VF hq;simp only[lO,and_true] at e;obtain rfl:=PG e;have hm:=zL h2;have Kp:=zL h2';have SX:h=h':=by
  simp only[pZ,aS,mj,aZ] at hh hh';rcases hh with rfl|rfl<;>rcases hh' with rfl|rfl
  .rfl
  .have a:=(cN.1 hm).2;have b:=(cN.1 Kp).2;rw[ZH,a] at b;cases b
  .have a:=(cN.1 hm).2;have b:=(cN.1 Kp).2;rw[ZH,b] at a;cases a
  rfl
 subst SX;have hnh:h.Nodup:=by
  simp only[pZ,aS,mj,aZ] at hh;rcases hh with rfl|rfl<;>exact hn.filter _
 grind [aB,RR]
theorem JC(h:1<=n):(mI n=true/\Int.tmod n 2=1)\/(mI n=false/\Int.tmod n 2=0):=by
 grind [Int.tmod_eq_emod_of_nonneg,mI]
theorem agl{S:List (List ax)}{s:Nat}{l:List ax}(hO:cg S)(hl:S[s]?=some l):Ex S (FR (s:Int) l):=by
 have Da:=zL hl;have Bn:=(aB.1 hl).1;refine N0 hl (yh (hO.Sb l Da)) (λx hx=>hx) (by simp[FR,ng]) (λp hp=>?_) (λp hp q hq e=>?_)
 .obtain⟨x,hx,rfl⟩:=List.mem_map.1 hp;have hx:=hO.ok l Da x hx;refine⟨_,rfl,⟨⟨Int.natCast_nonneg _,by dsimp only;omega⟩,?_,hx.2⟩,.inl rfl⟩;have h1:=hx.1;have h2:0<=x.n:=by omega
  rcases JC h1.1 with ⟨h,h3⟩| ⟨h,h3⟩<;>rw[Int.tmod_eq_emod_of_nonneg h2] at h3
  .rw[if_pos h];dsimp only;omega
  rw[h,if_neg (by decide)];dsimp only;omega
 obtain⟨x,hx,rfl⟩:=bB.1 hp;obtain⟨y,hy,rfl⟩:=bB.1 hq;have h1:=(hO.ok l Da x hx).1;have h1':=(hO.ok l Da y hy).1;have h2:0<=x.n:=by omega
 have h2':0<=y.n:=by omega
 simp only[lO,and_true,ar.mk.injEq,true_and] at e
 grind [JC,Int.tmod_eq_emod_of_nonneg,eV]
theorem U9{l:List α}{p:α×Nat}(h:p∈l.zipIdx):l[p.2]?=some p.1:=by grind
theorem abI{S:List (List ax)}{s:Nat}{l:List ax}(hO:cg S)(hl:S[s]?=some l):Ex S (Ef (s:Int) l):=by
 have Da:=zL hl;have hn:=yh (hO.Sb l Da);have Bn:=(aB.1 hl).1;have FC:=hO.len l Da;have hk:∀k,((uP (s:Int) l k).map (·.1))=(vz l k).map (eV (s:Int)):=λk=>by
  simp only[uP,Eh,qR,ng];refine pH λi=>?_;simp[eG,List.getElem?_zipIdx];cases (vz l k)[i]?<;>rfl
 have jv:∀p∈Ef (s:Int) l,∃(k i:Nat) (x:ax),k <2/\(vz l k)[i]?=some x/\i <6/\p=(eV (s:Int) x,[⟨(s:Int),2*(i:Int)+1+k,0⟩]):=λp hp=>by
  obtain⟨k,hk1,hp⟩:=eZ.1 hp;simp only[uP,Eh] at hp;obtain⟨q,hq,rfl⟩:=bB.1 hp;have h1:=U9 hq;have h2:=(aB.1 h1).1;have h3:=Uo (l:=l) (k:=k);exact⟨k,q.2,q.1,ee.1 hk1,h1,by omega,rfl⟩
 refine N0 hl (ahU hn) (λx hx=>aa2 hx) ?_ (λp hp=>?_) (λp hp q hq e=>?_)
 .show ((uP (s:Int) l 0++(uP (s:Int) l 1++[])).map λp:ar×List ar=>p.1)=_;rw[eR,cC,hk,hk,<-cC];rfl
 .obtain⟨k,i,x,h1,h2,h3,rfl⟩:=jv p hp;exact⟨_,rfl,⟨⟨Int.natCast_nonneg _,by dsimp only;omega⟩,⟨by dsimp only;omega,by dsimp only;omega⟩,by dsimp only;omega,by dsimp only;omega⟩,.inl rfl⟩
 grind
theorem aKu{l:List ax}(h:l.Pairwise mH){x y:ax}(hx:x∈l)(hy:l[l.length-1]?=some y):x.n<=y.n:=by
 obtain⟨i,hi⟩:=dA hx;have hl:=(aB.1 hi).1;by_cases e:i=l.length-1
 .grind
 have:=wh h (show i <l.length-1 by omega) hi hy;simp only[mH] at this;omega
theorem anJ{l:List ax}(h:l.Pairwise mH)(hp:∀x∈l,p7 x){x:ax}(hx:x∈l):x.n<=gP l:=by
 have hl:=List.length_pos_of_mem hx;obtain⟨y,hy⟩:∃y,l[l.length-1]?=some y:=⟨_,af (by omega)⟩;have h1:=aKu h hx hy;have h2:=(tm2 (hp y (zL hy)).1).1
 grind [gP]
theorem raise_0{l:List ax}(hp:∀x∈l,p7 x):0<=gP l:=by
 simp only[gP];split
 .rename_i y hy;have:=hp y (zL hy);have h2:=(tm2 this.1).1;have:=this.1;omega
 grind
theorem join_le{l lo:List ax}(h:r5 l lo=0){x:ax}(hx:x∈l):x.n+gP lo<=40:=by
 grind [join_6,gP,join_1]
def ahr{S:List (List ax)}{s o:Nat}{l lo:List ax}(hO:cg S)(hl:S[s]?=some l) (qL:S[o]?=some lo) (he:r5 l lo=0):Ex S (Ii (s:Int) (o:Int) l (gP lo)):=by
 have Da:=zL hl;have hom:=zL qL;have hso:=(aB.1 qL).1;refine N0 hl (yh (hO.Sb l Da)) (λx hx=>hx) (by simp[Ii,ng]) (λp hp=>?_) (λp hp q hq e=>?_)
 .obtain⟨x,hx,rfl⟩:=List.mem_map.1 hp;have h1:=hO.ok l Da x hx;have h2:=join_le he hx;have h3:=raise_0 (hO.ok lo hom);refine⟨_,rfl,⟨⟨Int.natCast_nonneg _,by dsimp only;omega⟩,⟨by have:=h1.1;dsimp only;omega,h2⟩,h1.2⟩,.inr λh=>?_⟩;obtain⟨j,l',y,_,h4,h5,e⟩:=u1.1 h;simp only[eV,ar.mk.injEq] at e;have hj:j=o:=by omega
  subst hj;rw[qL] at h4;cases h4;have:=anJ (hO.Sb lo hom) (hO.ok lo hom) h5;have:=h1.1;omega
 obtain⟨x,hx,rfl⟩:=bB.1 hp;obtain⟨y,hy,rfl⟩:=bB.1 hq;simp only[lO,and_true,ar.mk.injEq,true_and] at e;have:x.n=y.n:=by omega
 simp only[eV,this,e.2]
theorem ahc{l:List ax}:∀ {f:Nat} {k:Int},rQ l n f k<=4->k+(f:Int)=6->k<=rQ l n f k/\(⟨n,rQ l n f k⟩:ax)∉l
 |0,k,h,e=>by simp only[rQ] at h;omega
 |f+1,k,h,e=>by
  simp only[rQ] at h ⊢;cases hd:decide (bM (cz n k) l 0>=0) with
  |true=>
   rw[hd] at h;simp only[cH] at h ⊢;obtain⟨h1,h2⟩:=ahc h (by omega);exact⟨by omega,h2⟩
  |false=>
   simp only[fJ]
   grind [ah,asN]
def atk{S:List (List ax)}{s:Nat}{l:List ax}(hO:cg S)(hl:S[s]?=some l) (he:Ec l n t=0):Ex S (La (s:Int) l n t):=by
 have Da:=zL hl;have Bn:=(aB.1 hl).1;cases hd:(!decide (bM (cz n t) l 0>=0)) with
 |true=>rw[div_3 hd] at he;cases he
 |false=>
  have uB:=apO hd;have hle:rQ l n 5 1<=4:=by
   by_cases h:rQ l n 5 1>4
   .rw[div_6 hd h] at he;cases he
   omega
  obtain⟨h1,h2⟩:=ahc hle (by decide);have hp:=hO.ok l Da _ uB;have eo:t≠rQ l n 5 1:=λe=>by rw[<-e] at h2;exact h2 uB
  refine⟨by simp[La],λp pY=>?_,λp hp q hq z _ _=>?_,λp pY z hz hh=>?_⟩
  .simp only[La,aV] at pY;subst pY;refine⟨⟨by simp[eo],by simp⟩,λz hz=>?_⟩;simp only[aS,mj,aZ] at hz;rcases hz with rfl|rfl
   .exact⟨⟨Int.natCast_nonneg _,by dsimp only;omega⟩,hp⟩
   exact⟨⟨Int.natCast_nonneg _,by dsimp only;omega⟩,hp.1,by dsimp only;omega,hle⟩
  .simp only[La,aV] at hp hq;rw[hp,hq]
  simp only[La,aV] at pY;subst pY;simp only[aS,mj,aZ] at hz;rcases hz with rfl|rfl
  .simp[La]
  obtain⟨j,l',y,_,h4,h5,e⟩:=u1.1 hh;simp only[eV,ar.mk.injEq] at e;have hj:j=s:=by omega
  subst hj;rw[hl] at h4;cases h4;rcases y with ⟨a,b⟩
  dsimp only at e;obtain⟨_,rfl,rfl⟩:=e;exact absurd h5 h2
theorem ayT{S:List (List ax)}{s:Nat}:Ex S [((⟨(s:Int),n,t⟩:ar),([]:List ar))]:=
 ⟨by simp,λp hp=>by grind,λp hp q hq z _ _=>by grind,λp hp z hz=>by grind⟩
theorem abH{S:List (List ax)}{s o:Nat}{l:List ax}{a b:Int}(hO:cg S)(hl:S[s]?=some l) (qL:S[o]?=some []):Ex S (rU (s:Int) (o:Int) (Fv l a b)):=by
 have Da:=zL hl;have hso:=(aB.1 qL).1;have lG:(Fv l a b).Nodup:=(yh (hO.Sb l Da)).sublist ((List.drop_sublist _ _).trans (List.take_sublist _ _));have hlen:(Fv l a b).length<=6:=by
  have:=hO.len l Da;simp only[Fv,rq,cw];omega
 have jv:∀p∈rU (s:Int) (o:Int) (Fv l a b),∃(i:Nat) (x:ax),(Fv l a b)[i]?=some x/\i <6/\p=(eV (s:Int) x,[⟨(o:Int),(i:Int)+1,0⟩]):=λp hp=>by
  obtain⟨q,hq,rfl⟩:=bB.1 hp;have h1:=U9 hq;have h2:=(aB.1 h1).1;exact⟨q.2,q.1,h1,by omega,rfl⟩
 have hk:(rU (s:Int) (o:Int) (Fv l a b)).map (·.1)=(Fv l a b).map (eV (s:Int)):=by
  simp only[rU,qR,ng];refine pH λi=>?_;simp[eG,List.getElem?_zipIdx];cases (Fv l a b)[i]?<;>rfl
 refine⟨by rw[hk];exact LD.2 (lG.imp λ{a b} Iv e=>Iv (PG e)),λp hp=>?_,λp hp q hq z h1 h2=>?_,λp hp z hz hh=>?_⟩
 .obtain⟨i,x,h1,h2,rfl⟩:=jv p hp;refine⟨by simp,λz hz=>?_⟩;simp only[List.mem_singleton] at hz;subst hz;exact⟨⟨Int.natCast_nonneg _,by dsimp only;omega⟩,⟨by dsimp only;omega,by dsimp only;omega⟩,by dsimp only;omega,by dsimp only;omega⟩
 .grind
 obtain⟨i,x,h1,h2,rfl⟩:=jv p hp;simp only[aV] at hz;subst hz;obtain⟨j,l',y,_,h4,h5,e⟩:=u1.1 hh;simp only[eV,ar.mk.injEq] at e;have hj:j=o:=by omega
 subst hj;rw[qL] at h4;cases h4;cases h5
def xT{S:List (List ax)}{c:aP}(hO:cg S)(hc:nn S c)(he:iG S c=0):Gf S (fY S c):=by
 obtain⟨k,st,ot,fn,fl,tn,tl⟩:=c;obtain⟨hk,dr,hot,_,_,_⟩:=hc;dsimp only at hk dr hot;obtain⟨s,rfl⟩:=Int.eq_ofNat_of_zero_le dr.1;obtain⟨l,hl⟩:∃l,S[s]?=some l:=⟨_,List.getElem?_eq_getElem (by omega)⟩;have e1:=uo hl;refine Ex.mov ?_ hO;have my:k=1\/k=2\/k=3\/k=4\/k=5\/k=6\/k=7:=by omega
 rcases my with rfl|rfl|rfl|rfl|rfl|rfl|rfl
 .simpa [yf,e1] using agc hO hl
 .simpa [yf,e1] using agl hO hl
 .simpa [yf,e1] using abI hO hl
 .have ho:=hot (.inl rfl);obtain⟨o,rfl⟩:=dM ho.1;obtain⟨lo,qL⟩:∃l,S[o]?=some l:=⟨_,af (by omega)⟩;have e2:=uo qL;by_cases eo:(o:Int)=s
  .simp[iG,eo] at he
  simp[iG,e1,e2,eo] at he;simpa [yf,e1,e2] using ahr hO hl qL he
 .simp[iG,e1] at he;simpa [yf,e1] using atk hO hl he
 .simpa [yf] using ayT
 have ho:=hot (.inr rfl);obtain⟨o,rfl⟩:=dM ho.1;obtain⟨lo,qL⟩:∃l,S[o]?=some l:=⟨_,af (by omega)⟩;have e2:=uo qL;by_cases eo:(o:Int)=s
 .simp[iG,eo] at he
 have bfV:lo=[]:=by
  simp[iG,e1,e2,eo] at he;by_cases h1:bM (cz fn fl) l 0 <0
  .rw[IS h1] at he;cases he
  by_cases h2:bM (cz tn tl) l 0 <0
  .rw[IQ h1 h2] at he;cases he
  by_cases h3:bM (cz tn tl) l 0 <bM (cz fn fl) l 0
  .rw[IP h1 h2 h3] at he;cases he
  by_cases h4:lo.length>0
  .rw[IN h1 h2 h3 h4] at he;cases he
  exact iO (by omega)
 subst bfV;simpa [yf,e1] using abH hO hl qL
theorem ah5{H:List ar}{g:ar->List ar}(hn:H.Nodup)(h1:∀h∈H,(g h).Nodup)(h2:Apart H g):(H.flatMap g).Nodup:=
 List.pairwise_flatMap.2 ⟨h1,List.pairwise_iff_getElem.2 λi j hi hj Of x hx y hy e=>by
  subst e;have:=h2 _ (Au hi) _ (Au hj) x hx hy
  grind [absurd,RR]⟩
theorem QV{H:List α}{g:α->List β}{k:Nat}(h:∀x∈H,(g x).length<=k):(H.flatMap g).length<=H.length*k:=by
 induction H with
 |nil=>simp
 |cons a H ih=>
  grind [aM,aK,Nat.succ_mul]
theorem aii{s:Int}{L:List ar}{y:ax}:y∈iK s L↔eV s y∈L:=by
 simp only[iK,bB,cN,aA];constructor
 .rintro⟨z,⟨h1,rfl⟩,rfl⟩;exact h1
 intro h;exact⟨_,⟨h,rfl⟩,rfl⟩
theorem Hi{s:Int}{L:List ar}(h:L.Nodup):(iK s L).Nodup:=
 LD.2 ((h.filter _).imp_of_mem λ{a b} ha hb Iv e=>Iv (by
  rcases a with ⟨a1,a2,a3⟩;rcases b with ⟨b1,b2,b3⟩
  grind))
theorem u9{lt:α->α->Bool}{xs:List α}(hn:xs.Nodup)(hL:ab7 lt):(dh lt xs).length=xs.length:=by
 have h:=wX hL hn;refine((List.perm_ext_iff_of_nodup (h.imp λ{a b} h e=>?_) hn).2 λx=>ko).length_eq;have:=hL.asy h;grind
theorem azd(L:List ar):(iK 0 L).length+(iK 1 L).length<=L.length:=by
 induction L with
 |nil=>simp[iK]
 |cons x L ih=>
  grind [iK,dj]
theorem Qo(S:List (List ax)):∀k,(C8 S k).length=((S.take k).map List.length).sum
 |0=>rfl
 |k+1=>by
  simp only[C8,aM,Qo S k];cases h:S[k]? with
  |none=>
   grind [List.getElem?_eq_none_iff,bF]
  |some l=>rw[cU h];simp
theorem BV{S:List (List ax)}:(aI S).length=(S.map List.length).sum:=by
 have:=Qo S S.length;rwa[bF (bu _)] at this
theorem Kh{S:List (List ax)}(hO:cg S):(aI S).length<=6:=by rw[BV];exact hO.jB
theorem Fe{S:List (List ax)}{c:aP}:(xu S c).length=S.length:=by simp[xu]
theorem aKB{S:List (List ax)}{c:aP}{l:List ax}(h:(xu S c)[j]?=some l):j <S.length/\l=dh Ib (iK (j:Int) ((aI S).flatMap (fY S c))):=by
 grind [xu]
theorem aKA{S:List (List ax)}{c:aP}(hM:Gf S (fY S c)){h z:ar}(hh:h∈aI S)(hz:z∈fY S c h):z∈aI (xu S c):=by
 have h1:=((hM.val h hh).2 z hz).1;obtain⟨s,hs⟩:=dM h1.1;have s8:s <S.length:=by omega
 have:(xu S c)[s]?=some (dh Ib (iK (s:Int) ((aI S).flatMap (fY S c)))):=by simp[xu,List.getElem?_range s8]
 have e:z=eV (s:Int) ⟨z.n,z.l⟩:=by rcases z with ⟨a,b,c⟩;simp only at hs;simp[eV,hs]
 grind [BW,ko,aii]
theorem aKz{S:List (List ax)}{c:aP}(hO:cg S)(hM:Gf S (fY S c))(ht:(aI S).length<=3):cg (xu S c):=by
 have kP:((aI S).flatMap (fY S c)).Nodup:=ah5 (Ab hO _) (λh hh=>(hM.val h hh).1.1) hM.ap;have wx:((aI S).flatMap (fY S c)).length<=6:=by have:=QV (H:=aI S) (g:=fY S c) (k:=2) λx hx=>(hM.val x hx).1.2;omega
 have ei:∀l∈xu S c,∃j:Nat,l=dh Ib (iK (j:Int) ((aI S).flatMap (fY S c))):=λl hl=>by
  obtain⟨j,hj⟩:=dA hl;exact⟨j,(aKB hj).2⟩
 refine {two:=by rw[Fe];exact hO.two,len:=λl hl=>?_,ok:=λl hl x hx=>?_,Sb:=λl hl=>?_,jB:=?_}
 .obtain⟨j,rfl⟩:=ei l hl;rw[u9 (Hi kP) SB];exact bS pE wx
 .have h2:=azd ((aI S).flatMap (fY S c));have e:=λs:Int=>u9 (Hi (s:=s) kP) SB;have hk:S.length=1\/S.length=2:=by have:=hO.two;omega
  grind [xu,Gi]
 .obtain⟨j,rfl⟩:=ei l hl;have:=aii.1 (ko.1 hx);obtain⟨h,hh,hz⟩:=eZ.1 this;exact((hM.val h hh).2 _ hz).2
 obtain⟨j,rfl⟩:=ei l hl;exact(wX SB (Hi kP)).imp λh=>w5.1 h
theorem Ia{S:List (List ax)}{g:ar->List ar}(hO:cg S)(hM:Gf S g):((aI S).flatMap g).length<=12:=by
 have:=QV λx hx=>(hM.val x hx).1.2
 grind [Kh]
def adN{S:List (List ax)}{g:ar->List ar}(hO:cg S)(hM:Gf S g):((aI S).flatMap g).Nodup:=ah5 (Ab hO _) (λh hh=>(hM.val h hh).1.1) hM.ap
structure U2(H:List ar)(d:Nat)(x:rB):Prop where
 two:d<=2
 fin:d<=1->cg x.fin
 jB:d=0->(aI x.fin).length<=3
 g:∀h∈H,(x.g h).Nodup/\(x.g h).length<=2^d
 inn:∀h∈H,∀z∈x.g h,z∈aI x.fin
 ap:Apart H x.g
theorem U2.len{H:List ar}{x:rB}(h:U2 H d x)(hd:d<=1){y:ar}(hy:y∈H):(x.g y).length<=2:=by
 have:=(h.g y hy).2;have:d=0\/d=1:=by omega
 grind
theorem OY{xs:List ar}(h:xs.Nodup):(dh pP xs).Nodup:=(wX Ih h).imp λ{a b} h e=>by have:=Ih.asy h;grind
def U2.fm{H:List ar}{x:rB}{g:ar->List ar}(h:U2 H d x)(hM:Gf x.fin g){y:ar}(hy:y∈H):((x.g y).flatMap g).length<=2^(d+1)/\((x.g y).flatMap g).Nodup:=by
 have h1:=h.g y hy;have uB:=h.inn y hy;constructor
 .have h2:=QV (H:=x.g y) (g:=g) (k:=2) λz hz=>(hM.val z (uB z hz)).1.2;omega
 exact ah5 h1.1 (λz hz=>(hM.val z (uB z hz)).1.1) λa ha b hb z h3 h4=>hM.ap a (uB a ha) b (uB b hb) z h3 h4
theorem U2.next{H:List ar}{x:rB}{c:aP}{w:List Int}(h:U2 H d x)(hd:d<=1)(hM:Gf x.fin (fY x.fin c)):U2 H (d+1) ⟨w,xu x.fin c,Dk x.g (fY x.fin c)⟩ where
 two:=by omega
 fin Db:=by
  have hd0:d=0:=by omega
  exact aKz (h.fin hd) hM (h.jB hd0)
 jB Db:=by omega
 g y hy:=by
  obtain⟨h1,h2⟩:=h.fm hM hy
  grind [OY,Dk,u9,Ih]
 inn y hy z hz:=by
  obtain⟨a,ha,hz⟩:=xz.1 hz;exact aKA hM (h.inn y hy a ha) hz
 ap:=h.ap.then' (λa ha b hb z h1 h2=>hM.ap a ha b hb z h1 h2) h.inn
theorem U2.start{S:List (List ax)}(hO:cg S)(ht:(aI S).length<=3):U2 (aI S) 0 ⟨[],S,rO⟩ where
 two:=by simp
 fin _:=hO
 jB _:=ht
 g y _:=by simp[rO]
 inn y hy z hz:=by grind [rO,aV]
 ap:= .one
structure Yi where
 a:Option Addr
 n:Nat
 c:Nat
 ea:Option Addr
 en:Nat
 ec:Nat
 r:Nat
abbrev afr(t:Yi):List Value:=[.slice t.a t.n t.c,.slice t.ea t.en t.ec,.map (some t.r)]
def bjI(ro:Nat->Option Obj)(r:Nat)(H:List ar)(g:ar->List ar):Prop:=∃es ck F,afZ ro r H g es ck F
def TrR(H:List ar)(ro:Nat->Option Obj)(t:Yi)(x:rB):Prop:=dq ro (.slice t.a t.n t.c) 1 eI x.ways/\bH ro (.slice t.ea t.en t.ec) x.fin/\bjI ro t.r H x.g
def afZ.up{bU:Nat->Option Obj}{H:List ar}{g:ar->List ar}{es:Array MapEntry}{F:List (ar×Value)}(h:afZ ro r H g es ck F)(hs:Sub ro bU):afZ bU r H g es ck F:=⟨hs _ _ h.m,h.e,h.k,λx hx=>(h.v x hx).up hs⟩
def RG.up{bU:Nat->Option Obj}{H:List ar}{g:ar->List ar}{es:Array MapEntry}{F:List (ar×Value)}(h:RG ro r H g es ck F)(hs:Sub ro bU):RG bU r H g es ck F:=⟨hs _ _ h.m,h.e,h.k,λx hx=>(h.v x hx).up hs⟩
theorem RG.s{H:List ar}{g:ar->List ar}{es:Array MapEntry}{F:List (ar×Value)}(h:RG ro r H g es ck F):afZ ro r H g es ck F:=⟨h.m,h.e,λx=>by rw[h.k],h.v⟩
def TrO(H:List ar)(LL:Cells)(t:Yi)(x:rB):Prop:=∀bU,Knows bU LL->TrR H bU t x
abbrev aJV(H:List ar)(L:List rB):(Nat->Option Obj)->Nat->List Value->Cells->Prop:=λ_ k vs LL=>∃x t,L[k]?=some x/\vs=[.agg ⟨afr t⟩]/\TrO H LL t x
structure oB(S:List (List ax))(ways:List (List aP)):Prop where
 two:ways.length<=2
 ok:∀l∈ways,(1<=l.length/\l.length<=2)/\∀c∈l,nn S c
def nn.fX{S T:List (List ax)}{c:aP}(h:nn S c)(e:T.length=S.length):nn T c:=⟨h.k,by rw[e];exact h.st,by rw[e];exact h.ot,h.no,h.fr,h.to⟩
def AX(x:rB)(i:Nat)(c:aP):rB:=⟨x.ways++[(i:Int)],xu x.fin c,Dk x.g (fY x.fin c)⟩
def Gl(rest:List (List aP))(x:rB)(p:aP×Nat):List rB:=if iG x.fin p.1=0 then oy rest (AX x p.2 p.1) else []
theorem uI{rest:List (List aP)}{x:rB}:oy (l::rest) x=l.zipIdx.flatMap (Gl rest x):=rfl
def q8(rest:List (List aP))(x:rB)(l:List aP)(i:Nat):Nat:=((l.zipIdx.take i).flatMap (Gl rest x)).length
theorem acF{c:aP}(h:l[i]?=some c):l.zipIdx[i]?=some (c,i):=by grind
theorem ahY{rest:List (List aP)}{x:rB}{c:aP}(h:l[i]?=some c):q8 rest x l (i+1)=q8 rest x l i+(Gl rest x (c,i)).length:=by
 simp_all[q8,E3]
theorem abc{rest:List (List aP)}{x:rB}{c:aP}(h:l[i]?=some c) (he:iG x.fin c≠0):q8 rest x l (i+1)=q8 rest x l i:=by
 simp_all[ahY,Gl]
theorem Uu{rest:List (List aP)}{x:rB}{c:aP}(h:l[i]?=some c) (he:iG x.fin c=0):q8 rest x l (i+1)=q8 rest x l i+(oy rest (AX x i c)).length:=by
 rw[ahY h,Gl,dW he]
theorem Uv{rest:List (List aP)}{x:rB}:q8 rest x l l.length=(oy (l::rest) x).length:=by
 simp[uI,q8,bF]
def ayz{rest:List (List aP)}{x:rB}{c:aP}{y:rB}(h:l[i]?=some c) (he:iG x.fin c=0) (hj:(oy rest (AX x i c))[j]?=some y):(oy (l::rest) x)[q8 rest x l i+j]?=some y:=by
 have h1:=E3 (f:=Gl rest x) (acF h);have h2:l.zipIdx.flatMap (Gl rest x)=(l.zipIdx.take (i+1)).flatMap (Gl rest x)++(l.zipIdx.drop (i+1)).flatMap (Gl rest x):=by rw[<-jC,fF]
 have e:Gl rest x (c,i)=oy rest (AX x i c):=dW he;rw[uI,h2,h1,bC,rX (by simp[q8]),e];simp only[q8,Nat.add_sub_cancel_left];rw[iP (aB.1 hj).1,hj]
theorem EZ:∀ {rest:List (List aP)} {x:rB},(∀l∈rest,l.length<=2)->(oy rest x).length<=2^rest.length
 | [],_,_=>by simp[oy]
 |l::rest,x,h=>by
  rw[uI];have h1:=QV (H:=l.zipIdx) (g:=Gl rest x) (k:=2^rest.length) λp _=>by
   simp only[Gl];split
   .exact EZ λl hl=>h l (.tail _ hl)
   exact bK _
  have h2:=h l (.head _);rw[List.length_zipIdx] at h1;have h3:l.length*2^rest.length<=2*2^rest.length:=jV _ h2
  grind
theorem rE{S:List (List ax)}(hW:oB S ways):(dt S ways).length<=4:=by
 have h:=EZ (x:=⟨[],S,rO⟩) λl hl=>(hW.ok l hl).1.2;have h2:2^ways.length<=2^2:=jU (by simp) hW.two
 grind [dt]
def afV{S:List (List ax)}(hO:cg S):S.length=1\/S.length=2:=by have:=hO.two;omega
def Tc(ro:Nat->Option Obj)(b:Nat)(S:List (List ax))(ways:List (List aP)):Prop:=∃vS vT vH fa fc,ro b=some (.cells ⟨[vS,vT,.slice fa 0 fc,vH]⟩ 173 (0,0))/\bH ro vS S/\kL ro vT ways/\dq ro vH 3 bL (aI S)
def Tc.up{bU:Nat->Option Obj}{S:List (List ax)}(h:Tc ro b S ways)(hs:Sub ro bU):Tc bU b S ways:=by
 obtain⟨vS,vT,vH,fa,fc,h1,h2,h3,h4⟩:=h;exact⟨vS,vT,vH,fa,fc,hs _ _ h1,h2.up hs,h3.up hs,h4.up hs⟩
theorem aUS{v:Value}{S:List (List ax)}{c:aP}(hc:nn S c)(hS:bH ro v S)(hO:cg S):eW zT 170 [.agg ⟨[v]⟩,.agg ⟨mO c⟩] ro [] (λr Y=>
 ∃m,r= .tuple ⟨[.map m,zI (iG S c)]⟩/\(iG S c=0->∃rm F es ck Z,m=some rm/\Y=(rm,.map es ck)::Z/\yH mh F es ck/\F.map (·.1)=aI S/\MV Z F (fY S c))):=
 (aUT hc hS hO).mono λr Y h=>h.elim (λh=>⟨none,h.2.1,λe=>absurd e h.1⟩) λ⟨h0,rm,F,LM,Z,h1,h2,h3,h4,h5⟩=>⟨some rm,by grind,λ_=>by
  obtain⟨es,ck,rfl,hE⟩:=h3
  grind⟩
theorem WZ{S:List (List ax)}{c:aP}{IL:Array MapEntry}{F1:List (ar×Value)}(hO:cg S)(hM:Gf S (fY S c))(hP:RG ro r1 (aI S) (fY S c) IL NR F1):eW zT 172 [.map (some r1),zI (S.length:Int)] ro [] (λr Y=>∃a n c',r= .agg ⟨[.slice a n c']⟩/\∀bU,Knows bU Y->bH bU (.slice a n c') (xu S c)):=by
 have h1:=Ia hO hM;have h2:=adN hO hM;rcases afV hO with h|h
 .have:=ayK hP h1 (λx hx z hz=>by have:=((hM.val x hx).2 z hz).1;rw[h] at this;omega) (Hi h2)
  grind [xu]
 have:=ayJ hP h1 (λx hx z hz=>by have:=((hM.val x hx).2 z hz).1;rw[h] at this;omega) (Hi h2) (Hi h2);simp only[xu,h,Gi,List.range_zero,aL,cC,bV,lN,eg];exact this
def aJQ{fa:Option Addr}{S:List (List ax)}(hS:bH ro vS S)(hO:cg S)(hT:kL ro vT ways)(hW:oB S ways):eW zT 129 [.agg ⟨[vS,vT,.slice fa 0 fc]⟩] ro [] (λr Y=>∃b vH LH,r= .tuple ⟨[zP b,zI 0]⟩/\Y=(b,.cells ⟨[vS,vT,.slice fa 0 fc,vH]⟩ 173 (0,0))::LH/\bJ vH 3 41 bL (aI S) LH):=by
 have mY:=hS;obtain⟨n9,hs,lu⟩:=hS;obtain⟨qZ,qsb,qso,qY,rfl,qsk,qsh,qsl⟩:=hs;obtain⟨mf,ht,jh⟩:=id hT;obtain⟨fP,we,vZ,eL,rfl,v9,nE,nD⟩:=ht;have Oe:=lu.len;have Ww:=jh.len;have mM:=hO.two;have SQ:=hW.two;have Ni:∀(i:Nat) (p:iy),([]:List iy)[i]?=some p->eK ⟨ro,[]⟩ 0 (0+i*6) 6 (oA p):=λ_ _ h=>tP h;refine zE<|zD 2<|jn λb1=>jd 8 [0]<|zxp [.agg ⟨[.slice qZ n9.length qY]⟩] (λhs=>asA (mY.up hs) hO)<|jd 17 [0]<|zJ 21 ((mf.length:Int)>3) (λh1=>?_) λh1=>?_
 ·
  exfalso;omega
 refine jd 11 [0]<|iE [1,1,1,0,1,0,0] [] (λ(zz:Nat)=>[(1,zP b1),(23,.slice fP mf.length eL),(24,zI (mf.length:Int)),(25,zI (zz:Int))]) (λzz=>[zxc b1 28 [.slice qZ n9.length qY,.slice fP mf.length eL,.slice fa 0 fc]]) (λzz=>zz<=mf.length) (λzz=>mf.length-zz) 0 (by omega) [0] ?_;rintro k hI K1 cX rest;refine zD 5<|zJ 26 ((k:Int) <(mf.length:Int)) (λh2=>?_) λh2=>?_
 ·
  refine zD 6<|zxs mf k eL 1 nE (λx27 A2=>?_);obtain⟨l28,aeB,h28⟩:=jh.get A2;obtain akp:=hW.ok _ (zL aeB);obtain⟨anV,aPf,aPe,ajp,rfl,bcA,aFi,aFh⟩:=h28;refine jl 0 (nD _ _ A2)<|jn λb6=>jd 10 [0,0]<|zJ 32 ((l28.length:Int)=0) (λh3=>?_) λh3=>?_
  ·
   exfalso;omega
  refine jd 10 [0]<|zJ 36 ((l28.length:Int)>3) (λh4=>?_) λh4=>?_
  ·
   exfalso;omega
  refine jd 10 [0]<|iE [1,1,1,0,1,0,0,1,1,0,0,1,1,1,1,0,0] [K1] (λ(zz:Nat)=>[(1,zP b1),(23,.slice fP mf.length eL),(24,zI (mf.length:Int)),(25,zI (k:Int)),(38,.slice anV l28.length ajp),(39,zI (l28.length:Int)),(40,zI (zz:Int))]) (λzz=>[zxc b6 82 [.slice anV l28.length ajp],zxc b1 28 [.slice qZ n9.length qY,.slice fP mf.length eL,.slice fa 0 fc]]) (λzz=>zz<=l28.length) (λzz=>l28.length-zz) 0 (by omega) [0,1] ?_;rintro i hJ K2 mb rest;refine zD 5<|zJ 41 ((i:Int) <(l28.length:Int)) (λh5=>?_) λh5=>?_
  ·
   refine zD 6<|zxt l28 i ajp 7 aFi aFh λx42 SJ=>jn λb8=>jd 3 [0] ?_;have Ol:=(akp.2 _ (zL SJ)).k;refine jd 3 [0]<|zxp [zI x42.k,zI 1,zI 7] (λhs=>ayI)<|zD 2<|js 47 (!(pF x42.k 1 7)) (λh6=>?_) (λh6=>?_)
   ·
    try simp only[zB] at h6
    exfalso;simp only[pF,av,ak] at h6;omega
   try simp only[zB] at h6
   refine zD 3<|zW ((i:Int)+1)<|zD 2<|zY mb (i+1) (by omega) [1,2]
  refine zD 3<|zW ((k:Int)+1)<|zD 2<|zY cX (k+1) (by omega) [1]
 refine jd 17 [0,0,0]<|zxo 3 λwA=>jc (vs:=[.agg ⟨[.slice qZ n9.length qY]⟩]) [] (ah2 mY hO) ?_;rintro v57 L57 aSr;obtain⟨Yv,Yt,Kx⟩:=aSr.form;subst Kx;refine eP wA [1]<|zD 1<|zxo 5 λuD=>jn λb59=>eP uD [1,2]<|jd 11 [2]<|iE [1,1,1,1,1,1,0,1,0,0] [] (λ(zz:Nat)=>[(1,zP b1),(9,zP b59),(61,.slice fa 0 fc),(62,zI 0),(63,zI 0)]) (λzz=>[zxc b59 173 [.slice qZ n9.length qY,.slice fP mf.length eL,.slice fa 0 fc,(.slice Yv (aI S).length Yt)],.l L57,zxc b1 28 [.slice qZ n9.length qY,.slice fP mf.length eL,.slice fa 0 fc]]) (λzz=>True) (λzz=>zz) 0 bW [0,1,2] ?_;rintro z hQ K5 hK5 rest;refine zD 14<|zR (.tuple ⟨[zP b59,zI 0]⟩) [] [0,1] _ ⟨_,_,_,rfl,rfl,aSr⟩
def Walk:List (List aP)->rB->List Int->rB->Prop
 | [],x,w,y=>w=[]/\y=x
 |l::rest,x,w,y=>∃(i:Nat) (c:aP) (w':List Int),w=(i:Int)::w'/\l[i]?=some c/\iG x.fin c=0/\Walk rest (AX x i c) w' y
def mem_grow:∀ {rest:List (List aP)} {x y:rB},y∈oy rest x↔∃w,Walk rest x w y
 | [],x,y=>by simp[oy,Walk]
 |l::rest,x,y=>by
  rw[uI];simp only[eZ,Walk];constructor
  .rintro⟨⟨c,i⟩,hp,hy⟩;simp only[Gl] at hy;split at hy
   .rename_i he;obtain⟨w,hw⟩:=mem_grow.1 hy;exact⟨_,i,c,w,rfl,U9 hp,he,hw⟩
   cases hy
  rintro⟨w,i,c,w',_,h1,he,hw⟩;exact⟨(c,i),zL (acF h1),by simp only[Gl];rw[dW he];exact mem_grow.2 ⟨w',hw⟩⟩
theorem ED:∀ {rest:List (List aP)} {x y:rB} {w:List Int},Walk rest x w y->y.ways=x.ways++w/\w.length=rest.length
 | [],x,y,w,h=>by obtain⟨rfl,rfl⟩:=h;simp
 |l::rest,x,y,w,h=>by
  obtain⟨i,c,w',rfl,_,_,h⟩:=h;obtain⟨h1,h2⟩:=ED h
  grind [AX]
theorem asl{S:List (List ax)}{H:List ar}:∀ {rest:List (List aP)} {x y:rB} {w:List Int} {d:Nat},(∀l∈rest,∀c∈l,nn S c)->U2 H d x->x.fin.length=S.length->d+rest.length<=2->Walk rest x w y->U2 H (d+rest.length) y/\y.fin.length=S.length
 | [],x,y,w,d,_,hk,hl,_,h=>by obtain⟨rfl,rfl⟩:=h;exact⟨hk,hl⟩
 |l::rest,x,y,w,d,hc,hk,hl,hd,h=>by
  obtain⟨i,c,w',rfl,h1,he,h⟩:=h;rw[aK] at hd;have CQ:=(hc l (.head _) c (zL h1)).fX hl;have hM:=xT (hk.fin (by omega)) CQ he;have:=asl (d:=d+1) (λl hl=>hc l (.tail _ hl)) (hk.next (w:=x.ways++[(i:Int)]) (by omega) hM) (by rw[Fe];exact hl) (by omega) h
  grind
structure als(ro:Nat->Option Obj)(bl b b1 b2 b3:Nat):Prop where
 t:ro b1=some (.cells ⟨[zP b]⟩ 156 (0,0))
 y:ro b2=some (.cells ⟨[.func (.yield bl) #[] #[]]⟩ 253 (0,0))
 g:ro b3=some (.cells ⟨[.func (.func 168) ⟨[]⟩ ⟨[zP b1,zP b2,zP b3]⟩]⟩ 253 (0,0))
def als.up{bU:Nat->Option Obj}(h:als ro bl b b1 b2 b3)(hs:Sub ro bU):als bU bl b b1 b2 b3:=⟨hs _ _ h.t,hs _ _ h.y,hs _ _ h.g⟩
def aUQ{t:Yi}{S:List (List ax)}(QA:Tc ro b S ways):iz zT 169 [zP b,.agg ⟨[.slice t.a t.n t.c,.slice t.ea t.en t.ec,(.map (some t.r))]⟩] ro (.bool true):=by
 obtain⟨vS,vT,vH,fa,fc,gb,hS,hT,hHs⟩:=QA;have mY:=hS;obtain⟨n9,hs,lu⟩:=hS;obtain⟨qZ,qsb,qso,qY,rfl,qsk,qsh,qsl⟩:=hs;obtain⟨mf,ht,jh⟩:=id hT;obtain⟨fP,we,vZ,eL,rfl,v9,nE,nD⟩:=ht;have Oe:=lu.len;have Ww:=jh.len;have Ni:∀(i:Nat) (p:iy),([]:List iy)[i]?=some p->eK ⟨ro,[]⟩ 0 (0+i*6) 6 (oA p):=λ_ _ h=>tP h;refine zE<|zD 2<|jn λb3=>zD 9<|jl (b:=b) (off:=0) (m:=4) (vs:=[.slice qZ n9.length qY,.slice fP mf.length eL,.slice fa 0 fc,vH]) 2 ⟨_,_,_,.inl gb,rfl⟩<|zD 4<|iE [1,0,1,0,0] [] (λ(zz:Nat)=>[(3,zP b3),(11,.slice fa 0 fc),(12,zI 0),(13,zI 0)]) (λzz=>[zxc b3 163 [.slice t.a t.n t.c,.slice t.ea t.en t.ec,(.map (some t.r))]]) (λzz=>True) (λzz=>zz) 0 bW [0] ?_;rintro z hI K1 cX rest;refine zD 12<|zX _ ⟨rfl,rfl⟩
def ass:eW zT 130 [zP b] ro [] (λr Y=>∃b1,r= .func (.func 167) ⟨[]⟩ ⟨[zP b1]⟩/\Y=[(b1,.cells ⟨[zP b]⟩ 156 (0,0))]):=by
 refine zE<|zD 2<|jn λb1=>zD 8<|zR (.func (.func 167) ⟨[]⟩ ⟨[zP b1]⟩) [] [0] _ ⟨_,rfl,rfl⟩
def aUO{S:List (List ax)}{L:List rB}{Inv:Nat->Cells->Prop}{B:Cells}{t:Yi}{x:rB}{k:Nat}(QA:Tc ro b S ways)(hC:als ro bl b b1 b2 b3)(hn:t.n=ways.length)(hx:L[k]?=some x) (hR:TrO (aI S) LL t x) (hB:Inv k B) (hy:YOK zT bl ro L.length (aJV (aI S) L) Inv Stop):eW zT 168 [.agg ⟨[.slice t.a t.n t.c,.slice t.ea t.en t.ec,(.map (some t.r))]⟩,zP b1,zP b2,zP b3] ro (LL++B) (λr Y=>∃c,r= .bool c/\(c=true->Inv (k+1) Y)/\(c=false->Stop Y)):=by
 have bhH:=QA;obtain⟨vS,vT,vH,fa,fc,gb,hS,hT,hHs⟩:=QA;have mY:=hS;obtain⟨n9,hs,lu⟩:=hS;obtain⟨qZ,qsb,qso,qY,rfl,qsk,qsh,qsl⟩:=hs;obtain⟨mf,ht,jh⟩:=id hT;obtain⟨fP,we,vZ,eL,rfl,v9,nE,nD⟩:=ht;have Oe:=lu.len;have Ww:=jh.len;have Ni:∀(i:Nat) (p:iy),([]:List iy)[i]?=some p->eK ⟨ro,[]⟩ 0 (0+i*6) 6 (oA p):=λ_ _ h=>tP h;refine zC [.l LL,.l B]<|zD 2<|jn λb4=>jd 13 [0]<|jl (b:=b1) (off:=0) (m:=1) (vs:=[zP b]) 0 ⟨_,_,_,.inl hC.t,rfl⟩<|zD 3<|jl (b:=b) (off:=0) (m:=4) (vs:=[.slice qZ n9.length qY,.slice fP mf.length eL,.slice fa 0 fc,vH]) 1 ⟨_,_,_,.inl gb,rfl⟩<|zD 3<|zJ 21 ((t.n:Int)=(mf.length:Int)) (λh1=>?_) λh1=>?_
 ·
  refine zD 3<|jl (b:=b1) (off:=0) (m:=1) (vs:=[zP b]) 0 ⟨_,_,_,.inl hC.t,rfl⟩<|jd 1 [0]<|zxp [zP b,.agg ⟨[.slice t.a t.n t.c,.slice t.ea t.en t.ec,(.map (some t.r))]⟩] (λhs=>aUQ (t:=t) (bhH.up hs))<|zD 2<|jl (b:=b2) (off:=0) (m:=1) (vs:=[(.func (.yield bl) #[] #[])]) 0 ⟨_,_,_,.inl hC.y,rfl⟩<|jd 1 [0]<|jyc [1,2] (hy k [.agg ⟨[.slice t.a t.n t.c,.slice t.ea t.en t.ec,(.map (some t.r))]⟩] LL B ro (aB.1 hx).1 ⟨x,t,hx,rfl,hR⟩ hB (Sub.refl _)) (Sub.refl _) ?_;intro v29 Y29 bep;obtain⟨c29,rfl,bhe,bg0⟩:=yb bep;refine zD 4<|zR _ [] [0] _ ⟨_,rfl,bhe,bg0⟩
 exfalso;omega
def biz{S:List (List ax)}{Inv:Nat->Cells->Prop}{B:Cells}{t:Yi}{x:rB}{k0:Nat}{rest:List (List aP)}(QA:Tc ro b S ways)(hC:als ro bl b b1 b2 b3)(hW:oB S ways)(hn:t.n=d)(hxd:x.ways.length=d)(hwd:ways.drop d=l::rest)(hk:U2 (aI S) d x)(wx:x.fin.length=S.length)(hR:TrO (aI S) LL t x)(hB:Inv k0 B)(hG:∀(i:Nat) (c:aP),l[i]?=some c->iG x.fin c=0->∀ {cK:Nat->Option Obj},Sub ro cK->∀ {t':Yi} {LL' B':Cells},t'.n=d+1->TrO (aI S) LL' t' (AX x i c)->Inv (k0+q8 rest x l i) B'->eW zT 168 [.agg ⟨afr t'⟩,zP b1,zP b2,zP b3] cK (LL'++B') (λr Y=>∃c,r= .bool c/\(c=true->Inv (k0+q8 rest x l (i+1)) Y)/\(c=false->Stop Y))):eW zT 168 [.agg ⟨[.slice t.a t.n t.c,.slice t.ea t.en t.ec,(.map (some t.r))]⟩,zP b1,zP b2,zP b3] ro (LL++B) (λr Y=>∃c,r= .bool c/\(c=true->Inv (k0+(oy (l::rest) x).length) Y)/\(c=false->Stop Y)):=by
 have hwl:=qt List.length hwd;simp only[rq,aK] at hwl;have hwt:=hW.two;have R6:d<=1:=by omega
 have aSj:2^(d+1)<=12:=bS (jU (by decide) (show d+1<=2 by omega)) (by decide);have hle:ways[d]?=some l:=by have:=qt (·[0]?) hwd;simpa using this
 obtain⟨vS,vT,vH,fa,fc,gb,hS,hT,hHs⟩:=QA;have mY:=hS;obtain⟨n9,hs,lu⟩:=hS;obtain⟨qZ,qsb,qso,qY,rfl,qsk,qsh,qsl⟩:=hs;obtain⟨mf,ht,jh⟩:=id hT;obtain⟨fP,we,vZ,eL,rfl,v9,nE,nD⟩:=ht;have Oe:=lu.len;have Ww:=jh.len;have Ni:∀(i:Nat) (p:iy),([]:List iy)[i]?=some p->eK ⟨ro,[]⟩ 0 (0+i*6) 6 (oA p):=λ_ _ h=>tP h;refine zC [.l LL,.l B]<|zD 2<|jn λb4=>zD 1<|jf [1] LL (λAH fq gV=>?_);obtain⟨hw1,hE1,es0,ck0,F0,Aj⟩:=hR _ gV;refine jd 12 [0]<|jl (b:=b1) (off:=0) (m:=1) (vs:=[zP b]) 0 ⟨_,_,_,.inl (fq _ _ hC.t),rfl⟩<|zD 3<|jl (b:=b) (off:=0) (m:=4) (vs:=[.slice qZ n9.length qY,.slice fP mf.length eL,.slice fa 0 fc,vH]) 1 ⟨_,_,_,.inl (fq _ _ gb),rfl⟩<|zD 3<|zJ 21 ((t.n:Int)=(mf.length:Int)) (λh4=>?_) λh4=>?_
 ·
  exfalso;omega
 refine zD 5<|jl (b:=b1) (off:=0) (m:=1) (vs:=[zP b]) 0 ⟨_,_,_,.inl (fq _ _ hC.t),rfl⟩<|zD 3<|jl (b:=b) (off:=0) (m:=4) (vs:=[.slice qZ n9.length qY,.slice fP mf.length eL,.slice fa 0 fc,vH]) 1 ⟨_,_,_,.inl (fq _ _ gb),rfl⟩<|zD 1<|zxs mf t.n eL 1 nE λjZ pg=>zD 1 ?_;obtain⟨l39,aSV,h39⟩:=jh.get pg;obtain bfP:=hW.ok _ (zL aSV);obtain ayh:l39=l:=Option.some.inj (aSV.symm.trans (by rw[hn];exact hle));obtain⟨bcs,bqY,bqW,aPd,rfl,bqX,bcr,bcq⟩:=h39;refine jl 0 ((nD _ _ pg).ext (nG fq))<|zD 4<|iE [1,1,1,0,1,0,0] [] (λ(zz:Nat×Cells)=>[(1,zP b1),(3,zP b3),(4,zP b4),(39,.slice bcs l39.length aPd),(40,zI (l39.length:Int)),(41,zI (zz.1:Int))]) (λzz=>[.l zz.2,zxc b4 163 [.slice t.a t.n t.c,.slice t.ea t.en t.ec,(.map (some t.r))]]) (λzz=>zz.1<=l39.length/\Inv (k0+q8 rest x l zz.1) zz.2) (λzz=>l39.length-zz.1) (⟨0,B⟩) ⟨by dsimp only;omega,by simpa [q8] using hB⟩ [1,0] ?_;rintro⟨i,B⟩ hI K1 cX rest;dsimp only at hI;refine zD 5<|zJ 42 ((i:Int) <(l39.length:Int)) (λh5=>?_) λh5=>?_
 ·
  refine zD 7<|zxs l39 i aPd 7 bcr λXX Wt=>jl 0 ((bcq _ _ Wt).ext (nG fq))<|jn λb8=>jd 4 [0] ?_;have CQ:=(bfP.2 _ (zL Wt)).fX wx;have Bm:l[i]?=some XX:=by rw[<-ayh];exact Wt
  refine jd 4 [2,0]<|jc (vs:=[.agg ⟨[.slice t.ea t.en t.ec]⟩,.agg ⟨[zI XX.k,zI XX.st,zI XX.ot,zI XX.fn,zI XX.fl,zI XX.tn,zI XX.tl]⟩]) [] (aUS (c:=XX) CQ hE1 (hk.fin R6)) ?_;rintro _ Y50 ⟨m50,rfl,bgY⟩;refine zD 12<|js 54 (!decide ((iG x.fin XX)=0)) (λh6=>?_) (λh6=>?_)
  ·
   refine zD 3<|zW ((i:Int)+1)<|zD 2<|zF cX (⟨i+1,B⟩) (by dsimp only;rw[abc Bm (by simp_all)];exact hI.2) [2,3]
  refine zD 3 ?_;have Kw:iG x.fin XX=0:=by simp_all
  obtain⟨r9,F9,es9,ck9,Z9,rfl,rfl,hE9,Qs,hM9⟩:=bgY Kw;have MJ:=xT (hk.fin R6) CQ Kw;refine jg 0 [.b r9 (.map es9 ck9),.l Z9]<|jf [0,1] ((r9,.map es9 ck9)::Z9) (λro9 hs7 hk8=>?_);have Yb:RG ro9 r9 (aI x.fin) (fY x.fin XX) es9 ck9 F9:=⟨hk8 _ (.head _),hE9,Qs,hM9 _ (Knows.tail hk8)⟩;refine zD 1<|jl (b:=b3) (off:=0) (m:=1) (vs:=[.func (.func 168) ⟨[]⟩ ⟨[zP b1,zP b2,zP b3]⟩]) 0 ⟨_,_,_,.inl (hs7 _ _ (fq _ _ hC.g)),rfl⟩<|jd 4 [2]<|jl (b:=b1) (off:=0) (m:=1) (vs:=[zP b]) 0 ⟨_,_,_,.inl (hs7 _ _ (fq _ _ hC.t)),rfl⟩<|zD 4<|jl (b:=b) (off:=0) (m:=4) (vs:=[.slice qZ n9.length qY,.slice fP mf.length eL,.slice fa 0 fc,vH]) 0 ⟨_,_,_,.inl (hs7 _ _ (fq _ _ gb)),rfl⟩<|jd 4 [2]<|xB [3,5] ⟨λ_ _ uD=>?_,λ_ _ QB=>?_,bW⟩
  ·
   refine jc (vs:=[.slice t.a t.n t.c]) [] (aUV (hw1.up hs7) (by omega)) ?_;rintro v58 L58 aqA;obtain⟨Jw,Ju,G2⟩:=aqA.form;subst G2;refine eP uD [1,2,3]<|zxo 5 λhL8=>jn λb60=>eP hL8 (zN 1 4)<|zxo 6 λhL9=>zxl eI b60 (i:Int) 1 0 (aqA) (λDh Dg L61 lV=>?_) (hb:=by simp only[aK,aT];omega);refine eE hL9 [[4],[],[],[]]<|zxo 15 λKG=>jc (vs:=[(.map (some r9)),zI (n9.length:Int)]) [] ((show eW _ _ [.map (some r9),zI (n9.length:Int)] _ _ _ from by rw[Oe,<-wx];exact WZ (hk.fin R6) MJ Yb)) ?_;rintro _ L70 ⟨a70,n70,c70,rfl,aJc⟩;refine eP KG (zN 1 5)<|zxo 19 λKE=>jc (vs:=[(.map (some t.r)),(.map (some r9))]) [] (aCk (Aj.up hs7) Yb.s hk.inn (λh hh=>⟨bS (hk.len R6 hh) (by decide),bS (hk.fm MJ hh).1 aSj,(hk.fm MJ hh).2⟩)) ?_;rintro _ _ ⟨r74,F74,bjO,Z74,rfl,rfl,aHu,aHJ,aIC⟩;obtain⟨Xh,Xo,rfl,aJb⟩:=aHu;refine jg 0 [.b r74 (.map Xh Xo),.l Z74]<|eP KE (zN 2 6)<|zD 1<|zxo 21 λWQ=>jc (vs:=[.agg ⟨[(.slice Dh ((x.ways++[(i:Int)])).length Dg),.slice a70 n70 c70,(.map (some r74))]⟩,zP b1,zP b2,zP b3]) [3,2,0,1,6] ((show eW _ _ _ _ (L61++(L70++(r74,.map Xh Xo)::(Z74++B))) _ from by have:=hG i XX Bm Kw (fq.trans hs7) (t':=⟨Dh,((x.ways++[(i:Int)])).length,Dg,a70,n70,c70,r74⟩) (LL':=L61++(L70++(r74,.map Xh Xo)::Z74)) (by simp[hxd]) (λbU hk=>⟨lV.jI (Knows.left hk),aJc _ (Knows.left (Knows.right hk)),Xh,Xo,F74,(Knows.right (Knows.right hk)) _ (.head _),aJb,aHJ,λy hy=>aIC bU (Knows.tail (Knows.right (Knows.right hk))) y hy⟩) hI.2;rwa[bC,bC,eg] at this)) ?_;rintro _ Y76 ⟨c76,rfl,aIl,aIf⟩;refine eE WQ [[],[]]<|zD 2<|js 77 (!c76) (λh16=>?_) (λh16=>?_)
   ·
    try simp only[zB] at h16
    refine zD 6<|bY q0.a.a (.bool false) [] [0] Y76 (fq.trans hs7) ⟨_,_,rfl,rfl,_,rfl,nofun,λ_=>aIf (by simp_all)⟩
   try simp only[zB] at h16
   refine zD 3<|zW ((i:Int)+1)<|zD 2<|dY cX (⟨i+1,Y76⟩) ⟨by dsimp only;omega,aIl (by simp_all)⟩ (by dsimp only;omega) [0,3] hs7
  refine jn λb60=>eP QB [1,2,3]<|zxo 3 λQF=>jc (vs:=[.slice t.a t.n t.c]) [] (aUV (hw1.up hs7) (by omega)) ?_;rintro v58 L58 aqA;obtain⟨Jw,Ju,G2⟩:=aqA.form;subst G2;refine eP QF (zN 1 4)<|zxo 6 λKD=>zxl eI b60 (i:Int) 0 1 (aqA) (λDh Dg L61 lV=>?_) (hb:=by simp only[aK,aT];omega);refine eE KD [[4],[],[],[]]<|zxo 15 λWO=>jc (vs:=[(.map (some r9)),zI (n9.length:Int)]) [] ((show eW _ _ [.map (some r9),zI (n9.length:Int)] _ _ _ from by rw[Oe,<-wx];exact WZ (hk.fin R6) MJ Yb)) ?_;rintro _ L70 ⟨a70,n70,c70,rfl,aJc⟩;refine eP WO (zN 1 5)<|zxo 19 λQE=>jc (vs:=[(.map (some t.r)),(.map (some r9))]) [] (aCk (Aj.up hs7) Yb.s hk.inn (λh hh=>⟨bS (hk.len R6 hh) (by decide),bS (hk.fm MJ hh).1 aSj,(hk.fm MJ hh).2⟩)) ?_;rintro _ _ ⟨r74,F74,bjO,Z74,rfl,rfl,aHu,aHJ,aIC⟩;obtain⟨Xh,Xo,rfl,aJb⟩:=aHu;refine jg 0 [.b r74 (.map Xh Xo),.l Z74]<|eP QE (zN 2 6)<|zD 1<|zxo 21 λKC=>jc (vs:=[.agg ⟨[(.slice Dh ((x.ways++[(i:Int)])).length Dg),.slice a70 n70 c70,(.map (some r74))]⟩,zP b1,zP b2,zP b3]) [3,2,0,1,6] ((show eW _ _ _ _ (L61++(L70++(r74,.map Xh Xo)::(Z74++B))) _ from by have:=hG i XX Bm Kw (fq.trans hs7) (t':=⟨Dh,((x.ways++[(i:Int)])).length,Dg,a70,n70,c70,r74⟩) (LL':=L61++(L70++(r74,.map Xh Xo)::Z74)) (by simp[hxd]) (λbU hk=>⟨lV.jI (Knows.left hk),aJc _ (Knows.left (Knows.right hk)),Xh,Xo,F74,(Knows.right (Knows.right hk)) _ (.head _),aJb,aHJ,λy hy=>aIC bU (Knows.tail (Knows.right (Knows.right hk))) y hy⟩) hI.2;rwa[bC,bC,eg] at this)) ?_;rintro _ Y76 ⟨c76,rfl,aIl,aIf⟩;refine eE KC [[],[]]<|zD 2<|js 77 (!c76) (λWS=>?_) (λWS=>?_)
  ·
   try simp only[zB] at WS
   refine zD 6<|bY q0.a.a (.bool false) [] [0] Y76 (fq.trans hs7) ⟨_,_,rfl,rfl,_,rfl,nofun,λ_=>aIf (by simp_all)⟩
  try simp only[zB] at WS
  refine zD 3<|zW ((i:Int)+1)<|zD 2<|dY cX (⟨i+1,Y76⟩) ⟨by dsimp only;omega,aIl (by simp_all)⟩ (by dsimp only;omega) [0,3] hs7
 refine zD 7<|bY q0.a (.bool true) [] [0] B fq ⟨_,_,rfl,rfl,_,rfl,(λ_=>by have:=hI.2;rw[show i=l.length by rw[<-ayh];omega,Uv] at this;exact this),nofun⟩
def aCm{S:List (List ax)}{L:List rB}{Inv:Nat->Cells->Prop}(hW:oB S ways):∀ {rest:List (List aP)} {d:Nat} {x:rB} {t:Yi} {LL B:Cells} {k0:Nat} {ro:Nat->Option Obj},Tc ro b S ways->als ro bl b b1 b2 b3->ways.drop d=rest->d<=ways.length->x.ways.length=d->t.n=d->U2 (aI S) d x->x.fin.length=S.length->TrO (aI S) LL t x->(∀j y,(oy rest x)[j]?=some y->L[k0+j]?=some y)->Inv k0 B->YOK zT bl ro L.length (aJV (aI S) L) Inv Stop->
 eW zT 168 [.agg ⟨afr t⟩,zP b1,zP b2,zP b3] ro (LL++B) (λr Y=>∃c,r= .bool c/\(c=true->Inv (k0+(oy rest x).length) Y)/\(c=false->Stop Y))
 | [],d,x,t,LL,B,k0,ro,QA,hC,hd,hle,hxd,hn,hk,wx,hR,hL,hB,hy=>by
  have e:ways.length=d:=by have:=qt List.length hd;simp at this;omega
  exact aUO QA hC (by omega) (hL 0 x (by simp[oy])) hR hB hy
 |l::rest,d,x,t,LL,B,k0,ro,QA,hC,hd,hle,hxd,hn,hk,wx,hR,hL,hB,hy=>by
  have hwl:=qt List.length hd;simp only[rq,aK] at hwl;have R6:d<=1:=by have:=hW.two;omega
  have Da:l∈ways:=Ci (by rw[hd];exact .head _);refine biz QA hC hW hn hxd hd hk wx hR hB λi c hi he cK hs t' LL' B' hn' hR' hB'=>?_;have CQ:=((hW.ok l Da).2 c (zL hi)).fX wx;have:=aCm (rest:=rest) (d:=d+1) (k0:=k0+q8 rest x l i) hW (QA.up hs) (hC.up hs) (by rw[<-List.drop_drop,hd];rfl) (by omega) (by simp[AX,hxd]) hn' (hk.next R6 (xT (hk.fin R6) CQ he)) (by simp[AX,Fe,wx]) hR' (λj y hj=>by rw[Nat.add_assoc];exact hL _ y (ayz hi he hj)) hB' (hy.up hs);rw[Uu hi he,<-Nat.add_assoc];exact this
def akK{S:List (List ax)}(g1:ro b1=some (.cells ⟨[zP b]⟩ 156 (0,0)))(QA:Tc ro b S ways)(hO:cg S)(hW:oB S ways)(h3:(aI S).length<=3):ItX zT 167 [] [zP b1] ro [] (dt S ways).length (aJV (aI S) (dt S ways)) (λZ=>Z=[]):=by
 intro bl cK Inv Stop hs hy B hB;replace g1:=hs _ _ g1;replace QA:=QA.up hs;have bhG:=QA;obtain⟨vS,vT,vH,fa,fc,gb,hS,hT,hHs⟩:=QA;have mY:=hS;obtain⟨n9,s8,lu⟩:=hS;obtain⟨avU,bql,bqh,avT,rfl,bqj,bqk,bqi⟩:=s8;obtain⟨mf,ht,jh⟩:=id hT;obtain⟨fP,we,vZ,eL,rfl,v9,nE,nD⟩:=ht;have Ni:∀(i:Nat) (p:iy),([]:List iy)[i]?=some p->eK ⟨cK,[]⟩ 0 (0+i*6) 6 (oA p):=λ_ _ h=>tP h;refine zC [.l B]<|zD 2<|jn λb2=>zD 3<|jn λb3=>jd 5 [0]<|jf [1,0] ((b2,.cells ⟨[(.func (.yield bl) #[] #[])]⟩ 253 (0,0))::[(b3,.cells ⟨[.func (.func 168) ⟨[]⟩ ⟨[zP b1,zP b2,zP b3]⟩]⟩ 253 (0,0))]) λAH fq gV=>zD 2<|jl (b:=b3) (off:=0) (m:=1) (vs:=[.func (.func 168) ⟨[]⟩ ⟨[zP b1,zP b2,zP b3]⟩]) 0 ⟨_,_,_,.inl (gV _ (.tail _ (.head _))),rfl⟩<|jl (b:=b1) (off:=0) (m:=1) (vs:=[zP b]) 0 ⟨_,_,_,.inl (fq _ _ g1),rfl⟩<|zD 3<|jl (b:=b) (off:=0) (m:=4) (vs:=[.slice avU n9.length avT,.slice fP mf.length eL,.slice fa 0 fc,vH]) 0 ⟨_,_,_,.inl (fq _ _ gb),rfl⟩<|jl (b:=b1) (off:=0) (m:=1) (vs:=[zP b]) 0 ⟨_,_,_,.inl (fq _ _ g1),rfl⟩<|zD 3<|jl (b:=b) (off:=0) (m:=4) (vs:=[.slice avU n9.length avT,.slice fP mf.length eL,.slice fa 0 fc,vH]) 0 ⟨_,_,_,.inl (fq _ _ gb),rfl⟩<|zxo 6 λtT=>jc (vs:=[.agg ⟨[.slice avU n9.length avT]⟩]) [] (ayG (mY.up fq) hO) ?_;rintro _ Yj ⟨a11,n11,c11,rfl,big⟩;refine eP tT [1]<|zxo 12 λDX=>jc (vs:=[.agg ⟨[.slice avU n9.length avT]⟩]) [] (MN (mY.up fq) hO) ?_;rintro _ _ ⟨r17,F17,bvr,Z17,rfl,rfl,aSL,aeE,bhL⟩;obtain⟨ayW,azk,rfl,bie⟩:=aSL;refine jg 0 [.b r17 (.map ayW azk),.l Z17]<|eP DX [2,3]<|zD 1<|zxo 14 λwA=>jc (vs:=[.agg ⟨[zS,.slice a11 n11 c11,(.map (some r17))]⟩,zP b1,zP b2,zP b3]) [2,0,1,3] ((show eW _ _ _ _ (Yj++(r17,.map ayW azk)::(Z17++B)) _ from by have:=aCm hW (t:=⟨none,0,0,a11,n11,c11,r17⟩) (LL:=Yj++(r17,.map ayW azk)::Z17) (k0:=0) (bhG.up fq) ⟨(fq _ _ g1),gV _ (.head _),gV _ (.tail _ (.head _))⟩ rfl (bK _) rfl rfl (U2.start hO h3) rfl (λbU hk=>⟨dq.nil _ _ _ _ _,big _ (Knows.left hk),ayW,azk,F17,(Knows.right hk) _ (.head _),bie,λh=>by rw[aeE],λy hy=>bhL bU (Knows.tail (Knows.right hk)) y hy⟩) (λj y hj=>by rw[iV];exact hj) hB (YOK.up hy fq);rwa[bC,eg] at this)) ?_;rintro _ Y19 ⟨c19,rfl,bhi,bg3⟩;refine eE wA [[],[]]<|zD 1<|bY q0.a (.tuple ⟨[]⟩) [] [0] Y19 fq ⟨_,_,rfl,rfl,[],Y19,rfl,rfl,by cases c19 with|true=>exact .inl (by have:=bhi rfl;rwa[iV] at this)|false=>exact .inr (bg3 rfl)⟩
def asB{fa:Option Addr}{S:List (List ax)}(hS:bH ro vS S)(hO:cg S)(hT:kL ro vT ways)(hW:oB S ways)(h3:(aI S).length<=3):FnG zT 90 [.agg ⟨[vS,vT,.slice fa 0 fc]⟩] ro [] (λr cK Y=>∃b vl ts Lt Z,r= .tuple ⟨[zP b,vl,zI 0]⟩/\Tc cK b S ways/\Y=Lt++Z/\bJ vl 3 163 afr ts Lt/\ts.length=(dt S ways).length/\∀bU,Knows bU Z->kA (TrR (aI S) bU) ts (dt S ways)):=by
 have mY:=hS;obtain⟨n9,hs,lu⟩:=hS;obtain⟨qZ,qsb,qso,qY,rfl,qsk,qsh,qsl⟩:=hs;obtain⟨mf,ht,jh⟩:=id hT;obtain⟨fP,we,vZ,eL,rfl,v9,nE,nD⟩:=ht;have Oe:=lu.len;have Ww:=jh.len;have mM:=hO.two;have SQ:=hW.two;have Ni:∀(i:Nat) (p:iy),([]:List iy)[i]?=some p->eK ⟨ro,[]⟩ 0 (0+i*6) 6 (oA p):=λ_ _ h=>tP h;refine aRk (hm:=bE) [] [] c9<|zD 2<|jn λb1=>jd 7 [0]<|jc (vs:=[.agg ⟨[.slice qZ n9.length qY,.slice fP mf.length eL,.slice fa 0 fc]⟩]) [] (aJQ mY hO hT hW) ?_;rintro _ _ ⟨wE,aNl,aWa,rfl,rfl,SR⟩;refine jg 0 [zxc wE 173 [.slice qZ n9.length qY,.slice fP mf.length eL,.slice fa 0 fc,aNl],.l aWa]<|zD 5<|jf [0,1] ((wE,.cells ⟨[.slice qZ n9.length qY,.slice fP mf.length eL,.slice fa 0 fc,aNl]⟩ 173 (0,0))::aWa) (λAH fq gV=>?_);have QA:Tc AH wE S ways:=⟨_,_,_,_,_,gV _ (.head _),mY.up fq,hT.up fq,SR.jI (Knows.tail gV)⟩;refine zD 10 ?_;have hLn:(dt S ways).length<=4:=rE hW;refine zD 1<|jn λb7=>zD 5<|jc (vs:=[zP wE]) [] (ass) ?_;rintro _ _ ⟨aBe,rfl,rfl⟩;refine jg 0 [zxc aBe 156 [zP wE]]<|jf [0] [(aBe,.cells ⟨[zP wE]⟩ 156 (0,0))] λro6 sE hk5=>zD 2<|wN<|wN<|jrf [] (akK (hk5 _ (.head _)) (QA.up sE) hO hW h3) (by rintro _ _ _ _ ⟨_,_,_,rfl,_⟩;rfl) (λ(zz:Value×Cells×(List Yi)×Cells)=>[zxc b7 157 [zz.1],.l zz.2.1,.l zz.2.2.2]) (λkk=>(λ(zz:Value×Cells×(List Yi)×Cells)=>bJ zz.1 3 163 afr zz.2.2.1 zz.2.1/\zz.2.2.1.length=kk/\(∀bU,Knows bU zz.2.2.2->kA (TrR (aI S) bU) zz.2.2.1 ((dt S ways).take kk))/\(dt S ways).length<=4)) (λjump=>(λ(zz:Value×Cells×(List Yi)×Cells)=>False)) (⟨zS,[],[],[]⟩) ⟨bJ.nil _ _ _,rfl,λ_ _=> .nil,hLn⟩ [2,0,1] ?_ ?_ ?_
 ·
  rintro bl7 bd7 kk7 vs7 LL7 ⟨vl,Lt,ts,Z⟩ ro7 hk7 bgE hI hs7;obtain⟨x7,t7,hx7,rfl,hR7⟩:=bgE;dsimp only at hI;have ep:=(List.getElem?_eq_some_iff.1 hx7).1;refine zD 1<|jn λb8=>jd 2 [0]<|aGt<|jd 4 [2,0]<|jn λb22=>zxl afr b22 (⟨t7.a,t7.n,t7.c,t7.ea,t7.en,t7.ec,t7.r⟩:Yi) 4 0 (hI.1) (λbai aZ0 L23 Wv=>?_) (hb:=by simp only[List.length_cons,List.length_nil];omega);refine jd 2 [4]<|jyn qy0 (Sub.refl _) ⟨(.slice bai ((ts++[(⟨t7.a,t7.n,t7.c,t7.ea,t7.en,t7.ec,t7.r⟩:Yi)])).length aZ0),L23,(ts++[(⟨t7.a,t7.n,t7.c,t7.ea,t7.en,t7.ec,t7.r⟩:Yi)]),LL7++Z⟩ ⟨Wv,by simp only[zM];omega,λbU hk=>Bf (hI.2.2.1 bU (Knows.right hk)) hx7 (hR7 bU (Knows.left hk)),hI.2.2.2⟩ [3,4,0,6,5]
 ·
  rintro bd7 ⟨vl,Lt,ts,Z⟩ Z7 hI hZ7;dsimp only at hI;subst hZ7;refine jd 9 [2]<|bdR qm0.a.a.m (.tuple ⟨[zP wE,vl,zI 0]⟩) [0] [] [2,3] (Lt++Z) (Sub.refl _) ⟨_,_,_,rfl,rfl,(fq.trans sE),wE,vl,ts,Lt,Z,rfl,QA.up sE,rfl,hI.1,hI.2.1,by have:=hI.2.2.1;rwa[List.take_of_length_le (Nat.le_refl _)] at this⟩
 rintro bd7 ⟨vl,Lt,ts,Z⟩ Z7 jump hS hZ7;exact hS.elim
def wv(t:Yi):Value:= .slice t.a t.n t.c
def kA.maps{γ δ:Type}{R:α->β->Prop}{T:γ->δ->Prop}{f:α->γ}{g:β->δ}(h:∀a b,R a b->T (f a) (g b)):∀ {l:List α} {m:List β},kA R l m->kA T (l.map f) (m.map g)
 | [],[],.nil=> .nil
 |_::_,_::_,.cons h1 h2=> .cons (h _ _ h1) (kA.maps h h2)
def ajy{y x:ar}:qK y.h y.n y.l x=true↔y=x:=by
 rcases y with ⟨a,b,c⟩;rcases x with ⟨d,e,f⟩
 simp[qK,and_assoc]
def ajA{y:ar}{l:List ar}(h:y∈l):bM (qK y.h y.n y.l) l 0>=0:=IF h (ajy.2 rfl)
def ah1{fa:Option Addr}{S:List (List ax)}(hS:bH ro vS S)(hO:cg S)(hT:kL ro vT ways)(hW:oB S ways)(h3:(aI S).length<=3):eW zT 29 [.agg ⟨[vS,vT,.slice fa 0 fc]⟩] ro [] (λr Y=>∃a n c,r= .tuple ⟨[.slice a n c,zI 0]⟩/\n=((dt S ways).map (·.ways)).length/\∀As,Knows As Y->at6 As (.slice a n c) ((dt S ways).map (·.ways))):=by
 have mY:=hS;obtain⟨n9,hs,lu⟩:=hS;obtain⟨qZ,qsb,qso,qY,rfl,qsk,qsh,qsl⟩:=hs;obtain⟨mf,ht,jh⟩:=id hT;obtain⟨fP,we,vZ,eL,rfl,v9,nE,nD⟩:=ht;have Oe:=lu.len;have Ww:=jh.len;have mM:=hO.two;have SQ:=hW.two;have Ni:∀(i:Nat) (p:iy),([]:List iy)[i]?=some p->eK ⟨ro,[]⟩ 0 (0+i*6) 6 (oA p):=λ_ _ h=>tP h;have hLn:=rE (S:=S) hW;refine zE<|zD 2<|jn λb1=>jd 6 [0]<|jcG (vs:=[.agg ⟨[.slice qZ n9.length qY,.slice fP mf.length eL,.slice fa 0 fc]⟩]) [] (asB mY hO hT hW h3) ?_;rintro _ cK _ fq ⟨Hv,vl,ts,Lt,Z,rfl,QA,rfl,hL,htl,hA⟩;obtain⟨uS,uT,uH,ua,uc,gb,_,_,hh⟩:=QA;obtain⟨pW,Zf,Zd,oX,rfl,Ze,Su,Ss⟩:=hh;obtain⟨aDX,amv,aky⟩:=hL.form;subst aky;refine jg 0 [.l Lt,.l Z]<|zD 28<|wN<|iE [1,1,1,1,0,1,0,0] [] (λ(zz:Nat×Value×Cells)=>[(2,zS),(3,zI 0),(7,zz.2.1),(19,(.slice aDX ts.length amv)),(20,zI (ts.length:Int)),(21,zI (zz.1:Int))]) (λzz=>[.l zz.2.2,.l Lt,.l Z,zxc b1 28 [.slice qZ n9.length qY,.slice fP mf.length eL,.slice fa 0 fc]]) (λzz=>zz.1<=ts.length/\bJ zz.2.1 1 45 ri ((ts.take zz.1).map wv) zz.2.2) (λzz=>ts.length-zz.1) (⟨0,zS,[]⟩) ⟨by dsimp only;omega,bJ.nil _ _ _⟩ (zN 0 4) ?_;rintro⟨k,vO,LO⟩ hI K1 cX rest;dsimp only at hI;refine zD 5<|zJ 22 ((k:Int) <(ts.length:Int)) (λh2=>?_) λh2=>?_
 ·
  refine zD 6 ?_;obtain⟨xJ,qD⟩:=zG ts k;refine jxo 3 hL qD λb23 aIs=>zx 0 [1] Lt (λs _ hZ=>lS hL aIs hZ qD)<|jn λb9=>jd 6 [0,0]<|jn λb28=>gC (sz:=1) (ps:=((ts.take k).map wv)) (qs:=[(.slice xJ.a xJ.n xJ.c:Value)]) (enc:=ri) (w:= .slice (some ⟨b28,0,none⟩) 1 1) [2] [0] [(b28,.cells ⟨([(.slice xJ.a xJ.n xJ.c:Value)].map ri).flatten⟩ 45 (0,0))] (hI.2) (λs _ hZ=>de [(.slice xJ.a xJ.n xJ.c:Value)] (hZ _ (.head _)) (by intro p hp;rfl)) (by intro p hp;rw[aV] at hp;subst hp;exact aG rfl) (by simp only[dj,cw,aK,aT];omega) (λv29 L29 Af=>?_);obtain⟨Vl,Vi,Qv⟩:=Af.form;subst Qv;refine zD 3<|zW ((k:Int)+1)<|zD 2<|zF cX (⟨k+1,(.slice Vl ((((ts.take k).map wv)++[(.slice xJ.a xJ.n xJ.c:Value)])).length Vi),L29⟩) (by rw[cU qD,cC];exact Af) [0,3,4,5]
 refine zD 3 ?_;obtain⟨va3,vc3,he3⟩:=hI.2.form;subst he3;refine zD 6<|bY q0.a (.tuple ⟨[(.slice va3 (((ts.take k).map wv)).length vc3),zI 0]⟩) [] [0,2] (LO++Z) fq ⟨_,_,rfl,rfl,_,_,_,rfl,by simp only[dj,cw];omega,λAs hk=>⟨_,hI.2.jI (Knows.left hk),by rw[bF (by omega)];exact(hA As (Knows.right hk)).maps λ_ _ h=>h.1⟩⟩
def asr{fa:Option Addr}{S:List (List ax)}{y:ar}{x:rB}(hS:bH ro vS S)(hO:cg S)(hT:kL ro vT ways)(hW:oB S ways)(h3:(aI S).length<=3)(hy:y∈aI S)(hLx:dt S ways=[x])(hg:(x.g y).Nodup/\(x.g y).length<=12):eW zT 46 [.agg ⟨[vS,vT,.slice fa 0 fc]⟩,.agg ⟨[zI y.h,zI y.n,zI y.l]⟩] ro [] (λr Y=>∃a n c,r= .tuple ⟨[.slice a n c,zI 0]⟩/\∀As,Knows As Y->dq As (.slice a n c) 3 bL (dh pP (x.g y))):=by
 have mY:=hS;obtain⟨n9,hs,lu⟩:=hS;obtain⟨qZ,qsb,qso,qY,rfl,qsk,qsh,qsl⟩:=hs;obtain⟨mf,ht,jh⟩:=id hT;obtain⟨fP,we,vZ,eL,rfl,v9,nE,nD⟩:=ht;have Oe:=lu.len;have Ww:=jh.len;have mM:=hO.two;have SQ:=hW.two;have Ni:∀(i:Nat) (p:iy),([]:List iy)[i]?=some p->eK ⟨ro,[]⟩ 0 (0+i*6) 6 (oA p):=λ_ _ h=>tP h;have hhl:=Qp hO;have hph:=ajA hy;have tT:(dt S ways).length=1:=by rw[hLx];rfl
 refine zE<|zD 2<|jn λb2=>jn λb3=>jd 6 [1]<|jcG (vs:=[.agg ⟨[.slice qZ n9.length qY,.slice fP mf.length eL,.slice fa 0 fc]⟩]) [] (asB mY hO hT hW h3) ?_;rintro _ cK _ fq ⟨b14,vl,ts,Lt,Z,rfl,QA,rfl,hL,htl,hA⟩;obtain⟨uS,uT,uH,ua,uc,gb,_,_,hh⟩:=QA;obtain⟨pW,Zf,Zd,oX,rfl,Ze,Su,Ss⟩:=hh;obtain⟨nu,nq,mX⟩:=hL.form;subst mX;refine jg 0 [.l Lt,.l Z]<|zD 22<|jl (b:=b14) (off:=0) (m:=4) (vs:=[uS,uT,.slice ua 0 uc,.slice pW ((aI S).length) oX]) 3 ⟨_,_,_,.inl gb,rfl⟩<|jd 1 [2]<|zxp [.slice pW ((aI S).length) oX,.agg ⟨[zI y.h,zI y.n,zI y.l]⟩] (λhs=>T9 ((show dq _ _ _ _ _ from ⟨pW,Zf,Zd,oX,rfl,Ze,Su,Ss⟩).up hs) (by omega))<|zD 2<|js 27 (!(decide (bM (qK y.h y.n y.l) (aI S) 0>=0))) (λh2=>?_) (λh2=>?_)
 ·
  exfalso;simp_all
 refine zD 9<|zJ 30 ((ts.length:Int)=0) (λh3=>?_) λh3=>?_
 ·
  exfalso;omega
 refine zD 5<|jf [0,1] (Lt++Z) (λro6 sE hk5=>?_);have hLs:=hL.jI (Knows.left hk5);have hAs:=hA _ (Knows.right hk5);obtain⟨FV,qrb,qro,FU,NB,qrk,Zc,Zb⟩:=hLs;simp only[Value.slice.injEq] at NB;obtain⟨rfl,_,rfl⟩:=NB;refine zD 9<|wN<|iE [1,1,1,1,1,1,0,1,0,0] [] (λ(zz:Nat×Value×Cells)=>[(3,zP b3),(4,zS),(5,zI 0),(9,zz.2.1),(31,.slice nu ts.length nq),(32,zI (ts.length:Int)),(33,zI (zz.1:Int))]) (λzz=>[.l zz.2.2,zxc b3 41 [zI y.h,zI y.n,zI y.l],zxc b2 28 [.slice qZ n9.length qY,.slice fP mf.length eL,.slice fa 0 fc]]) (λzz=>zz.1<=ts.length/\bJ zz.2.1 3 41 bL (([x].take zz.1).flatMap λz=>z.g y) zz.2.2) (λzz=>ts.length-zz.1) (⟨0,zS,[]⟩) ⟨by dsimp only;omega,bJ.nil _ _ _⟩ [0,1,2] ?_;rintro⟨k,vO,LO⟩ hI K1 cX rest;dsimp only at hI;refine zD 5<|zJ 34 ((k:Int) <(ts.length:Int)) (λh7=>?_) λh7=>?_
 ·
  refine zD 6<|zxt ts k nq 3 Zc Zb λx35 Qc=>jn λwE=>jd 2 [0] ?_;obtain⟨q35,aSd,_,_,buA,buH,F35,ayp⟩:=hAs.get Qc;obtain⟨hqe,hk0⟩:=adG (by rw[hLx] at aSd;exact aSd);replace hqe:=hqe.symm;subst hqe;refine jd 5 [0,2]<|jlu (kv:=mh) (F:=F35) (r:=x35.r) (K:=41) y (zS) false [] [] wM (λs he _=>⟨_,_,he _ _ (.inl ayp.m),ayp.e⟩) ?_;obtain⟨w41,bez,bfO⟩:=Oc (k:=y) (F:=F35) ((ayp.k y).2 hy);have hww:dq _ w41 3 bL (x.g y):=ayp.v _ bfO;obtain⟨tI,Mq,Mp,qN,rfl,qwk,C4,C3⟩:=hww;refine jw 41 (.slice tI ((x.g y).length) qN) (show RV (zS) false y F35=_ from by simp only[RV,bez];rfl) ?_;refine zxk bL 1 qN (hI.2) C4 C3 (λbaa aZU L42 aql=>?_) (hb:=by simp only[hk0,List.take_zero,List.flatMap_nil,aT];have:=hg.2;omega);refine zD 3<|zW ((k:Int)+1)<|zD 2<|zF cX (⟨k+1,(.slice baa (((([x].take k).flatMap λz=>z.g y)++(x.g y))).length aZU),L42⟩) (by have:=aql;rw[hk0] at this ⊢;simpa using this) [0,2,3]
 refine zD 3 ?_;have hls:(([x].take k).flatMap λz=>z.g y)=x.g y:=by rw[show k=1 by omega];simp
 refine zD 2<|jcL (vs:=[vO]) [] [0] LO (λcK hs hZ=>WY (hI.2.jI hZ) (by rw[hls];exact hg.2) (by rw[hls];exact hg.1)) ?_;rintro v45 L45 ⟨aZx,bfj,axZ⟩;obtain⟨aZ9,aZT,bgP⟩:=axZ.form;subst bgP;refine zD 4<|bY q0.a.a (.tuple ⟨[(.slice aZ9 aZx.length aZT),zI 0]⟩) [] [0] L45 (fq.trans sE) ⟨_,_,rfl,rfl,_,_,_,rfl,λAs hk=>by have:=axZ.jI hk;have e:=bfj.1;rw[hls] at e;subst e;exact this⟩
def aJI{v:Value}{S:List (List ax)}{c:aP}(hc:nn S c)(he:iG S c=0)(hS:bH ro v S)(hO:cg S):eW zT 170 [.agg ⟨[v]⟩,.agg ⟨mO c⟩] ro [] (λr Y=>∃rm F LM Z,r= .tuple ⟨[.map (some rm),zI 0]⟩/\Y=LM++Z/\iq rm mh F LM/\F.map (·.1)=aI S/\MV Z F (fY S c)):=
 (aUT hc hS hO).mono λ_ _ h=>(h.resolve_left λh=>h.1 he).2
def aAE{v:Value}{S:List (List ax)}(hc:nn S ch)(he:iG S ch=0)(mY:bH ro v S)(hO:cg S):eW zT 216 [.agg ⟨[v]⟩,.agg ⟨mO ch⟩] ro [] (λr Y=>∃rm F LM Z,r= .tuple ⟨[.map (some rm),zI 0]⟩/\Y=LM++Z/\iq rm mh F LM/\F.map (·.1)=aI S/\MV Z F (fY S ch)):=by
 refine zE<|zD 2<|jn λb2=>jn λb3=>jd 7 [1]<|zxp [.agg ⟨[v]⟩] (λhs=>asA (mY.up hs) hO)<|jd 13 [1,0]<|jc (vs:=[.agg ⟨[v]⟩,.agg ⟨[zI ch.k,zI ch.st,zI ch.ot,zI ch.fn,zI ch.fl,zI ch.tn,zI ch.tl]⟩]) [] (aJI hc he mY hO) ?_;rintro _ _ ⟨r9,F9,LM9,Z9,rfl,rfl,hm9,Qs,hM9⟩;refine jg 0 [.l LM9,.l Z9]<|zD 6<|zR _ [] [0,1] _ ⟨_,F9,LM9,Z9,rfl,rfl,hm9,Qs,hM9⟩
def anr{v:Value}{S:List (List ax)}{y:ar}(hc:nn S ch)(he:iG S ch=0)(mY:bH ro v S)(hO:cg S)(hy:y∈aI S):eW zT 153 [.agg ⟨[v]⟩,.agg ⟨mO ch⟩,.agg ⟨[zI y.h,zI y.n,zI y.l]⟩] ro [] (λr Y=>∃a n c,r= .tuple ⟨[.slice a n c,zI 0]⟩/\∀As,Knows As Y->dq As (.slice a n c) 3 bL (dh pP (fY S ch y))):=by
 have MJ:=xT hO hc he;refine zE<|zD 2<|jn λb3=>jn λb4=>jn λb5=>jd 7 [2,1]<|jc (vs:=[.agg ⟨[v]⟩,.agg ⟨[zI ch.k,zI ch.st,zI ch.ot,zI ch.fn,zI ch.fl,zI ch.tn,zI ch.tl]⟩]) [] (aAE hc he mY hO) ?_;rintro _ _ ⟨r9,F9,LM9,Z9,rfl,rfl,hm9,Qs,hM9⟩;obtain⟨es9,ck9,rfl,hE9⟩:=hm9;refine jg 0 [.b r9 (.map es9 ck9),.l Z9]<|zD 5<|jf [0,1] ((r9,.map es9 ck9)::Z9) (λAH fq gV=>?_);have Yb:RG AH r9 (aI S) (fY S ch) es9 ck9 F9:=⟨gV _ (.head _),hE9,Qs,hM9 _ (Knows.tail gV)⟩;refine jd 13 [0]<|jlu (kv:=mh) (F:=F9) (r:=r9) (K:=41) y (zS) true [] [] wM (λs he _=>⟨_,_,he _ _ (.inl Yb.m),Yb.e⟩) ?_;obtain⟨w28,aGM,akp⟩:=Oc (k:=y) (F:=F9) (by rw[Yb.k];exact hy);have hww:dq AH w28 3 bL (fY S ch y):=Yb.v _ akp;obtain⟨tI,Mq,Mp,qN,rfl,qwk,C4,C3⟩:=hww;refine jw 24 (.tuple ⟨[.slice tI ((fY S ch y).length) qN,.bool true]⟩) (show RV (zS) true y F9=_ from by simp only[RV,aGM];rfl) ?_;refine zD 17<|jc (vs:=[.slice tI ((fY S ch y).length) qN]) [] (WY (show dq _ _ _ _ _ from ⟨tI,Mq,Mp,qN,rfl,qwk,C4,C3⟩) (bS (MJ.val y hy).1.2 (by decide)) (MJ.val y hy).1.1) ?_;rintro v30 L30 ⟨aDo,aqf,aaO⟩;obtain⟨aDU,aDN,aH6⟩:=aaO.form;subst aH6;refine zD 4<|bY q0.a (.tuple ⟨[(.slice aDU aDo.length aDN),zI 0]⟩) [] [0] L30 fq ⟨_,_,rfl,rfl,_,_,_,rfl,λAs hk=>by have:=aaO.jI hk;have e:=aqf.1;subst e;exact this⟩
def aEQ{v:Value}{S:List (List ax)}(hc:nn S ch)(he:iG S ch=0)(mY:bH ro v S)(hO:cg S):eW zT 154 [.agg ⟨[v]⟩,.agg ⟨mO ch⟩] ro [] (λr Y=>∃a n c,r= .tuple ⟨[.agg ⟨[.slice a n c]⟩,zI 0]⟩/\∀bU,Knows bU Y->bH bU (.slice a n c) (xu S ch)):=by
 have hS:=mY;obtain⟨n9,hs,lu⟩:=hS;obtain⟨qZ,qsb,qso,qY,rfl,qsk,qsh,qsl⟩:=hs;refine zE<|zD 2<|jn λb2=>jn λb3=>jn λb4=>jd 6 [2,1]<|jc (vs:=[.agg ⟨[.slice qZ n9.length qY]⟩,.agg ⟨[zI ch.k,zI ch.st,zI ch.ot,zI ch.fn,zI ch.fl,zI ch.tn,zI ch.tl]⟩]) [] (aAE hc he mY hO) ?_;rintro _ _ ⟨r9,F9,LM9,Z9,rfl,rfl,hm9,Qs,hM9⟩;obtain⟨es9,ck9,rfl,hE9⟩:=hm9;refine jg 0 [.b r9 (.map es9 ck9),.l Z9]<|zD 5<|jf [0,1] ((r9,.map es9 ck9)::Z9) (λAH fq gV=>?_);have Yb:RG AH r9 (aI S) (fY S ch) es9 ck9 F9:=⟨gV _ (.head _),hE9,Qs,hM9 _ (Knows.tail gV)⟩;refine jd 15 [2]<|jc (vs:=[(.map (some r9)),zI (n9.length:Int)]) [] ((show eW _ _ [.map (some r9),zI (n9.length:Int)] _ _ _ from by rw[lu.len];exact WZ hO (xT hO hc he) Yb)) ?_;rintro _ L22 ⟨a22,n22,c22,rfl,bid⟩;refine jd 4 [1]<|bY q0.a (.tuple ⟨[.agg ⟨[.slice a22 n22 c22]⟩,zI 0]⟩) [1] [0] L22 fq ⟨_,_,rfl,rfl,_,_,_,rfl,bid⟩
structure cv where
 (past:Int)
 (x y z:cy)
def cv.at(t:cv):Nat->cy
 |0=>t.x
 |1=>t.y
 |_=>t.z
def cv.put(t:cv)(k:Nat)(l:cy):cv:=match k with
 |0=>{t with x:=l}
 |1=>{t with y:=l}
 |_=>{t with z:=l}
def NM(t:cv):List Value:=[zI t.past,zI t.x.a,zI t.x.b,zI t.x.c,zI t.x.d,zI t.y.a,zI t.y.b,zI t.y.c,zI t.y.d,zI t.z.a,zI t.z.b,zI t.z.c,zI t.z.d]
def lt3{k:Nat}(h:k <3):k=0\/k=1\/k=2:=by omega
def Jz{s:St}{t:cv}{fz:Nat×Nat}{k:Nat}(h:s.has b (.cells ⟨NM t⟩ T fz))(hk:k <3):eK s b (1+(k:Int).toNat*4) 4 (jF (t.at k)):=by
 rcases lt3 hk with rfl|rfl|rfl<;>exact⟨_,_,_,h,rfl⟩
theorem avg{t:cv}{k:Nat}{l:cy}(hk:k <3):gZ (NM t) (1+(k:Int).toNat*4) (jF l)=NM (t.put k l):=by
 rcases lt3 hk with rfl|rfl|rfl<;>rfl
def avh{t:cv}{k:Nat}{l:cy}(hk:k <3):Nat.ble ((1+(k:Int).toNat*4)+(jF l).length) (NM t).length=true:=by
 rcases lt3 hk with rfl|rfl|rfl<;>rfl
theorem cv.afQ{t:cv}{k:Nat}{l:cy}(h:j <k)(hk:k <3):(t.put k l).at j=t.at j:=by
 rcases lt3 hk with rfl|rfl|rfl
 .omega
 .obtain rfl:j=0:=by omega
  rfl
 obtain rfl|rfl:j=0\/j=1:=by omega
 all_goals rfl
def M9(t:cv)(x:cy)(j d:Nat):Prop:=x.at d≠ -1/\x.at d=(t.at j).at d
def ql(D:Int)(t:cv)(p:Nat)(x:cy):Bool:=(List.range p).all λj=>(List.range D.toNat).all λd=> !(!decide (x.at d= -1)&&decide (x.at d=(t.at j).at d))
theorem asC{t:cv}{x:cy}(h:∀j,j <p->∀d,d <D.toNat->¬M9 t x j d):ql D t p x=true:=by
 grind [ql,c8,M9]
theorem asD{t:cv}{x:cy}(hj:j <p)(hd:d <D.toNat)(h:M9 t x j d):ql D t p x=false:=by
 cases hf:ql D t p x with
 |false=>rfl
 |true=>
  simp only[ql,c8] at hf
  grind [M9]
def aQQ{W:ky}{t:cv}{x:cy}(hH:ro Hb=some (.cells ⟨W.cells u⟩ 113 (0,0)))(hD:1<=W.D/\W.D<=4)(hp:p<=3):iz zT 142 [zP Hb,.agg ⟨[zI t.past,zI t.x.a,zI t.x.b,zI t.x.c,zI t.x.d,zI t.y.a,zI t.y.b,zI t.y.c,zI t.y.d,zI t.z.a,zI t.z.b,zI t.z.c,zI t.z.d]⟩,zI (p:Int),.agg ⟨[zI x.a,zI x.b,zI x.c,zI x.d]⟩] ro (.bool (ql W.D t p x)):=by
 refine zE<|zD 2<|jn λb5=>jn λb7=>zD 7<|jah (b:=b5) (off:=1) (len:=3) (p:Int) (by omega)<|zD 4<|iE [1,0,1,0,0] [] (λ(zz:Nat)=>[(0,zP Hb),(7,zP b7),(14,(.slice (some ⟨b5,1,none⟩) (p:Int).toNat 3)),(15,zI (p:Int)),(16,zI (zz:Int))]) (λzz=>[zxc b7 120 [zI x.a,zI x.b,zI x.c,zI x.d],zxc b5 123 [zI t.past,zI t.x.a,zI t.x.b,zI t.x.c,zI t.x.d,zI t.y.a,zI t.y.b,zI t.y.c,zI t.y.d,zI t.z.a,zI t.z.b,zI t.z.c,zI t.z.d]]) (λzz=>zz<=p/\∀j,j <zz->∀d,d <W.D.toNat->¬M9 t x j d) (λzz=>p-zz) 0 ⟨bK _,λj hj=>absurd hj (gB _)⟩ [0,1] ?_;rintro k hI K1 cX rest;refine zD 5<|zJ 17 ((k:Int) <(p:Int)) (λh1=>?_) λh1=>?_
 ·
  refine zD 6<|jix (a:=some ⟨b5,1,none⟩) (b:=b5) (off:=1) (len:=(p:Int).toNat) (k:Int) 3 4 rfl (by omega)<|zx (b:=b5) (off:=1+(k:Int).toNat*4) (m:=4) (vs:=[zI ((t.at k).a),zI ((t.at k).b),zI ((t.at k).c),zI ((t.at k).d)]) 0 [1] [(b5,.cells ⟨[zI t.past,zI t.x.a,zI t.x.b,zI t.x.c,zI t.x.d,zI t.y.a,zI t.y.b,zI t.y.c,zI t.y.d,zI t.z.a,zI t.z.b,zI t.z.c,zI t.z.d]⟩ 123 (0,0))] (λs _ hZ=>(Jz (t:=t) (hZ _ (.head _)) (by omega)))<|jn λFL=>jd 8 [0]<|jl (b:=Hb) (off:=0) (m:=11) (vs:=[W.a0,W.a1,W.a2,W.a3,W.a4,zI W.D,zI W.S,W.a7,(.slice W.ha W.H W.iR),u,W.Ln]) 5 ⟨_,_,_,.inl hH,rfl⟩<|zD 3<|iE [1,0,1,0,0,1,1,0,0,1,1,0,0] [K1] (λ(zz:Nat)=>[(0,zP Hb),(7,zP b7),(10,zP FL),(14,(.slice (some ⟨b5,1,none⟩) (p:Int).toNat 3)),(15,zI (p:Int)),(16,zI (k:Int)),(24,zI W.D),(25,zI (zz:Int))]) (λzz=>[zxc FL 120 [zI ((t.at k).a),zI ((t.at k).b),zI ((t.at k).c),zI ((t.at k).d)],zxc b7 120 [zI x.a,zI x.b,zI x.c,zI x.d],zxc b5 123 [zI t.past,zI t.x.a,zI t.x.b,zI t.x.c,zI t.x.d,zI t.y.a,zI t.y.b,zI t.y.c,zI t.y.d,zI t.z.a,zI t.z.b,zI t.z.c,zI t.z.d]]) (λzz=>(zz:Int)<=W.D/\∀e,e <zz->¬M9 t x k e) (λzz=>W.D.toNat-zz) 0 ⟨by omega,λj hj=>absurd hj (gB _)⟩ [0,1,2] ?_;rintro d hJ K2 mb rest;refine zD 5<|zJ 26 ((d:Int) <W.D) (λh2=>?_) λh2=>?_
  ·
   refine zD 12<|Jg (b:=b7) (off:=0) (len:=4) (sz:=1) (d:Int) (by omega)<|zx (b:=b7) (off:=0+(d:Int).toNat*1) (m:=1) (vs:=[zI (x.at d)]) 0 [1] [(b7,.cells ⟨[zI x.a,zI x.b,zI x.c,zI x.d]⟩ 120 (0,0))] (λs _ hZ=>lR (hZ _ (.head _)) (vt (x:=x) (by omega)))<|zD 2<|js 4 (!decide ((x.at d)=(-1))) (λh3=>?_) (λh3=>?_)
   ·
    have wC:=h3;replace wC:=ah (by simpa using wC);refine zD 1<|Jg (b:=b7) (off:=0) (len:=4) (sz:=1) (d:Int) (by omega)<|zx (b:=b7) (off:=0+(d:Int).toNat*1) (m:=1) (vs:=[zI (x.at d)]) 0 [1] [(b7,.cells ⟨[zI x.a,zI x.b,zI x.c,zI x.d]⟩ 120 (0,0))] (λs _ hZ=>lR (hZ _ (.head _)) (vt (x:=x) (by omega)))<|zD 1<|Jg (b:=FL) (off:=0) (len:=4) (sz:=1) (d:Int) (by omega)<|zx (b:=FL) (off:=0+(d:Int).toNat*1) (m:=1) (vs:=[zI ((t.at k).at d)]) 0 [0] [(FL,.cells ⟨[zI ((t.at k).a),zI ((t.at k).b),zI ((t.at k).c),zI ((t.at k).d)]⟩ 120 (0,0))] (λs _ hZ=>lR (hZ _ (.head _)) (vt (x:=(t.at k)) (by omega)))<|zD 3<|zJ 40 ((x.at d)=((t.at k).at d)) (λh4=>?_) λh4=>?_
    ·
     refine zD 6<|zX _ ⟨by rw[asD (j:=k) (d:=d) (by omega) (by omega) ⟨by omega,by omega⟩],rfl⟩
    refine zD 3<|zW ((d:Int)+1)<|zD 2<|zY mb (d+1) ⟨by omega,λe he=>(Hy.1 he).elim (hJ.2 e) λh=>by subst h;exact λhm=>by simp only[M9] at hm;omega⟩ [0,1,2]
   have wC:=h3;replace wC:=ai (by simpa using wC);refine zD 12<|zW ((d:Int)+1)<|zD 2<|zY mb (d+1) ⟨by omega,λe he=>(Hy.1 he).elim (hJ.2 e) λh=>by subst h;exact λhm=>by simp only[M9] at hm;omega⟩ [0,1,2]
  refine zD 3<|zW ((k:Int)+1)<|zD 2<|zY cX (k+1) ⟨by omega,λj hj=>(Hy.1 hj).elim (hI.2 j) λh=>by subst h;exact λd2 hd2=>hJ.2 d2 (by omega)⟩ [1,2]
 refine zD 7<|zX _ ⟨by rw[asC (λj hj=>hI.2 j (by omega))],rfl⟩
theorem IA{κ:Type}[DecidableEq κ]{k:κ}{v:Value}:∀ {F:List (κ×Value)} {i:Nat},tV k F i=none->tV k (F++[(k,v)]) i=some (i+F.length,v)
 | [],i,_=>by simp[tV]
 |x::l,i,h=>by
  simp only[tV] at h;split at h
  .grind
  rename_i hk;rw[eg,tV,cJ hk,IA h,aK,show i+1+l.length=i+(l.length+1) by omega]
theorem abl{κ:Type}[DecidableEq κ]{k:κ}{v:Value}:∀ {F:List (κ×Value)} {i j:Nat} {u:Value},tV k F i=some (j,u)->tV k (yA k v F (j-i)) i=some (j,v)
 | [],_,_,_,h=>by cases h
 |x::l,i,j,u,h=>by
  simp only[tV] at h
  split at h
  .cases h;simp[yA,tV]
  rename_i hk
  have h2:=th h
  have:=abl (v:=v) h
  rw[show j-i=(j-(i+1))+1 by omega]
  simp_all[yA,tV,if_neg]
abbrev v4(a b c d:Int):Value:= .agg ⟨[zI a,zI b,zI c,zI d]⟩
def biN{P:Program}{z:List Value}(tf:TF P T (.array 4 3) sz dL z ag)(t3:TF P 3 (.int .i64) 1 by1 z1 false)(a b c d a' b' c' d':Int):
 EqD P (dep+2) T (v4 a b c d) (v4 a' b' c' d') (a==a'&&(b==b'&&(c==c'&&(d==d'&&true)))):=by
 intro α s k Q E;rw[Op.equalIn];simp only[aH,cY tf,ez t3];simp only[Std.Legacy.Range.forIn_eq_forIn_range',Std.Legacy.Range.size,Nat.sub_zero,Nat.add_sub_cancel,Nat.div_one,List.range'_succ,List.range'_zero,List.forIn_cons,List.forIn_nil,aH,iV,Nat.mul_one];have p (l:List Value) (o:Nat) (v:Value) (h:nth l o=some v):RD P 3 l o v:=oJ t3 h;rw[p _ 0 (zI a) rfl];simp only[aH];rw[p _ 0 (zI a') rfl];simp only[aH];rw[tq t3 a a'];cases ha:a==a' with
 |false=>simp only[pQ,dI,aQ,aH,wJ]
 |true=>
 simp only[pG,aX,cF,aQ,FO,aH];rw[p _ 1 (zI b) rfl];simp only[aH];rw[p _ 1 (zI b') rfl];simp only[aH];rw[tq t3 b b'];cases hb:b==b' with
 |false=>simp only[pQ,dI,aQ,aH,wJ]
 |true=>
 simp only[pG,aX,cF,aQ,FO,aH];rw[p _ 2 (zI c) rfl];simp only[aH];rw[p _ 2 (zI c') rfl];simp only[aH];rw[tq t3 c c'];cases hc:c==c' with
 |false=>simp only[pQ,dI,aQ,aH,wJ]
 |true=>
 simp only[pG,aX,cF,aQ,FO,aH];rw[p _ 3 (zI d) rfl];simp only[aH];rw[p _ 3 (zI d') rfl];simp only[aH];rw[tq t3 d d'];cases hd:d==d' with
 |false=>simp only[pQ,dI,aQ,aH,wJ]
 |true=>simp only[pG,aX,cF,aQ,FO,aH]
def ck4{P:Program}{z:List Value}(tf:TF P T (.array 4 3) sz dL z ag)(t3:TF P 3 (.int .i64) 1 by1 z1 false)(a b c d:Int):CkD P (dep+2) T (v4 a b c d):=by
 intro bb α K s Q E;rw[Instr.checkKey];simp only[aH,cY tf];simp only[Std.Legacy.Range.forIn_eq_forIn_range',Std.Legacy.Range.size,Nat.sub_zero,Nat.add_sub_cancel,Nat.div_one,List.range'_succ,List.range'_zero,List.forIn_cons,List.forIn_nil,aH,iV,ez t3,Nat.zero_mul,Nat.mul_one];have p (l:List Value) (o:Nat) (v:Value) (h:nth l o=some v):RD P 3 l o v:=oJ t3 h;rw[p _ 0 (zI a) rfl];simp only[aH];rw[MY t3 a bb];simp only[aQ,aH,ez t3,Nat.mul_one];rw[p _ 1 (zI b) rfl];simp only[aH];rw[MY t3 b bb];simp only[aQ,aH,ez t3,Nat.mul_one];rw[p _ 2 (zI c) rfl];simp only[aH];rw[MY t3 c bb];simp only[aQ,aH,ez t3,Nat.mul_one];rw[p _ 3 (zI d) rfl];simp only[aH];rw[MY t3 d bb];simp only[aQ,aH]
abbrev kvL(x:cy):Value:= .agg ⟨jF x⟩
def ahk:XP zT 120 kvL:=apE (qV Tryz.typeInfo120 Tryz.underlying120 rfl rfl rfl rfl rfl rfl) (λk=>⟨_,rfl⟩)
 (λk=>ck4 (dep:=9998) (qV Tryz.typeInfo120 Tryz.underlying120 rfl rfl rfl rfl rfl rfl) rF _ _ _ _)
 (λa b=>by
  have h:=biN (dep:=9998) (qV Tryz.typeInfo120 Tryz.underlying120 rfl rfl rfl rfl rfl rfl) rF a.a a.b a.c a.d b.a b.b b.c b.d;have e:(a.a==b.a&&(a.b==b.b&&(a.c==b.c&&(a.d==b.d&&true))))=decide (a=b):=by
   rcases a with ⟨x,y,z,t⟩;rcases b with ⟨u,v,w,r⟩
   rw[Gk];simp
  rwa[e] at h)
 (λk=>by simp[Instr.sameBits,jF])
def oK(k:IntKind)(a b:Int):Int:=k.wrap (BitVec.ofInt k.bits a&&& ~~~ BitVec.ofInt k.bits b).toNat
structure eH where
 (w m0 m1 m2:Value)
def eH.m(x:eH):Nat->Value
 |0=>x.m0
 |1=>x.m1
 |_=>x.m2
def Bb(x:eH):List Value:=[x.w,x.m0,x.m1,x.m2]
theorem PJ{x:eH}{k:Nat}(h:k <3):nth (Bb x) (1+(k:Int).toNat*1)=some (x.m k):=by
 rcases lt3 h with rfl|rfl|rfl<;>rfl
structure eT where
 (name:ByteArray)
 (st no lt:Int)
 (late:Bool)
 (low high:Int)
def tv(x:eT):List Value:=[.string x.name,zI x.st,zI x.no,zI x.lt,.bool x.late,zI x.low,zI x.high]
structure C1(ro:Nat->Option Obj)(Hb:Nat)(W:ky)(u:Value)(np ne:Nat)(ls:List cy)(ps:List eH)(mk:Nat->Nat->cy->Int):Prop where
 h:ro Hb=some (.cells ⟨W.cells u⟩ 113 (0,0))
 d:1<=W.D/\W.D<=4
 n3:np<=3
 pe:∃xs:List ByteArray,xs.length=np/\dq ro W.a3 1 nU xs
 e:∃es:List eT,es.length=ne/\dq ro W.a7 7 tv es
 e5:ne<=5
 l:dq ro u 4 jF ls
 ll:ls.length<=5000
 p:dq ro W.Ln 4 Bb ps
 pl:ps.length<=1000
 m:∀i x,ps[i]?=some x->∀j,j <np->∃r es ck F,x.m j= .map (some r)/\ro r=some (.map es ck)/\yH kvL F es ck/\∀y∈ls,RV (.int .u8 0) false y F= .int .u8 (mk i j y)
def C1.up{bU:Nat->Option Obj}{W:ky}{ls:List cy}{ps:List eH}{mk:Nat->Nat->cy->Int}(h:C1 ro Hb W u np ne ls ps mk)(hs:Sub ro bU):C1 bU Hb W u np ne ls ps mk:=
 ⟨hs _ _ h.h,h.d,h.n3,h.pe.imp λ_ k=>⟨k.1,k.2.up hs⟩,h.e.imp λ_ k=>⟨k.1,k.2.up hs⟩,h.e5,h.l.up hs,h.ll,h.p.up hs,h.pl,λi x hi j hj=>by
  obtain⟨r,es,ck,F,h1,h2,h3,h4⟩:=h.m i x hi j hj;exact⟨r,es,ck,F,h1,hs _ _ h2,h3,h4⟩⟩
def nQ(D:Int)(ls:List cy)(mk:Nat->Nat->cy->Int)(need:Int):Nat->cv->Nat->Int->List cv
 |0,t,_,m=>bif !decide (oK .u8 need m=0) then [] else [t]
 |k+1,t,p,m=>ls.flatMap λx=>bif ql D t p x then nQ D ls mk need k (t.put p x) (p+1) (iOr .u8 m (mk t.past.toNat p x)) else []
def Co(D:Int)(ls:List cy)(mk:Nat->Nat->cy->Int)(need:Int)(k:Nat)(t:cv)(p:Nat)(m:Int)(x:cy):List cv:=bif ql D t p x then nQ D ls mk need k (t.put p x) (p+1) (iOr .u8 m (mk t.past.toNat p x)) else []
theorem x5{ls:List cy}{mk:Nat->Nat->cy->Int}{k:Nat}{t:cv}{m:Int}:nQ D ls mk need (k+1) t p m=ls.flatMap (Co D ls mk need k t p m):=rfl
def M7(t t':cv)(p:Nat):Prop:=∀x,t'.put p x=t.put p x
theorem M7.past{t t':cv}(h:M7 t t' p):t'.past=t.past:=by
 have:=qt cv.past (h ⟨0,0,0,0⟩);have e:∀t:cv,(t.put p ⟨0,0,0,0⟩).past=t.past:=λt=>by unfold cv.put;grind
 grind
theorem M7.free{t t':cv}{x:cy}(h:M7 t t' p)(hp:p <3):ql D t' p x=ql D t p x:=by
 have e:∀j,j <p->t'.at j=t.at j:=λj hj=>by
  rw[<-cv.afQ (l:=⟨0,0,0,0⟩) hj hp,h,cv.afQ hj hp]
 simp only[ql]
 grind
theorem av6{t:cv}{x y:cy}:(t.put p x).put p y=t.put p y:=by
 rcases p with _|_|p<;>rfl
theorem M7.put{t t':cv}{y:cy}(h:M7 t t' p):M7 t (t'.put p y) p:=λx=>by rw[av6,h]
abbrev eTs(L:List cv):(Nat->Option Obj)->Nat->List Value->Cells->Prop:=λ_ k vs LL=>∃t,L[k]?=some t/\vs=[.agg ⟨NM t⟩]/\LL=[]
structure aue(ro:Nat->Option Obj)(bl Hb:Nat)(need:Int)(bw bn dL bg:Nat):Prop where
 w:ro bw=some (.cells ⟨[zP Hb]⟩ 103 (0,0))
 n:ro bn=some (.cells ⟨[.int .u8 need]⟩ 137 (0,0))
 y:ro dL=some (.cells ⟨[.func (.yield bl) #[] #[]]⟩ 223 (0,0))
 g:ro bg=some (.cells ⟨[.func (.func 141) ⟨[]⟩ ⟨[zP bw,zP bn,zP dL,zP bg]⟩]⟩ 224 (0,0))
def aCU(bl Hb:Nat)(W:ky)(u:Value)(np ne:Nat)(ls:List cy)(ps:List eH)(mk:Nat->Nat->cy->Int)(need:Int)(bw bn dL bg:Nat)(L:List cv)(Inv:Nat->Cells->Prop)(Stop:Cells->Prop)(n:Nat):Prop:=
 ∀(ro:Nat->Option Obj) (p:Nat) (t:cv) (m:Int) (q:Nat) (B:Cells),aue ro bl Hb need bw bn dL bg->C1 ro Hb W u np ne ls ps mk->p+n=np->(0<=t.past/\t.past <ps.length)->Part L q (nQ W.D ls mk need n t p m)->Inv q B->YOK zT bl ro L.length (eTs L) Inv Stop->
  eW zT 141 [.agg ⟨NM t⟩,zI (p:Int),.int .u8 m,zP bw,zP bn,zP dL,zP bg] ro B (λr Y=>∃c,r= .bool c/\(c=true->Inv (q+(nQ W.D ls mk need n t p m).length) Y)/\(c=false->Stop Y))
def apj{l:List α}{x:α}(h:l[j]?=some x):l=l.take j++[x]++l.drop (j+1):=by
 rw[<-cU h,fF]
theorem QX{l:List α}{x:α}{G:α->List β}(h:l[j]?=some x):((l.take (j+1)).flatMap G).length=((l.take j).flatMap G).length+(G x).length:=by
 rw[cU h,jC,aM,List.flatMap_singleton]
def aF6{n q:Nat}{t:cv}{m:Int}{B:Cells}{L:List cv}{Inv:Nat->Cells->Prop}{W:ky}{ls:List cy}{ps:List eH}{mk:Nat->Nat->cy->Int}(ih:∀k,k <n->aCU bl Hb W u np ne ls ps mk need bw bn dL bg L Inv Stop k)(iR:aue ro bl Hb need bw bn dL bg)(fb:C1 ro Hb W u np ne ls ps mk)(hpn:p+n=np)(hpa:0<=t.past/\t.past <ps.length)(hP:Part L q (nQ W.D ls mk need n t p m))(hB:Inv q B)(hy:YOK zT bl ro L.length (eTs L) Inv Stop):eW zT 141 [.agg ⟨[zI t.past,zI t.x.a,zI t.x.b,zI t.x.c,zI t.x.d,zI t.y.a,zI t.y.b,zI t.y.c,zI t.y.d,zI t.z.a,zI t.z.b,zI t.z.c,zI t.z.d]⟩,zI (p:Int),.int .u8 m,zP bw,zP bn,zP dL,zP bg] ro B (λr Y=>∃c,r= .bool c/\(c=true->Inv (q+(nQ W.D ls mk need n t p m).length) Y)/\(c=false->Stop Y)):=by
 obtain⟨gw,gn,gy,gg⟩:=id iR;obtain⟨xs,ME,yU⟩:=fb.pe;obtain⟨rI,qxb,qxo,ru,Bm,qxk,Y8,Y6⟩:=yU;obtain⟨es,wz,og⟩:=fb.e;obtain⟨iu,zu,zt,ia,Bo,Je,yu,yt⟩:=og;obtain⟨fQ,rK,rJ,fg,hle,tJ,nj,nY⟩:=fb.l;obtain⟨iD,zr,zo,g9,CL,CE,zq,zp⟩:=fb.p;have hH:ro Hb=some (.cells ⟨[W.a0,W.a1,W.a2,.slice rI xs.length ru,W.a4,zI W.D,zI W.S,.slice iu es.length ia,(.slice W.ha W.H W.iR),.slice fQ ls.length fg,.slice iD ps.length g9]⟩ 113 (0,0)):=by rw[<-Bm,<-Bo,<-hle,<-CL];exact fb.h
 have hn3:=fb.n3;have R5:=fb.e5;have FC:=fb.ll;have xE:=fb.pl;have hDD:=fb.d;refine zC [.l B]<|zD 2<|jn λb7=>zD 6<|jl (b:=bw) (off:=0) (m:=1) (vs:=[zP Hb]) 0 ⟨_,_,_,.inl gw,rfl⟩<|zD 3<|jl (b:=Hb) (off:=0) (m:=11) (vs:=[W.a0,W.a1,W.a2,.slice rI xs.length ru,W.a4,zI W.D,zI W.S,.slice iu es.length ia,(.slice W.ha W.H W.iR),.slice fQ ls.length fg,.slice iD ps.length g9]) 3 ⟨_,_,_,.inl hH,rfl⟩<|zD 3<|zJ 20 ((p:Int)=(xs.length:Int)) (λh1=>?_) λh1=>?_
 ·
  refine zD 2 ?_;obtain rfl:n=0:=by omega
  refine zD 1<|jl (b:=bn) (off:=0) (m:=1) (vs:=[.int .u8 need]) 0 ⟨_,_,_,.inl gn,rfl⟩<|zD 4<|js 25 (!decide ((oK .u8 need m)=0)) (λh2=>?_) (λh2=>?_)
  ·
   have n6:=h2;replace n6:=ah (by simpa using n6);refine zD 7<|zR (.bool true) [] [1] B ⟨_,rfl,(λ_=>by rw[show nQ W.D ls mk need 0 t p m=[] by simp only[nQ,h2];rfl];exact hB),nofun⟩
  have n6:=h2;replace n6:=ai (by simpa using n6);have aq1:nQ W.D ls mk need 0 t p m=[t]:=by simp only[nQ,h2];rfl
  have hel:=Part.get (i:=0) (x:=t) hP (by rw[aq1];rfl);refine jl (b:=dL) (off:=0) (m:=1) (vs:=[(.func (.yield bl) #[] #[])]) 0 ⟨_,_,_,.inl gy,rfl⟩<|jd 1 [0]<|jyc [1] (hy q [.agg ⟨[zI t.past,zI t.x.a,zI t.x.b,zI t.x.c,zI t.x.d,zI t.y.a,zI t.y.b,zI t.y.c,zI t.y.d,zI t.z.a,zI t.z.b,zI t.z.c,zI t.z.d]⟩] [] B ro hel.1 ⟨_,hel.2,rfl,rfl⟩ hB (Sub.refl _)) (Sub.refl _) ?_;intro v26 Y26 aGA;obtain⟨c26,rfl,bhg,bg2⟩:=yb aGA;refine zD 4<|zR (.bool c26) [] [0] _ ⟨_,rfl,(λh=>by rw[aq1];exact bhg h),bg2⟩
 refine zD 4 ?_;obtain⟨k,rfl⟩:∃k,n=k+1:=⟨n-1,by omega⟩;rw[x5] at hP;refine zD 1<|jl (b:=bw) (off:=0) (m:=1) (vs:=[zP Hb]) 0 ⟨_,_,_,.inl gw,rfl⟩<|zD 2<|jl (b:=Hb) (off:=0) (m:=11) (vs:=[W.a0,W.a1,W.a2,.slice rI xs.length ru,W.a4,zI W.D,zI W.S,.slice iu es.length ia,(.slice W.ha W.H W.iR),.slice fQ ls.length fg,.slice iD ps.length g9]) 9 ⟨_,_,_,.inl hH,rfl⟩<|zD 4<|iE [1,1,0,1,0,0] [] (λ(zz:Nat×cv×Cells)=>[(1,zI (p:Int)),(2,.int .u8 m),(3,zP bw),(6,zP bg),(7,zP b7),(33,.slice fQ ls.length fg),(34,zI (ls.length:Int)),(35,zI (zz.1:Int))]) (λzz=>[zxc b7 123 [zI zz.2.1.past,zI zz.2.1.x.a,zI zz.2.1.x.b,zI zz.2.1.x.c,zI zz.2.1.x.d,zI zz.2.1.y.a,zI zz.2.1.y.b,zI zz.2.1.y.c,zI zz.2.1.y.d,zI zz.2.1.z.a,zI zz.2.1.z.b,zI zz.2.1.z.c,zI zz.2.1.z.d],.l zz.2.2]) (λzz=>zz.1<=ls.length/\Inv (q+((ls.take zz.1).flatMap (Co W.D ls mk need k t p m)).length) zz.2.2/\M7 t zz.2.1 p) (λzz=>ls.length-zz.1) (⟨0,t,B⟩) ⟨Nat.zero_le _,by simpa using hB,λ_=>rfl⟩ [0,1] ?_;rintro⟨j,tt,B⟩ hJ K1 cX rest;dsimp only at hJ;refine zD 5<|zJ 36 ((j:Int) <(ls.length:Int)) (λh3=>?_) λh3=>?_
 ·
  refine zD 6<|zxt ls j fg 4 nj nY λjZ pg=>jn λHv=>jd 5 [0]<|jl (b:=bw) (off:=0) (m:=1) (vs:=[zP Hb]) 0 ⟨_,_,_,.inl gw,rfl⟩<|jd 3 [1,0]<|zxp [zP Hb,.agg ⟨[zI tt.past,zI tt.x.a,zI tt.x.b,zI tt.x.c,zI tt.x.d,zI tt.y.a,zI tt.y.b,zI tt.y.c,zI tt.y.d,zI tt.z.a,zI tt.z.b,zI tt.z.c,zI tt.z.d]⟩,zI (p:Int),.agg ⟨[zI jZ.a,zI jZ.b,zI jZ.c,zI jZ.d]⟩] (λhs=>aQQ (t:=tt) (p:=p) (x:=jZ) (hs _ _ fb.h) fb.d (by omega))<|zD 2<|js 44 (!(ql W.D tt p jZ)) (λh4=>?_) (λh4=>?_)
  ·
   try simp only[zB] at h4
   have Ku:Co W.D ls mk need k t p m jZ=[]:=by simp only[Co,show ql W.D t p jZ=false from by rw[<-hJ.2.2.free (by omega)];simpa using h4];rfl
   refine zD 3<|zW ((j:Int)+1)<|zD 2<|zF cX (⟨j+1,tt,B⟩) ⟨by dsimp only;rw[QX pg,Ku];exact hJ.2.1,hJ.2.2⟩ [1,2]
  try simp only[zB] at h4
  have SY:ql W.D t p jZ=true:=by rw[<-hJ.2.2.free (by omega)];simpa using h4
  have hpt:=(hJ.2.2.put (y:=jZ)).past;have Ku:Co W.D ls mk need k t p m jZ=nQ W.D ls mk need k (tt.put p jZ) (p+1) (iOr .u8 m (mk (tt.put p jZ).past.toNat p jZ)):=by rw[hpt,hJ.2.2 jZ];simp only[Co,SY,cH]
  have hPg:Part L (q+((ls.take j).flatMap (Co W.D ls mk need k t p m)).length) (nQ W.D ls mk need k (tt.put p jZ) (p+1) (iOr .u8 m (mk (tt.put p jZ).past.toNat p jZ))):=by rw[<-Ku];exact Part.flat hP (apj pg)
  refine jd 7 [0]<|Jg (b:=b7) (off:=1) (len:=3) (sz:=4) (p:Int) (by omega)<|jsx 1 b7 (1+(p:Int).toNat*4) [zI tt.past,zI tt.x.a,zI tt.x.b,zI tt.x.c,zI tt.x.d,zI tt.y.a,zI tt.y.b,zI tt.y.c,zI tt.y.d,zI tt.z.a,zI tt.z.b,zI tt.z.c,zI tt.z.d] [zI jZ.a,zI jZ.b,zI jZ.c,zI jZ.d] 123 (aG rfl) (avh (t:=tt) (l:=jZ) (by omega))<|jmw 0 [zxc b7 123 [zI ((tt.put p jZ).past),zI ((tt.put p jZ).x.a),zI ((tt.put p jZ).x.b),zI ((tt.put p jZ).x.c),zI ((tt.put p jZ).x.d),zI ((tt.put p jZ).y.a),zI ((tt.put p jZ).y.b),zI ((tt.put p jZ).y.c),zI ((tt.put p jZ).y.d),zI ((tt.put p jZ).z.a),zI ((tt.put p jZ).z.b),zI ((tt.put p jZ).z.c),zI ((tt.put p jZ).z.d)]] (L:=[(b7,.cells ⟨gZ [zI tt.past,zI tt.x.a,zI tt.x.b,zI tt.x.c,zI tt.x.d,zI tt.y.a,zI tt.y.b,zI tt.y.c,zI tt.y.d,zI tt.z.a,zI tt.z.b,zI tt.z.c,zI tt.z.d] (1+(p:Int).toNat*4) [zI jZ.a,zI jZ.b,zI jZ.c,zI jZ.d]⟩ 123 (0,0))]) (by show [(b7,Obj.cells ⟨gZ (NM tt) (1+(p:Int).toNat*4) (jF jZ)⟩ 123 (0,0))]=_;rw[avg (by omega)];rfl) ?_;refine zD 3<|jl (b:=bg) (off:=0) (m:=1) (vs:=[.func (.func 141) ⟨[]⟩ ⟨[zP bw,zP bn,zP dL,zP bg]⟩]) 0 ⟨_,_,_,.inl gg,rfl⟩<|jd 2 [0]<|zW ((p:Int)+1)<|zD 1<|jl (b:=bw) (off:=0) (m:=1) (vs:=[zP Hb]) 0 ⟨_,_,_,.inl gw,rfl⟩<|zD 2<|jl (b:=Hb) (off:=0) (m:=11) (vs:=[W.a0,W.a1,W.a2,.slice rI xs.length ru,W.a4,zI W.D,zI W.S,.slice iu es.length ia,(.slice W.ha W.H W.iR),.slice fQ ls.length fg,.slice iD ps.length g9]) 10 ⟨_,_,_,.inl hH,rfl⟩<|jd 3 [0] ?_;obtain⟨x61,aGH⟩:=zG ps ((tt.put p jZ).past.toNat);refine jsi ((tt.put p jZ).past) g9 4 zq aGH (cD (show 0<=(tt.put p jZ).past/\(tt.put p jZ).past <((ps).length:Int) from (by omega)).1).symm<|zD 1<|Jg (b:=zr) (off:=zo+(tt.put p jZ).past.toNat*4+1) (len:=3) (sz:=1) (p:Int) (by omega) ?_;obtain⟨mr,mes,mck,mF,hmv,Ag,hmE,hmL⟩:=fb.m _ _ aGH p (by omega);refine jl (b:=zr) (off:=zo+(tt.put p jZ).past.toNat*4+1+(p:Int).toNat*1) (m:=1) (vs:=[(.map (some mr))]) 0 (show eK ⟨ro,[]⟩ zr (zo+(tt.put p jZ).past.toNat*4+1+(p:Int).toNat*1) 1 [.map (some mr)] from by have:=Y3 (zp _ _ aGH) (PJ (x:=x61) (k:=p) (by omega));rw[hmv] at this;simpa [Nat.add_assoc] using this) ?_;refine jd 1 [1]<|zxo 17 λDX=>jlu (kv:=kvL) (F:=mF) (r:=mr) (K:=120) (jZ:cy) (.int .u8 0) false [] [] ahk (λs he _=>⟨_,_,he _ _ (.inl Ag),hmE⟩)<|eP DX [0,1,2]<|jw 17 (.int .u8 (mk (tt.put p jZ).past.toNat p jZ)) (hmL _ (zL pg))<|zD 1<|zxo 19 λwA=>jc (vs:=[.agg ⟨[zI ((tt.put p jZ).past),zI ((tt.put p jZ).x.a),zI ((tt.put p jZ).x.b),zI ((tt.put p jZ).x.c),zI ((tt.put p jZ).x.d),zI ((tt.put p jZ).y.a),zI ((tt.put p jZ).y.b),zI ((tt.put p jZ).y.c),zI ((tt.put p jZ).y.d),zI ((tt.put p jZ).z.a),zI ((tt.put p jZ).z.b),zI ((tt.put p jZ).z.c),zI ((tt.put p jZ).z.d)]⟩,zI ((p:Int)+1),.int .u8 (iOr .u8 m (mk (tt.put p jZ).past.toNat p jZ)),zP bw,zP bn,zP dL,zP bg]) [2] (ih k (by omega) _ (p+1) (tt.put p jZ) _ (q+((ls.take j).flatMap (Co W.D ls mk need k t p m)).length) _ iR fb (by omega) ⟨by rw[hJ.2.2.put.past];exact hpa.1,by rw[hJ.2.2.put.past];exact hpa.2⟩ hPg hJ.2.1 hy) ?_;rintro _ Y68 ⟨Yh,rfl,aIm,bgX⟩;refine eE wA [[1],[],[]]<|zD 2<|js 69 (!Yh) (λh7=>?_) (λh7=>?_)
  ·
   try simp only[zB] at h7
   refine zD 6<|zR (.bool false) [] [0] _ ⟨_,rfl,nofun,λ_=>bgX (by simp_all)⟩
  try simp only[zB] at h7
  refine zD 3<|zW ((j:Int)+1)<|zD 2<|zF cX (⟨j+1,(tt.put p jZ),Y68⟩) ⟨by dsimp only;rw[QX pg,Ku];rw[<-Nat.add_assoc];exact aIm (by simp_all),hJ.2.2.put⟩ [1,0]
 refine zD 7<|zR (.bool true) [] [1] B ⟨_,rfl,(λ_=>by rw[x5];have:=hJ.2.1;rwa[bF (by omega)] at this),nofun⟩
def aQP{W:ky}{ls:List cy}{ps:List eH}{mk:Nat->Nat->cy->Int}{L:List cv}{Inv:Nat->Cells->Prop}:∀n,aCU bl Hb W u np ne ls ps mk need bw bn dL bg L Inv Stop n:=by
 intro n
 induction n using Nat.strongRecOn with
 |_ n ih=>exact λro p t m q B hc hI hpn hpa hP hB hy=>aF6 ih hc hI hpn hpa hP hB hy
def aiR(i:Nat):cv:=⟨(i:Int),⟨0,0,0,0⟩,⟨0,0,0,0⟩,⟨0,0,0,0⟩⟩
def TK(D:Int)(ls:List cy)(mk:Nat->Nat->cy->Int)(np:Nat)(need:Int)(i:Nat):List cv:=nQ D ls mk need np (aiR i) 0 0
def j9(D:Int)(ls:List cy)(mk:Nat->Nat->cy->Int)(np k:Nat)(need:Int):List cv:=(List.range k).flatMap (TK D ls mk np need)
def aji{n:Nat}(h:j <n):∃r,List.range n=List.range j++[j]++r:=by
 refine⟨(List.range n).drop (j+1),?_⟩;have h1:(List.range n).take (j+1)=List.range (j+1):=by rw[List.take_range,Nat.min_eq_left h]
 rw[<-Gi,<-h1,fF]
def allM(n:Nat):Int:=IntKind.u8.wrap (iA .u8 1 (n:Int)-1)
def ad8{W:ky}{ls:List cy}{ps:List eH}{mk:Nat->Nat->cy->Int}(fb:C1 ro Hb W u np ne ls ps mk)(g1:ro bw=some (.cells ⟨[zP Hb]⟩ 103 (0,0)))(g2:ro bn=some (.cells ⟨[.int .u8 need]⟩ 137 (0,0))):ItX zT 140 [] [zP bw,zP bn] ro [] (j9 W.D ls mk np ps.length need).length (eTs (j9 W.D ls mk np ps.length need)) (λZ=>Z=[]):=by
 intro bl cK Inv Stop hs hy B hB;replace g1:=hs _ _ g1;replace g2:=hs _ _ g2;replace fb:=fb.up hs;obtain⟨xs,ME,yU⟩:=fb.pe;obtain⟨rI,qxb,qxo,ru,Bm,qxk,Y8,Y6⟩:=yU;obtain⟨es,wz,og⟩:=fb.e;obtain⟨iu,zu,zt,ia,Bo,Je,yu,yt⟩:=og;obtain⟨fQ,rK,rJ,fg,hle,tJ,nj,nY⟩:=fb.l;obtain⟨iD,zr,zo,g9,CL,CE,zq,zp⟩:=fb.p;have hH:cK Hb=some (.cells ⟨[W.a0,W.a1,W.a2,.slice rI xs.length ru,W.a4,zI W.D,zI W.S,.slice iu es.length ia,(.slice W.ha W.H W.iR),.slice fQ ls.length fg,.slice iD ps.length g9]⟩ 113 (0,0)):=by rw[<-Bm,<-Bo,<-hle,<-CL];exact fb.h
 have hn3:=fb.n3;have R5:=fb.e5;have FC:=fb.ll;have xE:=fb.pl;have hDD:=fb.d;refine zC [.l B]<|zD 2<|jn λb3=>zD 3<|jn λb4=>jd 8 [0]<|jf [0,1] ((b4,.cells ⟨[.func (.func 141) ⟨[]⟩ ⟨[zP bw,zP bn,zP b3,zP b4]⟩]⟩ 224 (0,0))::[(b3,.cells ⟨[(.func (.yield bl) #[] #[])]⟩ 223 (0,0))]) λAH fq gV=>jl (b:=bw) (off:=0) (m:=1) (vs:=[zP Hb]) 0 ⟨_,_,_,.inl (fq _ _ g1),rfl⟩<|zD 2<|jl (b:=Hb) (off:=0) (m:=11) (vs:=[W.a0,W.a1,W.a2,.slice rI xs.length ru,W.a4,zI W.D,zI W.S,.slice iu es.length ia,(.slice W.ha W.H W.iR),.slice fQ ls.length fg,.slice iD ps.length g9]) 10 ⟨_,_,_,.inl (fq _ _ hH),rfl⟩<|zD 4<|iE [1,1,1,1,0,0] [] (λ(zz:Nat×Cells)=>[(4,zP b4),(11,zI (ps.length:Int)),(12,zI (zz.1:Int))]) (λzz=>[.l zz.2]) (λzz=>zz.1<=ps.length/\Inv ((List.range zz.1).flatMap (TK W.D ls mk np need)).length zz.2) (λzz=>ps.length-zz.1) (⟨0,B⟩) ⟨Nat.zero_le _,by simpa using hB⟩ [0] ?_;rintro⟨i,B⟩ hI K1 cX rest;dsimp only at hI;refine zD 5<|zJ 13 ((i:Int) <(ps.length:Int)) (λh4=>?_) λh4=>?_
 ·
  refine zD 10 ?_;obtain⟨rr,hrr⟩:=aji (show i <ps.length by omega);refine zD 1<|jl (b:=b4) (off:=0) (m:=1) (vs:=[.func (.func 141) ⟨[]⟩ ⟨[zP bw,zP bn,zP b3,zP b4]⟩]) 0 ⟨_,_,_,.inl (gV _ (.head _)),rfl⟩<|zD 2<|jc (vs:=[.agg ⟨[zI (i:Int),zI 0,zI 0,zI 0,zI 0,zI 0,zI 0,zI 0,zI 0,zI 0,zI 0,zI 0,zI 0]⟩,zI 0,.int .u8 0,zP bw,zP bn,zP b3,zP b4]) [0] (aQP (need:=need) np _ 0 (aiR i) 0 ((List.range i).flatMap (TK W.D ls mk np need)).length _ ⟨(fq _ _ g1),(fq _ _ g2),gV _ (.tail _ (.head _)),gV _ (.head _)⟩ (fb.up fq) (iV _) ⟨Yl _,by show (i:Int) <_;omega⟩ (by have h:=Part.flat (L:=j9 W.D ls mk np ps.length need) (p:=0) (G:=TK W.D ls mk np need) ⟨[],[],by simp[j9],rfl⟩ hrr;rwa[iV] at h) hI.2 (YOK.up hy fq)) ?_;rintro _ Y18 ⟨c18,rfl,bhj,bg4⟩;refine zD 2<|js 19 (!c18) (λh5=>?_) (λh5=>?_)
  ·
   try simp only[zB] at h5
   refine zD 2<|bY q0.a (.tuple ⟨[]⟩) [] [0] Y18 fq ⟨_,_,rfl,rfl,[],_,rfl,rfl,.inr (bg4 (by simp_all))⟩
  try simp only[zB] at h5
  refine zD 3<|zW ((i:Int)+1)<|zD 2<|zF cX (⟨i+1,Y18⟩) (by dsimp only;rw[List.range_succ,List.flatMap_append,List.length_append,List.flatMap_singleton];exact bhj (by simp_all)) [0]
 refine zD 2<|bY q0.a (.tuple ⟨[]⟩) [] [0] B fq ⟨_,_,rfl,rfl,[],_,rfl,rfl,.inl (by have h:=hI.2;rwa[show i=ps.length by omega] at h)⟩
def V8:eW zT 109 [zP Hb,.int .u8 need] ro [] (λr Y=>∃b2 b3,r= .func (.func 140) ⟨[]⟩ ⟨[zP b2,zP b3]⟩/\Y=[(b2,.cells ⟨[zP Hb]⟩ 103 (0,0)),(b3,.cells ⟨[.int .u8 need]⟩ 137 (0,0))]):=by
 refine zE<|zD 2<|jn λb2=>jn λb3=>zD 8<|zR (.func (.func 140) ⟨[]⟩ ⟨[zP b2,zP b3]⟩) [] [1,0] _ ⟨_,_,rfl,rfl⟩
def ahi{W:ky}{ls:List cy}{ps:List eH}{mk:Nat->Nat->cy->Int}(fb:C1 ro Hb W u np ne ls ps mk):iz zT 81 [zP Hb] ro (.int .u8 (allM ne)):=by
 obtain⟨xs,ME,yU⟩:=fb.pe;obtain⟨rI,qxb,qxo,ru,Bm,qxk,Y8,Y6⟩:=yU;obtain⟨es,wz,og⟩:=fb.e;obtain⟨iu,zu,zt,ia,Bo,Je,yu,yt⟩:=og;obtain⟨fQ,rK,rJ,fg,hle,tJ,nj,nY⟩:=fb.l;obtain⟨iD,zr,zo,g9,CL,CE,zq,zp⟩:=fb.p;have hH:ro Hb=some (.cells ⟨[W.a0,W.a1,W.a2,.slice rI xs.length ru,W.a4,zI W.D,zI W.S,.slice iu es.length ia,(.slice W.ha W.H W.iR),.slice fQ ls.length fg,.slice iD ps.length g9]⟩ 113 (0,0)):=by rw[<-Bm,<-Bo,<-hle,<-CL];exact fb.h
 have hn3:=fb.n3;have R5:=fb.e5;have FC:=fb.ll;have xE:=fb.pl;have hDD:=fb.d;refine zE<|zD 10<|jl (b:=Hb) (off:=0) (m:=11) (vs:=[W.a0,W.a1,W.a2,.slice rI xs.length ru,W.a4,zI W.D,zI W.S,.slice iu es.length ia,(.slice W.ha W.H W.iR),.slice fQ ls.length fg,.slice iD ps.length g9]) 7 ⟨_,_,_,.inl hH,rfl⟩<|zD 1<|jsh (k:= .u8) (k':= .i64) (a:=1) (b:=(es.length:Int)) 137 (by omega)<|zD 4<|zX (.int .u8 (IntKind.u8.wrap ((iA .u8 1 (es.length:Int))-1))) ⟨by rw[<-wz];rfl,rfl⟩
end Go.L
