/- Part 9 of the proof. -/
import Derived.Test.YtfhaegdkhpdedaaGreatDoorS8
set_option maxRecDepth 100000
set_option maxHeartbeats 4000000
set_option linter.all false
namespace Go.L
open Go Go.Conc Go.Proofs
open Go.ConcR (KK wgBlock WgAt stA smA rd wr)
open Go.ConcM (OsLater)
variable {ro:Nat→Option Obj} {ways:List (List aT)} {α β:Type} {l:List aT} {Hb np ne d b p b1 j ck bl i dP b2 b3 NX r1 fc bw bn r dep by1 sz bg:Nat} {Stop:Cells→Prop} {u vS vT:Value} {seen:List Nat} {need n D h t:Int} {ch:aT} {T:TypeId} {z1:List Value} {LL:Cells} {ag:Bool}
def cz.set(x:cz)(d:Nat)(h:Int):cz:=match d with
 |0=>{x with a:=h}
 |1=>{x with b:=h}
 |2=>{x with c:=h}
 |_=>{x with d:=h}
theorem cz.set_set{x:cz}{h':Int}:(x.set d h).set d h'=x.set d h':=by
 rcases d with _|_|_|d<;>rfl
theorem apv{x:cz}(hd:d <4):gZ (jH x) (0+(d:Int).toNat*1) [.int .i64 h]=jH (x.set d h):=by
 rcases d with _|_|_|_|d<;>first|rfl|omega
def apw{x:cz}{v:Value}(hd:d <4):Nat.ble ((0+(d:Int).toNat*1)+[v].length) (jH x).length=true:=by
 rcases d with _|_|_|_|d<;>first|rfl|omega
def mZ(i k:Nat):List Int:=(List.range' i k).map λ(j:Nat)=>(j:Int)-1
def vM(D S:Int)(H:Nat):Nat->cz->Nat->List cz
 |0,x,_=>if awc x D S then [x] else []
 |m+1,x,d=>(mZ 0 (H+1)).flatMap λh=>vM D S H m (x.set d h) (d+1)
theorem aaZ{k:Nat}:mZ i (k+1)=((i:Int)-1)::mZ (i+1) k:=by rfl
def aCF:Code->Code
 | .cond _ x _=>x
 |_=> .skip
def aip:Code->Code
 | .block _ (.loop c)=>c
 | .block _ c=>c
 | .loop c=>c
 |_=> .skip
def rT(c:Code)(i:Nat):Array Oper:=fP (nZ [c]) i
def ay3(c:Code)(i:Nat):Code:=((nZ [c])[i]?).getD .skip
noncomputable def cA:Code:=aCF (ay2 151 2)
noncomputable def cB:Code:=aCF (ay3 cA 1)
noncomputable def cL:Code:=aip (ay2 151 4)
noncomputable def cI:Code:=aip (ay3 cL 2)
def aib:nZ [Jh 151]=[.region 0 (pM 151 0) false,.region 1 (pM 151 1) false,.cond (.tmp 15) cA .skip,.region 4 (pM 151 3) false,.block 0 (.loop cL)]:=by rfl
def aUO:nZ [cA]=[.region 2 (rT cA 0) false,.cond (.tmp 18) cB .skip,.ret]:=by rfl
def aUN:nZ [cB]=[.region 3 (rT cB 0) false]:=by rfl
def asF:nZ [cL]=[.region 5 (rT cL 0) false,.cond (.tmp 28) .skip (.exit 0),.block 1 cI,.region 6 (rT cL 3) false]:=by rfl
def aUM:nZ [cI]=[.region 7 (rT cI 0) false,.region 8 (rT cI 1) false]:=by rfl
section
variable {M:ES Tryz.prog 234 4} {Wg Mu Hb:Nat} {W:kg} {mS:Os} {fE:Array (Nat×ByteArray)}
def aRq(hM:RL M)(hD:1<=W.D/\W.D<=4)(hH1:W.H<=100000)
 (h1:ro b1=some (.cells ⟨[pV Hb]⟩ 103 (0,0)))(hH:ro Hb=some (.pending ⟨W.cells (.slice none 0 0)⟩ 113)):
 ∀(m:Nat) (x:cz) (d:Nat) (os:List cz) (cl:Frame) (NT:List Frame) (L:Cells),((d+m:Nat):Int)=W.D->
 gx Tryz.prog false ((fB M Wg Mu Hb W mS fE).Stp os) (G (cl.finish (.tuple #[])) NT) ⟨ro,L⟩->
 gx Tryz.prog false ((fB M Wg Mu Hb W mS fE).Stp (vM W.D W.S W.H m x d++os)) (G (Frame.enter Tryz.prog 151 ⟨[pV Hb,.agg ⟨jH x⟩,.int .i64 (d:Int),.func (.func 145) ⟨[]⟩ ⟨[pV Mu,pV b1]⟩]⟩ .normal) (cl::NT)) ⟨ro,L⟩:=by
 intro m
 induction m with
 |zero=>
  intro x d os cl NT L hd hk;have hT:=λl=>fJ Tryz.prog false ((fB M Wg Mu Hb W mS fE).Stp l);refine Vo (fn:=(Tryz.prog.funcs[151]?).getD default) (c:=Jh 151) (n:=40) (by kernel_rfl) (by kernel_rfl) (by kernel_rfl) (by rfl)<|tV (hT _) aib λl1 hl1=>?_;refine DC vo (hT _)<|jn λb5=>jd 1 []<|BG<|tV (hT _) hl1 λl2 ID=>?_;refine DC vo (hT _)<|jd 5 []<|jlh (b:=Hb) (off:=5) (l:=W.cells (.slice none 0 0)) hH (by decide) rfl<|jd 2 []<|BG<|Mr (hT _) (t:=true) (q:=decide ((d:Int)=W.D)) ID (by simp;omega) λl3 hl3=>?_;refine tV (hT _) aUO λl4 hl4=>?_;refine DC vo (hT _)<|jd 2 [0]<|jp (vs:=[pV Hb,.agg ⟨jH x⟩]) [] [] (λbU hs hZ=>ajS (hs _ _ hH) hD)<|jd 1 []<|BG ?_;cases hp:awc x W.D W.S with
  |false=>
   refine Mr (hT _) (t:=false) (q:=false) hl4 rfl λl5 hl5=>?_;refine agD (hT _)<|Y6 (hT _) hl5 λl6 Sa=>?_;have hg:vM W.D W.S W.H 0 x d++os=os:=by simp only[vM,hp];rfl
   rw[hg];exact aN7 vo (hT _) (fn:=(Tryz.prog.funcs[151]?).getD default) (.tuple #[]) [] [1] L (by kernel_rfl) hk
  |true=>
   refine Mr (hT _) (t:=true) (q:=true) hl4 rfl λl5 hl5=>?_;have hg:vM W.D W.S W.H 0 x d++os=x::os:=by simp only[vM,hp];rfl
   rw[hg];refine tV (hT _) aUN λl7 hl7=>?_;have:=px hl7;subst this;show TT _ _ (.inRegion (rT cB 0) (0::[1,2])::_) _ _ _ _ _;refine adi (hT _) (a:=ez (rT cB 0) 0) (.func (.func 145) ⟨[]⟩ ⟨[pV Mu,pV b1]⟩) (by kernel_rfl) (by kernel_rfl) (by decide) rfl<|aOa (hT _) (a:=ez (rT cB 0) 1) (q:=b5) (x:= .tmp 5) (U:=120) (l:=jH x) (.agg ⟨jH x⟩) (by kernel_rfl) (by kernel_rfl) (by kernel_rfl) (by kernel_rfl) (by decide) rfl [0] 120<|adj (hT _) (T':=gx Tryz.prog false ((fB M Wg Mu Hb W mS fE).Stp os)) (a:=ez (rT cB 0) 2) (y:= .tmp 19) (f:=145) (fi:=[]) (ca:=[pV Mu,pV b1]) (ws:=[.agg ⟨jH x⟩]) (xs:= #[.tmp 20]) (ats:=XJ (ez (rT cB 0) 2)) [.agg ⟨jH x⟩,pV Mu,pV b1] (by kernel_rfl) (by kernel_rfl) (by kernel_rfl) (n5 (by kernel_rfl)) (by decide) rfl (λcl2 L2 iu=>bdP hM h1 hH iu)<|Tj (hT _)<|Y6 (l:=l5) (hT _) hl5 λl6 Sa=>?_;exact aN7 vo (hT _) (fn:=(Tryz.prog.funcs[151]?).getD default) (.tuple #[]) [] [1] L (by kernel_rfl) hk
 |succ m ih=>
  intro x d os cl NT L hd hk;have hT:=λl=>fJ Tryz.prog false ((fB M Wg Mu Hb W mS fE).Stp l);have hd4:d <4:=by omega
  refine Vo (fn:=(Tryz.prog.funcs[151]?).getD default) (c:=Jh 151) (n:=40) (by kernel_rfl) (by kernel_rfl) (by kernel_rfl) (by rfl)<|tV (hT _) aib λl1 hl1=>?_;refine DC vo (hT _)<|jn λb5=>jd 1 []<|BG<|tV (hT _) hl1 λl2 ID=>?_;refine DC vo (hT _)<|jd 5 []<|jlh (b:=Hb) (off:=5) (l:=W.cells (.slice none 0 0)) hH (by decide) rfl<|jd 2 []<|BG<|Mr (hT _) (t:=false) (q:=decide ((d:Int)=W.D)) ID (by simp;omega) λl3 hl3=>?_;refine agD (hT _)<|tV (hT _) hl3 λl4 hl4=>?_;refine DC vo (hT _)<|jd 2 []<|BG<|Vp (hT _) hl4 λl5 hl5=>?_;have:=px hl5;subst this;refine aAA (hT _) (rest:=[]) rfl λl6 Sa=>?_;have:=px Sa;subst this;have loop:∀(r i:Nat) (y:cz) (q:Int),r+i=W.H+1->q=(i:Int)-1->(∀h,y.set d h=x.set d h)->∀rest,
   TT (gx Tryz.prog false ((fB M Wg Mu Hb W mS fE).Stp ((mZ i r).flatMap (λh=>vM W.D W.S W.H m (x.set d h) (d+1))++os))) (Xc 151 .normal) ([cL].map .code++(.inLoop cL::(.inBlock 0::[]))) (cl::NT) 40 [] ro
    (some ⟨.fin .normal,[(0,pV Hb),(2,.int .i64 (d:Int)),(3,.func (.func 145) ⟨[]⟩ ⟨[pV Mu,pV b1]⟩),(5,pV b5),(8,.int .i64 q)]++rest,[.b b5 (.cells ⟨jH y⟩ 120 (0,0)),.l L],⟨[],[]⟩⟩):=by
   intro r
   induction r with
   |zero=>
    intro i y q hi hq hy rest;refine tV (hT _) asF λm1 oK=>?_;refine DC vo (hT _)<|jd 4 []<|jlh (b:=Hb) (off:=8) (l:=W.cells (.slice none 0 0)) hH (by decide) rfl<|jd 3 []<|BG<|Mr (hT _) (t:=false) (q:=decide (q <(W.H:Int))) oK (by simp;omega) λm2 yN=>?_;refine aAB (hT _) (k':=[]) (by rw[Hv];simp[exitTo]) ?_;exact aOb (hT os) (fn:=(Tryz.prog.funcs[151]?).getD default) [1] L (by kernel_rfl) (by kernel_rfl) hk
   |succ r ih2=>
    intro i y q hi hq hy rest;have hs:(mZ i (r+1)).flatMap (λh=>vM W.D W.S W.H m (x.set d h) (d+1))++os=vM W.D W.S W.H m (y.set d q) (d+1)++((mZ (i+1) r).flatMap (λh=>vM W.D W.S W.H m (x.set d h) (d+1))++os):=by
     rw[aaZ,iL,bx,hy,hq]
    rw[hs];refine tV (hT _) asF λm1 oK=>?_;refine DC vo (hT _)<|jd 4 []<|jlh (b:=Hb) (off:=8) (l:=W.cells (.slice none 0 0)) hH (by decide) rfl<|jd 3 []<|BG<|Mr (hT _) (t:=true) (q:=decide (q <(W.H:Int))) oK (by simp;omega) λm2 yN=>?_;refine agD (hT _)<|Vp (hT _) yN λm3 hm3=>?_;refine tV (hT _) aUM λm4 hm4=>?_;refine DC vo (hT _)<|jd 2 []<|Dk (b:=b5) (off:=0) (len:=4) (sz:=1) (d:Int) (by omega)<|jsx 0 b5 (0+(d:Int).toNat*1) (jH y) [.int .i64 q] 120 (by intro v hv;rw[aU] at hv;subst hv;rfl) (apw hd4) ?_;refine jmw 0 [.b b5 (.cells ⟨jH (y.set d q)⟩ 120 (0,0))] (L:=[(b5,.cells ⟨gZ (jH y) (0+(d:Int).toNat*1) [.int .i64 q]⟩ 120 (0,0))]) (by rw[apv hd4];rfl) ?_;refine jd 1 []<|BG<|tV (hT _) hm4 λm5 hm5=>?_;have:=px hm5;subst this;show TT _ _ (.inRegion (rT cI 1) (0::[1,2,3,4,5])::_) _ _ _ _ _;refine adi (hT _) (a:=ez (rT cI 1) 0) (pV Hb) (by kernel_rfl) (by kernel_rfl) (by decide) rfl<|aOa (hT _) (a:=ez (rT cI 1) 1) (q:=b5) (x:= .tmp 5) (U:=120) (l:=jH (y.set d q)) (.agg ⟨jH (y.set d q)⟩) (by kernel_rfl) (by kernel_rfl) (by kernel_rfl) (by kernel_rfl) (by decide) rfl [0] 120<|adi (hT _) (a:=ez (rT cI 1) 2) (.int .i64 (d:Int)) (by kernel_rfl) (by kernel_rfl) (by decide) rfl<|adi (hT _) (a:=ez (rT cI 1) 3) (.int .i64 (IntKind.i64.wrap ((d:Int)+1))) (by kernel_rfl) (by kernel_rfl) (by decide) rfl<|adi (hT _) (a:=ez (rT cI 1) 4) (.func (.func 145) ⟨[]⟩ ⟨[pV Mu,pV b1]⟩) (by kernel_rfl) (by kernel_rfl) (by decide) rfl ?_;refine adj (hT _) (T':=gx Tryz.prog false ((fB M Wg Mu Hb W mS fE).Stp ((mZ (i+1) r).flatMap (λh=>vM W.D W.S W.H m (x.set d h) (d+1))++os))) (a:=ez (rT cI 1) 5) (y:= .func 151) (f:=151) (fi:=[]) (ca:=[]) (ws:=[pV Hb,.agg ⟨jH (y.set d q)⟩,.int .i64 (IntKind.i64.wrap ((d:Int)+1)),.func (.func 145) ⟨[]⟩ ⟨[pV Mu,pV b1]⟩]) (xs:= #[.tmp 34,.tmp 35,.tmp 37,.tmp 38]) (ats:=XJ (ez (rT cI 1) 5))
     [pV Hb,.agg ⟨jH (y.set d q)⟩,.int .i64 ((d+1:Nat):Int),.func (.func 145) ⟨[]⟩ ⟨[pV Mu,pV b1]⟩] (by kernel_rfl) (by kernel_rfl) (by kernel_rfl) (n5 (by kernel_rfl)) (by decide) rfl (λcl2 L2 iu=>ih (y.set d q) (d+1) _ cl2 (cl::NT) L2 (by omega) iu) ?_ (hvs:=by rw[lJ _ (by omega)];rfl)
    refine Tj (hT _)<|aAC (hT _)<|tV (hT _) hm3 λm7 hm7=>?_;have:=px hm7;subst this;refine DC vo (hT _)<|jd 1 []<|ja (q+1) (by omega)<|jd 2 []<|BG<|am8 (hT _)<|tSt (hT _) [(0,pV Hb),(2,.int .i64 (d:Int)),(3,.func (.func 145) ⟨[]⟩ ⟨[pV Mu,pV b1]⟩),(5,pV b5),(8,.int .i64 (q+1))] [.b b5 (.cells ⟨jH (y.set d q)⟩ 120 (0,0)),.l L] [0,1] λrest=>ih2 (i+1) (y.set d q) (q+1) (by omega) (by omega) (λh=>by rw[cz.set_set,hy]) rest
  exact tSt (hT _) [(0,pV Hb),(2,.int .i64 (d:Int)),(3,.func (.func 145) ⟨[]⟩ ⟨[pV Mu,pV b1]⟩),(5,pV b5),(8,.int .i64 (-1))] [.b b5 (.cells ⟨jH x⟩ 120 (0,0)),.l L] [0,1] λrest=>loop (W.H+1) 0 x (-1) (by omega) (by omega) (λh=>rfl) rest
end
noncomputable def atn(v:Nat):Nat:=((zq Tryz.prog 240 v (Frame.enter Tryz.prog 148 #[.pointer (some ⟨0,0,none⟩),.int .i64 1] .normal)).getD []).length
noncomputable def biX:Nat:=((Ci Tryz.prog 240 4 (Frame.enter Tryz.prog 150 #[.pointer (some ⟨0,0,none⟩)] .deferred)).getD []).length
def aJE(W:Nat):zq Tryz.prog 240 0 (Frame.enter Tryz.prog 148 #[.pointer (some ⟨W,0,none⟩),.int .i64 1] .normal)=some (List.replicate (atn 0) W):=by kernel_rfl
def aJD(W:Nat):zq Tryz.prog 240 1 (Frame.enter Tryz.prog 148 #[.pointer (some ⟨W,0,none⟩),.int .i64 1] .normal)=some (List.replicate (atn 1) W):=by kernel_rfl
def aJC(W:Nat):zq Tryz.prog 240 2 (Frame.enter Tryz.prog 148 #[.pointer (some ⟨W,0,none⟩),.int .i64 1] .normal)=some (List.replicate (atn 2) W):=by kernel_rfl
def aJB(W:Nat):zq Tryz.prog 240 3 (Frame.enter Tryz.prog 148 #[.pointer (some ⟨W,0,none⟩),.int .i64 1] .normal)=some (List.replicate (atn 3) W):=by kernel_rfl
def aUz(v:Nat)(h:v <4)(W:Nat):zq Tryz.prog 240 v (Frame.enter Tryz.prog 148 #[.pointer (some ⟨W,0,none⟩),.int .i64 1] .normal)=some (List.replicate (atn v) W):=by
 match v,h with
 |0,_=>exact aJE W
 |1,_=>exact aJD W
 |2,_=>exact aJC W
 |3,_=>exact aJB W
def aJA(W:Nat):Ci Tryz.prog 240 4 (Frame.enter Tryz.prog 150 #[.pointer (some ⟨W,0,none⟩)] .deferred)=some (List.replicate biX W):=by kernel_rfl
def ayD:nZ [Jh 149]=[.region 0 (pM 149 0) false,.region 1 (pM 149 1) false]:=by rfl
section
variable {M:ES Tryz.prog 234 4} {Wg Mu Hb:Nat} {W:kg} {mS:Os} {fE:Array (Nat×ByteArray)}
def aGq(hM:RL M){bh ba:Nat}(hD:1<=W.D/\W.D<=4)(hH1:W.H<=100000)
 (h1:ro b1=some (.cells ⟨[pV Hb]⟩ 103 (0,0)))(hH:ro Hb=some (.pending ⟨W.cells (.slice none 0 0)⟩ 113))
 (gh:ro bh=some (.cells ⟨[.int .i64 h]⟩ 3 (0,0)))(ga:ro ba=some (.cells ⟨[.func (.func 145) ⟨[]⟩ ⟨[pV Mu,pV b1]⟩]⟩ 241 (0,0))):
 gx Tryz.prog false ((fB M Wg Mu Hb W mS fE).Stp (vM W.D W.S W.H (W.D.toNat-1) ⟨h,0,0,0⟩ 1)) (born Tryz.prog {target:= .fn (.func 149) ⟨[pV Wg,pV b1,pV bh,pV ba]⟩,args:= #[]}) ⟨ro,[]⟩:=by
 have hT:=λl=>fJ Tryz.prog false ((fB M Wg Mu Hb W mS fE).Stp l);refine aOd (fn:=(Tryz.prog.funcs[149]?).getD default) (c:=Jh 149) (n:=9) (by kernel_rfl) (by kernel_rfl) (by kernel_rfl) (by kernel_rfl) (by rfl)<|tV (hT _) ayD λl1 hl1=>?_;show TT _ _ (.inRegion (pM 149 0) [0]::_) _ _ _ _ _;refine am6 (hT _) (a:=ez (pM 149 0) 0) (f:=150) (xs:= #[.tmp 0]) (vs:=[pV Wg]) (ats:=XJ (ez (pM 149 0) 0)) (by kernel_rfl) (by kernel_rfl) (by kernel_rfl) (by decide) rfl<|tV (hT _) hl1 λl2 ID=>?_;have:=px ID;subst this;show TT _ _ (.inRegion (pM 149 1) (0::[1,2,3,4])::_) _ _ _ _ _;refine tLd (hT _) (pV Hb) (a:=ez (pM 149 1) 0) (x:= .tmp 1) (U:=103) (q:=b1) (by kernel_rfl) (by kernel_rfl) (by kernel_rfl) (by kernel_rfl) (by decide) rfl (λ_ _ _ _=> .inl h1)<|tLd (hT _) (.int .i64 h) (a:=ez (pM 149 1) 1) (x:= .tmp 2) (U:=3) (q:=bh) (by kernel_rfl) (by kernel_rfl) (by kernel_rfl) (by kernel_rfl) (by decide) rfl (λ_ _ _ _=> .inl gh)<|adi (hT _) (a:=ez (pM 149 1) 2) (.agg ⟨jH ⟨h,0,0,0⟩⟩) (by kernel_rfl) (by kernel_rfl) (by decide) rfl<|tLd (hT _) (.func (.func 145) ⟨[]⟩ ⟨[pV Mu,pV b1]⟩) (a:=ez (pM 149 1) 3) (x:= .tmp 3) (U:=241) (q:=ba) (by kernel_rfl) (by kernel_rfl) (by kernel_rfl) (by kernel_rfl) (by decide) rfl (λ_ _ _ _=> .inl ga) ?_;refine adj (hT _) (T':=gx Tryz.prog false ((fB M Wg Mu Hb W mS fE).Stp [])) (a:=ez (pM 149 1) 4) (y:= .func 151) (f:=151) (fi:=[]) (ca:=[]) (ws:=[pV Hb,.agg ⟨jH ⟨h,0,0,0⟩⟩,.int .i64 1,.func (.func 145) ⟨[]⟩ ⟨[pV Mu,pV b1]⟩]) (xs:= #[.tmp 4,.tmp 6,.const (.int .i64 1),.tmp 7]) (ats:=XJ (ez (pM 149 1) 4))
  [pV Hb,.agg ⟨jH ⟨h,0,0,0⟩⟩,.int .i64 ((1:Nat):Int),.func (.func 145) ⟨[]⟩ ⟨[pV Mu,pV b1]⟩] (by kernel_rfl) (by kernel_rfl) (by kernel_rfl) (n5 (by kernel_rfl)) (by decide) rfl (λcl2 L2 iu=>?_) ?_
 .have:=aRq hM (Wg:=Wg) (mS:=mS) (fE:=fE) hD hH1 h1 hH (W.D.toNat-1) ⟨h,0,0,0⟩ 1 [] cl2 [iq Tryz.prog] L2 (by omega) iu;rwa[e9] at this
 refine Tj (hT _)<|avs (E:=fB M Wg Mu Hb W mS fE) (fn:=(Tryz.prog.funcs[149]?).getD default) (dn:=150) (by kernel_rfl) (by kernel_rfl) (by kernel_rfl) (aJA Wg) N9 rfl rfl
end
section
variable {M:ES Tryz.prog 234 4} {Wg Mu Hb:Nat} {W:kg} {mS:Os} {fE:Array (Nat×ByteArray)} {Fin:Goroutine->Prop} {c:Frame} {cs:List Frame}
def b1E(P:Program)(ty:TypeId):List Frame->Bool
 |f::s=>match ac2 P ty gA f s with
  |some (_,_,_,_,b1,_)=>b1.isEmpty
  |none=>false
 | []=>false
def ank{P:Program}{ty:TypeId}{X:Nat}{main:Bool}{Live:World->Prop}{st:Frame->Bool}{ds Lq:List FD}{cs:List Frame}{g:Goroutine}(hL:∀w,Live w->j9 ty X w gA){ks:List (Nat×Nat)}(h:∀v,Comes X Lq [] ks (mT st P ty gA (fe ds v)))(hb:∀v,b1E P ty (fe ds v)=true)(eB:AtD ds cs g):
 ∃g',(∀w,stepG P main g w= .go g' w (ks.map (Ey X)).toArray)/\∃m,Pure P main Live (AtD Lq cs) m g':=by
 obtain⟨f,fs,h1,rfl⟩:=eB;obtain⟨v,hv⟩:=h1.mk;have h:=h v;have hb:=hb v;rw[<-hv] at h hb;obtain⟨f',s',bs,h2,h3,h4⟩:=h.ok;simp only[mT] at h2;split at h2<;>try (cases h2;done)
 rename_i oe gQ ws' ks' b1 b2 h5;split at h2<;>try (cases h2;done)
 rename_i f2 s2 b3 h6;obtain⟨rfl,rfl,rfl,rfl,rfl⟩:=h2;simp only[b1E,h5,List.isEmpty_iff] at hb;exact⟨_,λw=>HU h5 (λb hm=>h4 b (by simp[hm])) (λb hm=>h4 b (by simp[hm])) (.inl ⟨rfl,hb⟩) cs main,W5 hL h6 (λb hm=>h4 b (by simp[hm])) cs λg hg=>⟨_,_,h3,hg⟩⟩
def aZV(X:Nat)(v:Nat->Nat->Value):b1E Tryz.prog 240 (fe (sKd X) v)=true:=by rfl
section
variable (hF:Fin (G (c.finish (.tuple #[])) cs)) (kp:∀g g',g.status= .running->g'.status= .running->(∀w,stepG Tryz.prog true g w= .go g' w #[])->Fin g'->Fin g)
include hF kp
def az2{g:Goroutine}(h:AtD (Sv Wg) (c::cs) g):∃g',(∀w,WgAt 240 Wg w 0 0->stepG Tryz.prog true g w= .go g' w #[rd (stA Wg)])/\(fB M Wg Mu Hb W mS fE).pw ((fB M Wg Mu Hb W mS fE).Ke Fin) g':=by
 obtain⟨f,fs,h1,rfl⟩:=h;obtain⟨v,hv⟩:=h1.mk;have h2:=w_0 Wg v;rw[<-hv] at h2;obtain⟨f',s',uu,k1,k2,k3⟩:=gE h2 N9;exact⟨_,λw hw=>k3 _ _ w (.inr (kX (fB M Wg Mu Hb W mS fE).oO hw)),uV (E:=fB M Wg Mu Hb W mS fE) k1 k2 λ_ _ _ k1 k2=>Fw hF kp k1 k2⟩
def aM8{g:Goroutine}{n:Nat}(h1:1<=n)(h4:n<=4)(h:AtD (Mw Wg n) (c::cs) g):∃g',(∀w,WgAt 240 Wg w ((n:Int)*KK) 0->stepG Tryz.prog true g w= .go g' (w.setCell (stA Wg) (.int .u64 ((n:Int)*KK+1))) #[rd (stA Wg),Go.ConcR.wr (stA Wg)])/\(fB M Wg Mu Hb W mS fE).pw ((fB M Wg Mu Hb W mS fE).Wr Fin) g':=by
 obtain⟨f,fs,hf,rfl⟩:=h;obtain⟨v,hv⟩:=hf.mk;obtain⟨k,h2⟩:=w_h Wg v h1 h4;rw[<-hv] at h2;obtain⟨f',s',uu,k1,k2,k3⟩:=gE h2 N9;exact⟨_,λw hw=>k3 _ _ w (.inr (kX (fB M Wg Mu Hb W mS fE).oO hw)),uV (E:=fB M Wg Mu Hb W mS fE) k1 k2 λ_ _ _ k1 k2=>UR (E:=fB M Wg Mu Hb W mS fE) hF kp k1 k2⟩
def az0:∀(b:Nat),b<=4->∀ {g:Goroutine},AtD (Sv Wg) (c::cs) g->(fB M Wg Mu Hb W mS fE).W1 Fin b g
 |0,_,g,h=>⟨h.run.1,az2 hF kp h⟩
 |b+1,hb,g,h=>by
  refine⟨h.run.1,az2 hF kp h,λn h1 h2=>?_⟩;obtain⟨g',k1,m,k2⟩:=Vr (main:=true) (λw hw=>tq (fB M Wg Mu Hb W mS fE).oO hw) (λv=>w_v Wg v h1 (by omega)) h;refine⟨g',λw hw=>k1 w (kX (fB M Wg Mu Hb W mS fE).oO hw),m,x3 (λg hg=>?_) k2⟩;refine⟨hg.run.1,aM8 hF kp h1 (by omega) hg,λk hk=>?_⟩;obtain⟨g2,j1,m2,j2⟩:=Vr (main:=true) (λw hw=>tq (fB M Wg Mu Hb W mS fE).oO hw) (λv=>w_m Wg v (show n<=4 by omega) hk) hg;exact⟨g2,λw hw=>j1 w (kX (fB M Wg Mu Hb W mS fE).oO hw),m2,x3 (λg hg=>az0 b (by omega) hg) j2⟩
def au8:(fB M Wg Mu Hb W mS fE).pw ((fB M Wg Mu Hb W mS fE).Kd Fin) (G (Frame.enter Tryz.prog 152 #[pV Wg] .normal) (c::cs)):=by
 obtain⟨m,hm⟩:=EY (main:=true) (λw hw=>tq (fB M Wg Mu Hb W mS fE).oO hw) (aZW Wg) (c::cs);refine⟨m,x3 (λg hg=>?_) hm⟩;obtain⟨g',k1,m2,k2⟩:=ank (main:=true) (λw hw=>tq (fB M Wg Mu Hb W mS fE).oO hw) (λv=>aZU Wg v) (λv=>aZV Wg v) hg;exact⟨hg.run.1,g',λw=>k1 w,m2,x3 (λg hg=>az0 hF kp 4 (by omega) hg) k2⟩
end
end
noncomputable def lL:Code:=aip (ay2 111 5)
noncomputable def lI:Code:=aip (ay3 lL 2)
def aJZ:nZ [Jh 111]=[.region 0 (pM 111 0) false,.region 1 (pM 111 1) false,.region 2 (pM 111 2) false,.region 3 (pM 111 3) false,.region 4 (pM 111 4) false,.block 0 (.loop lL),.region 11 (pM 111 6) false]:=by rfl
def asG:nZ [lL]=[ay3 lL 0,.cond (.tmp 13) .skip (.exit 0),.block 1 lI,.region 9 (rT lL 3) false,.region 10 (rT lL 4) false,.region 6 (rT lL 5) false]:=by rfl
def aJY:nZ [lI]=[.region 7 (rT lI 0) false,.region 8 (rT lI 1) false]:=by rfl
def wkL(W:kg)(h:Int):List cz:=vM W.D W.S W.H (W.D.toNat-1) ⟨h,0,0,0⟩ 1
def DZ(W:kg):List cz:=(mZ 0 (W.H+1)).flatMap (wkL W)
theorem zn{f:α->List β}{B:Nat}:∀ {l:List α},(∀x∈l,(f x).length<=B)->(l.flatMap f).length<=l.length*B
 | [],_=>by simp
 |x::l,h=>by
  have h1:=h x (by simp);have h2:=zn (l:=l) λy hy=>h y (by grind)
  grind [aL,aJ,acz]
theorem Hd(i k:Nat):(mZ i k).length=k:=by simp[mZ]
theorem Uu{S:Int}{H:Nat}:∀(m:Nat) (x:cz) (d:Nat),(vM D S H m x d).length<=(H+1)^m
 |0,x,d=>by
  grind [vM]
 |m+1,x,d=>by
  have:=zn (f:=λh=>vM D S H m (x.set d h) (d+1)) (l:=mZ 0 (H+1)) λh _=>Uu m _ _
  grind [Hd,vM,Nat.pow_succ,Nat.mul_comm]
def U7{W:kg}(hD:1<=W.D/\W.D<=4)(hH:W.H<=3)(h:Int):(wkL W h).length<=64:=by
 refine bZ (Uu _ _ _)<|bZ (Nat.pow_le_pow_left (show W.H+1<=4 by omega) _)<|bZ (pH (by simp) (show W.D.toNat-1<=3 by omega)) (by simp)
theorem aa0(i k:Nat):mZ i (k+1)=mZ i k++[((i+k:Nat):Int)-1]:=by
 simp[mZ,List.range'_concat]
section
variable {M:ES Tryz.prog 234 4} {W:kg}
def aRp(hM:RL M)(hD:1<=W.D/\W.D<=4)(hH3:W.H<=3):
 Sm Tryz.prog 111 [pV Hb] ro [(Hb,.cells ⟨W.cells (.slice none 0 0)⟩ 113 (0,0))] (λv Y=>v= .tuple #[]/\∃l u X,l.Perm (DZ W)/\bI u 4 120 jH l X/\Y=(Hb,.cells ⟨W.cells u⟩ 113 (0,0))::X):=by
 rintro fr main T ⟨rfl,mS,fE,Post,rfl⟩ cl NT kr _;have hT:=GG Tryz.prog mS fE Post;refine Vo (fn:=(Tryz.prog.funcs[111]?).getD default) (c:=Jh 111) (n:=20) (by kernel_rfl) (by kernel_rfl) (by kernel_rfl) (by rfl)<|tV hT aJZ λl1 hl1=>?_;refine DC vo hT<|jn λb1=>jd 1 []<|jg 1 [.b Hb (.cells ⟨W.cells (.slice none 0 0)⟩ 113 (0,0)),.l fr]<|BG<|tV hT hl1 λl2 ID=>?_;show TT _ _ (.inRegion (pM 111 1) (0::[])::_) _ _ _ _ _;refine aN8 hT (a:=ez (pM 111 1) 0) (f:=λq=> .pointer (some ⟨q,0,none⟩)) (ob:= .cells #[.int .i32 0,.int .u32 0] 234 (0,0)) (by kernel_rfl) (by kernel_rfl) (λe q=>by kernel_rfl) (by decide) rfl λMu=>?_;refine Tj hT<|tV hT ID λl3 hl3=>?_;show TT _ _ (.inRegion (pM 111 2) (0::[])::_) _ _ _ _ _;refine aN8 hT (a:=ez (pM 111 2) 0) (f:=λq=> .pointer (some ⟨q,0,none⟩)) (ob:=wgBlock 240 0 0) (by kernel_rfl) (by kernel_rfl) (λe q=>by kernel_rfl) (by decide) rfl λWg=>?_;refine Tj hT<|tV hT hl3 λl4 hl4=>?_;refine DC vo hT<|jd 1 []<|jn λba=>jd 2 [0]<|BG<|avt (E:=fB M Wg Mu Hb W mS fE) (Fin:=agj (fB M Wg Mu Hb W mS fE) (Good Tryz.prog Post) (DZ W) (acb (fB M Wg Mu Hb W mS fE) ro ((ba,.cells ⟨[.func (.func 145) ⟨[]⟩ ⟨[pV Mu,pV b1]⟩]⟩ 241 (0,0))::(b1,.cells ⟨[pV Hb]⟩ 103 (0,0))::fr))) (Q:=Good Tryz.prog Post) (v0:= .slice none 0 0) 1 2 4 ((ba,.cells ⟨[.func (.func 145) ⟨[]⟩ ⟨[pV Mu,pV b1]⟩]⟩ 241 (0,0))::(b1,.cells ⟨[pV Hb]⟩ 103 (0,0))::fr) hT (bI.nil _ _ _) (λL cK hl=>?_);have gba:cK ba=some (.cells ⟨[.func (.func 145) ⟨[]⟩ ⟨[pV Mu,pV b1]⟩]⟩ 241 (0,0)):=hl.kn _ (.head _);have gb1:cK b1=some (.cells ⟨[pV Hb]⟩ 103 (0,0)):=hl.kn _ (.tail _ (.head _));have gH:cK Hb=some (.pending ⟨W.cells (.slice none 0 0)⟩ 113):=hl.hole;generalize bhZ:agj (fB M Wg Mu Hb W mS fE) (Good Tryz.prog Post) (DZ W) (acb (fB M Wg Mu Hb W mS fE) ro ((ba,.cells ⟨[.func (.func 145) ⟨[]⟩ ⟨[pV Mu,pV b1]⟩]⟩ 241 (0,0))::(b1,.cells ⟨[pV Hb]⟩ 103 (0,0))::fr))=Fin;have JG:∀pend nw os,Closed Tryz.prog true (TG (fB M Wg Mu Hb W mS fE) Fin L (Good Tryz.prog Post) pend nw os 0):=λpend nw os=>AO (E:=fB M Wg Mu Hb W mS fE);refine tV (JG 0 0 []) hl4 λl5 hl5=>?_;refine DC vo (JG _ _ _)<|jn λb0=>jd 2 [0]<|BG<|Vp (JG _ _ _) hl5 λl6 Sa=>?_;refine aAA (JG _ _ _) (rest:=[]) rfl λl7 hl7=>?_;have:=px hl7;subst this;have loop:∀(r i:Nat) (q:Int) (bh:Nat) (AE:Nat->Option Obj),r+i=W.H+1->q=(i:Int)-1->Sub cK AE->∀rest,
  TT (TG (fB M Wg Mu Hb W mS fE) Fin L (Good Tryz.prog Post) 0 i ((mZ 0 i).flatMap (wkL W)) 0) (Xc 111 .normal) ([lL].map .code++(.inLoop lL::(.inBlock 0::(l6.map .code++[])))) (cl::NT) 20 [] AE
   (some ⟨.fin .normal,[(1,pV b1),(3,pV Wg),(4,pV ba),(5,pV bh)]++rest,[.b bh (.cells ⟨[.int .i64 q]⟩ 3 (0,0))],⟨[],[]⟩⟩):=by
  intro r
  induction r with
  |zero=>
   intro i q bh AE hi hq hs rest;have hH2:=hs _ _ gH;refine Y6 (JG _ _ _) asG λm1 oK=>?_;refine am7 vo (JG _ _ _)<|jd 2 [0]<|jl (b:=b1) (off:=0) (m:=1) (vs:=[pV Hb]) 0 ⟨_,_,_,.inl (hs _ _ gb1),rfl⟩<|jd 2 []<|jlh (b:=Hb) (off:=8) (l:=W.cells (.slice none 0 0)) hH2 (by decide) rfl<|jd 3 []<|BG<|Mr (JG _ _ _) (t:=false) (q:=decide (q <(W.H:Int))) oK (by simp;omega) λm2 yN=>?_;refine aAB (JG _ _ _) (k':=l6.map .code++[]) (by rw[Hv];simp[exitTo]) ?_;refine tV (JG _ _ _) Sa λl8 hl8=>?_;have:=px hl8;subst this;show TT _ _ (.inRegion (pM 111 6) [0]::_) _ _ _ _ _;have:i=W.H+1:=by omega
   subst this bhZ;refine aEp (E:=fB M Wg Mu Hb W mS fE) (a:=ez (pM 111 6) 0) (f:=152) (x:= .tmp 3) (ats:=XJ (ez (pM 111 6) 0)) hl hs hT (λl u X1 hp kS=>?_) (by kernel_rfl) (by kernel_rfl) (by kernel_rfl) (n5 (by kernel_rfl)) (by decide) rfl (λFin c cs hF kp=>au8 hF kp);refine aOb hT (fn:=(Tryz.prog.funcs[111]?).getD default) [0] ((Hb,.cells ⟨W.cells u⟩ 113 (0,0))::(X1++((ba,.cells ⟨[.func (.func 145) ⟨[]⟩ ⟨[pV Mu,pV b1]⟩]⟩ 241 (0,0))::(b1,.cells ⟨[pV Hb]⟩ 103 (0,0))::fr))) (by kernel_rfl) (by kernel_rfl)<|kr (.tuple #[]) _ ⟨_,(Hb,.cells ⟨W.cells u⟩ 113 (0,0))::X1,rfl,gM (J:=[(ba,.cells ⟨[.func (.func 145) ⟨[]⟩ ⟨[pV Mu,pV b1]⟩]⟩ 241 (0,0)),(b1,.cells ⟨[pV Hb]⟩ 103 (0,0))]) ?_ (Sub.refl _),rfl,l,u,X1,hp,kS,rfl⟩;rw[dK,dK,bx];exact .cons _ (.append_left _ (iB (l₁:=[_,_])))
  |succ r ih=>
   intro i q bh AE hi hq hs rest;have hH2:=hs _ _ gH;refine Y6 (JG _ _ _) asG λm1 oK=>?_;refine am7 vo (JG _ _ _)<|jd 2 [0]<|jl (b:=b1) (off:=0) (m:=1) (vs:=[pV Hb]) 0 ⟨_,_,_,.inl (hs _ _ gb1),rfl⟩<|jd 2 []<|jlh (b:=Hb) (off:=8) (l:=W.cells (.slice none 0 0)) hH2 (by decide) rfl<|jd 3 []<|BG<|Mr (JG _ _ _) (t:=true) (q:=decide (q <(W.H:Int))) oK (by simp;omega) λm2 yN=>?_;refine agD (JG _ _ _)<|Vp (JG _ _ _) yN λm3 hm3=>?_;refine tV (JG _ _ _) aJY λm4 hm4=>?_;show TT _ _ (.inRegion (rT lI 0) [0]::_) _ _ _ _ _;refine aOe (E:=fB M Wg Mu Hb W mS fE) (a:=ez (rT lI 0) 0) (f:=148) (x:= .tmp 3) (ats:=XJ (ez (rT lI 0) 0)) ?_ (by kernel_rfl) (by kernel_rfl) (by kernel_rfl) (n5 (by kernel_rfl)) (by decide) rfl (by show i <4;omega) (aUz i (by omega) Wg) N9;refine tV (JG 1 _ _) hm4 λm5 hm5=>?_;have:=px hm5;subst this;show TT _ _ (.inRegion (rT lI 1) (0::[1])::_) _ _ _ _ _;refine adi (JG 1 _ _) (a:=ez (rT lI 1) 0) (.func (.func 149) ⟨[]⟩ ⟨[pV Wg,pV b1,pV bh,pV ba]⟩) (by kernel_rfl) (by kernel_rfl) (by decide) rfl ?_;have wK:((mZ 0 i).flatMap (wkL W)++wkL W q).length<=5000:=by
    have e1:=U7 hD hH3 q;have e2:=zn (f:=wkL W) (l:=mZ 0 i) (B:=64) λh _=>U7 hD hH3 h;rw[Hd] at e2;rw[aL];omega
   refine bbh (E:=fB M Wg Mu Hb W mS fE) (wkL W q) (a:=ez (rT lI 1) 1) (f:=149) (y:= .tmp 17) (ca:=[pV Wg,pV b1,pV bh,pV ba]) (ats:=XJ (ez (rT lI 1) 1)) [(bh,.cells ⟨[.int .i64 q]⟩ 3 (0,0))] wK (by kernel_rfl) (by kernel_rfl) (by kernel_rfl) (by decide) rfl (λAD hs3 Uf=>⟨?_,?_⟩)
   .have C9:=Sub.trans hs hs3;exact aGq hM hD (by omega) (C9 _ _ gb1) (C9 _ _ gH) (Uf _ (.head _)) (C9 _ _ gba)
   have hos:(mZ 0 i).flatMap (wkL W)++wkL W q=(mZ 0 (i+1)).flatMap (wkL W):=by
    rw[aa0,iF,iE,<-hq];simp
   rw[hos];refine Tj (JG _ _ _) (aAC (JG _ _ _) ?_);refine tV (JG _ _ _) hm3 λm7 hm7=>?_;refine DC vo (JG _ _ _)<|jl (b:=bh) (off:=0) (m:=1) (vs:=[.int .i64 q]) 0 ⟨_,_,_,.inl (Uf _ (.head _)),rfl⟩<|jd 1 []<|BG<|tV (JG _ _ _) hm7 λm8 hm8=>?_;refine DC vo (JG _ _ _)<|jn λbn=>jd 2 [0]<|BG<|tV (JG _ _ _) hm8 λm9 hm9=>?_;have:=px hm9;subst this;refine DC vo (JG _ _ _)<|jd 1 [0]<|ja (q+1) (by omega)<|jd 2 [0]<|BG<|am8 (JG _ _ _)<|tSt (JG _ _ _) [(1,pV b1),(3,pV Wg),(4,pV ba),(5,pV bn)] [.b bn (.cells ⟨[.int .i64 (q+1)]⟩ 3 (0,0))] [0] λrest=>ih (i+1) (q+1) bn AD (by omega) (by omega) (Sub.trans hs hs3) rest
 exact tSt (JG _ _ _) [(1,pV b1),(3,pV Wg),(4,pV ba),(5,pV b0)] [.b b0 (.cells ⟨[.int .i64 (-1)]⟩ 3 (0,0))] [0] λrest=>loop (W.H+1) 0 (-1) b0 cK (by omega) (by omega) (Sub.refl _) rest
end
noncomputable def aFL:ES Tryz.prog 234 4 where
 At:=TQ.At
 running:=TQ.running
 step:=λh1 h2 h3=>TQ.step h1 h2 (bZ h3 (by omega))
 block:=TQ.block
 la:=TQ.la
 ue:=TQ.ue
def aQF:RL aFL:=⟨λMu k cs=>aem k,λMu k cs=>Vj k⟩
def apQ{W:kg}(hD:1<=W.D/\W.D<=4)(hH3:W.H<=3):
 Sm Tryz.prog 111 [pV Hb] ro [(Hb,.cells ⟨W.cells (.slice none 0 0)⟩ 113 (0,0))] (λv Y=>v= .tuple #[]/\∃l u X,l.Perm (DZ W)/\bI u 4 120 jH l X/\Y=(Hb,.cells ⟨W.cells u⟩ 113 (0,0))::X):=aRp aQF hD hH3
section
variable {X:Cx} {o:Option JS}
def jcF{f:FuncId}{vs:List Value}{own:Cells}{Φ:Value->Cells->Prop}(ps:List Nat)(JF:HM X.P f=true)(hf:eT X.P f vs X.ro own Φ)(hj:∀v Y,Φ v Y->J X (r8 ps v Y o))(h1:iJ X.n (aio X.n) o=some (f,vs):=by kernel_rfl)(h2:fV ps o=some own:=by kernel_rfl):J X o:=by
 obtain⟨ops,i,todo,k,e,w,kn,p,rfl,ho,hw,hc⟩:=gK h1;have hcb:zt X.P X.n p e=some (f,vs):=by unfold zt;rw[hc];simp only[JF,cG]
 obtain⟨ff,x,xs,at_,fi,ca,ws,aX,hx,xP,rfl⟩:=we hcb;intro ep;rcases p with ⟨dst,op,ty,pos,gf,g⟩
 dsimp only at aX;subst aX;have hp:=dS h2;refine zd (fi:=⟨fi⟩) (ca:=⟨ca⟩) (ws:=fi++ws++ca) X.hC ho hw hx ff xP (XN fi ws ca) (Fn.weaken X.hC (eT.aDT (s:=⟨X.ro,den w⟩) hp hf)) (λv' s' hr=>?_) (λch s' hr=>by obtain⟨_,_,e,_⟩:=hr;cases e) (λs' hr=>by obtain⟨_,_,e,_⟩:=hr;cases e);obtain⟨v,Y,hv,uK,hle⟩:=hr;cases hv;have:=hj _ Y uK;rw[tF ho] at this;have:=this ep;simp only[JP,lG] at this;exact this.more X.hC hle
end
def FR(lt:α->α->Bool):List α->α->List α
 | [],x=>[x]
 |y::R,x=>bif lt x y then y::FR lt R x else x::y::R
theorem aaG{lt:α->α->Bool}{x:α}:∀ {R:List α},(FR lt R x).length=R.length+1
 | []=>rfl
 |y::R=>by
  simp only[FR];cases lt x y with
  |true=>simp only[cG,aJ,aaG]
  |false=>rfl
theorem Iy{lt:α->α->Bool}{x z:α}:∀ {R:List α},z∈FR lt R x↔z=x\/z∈R
 | []=>by simp[FR]
 |y::R=>by
  simp only[FR];cases lt x y with
  |true=>simp only[cG,aN,Iy];grind
  |false=>simp
theorem apU{lt:α->α->Bool}{x:α}:∀ {R B:List α},G6 lt R.length (R.reverse++x::B)=(FR lt R x).reverse++B
 | [],B=>rfl
 |y::R,B=>by
  have e1:((y::R).reverse++x::B)[R.length+1]?=some x:=by rw[sj (by simp)];simp
  have e2:((y::R).reverse++x::B)[R.length]?=some y:=by rw[kD (by simp),List.reverse_cons,sj (by simp)];simp
  have e3:(((y::R).reverse++x::B).set (R.length+1) y).set R.length x=R.reverse++x::(y::B):=by
   rw[List.reverse_cons,bx,List.set_append_right _ _ (by simp),List.set_append_right _ _ (by simp)];simp
  simp only[aJ,G6,e1,e2,e3,FR];cases lt x y with
  |true=>simp only[cG];rw[apU (R:=R) (B:=y::B)];simp
  |false=>simp
def Vv{lt:α->α->Bool}:∀ {C R:List α},s9 lt C.length R.length (R.reverse++C)=(C.foldl (FR lt) R).reverse
 | [],R=>by simp[s9]
 |x::C,R=>by
  simp only[aJ,s9,apU];rw[<-aaG];exact Vv
structure aco{α:Type}(lt:α->α->Bool):Prop where
 tr:∀ {x y z:α},lt x y=true->lt y z=true->lt x z=true
 jD:∀ {x y:α},x≠y->lt x y=true\/lt y x=true
 asy:∀ {x y:α},lt x y=true->lt y x=false
def ahA{lt:α->α->Bool}(hL:aco lt){x:α}:∀ {R:List α},R.Pairwise (λa b=>lt b a=true)->x∉R->(FR lt R x).Pairwise (λa b=>lt b a=true)
 | [],_,_=>by simp[FR]
 |y::R,h,hx=>by
  rw[oS] at h;simp_all;simp only[FR];cases hc:lt x y with
  |true=>
   simp only[cG];refine oS.2 ⟨λz hz=>?_,ahA hL h.2 hx.2⟩;rcases Iy.1 hz with rfl|hz
   .exact hc
   exact h.1 z hz
  |false=>
   have hyx:lt y x=true:=(hL.jD hx.1).resolve_left (by rw[hc];decide);refine oS.2 ⟨λz hz=>?_,oS.2 h⟩;rcases aN.1 hz with rfl|hz
   .exact hyx
   exact hL.tr (h.1 z hz) hyx
theorem ah6{lt:α->α->Bool}(hL:aco lt):∀ {C R:List α},R.Pairwise (λa b=>lt b a=true)->C.Nodup->(∀x∈C,x∉R)->(C.foldl (FR lt) R).Pairwise (λa b=>lt b a=true)
 | [],R,h,_,_=>h
 |x::C,R,h,hn,hd=>by
  rw[iG] at hn;rw[lS];refine ah6 hL (ahA hL h (hd x (by simp))) hn.2 λz hz hz2=>?_;rcases Iy.1 hz2 with rfl|hz2
  all_goals grind
theorem w9{lt:α->α->Bool}(hL:aco lt){xs:List α}(hn:xs.Nodup):(dO lt xs).Pairwise (λa b=>lt a b=true):=by
 cases xs with
 |nil=>simp[dO,s9]
 |cons a C=>
  have e:dO lt (a::C)=(C.foldl (FR lt) [a]).reverse:=by
   have:=Vv (lt:=lt) (C:=C) (R:=[a])
   grind [dO]
  grind [ah6,aU]
theorem AR{lt:α->α->Bool}(hL:aco lt):∀ {l m:List α},l.Pairwise (λa b=>lt a b=true)->m.Pairwise (λa b=>lt a b=true)->(∀x,x∈l↔x∈m)->l=m
 | [],[],_,_,_=>rfl
 | [],b::m,_,_,h=>absurd ((h b).2 (by simp)) (by simp)
 |a::l,[],_,_,h=>absurd ((h a).1 (by simp)) (by simp)
 |a::l,b::m,h1,h2,h=>by
  rw[oS] at h1 h2;have irr:∀ {x:α},lt x x=true->False:=λ{x} hx=>by have:=hL.asy hx;rw[hx] at this;cases this
  have IM:a=b:=by
   rcases aN.1 ((h a).1 (by simp)) with e|ha
   .exact e
   rcases aN.1 ((h b).2 (by simp)) with e|hb
   .exact e.symm
   have k1:=h2.1 a ha;have k2:=h1.1 b hb;rw[hL.asy k1] at k2;cases k2
  subst IM;congr 1;refine AR hL h1.2 h2.2 λx=>⟨λhx=>?_,λhx=>?_⟩
  all_goals grind
theorem xq{x y:au}:Ir x y=true↔mL x y:=by
 grind [Ir,NU,orL,uf,mL]
theorem SF:aco Ir where
 tr h1 h2:=by rw[xq] at*;simp only[mL] at*;omega
 jD {x y} h:=by
  rw[xq,xq];simp only[mL];rcases x with ⟨a,b⟩;rcases y with ⟨c,d⟩
  grind
 asy {x y} h:=by
  grind [xq,Ir,mL]
def TB{f:α->Nat}{e:α}:∀ {l:List α},(l.map f).Nodup->e∈l->l.Perm (e::l.filter λx=> !decide (f x=f e))
 | [],_,h=>by cases h
 |x::l,kT,h=>by
  simp only[bR,iG] at kT;rcases aN.1 h with rfl|h
  .have:(e::l).filter (λx=> !decide (f x=f e))=l:=by
    simp_all
   rw[this]
  have eA:f x≠f e:=λhe=>kT.1 (he▸cY h);rw[List.filter_cons_of_pos (by simp[eA])];exact(List.Perm.cons x (TB kT.2 h)).trans (.swap _ _ _)
theorem P3{κ:Type}{kv:κ->Value}{F:List (κ×Value)}{es:Array MapEntry}(hE:wN kv F es ck){e:MapEntry}(he:e∈gq es seen):(gq es seen).Perm (e::gq es (seen++[e.born])):=by
 have h1:gq es (seen++[e.born])=(gq es seen).filter λx=> !decide (x.born=e.born):=by
  grind [gq,List.filter_filter]
 rw[h1];exact TB (hE.2.1.sublist (List.filter_sublist.map _)) he
def T5:Value->ak
 | .agg ⟨[.int _ a,.int _ b,.int _ c]⟩=>⟨a,b,c⟩
 |_=>⟨0,0,0⟩
def InP(es:Array MapEntry)(F:List (ak×Value))(seen:List Nat)(S:List (ak×Value)):Prop:=(S++(gq es seen).map λe=>(T5 e.key,e.val)).Perm F
def InP.start{es:Array MapEntry}{F:List (ak×Value)}(hE:wN mw F es ck):InP es F [] []:=by
 have h:=qz (List.map λx:Value×Value=>(T5 x.1,x.2)) hE.1;simp only[qU,nk] at h;have e:(F.map λx=>(T5 (mw x.1),x.2))=F:=by
  simp[T5,mw,id,List.map_id]
 simp only[InP,E8,aY];rw[h,e]
theorem InP.step{es:Array MapEntry}{F:List (ak×Value)}{S:List (ak×Value)}{e:MapEntry}{k:ak}{v:Value}(h:InP es F seen S)(hE:wN mw F es ck)(he:e∈gq es seen)(hk:e.key=mw k)(hv:e.val=v):InP es F (seen++[e.born]) (S++[(k,v)]):=by
 refine List.Perm.trans ?_ h;have h1:=((P3 hE he).map λe=>(T5 e.key,e.val)).symm;rw[bR,hk,hv] at h1;rw[bx];exact .append_left _ h1
theorem InP.fin{es:Array MapEntry}{F:List (ak×Value)}{S:List (ak×Value)}(h:InP es F seen S)(he:gq es seen=[]):S.Perm F:=by
 grind [InP]
theorem abz{lt:α->α->Bool}{x:α}:∀ {C R:List α},x∈C.foldl (FR lt) R↔x∈R\/x∈C
 | [],R=>by simp
 |y::C,R=>by
  rw[lS,abz,Iy,aN]
  grind
theorem lU{lt:α->α->Bool}{x:α}{xs:List α}:x∈dO lt xs↔x∈xs:=by
 cases xs with
 |nil=>rfl
 |cons a C=>
  have e:dO lt (a::C)=(C.foldl (FR lt) [a]).reverse:=by
   have:=Vv (lt:=lt) (C:=C) (R:=[a])
   grind [dO]
  grind [abz]
def iP(s:Int)(L:List ak):List au:=(L.filter λx=>decide (x.h=s)).map λx=>⟨x.n,x.l⟩
theorem Lu{s l:Int}{L:List ak}:iP s (L++[⟨s,n,l⟩])=iP s L++[⟨n,l⟩]:=by simp[iP]
theorem Xt{s:Int}{x:ak}{L:List ak}(h:x.h≠s):iP s (L++[x])=iP s L:=by grind [iP]
theorem pz{s:Int}{L:List ak}:(iP s L).length<=L.length:=by grind [iP,dE]
theorem akO{s:Int}{L M:List ak}(h:L.Perm M):(iP s L).Perm (iP s M):=(h.filter _).map _
def uJ(g:ak->List ak)(S:List (ak×Value)):List ak:=S.flatMap λe=>g e.1
theorem G8{g:ak->List ak}{es:Array MapEntry}{F S:List (ak×Value)}(h:InP es F seen S):(uJ g S).length<=(uJ g F).length:=by
 have:=(h.flatMap_right λe=>g e.1).length_eq
 grind [aL,uJ]
theorem Eb{g:ak->List ak}{S:List (ak×Value)}{k:ak}{v:Value}:uJ g (S++[(k,v)])=uJ g S++g k:=by simp[uJ]
theorem vG{g:ak->List ak}{F:List (ak×Value)}{H:List ak}(h:F.map (·.1)=H):uJ g F=H.flatMap g:=by grind [uJ,List.flatMap_map]
theorem agc{g:ak->List ak}{F S:List (ak×Value)}{H:List ak}{s:Int}(h:S.Perm F)(hk:F.map (·.1)=H)(kT:(iP s (H.flatMap g)).Nodup):dO Ir (iP s (uJ g S))=dO Ir (iP s (H.flatMap g)):=by
 have hp:(iP s (uJ g S)).Perm (iP s (H.flatMap g)):=by
  rw[<-vG hk];grind [akO,uJ,Perm]
 grind [AR,SF,w9,lU]
def ayx{I3:Array MapEntry}{F1:List (ak×Value)}{H:List ak}{g:ak->List ak}(Au:RI ro r1 H g I3 NX F1)(hn:(H.flatMap g).length<=12)(hS:∀h∈H,∀x∈g h,x.h=0)(kT:(iP 0 (H.flatMap g)).Nodup):eT zT 172 [(.map (some r1)),zI 1] ro [] (λr Y=>∃a n c,r= .agg ⟨[.slice a n c]⟩/\∀bU,Knows bU Y->bH bU (.slice a n c) [dO Ir (iP 0 (H.flatMap g))]):=by
 refine zE<|zD 2<|jn λb4=>zD 4<|aRy (E:=98) (z:= zS) λGy=>jg 0 [zxc Gy 98 [zS]]<|zD 1<|jn λb5=>jd 6 [0]<|jmR Au.m λOa=>jg 0 [.b Oa (vi r1 NX [])]<|zD 2<|uI<|iz [1,1,0,1,0,0] [] (λ(zz:(List Nat)×(List (ak×Value))×Value×Cells×(List au))=>[(4,zP b4),(5,zP b5),(16,zP Oa)]) (λ(zz:(List Nat)×(List (ak×Value))×Value×Cells×(List au))=>[.b Oa (vi r1 NX zz.1),zxc Gy 98 [zz.2.2.1],.l zz.2.2.2.1,zxc b5 24 [.slice (some ⟨Gy,0,none⟩) 1 1],zxc b4 24 [zS]]) (λ(zz:(List Nat)×(List (ak×Value))×Value×Cells×(List au))=>InP I3 F1 zz.1 zz.2.1/\zz.2.2.2.2=iP 0 (uJ g zz.2.1)/\bI zz.2.2.1 2 39 cv zz.2.2.2.2 zz.2.2.2.1) (λ(zz:(List Nat)×(List (ak×Value))×Value×Cells×(List au))=>(gq I3 zz.1).length) (⟨[],[],zS,[],[]⟩) ⟨InP.start Au.e,rfl,bI.nil _ _ _⟩ [1,3,0,2,4] ?_;rintro⟨seen,T,w0,L0,p0⟩ hI K1 cU rest;dsimp only at hI;refine zD 2<|jmN (it:=Oa) (kv:=mw) (seen:=seen) 0 Au.m Au.e (λR6 v17 e17 ae1 qo aeW ap9=>?_) (λaxL=>?_)
 ·
  have hvv:dk ro v17 3 bO (g R6):=Au.v _ ae1;obtain⟨Zs,qvb,qvo,Nq,rfl,qvk,qvh,qvl⟩:=hvv;have hsg:∀x∈g R6,x.h=0:=hS _ (by rw[<-Au.k];exact List.mem_map_of_mem (f:=(·.1)) ae1);have ei:=Bc qo;have dt:=hI.1.step Au.e qo aeW ap9;have hbd:=G8 (g:=g) dt;rw[Eb,vG Au.k,List.length_append] at hbd;refine jg 0 [.b Oa (vi r1 NX (seen++[e17.born]))]<|zD 8<|jmE (it:=Oa) 0 Au.m Au.e qo aeW ap9<|jg 0 [.b Oa (vi r1 NX (seen++[e17.born]))]<|zD 10<|iz [1,1,0,1,0,0,1,1,0,1,1,0,0] [K1] (λ(zz:Nat×Value×Cells×(List au))=>[(4,zP b4),(5,zP b5),(16,zP Oa),(21,.slice Zs ((g R6).length) Nq),(22,zI ((g R6).length:Int)),(23,zI (zz.1:Int))]) (λzz=>[.b Oa (vi r1 NX (seen++[e17.born])),zxc Gy 98 [zz.2.1],.l zz.2.2.1,zxc b5 24 [.slice (some ⟨Gy,0,none⟩) 1 1],zxc b4 24 [zS]]) (λzz=>zz.1<=(g R6).length/\zz.2.2.2=iP 0 (uJ g T++(g R6).take zz.1)/\bI zz.2.1 2 39 cv zz.2.2.2 zz.2.2.1) (λzz=>(g R6).length-zz.1) (⟨0,w0,L0,p0⟩) ⟨by dsimp only;omega,by simpa using hI.2.1,hI.2.2⟩ (zN 0 5) ?_;rintro⟨i,w0,L0,p0⟩ hJ K2 kU rest;dsimp only at hJ;have wm:p0.length<=(uJ g T).length+i:=by rw[hJ.2.1];exact Nat.le_trans pz (by rw[List.length_append,List.length_take];omega)
  refine zD 5<|zJ 24 ((i:Int) <((g R6).length:Int)) (λh1=>?_) λh1=>?_
  ·
   refine zD 6<|zxt (g R6) i Nq 3 qvh qvl (λwx jT=>?_);have rF:=hsg _ (zL jT);obtain⟨xh,xn,xl⟩:=wx;dsimp only at rF;subst rF;refine jn λb9=>jd 11 [0,4,0,4,0]<|jd 4 [2,0]<|zxo 12 λtx=>jn λSj=>eH tx (zN 1 6)<|zxo 13 λtw=>zxl cv Sj (⟨xn,xl⟩:au) 4 0 (hJ.2.2) (λJR JN L40 nX=>?_) (hb:=by simp only[List.length_cons,List.length_nil];omega);refine ee tw [[2],[5],[2],[5]]<|zD 1<|zxo 15 λC6=>jd 1 [4]<|kA C6<|zD 2<|zW ((i:Int)+1)<|zD 2<|zF kU (⟨i+1,(.slice JR ((p0++[(⟨xn,xl⟩:au)])).length JN),L40,(p0++[(⟨xn,xl⟩:au)])⟩) ⟨by dsimp only;rw[c8 jT,<-List.append_assoc,Lu,<-hJ.2.1],nX⟩ [3,4,0,5,6]
  refine zD 2<|dX cU (⟨(seen++[e17.born]),(T++[(R6,_)]),w0,L0,p0⟩) ⟨dt,by dsimp only;rw[hJ.2.1,Eb,List.take_of_length_le (by omega)],hJ.2.2⟩ ei (zN 0 5) (Sub.refl _)
 refine jg 0 [.b Oa (vi r1 NX seen)]<|jd 14 [3]<|iz [1,1,1,0,1,0,0] [] (λ(zz:Nat×Value×Cells×(List au))=>[(4,zP b4),(5,zP b5),(44,.slice (some ⟨Gy,0,none⟩) 1 1),(45,zI 1),(46,zI (zz.1:Int))]) (λzz=>[zxc Gy 98 [zz.2.1],.l zz.2.2.1,zxc b5 24 [.slice (some ⟨Gy,0,none⟩) 1 1],zxc b4 24 [zS]]) (λzz=>zz.1<=1/\zz.2.2.2=(if zz.1=0 then iP 0 (uJ g T) else dO Ir (iP 0 (uJ g T)))/\bI zz.2.1 2 39 cv zz.2.2.2 zz.2.2.1) (λzz=>1-zz.1) (⟨0,w0,L0,p0⟩) ⟨by dsimp only;omega,hI.2.1,hI.2.2⟩ (zN 1 4) ?_;rintro⟨k,w0,L0,p0⟩ hQ K6 hK6 rest;dsimp only at hQ;refine zD 5<|zJ 47 ((k:Int) <1) (λh5=>?_) λh5=>?_
 ·
  refine zD 6 ?_;have hk0:k=0:=by omega
  refine jw 46 (zI 0) (show Value.int .i64 (k:Int)= zI 0 by rw[hk0];rfl) ?_;refine jd 6 [0]<|jc (vs:=[w0,.func (.func 182) ⟨[]⟩ ⟨[]⟩]) [1] (afq hQ.2.2 (by rw[hQ.2.1,if_pos hk0];exact Nat.le_trans pz (Nat.le_trans (G8 hI.1) (by rw[vG Au.k];exact hn)))) ?_;rintro aOy Y51 ⟨ame,aqi,aqE⟩;refine zD 5<|zF hK6 (⟨1,w0,Y51,ame⟩) ⟨by dsimp only;rw[if_neg (by decide),aqi.1,hQ.2.1,if_pos hk0],aqE⟩ [1,0,2,3]
 refine jd 8 [2,3] ?_;have hk1:k=1:=by omega
 have hae:=agc (s:=0) (hI.1.fin axL) Au.k kT;exact zR (.agg ⟨[.slice (some ⟨Gy,0,none⟩) 1 1]⟩) [3] [0,1] ((Gy,.cells ⟨[w0]⟩ 98 (0,0))::L0) ⟨_,_,_,rfl,λbU hk=>⟨[w0],eZ [w0] (hk _ (.head _)) (λ_ _=>rfl),.cons (by have:=hQ.2.2;rw[hQ.2.1,cy (by omega),hae] at this;exact this.ju (λx hx=>hk x (.tail _ hx))) .nil⟩⟩
def ayw{I3:Array MapEntry}{F1:List (ak×Value)}{H:List ak}{g:ak->List ak}(Au:RI ro r1 H g I3 NX F1)(hn:(H.flatMap g).length<=12)(hS:∀h∈H,∀x∈g h,x.h=0\/x.h=1)(kT:(iP 0 (H.flatMap g)).Nodup)(bfz:(iP 1 (H.flatMap g)).Nodup):eT zT 172 [(.map (some r1)),zI 2] ro [] (λr Y=>∃a n c,r= .agg ⟨[.slice a n c]⟩/\∀bU,Knows bU Y->bH bU (.slice a n c) [dO Ir (iP 0 (H.flatMap g)),dO Ir (iP 1 (H.flatMap g))]):=by
 refine zE<|zD 2<|jn λb4=>zD 4<|jmS (E:=98) (z:= zS) λGy=>jg 0 [zxc Gy 98 [zS,zS]]<|zD 1<|jn λb5=>jd 6 [0]<|jmR Au.m λOa=>jg 0 [.b Oa (vi r1 NX [])]<|zD 2<|uI<|uI<|iz [1,1,0,1,0,0] [] (λ(zz:(List Nat)×(List (ak×Value))×Value×Cells×(List au)×Value×Cells×(List au))=>[(4,zP b4),(5,zP b5),(16,zP Oa)]) (λ(zz:(List Nat)×(List (ak×Value))×Value×Cells×(List au)×Value×Cells×(List au))=>[.b Oa (vi r1 NX zz.1),zxc Gy 98 [zz.2.2.1,zz.2.2.2.2.2.1],.l zz.2.2.2.1,.l zz.2.2.2.2.2.2.1,zxc b5 24 [.slice (some ⟨Gy,0,none⟩) 2 2],zxc b4 24 [zS]]) (λ(zz:(List Nat)×(List (ak×Value))×Value×Cells×(List au)×Value×Cells×(List au))=>InP I3 F1 zz.1 zz.2.1/\zz.2.2.2.2.1=iP 0 (uJ g zz.2.1)/\zz.2.2.2.2.2.2.2=iP 1 (uJ g zz.2.1)/\bI zz.2.2.1 2 39 cv zz.2.2.2.2.1 zz.2.2.2.1/\bI zz.2.2.2.2.2.1 2 39 cv zz.2.2.2.2.2.2.2 zz.2.2.2.2.2.2.1) (λ(zz:(List Nat)×(List (ak×Value))×Value×Cells×(List au)×Value×Cells×(List au))=>(gq I3 zz.1).length) (⟨[],[],zS,[],[],zS,[],[]⟩) ⟨InP.start Au.e,rfl,rfl,bI.nil _ _ _,bI.nil _ _ _⟩ [2,4,1,0,3,5] ?_;rintro⟨seen,T,w0,L0,p0,w1,L1,p1⟩ hI K1 cU rest;dsimp only at hI;refine zD 2<|jmN (it:=Oa) (kv:=mw) (seen:=seen) 0 Au.m Au.e (λR6 v17 e17 ae1 qo aeW ap9=>?_) (λaxL=>?_)
 ·
  have hvv:dk ro v17 3 bO (g R6):=Au.v _ ae1;obtain⟨Zs,qvb,qvo,Nq,rfl,qvk,qvh,qvl⟩:=hvv;have hsg:∀x∈g R6,x.h=0\/x.h=1:=hS _ (by rw[<-Au.k];exact List.mem_map_of_mem (f:=(·.1)) ae1);have ei:=Bc qo;have dt:=hI.1.step Au.e qo aeW ap9;have hbd:=G8 (g:=g) dt;rw[Eb,vG Au.k,List.length_append] at hbd;refine jg 0 [.b Oa (vi r1 NX (seen++[e17.born]))]<|zD 8<|jmE (it:=Oa) 0 Au.m Au.e qo aeW ap9<|jg 0 [.b Oa (vi r1 NX (seen++[e17.born]))]<|zD 10<|iz [1,1,0,1,0,0,1,1,0,1,1,0,0] [K1] (λ(zz:Nat×Value×Cells×(List au)×Value×Cells×(List au))=>[(4,zP b4),(5,zP b5),(16,zP Oa),(21,.slice Zs ((g R6).length) Nq),(22,zI ((g R6).length:Int)),(23,zI (zz.1:Int))]) (λzz=>[.b Oa (vi r1 NX (seen++[e17.born])),zxc Gy 98 [zz.2.1,zz.2.2.2.2.1],.l zz.2.2.1,.l zz.2.2.2.2.2.1,zxc b5 24 [.slice (some ⟨Gy,0,none⟩) 2 2],zxc b4 24 [zS]]) (λzz=>zz.1<=(g R6).length/\zz.2.2.2.1=iP 0 (uJ g T++(g R6).take zz.1)/\zz.2.2.2.2.2.2=iP 1 (uJ g T++(g R6).take zz.1)/\bI zz.2.1 2 39 cv zz.2.2.2.1 zz.2.2.1/\bI zz.2.2.2.2.1 2 39 cv zz.2.2.2.2.2.2 zz.2.2.2.2.2.1) (λzz=>(g R6).length-zz.1) (⟨0,w0,L0,p0,w1,L1,p1⟩) ⟨by dsimp only;omega,by simpa using hI.2.1,by simpa using hI.2.2.1,hI.2.2.2⟩ (zN 0 6) ?_;rintro⟨i,w0,L0,p0,w1,L1,p1⟩ hJ K2 kU rest;dsimp only at hJ;have wm:p0.length<=(uJ g T).length+i:=by rw[hJ.2.1];exact Nat.le_trans pz (by rw[List.length_append,List.length_take];omega)
  have be9:p1.length<=(uJ g T).length+i:=by rw[hJ.2.2.1];exact bZ pz (by rw[aL,cH];omega)
  refine zD 5<|zJ 24 ((i:Int) <((g R6).length:Int)) (λh1=>?_) λh1=>?_
  ·
   refine zD 6<|zxt (g R6) i Nq 3 qvh qvl (λwx jT=>?_);have rF:=hsg _ (zL jT);obtain⟨xh,xn,xl⟩:=wx;dsimp only at rF;rcases rF with rfl|rfl
   ·
    refine jn λb9=>jd 11 [0,5,0,5,0]<|jd 4 [2,0]<|zxo 12 λtx=>jn λSj=>eH tx (zN 1 7)<|zxo 13 λtw=>zxl cv Sj (⟨xn,xl⟩:au) 4 0 (hJ.2.2.2.1) (λJR JN L40 nX=>?_) (hb:=by simp only[List.length_cons,List.length_nil];omega);refine ee tw [[2],[6],[2],[6]]<|zD 1<|zxo 15 λC6=>jd 1 [4]<|kA C6<|zD 2<|zW ((i:Int)+1)<|zD 2<|zF kU (⟨i+1,(.slice JR ((p0++[(⟨xn,xl⟩:au)])).length JN),L40,(p0++[(⟨xn,xl⟩:au)]),w1,L1,p1⟩) ⟨by dsimp only;rw[c8 jT,<-List.append_assoc,Lu,<-hJ.2.1],by dsimp only;rw[c8 jT,<-List.append_assoc,Xt (x:=⟨0,xn,xl⟩) (s:=1) (show (0:Int)≠1 from by decide),<-hJ.2.2.1],nX,hJ.2.2.2.2⟩ [3,4,0,5,6,7]
   refine jn λb9=>jd 11 [0,5,0,5,0]<|jd 4 [2,0]<|zxo 12 λKX=>jn λSj=>eH KX (zN 1 7)<|zxo 13 λKW=>zxl cv Sj (⟨xn,xl⟩:au) 5 0 (hJ.2.2.2.2) (λJR JN L40 nX=>?_) (hb:=by simp only[List.length_cons,List.length_nil];omega);refine ee KW [[2],[6],[2],[6]]<|zD 1<|zxo 15 λWJ=>jd 1 [4]<|kA WJ<|zD 2<|zW ((i:Int)+1)<|zD 2<|zF kU (⟨i+1,w0,L0,p0,(.slice JR ((p1++[(⟨xn,xl⟩:au)])).length JN),L40,(p1++[(⟨xn,xl⟩:au)])⟩) ⟨by dsimp only;rw[c8 jT,<-List.append_assoc,Xt (x:=⟨1,xn,xl⟩) (s:=0) (show (1:Int)≠0 from by decide),<-hJ.2.1],by dsimp only;rw[c8 jT,<-List.append_assoc,Lu,<-hJ.2.2.1],hJ.2.2.2.1,nX⟩ [3,4,5,0,6,7]
  refine zD 2<|dX cU (⟨(seen++[e17.born]),(T++[(R6,_)]),w0,L0,p0,w1,L1,p1⟩) ⟨dt,by dsimp only;rw[hJ.2.1,Eb,List.take_of_length_le (by omega)],by dsimp only;rw[hJ.2.2.1,Eb,List.take_of_length_le (by omega)],hJ.2.2.2⟩ ei (zN 0 6) (Sub.refl _)
 refine jg 0 [.b Oa (vi r1 NX seen)]<|jd 14 [4]<|iz [1,1,1,0,1,0,0] [] (λ(zz:Nat×Value×Cells×(List au)×Value×Cells×(List au))=>[(4,zP b4),(5,zP b5),(44,.slice (some ⟨Gy,0,none⟩) 2 2),(45,zI 2),(46,zI (zz.1:Int))]) (λzz=>[zxc Gy 98 [zz.2.1,zz.2.2.2.2.1],.l zz.2.2.1,.l zz.2.2.2.2.2.1,zxc b5 24 [.slice (some ⟨Gy,0,none⟩) 2 2],zxc b4 24 [zS]]) (λzz=>zz.1<=2/\zz.2.2.2.1=(if zz.1=0 then iP 0 (uJ g T) else dO Ir (iP 0 (uJ g T)))/\zz.2.2.2.2.2.2=(if zz.1<=1 then iP 1 (uJ g T) else dO Ir (iP 1 (uJ g T)))/\bI zz.2.1 2 39 cv zz.2.2.2.1 zz.2.2.1/\bI zz.2.2.2.2.1 2 39 cv zz.2.2.2.2.2.2 zz.2.2.2.2.2.1) (λzz=>2-zz.1) (⟨0,w0,L0,p0,w1,L1,p1⟩) ⟨by dsimp only;omega,hI.2.1,hI.2.2.1,hI.2.2.2⟩ (zN 1 5) ?_;rintro⟨k,w0,L0,p0,w1,L1,p1⟩ hQ K9 hK9 rest;dsimp only at hQ;refine zD 5<|zJ 47 ((k:Int) <2) (λh8=>?_) λh8=>?_
 ·
  refine zD 6 ?_;rcases(show k=0\/k=1 by omega) with hk0|hk0
  ·
   refine jw 46 (zI 0) (show Value.int .i64 (k:Int)= zI 0 by rw[hk0];rfl) ?_;refine jd 6 [0]<|jc (vs:=[w0,.func (.func 182) ⟨[]⟩ ⟨[]⟩]) [1] (afq hQ.2.2.2.1 (by first| (rw[hQ.2.1,if_pos hk0];exact Nat.le_trans pz (Nat.le_trans (G8 hI.1) (by rw[vG Au.k];exact hn)))| (rw[hQ.2.2.1,if_pos (by omega)];exact Nat.le_trans pz (Nat.le_trans (G8 hI.1) (by rw[vG Au.k];exact hn))))) ?_;rintro aOy Y51 ⟨ame,aqi,aqE⟩;refine zD 5<|zF hK9 (⟨1,w0,Y51,ame,w1,L1,p1⟩) ⟨by dsimp only;rw[if_neg (by decide),aqi.1,hQ.2.1,if_pos hk0],by dsimp only;rw[if_pos (by decide),hQ.2.2.1,if_pos (by omega)],aqE,hQ.2.2.2.2⟩ [1,0,2,3,4]
  refine jw 46 (zI 1) (show Value.int .i64 (k:Int)= zI 1 by rw[hk0];rfl) ?_;refine jd 6 [0]<|jc (vs:=[w1,.func (.func 182) ⟨[]⟩ ⟨[]⟩]) [2] (afq hQ.2.2.2.2 (by first| (rw[hQ.2.1,if_pos hk0];exact Nat.le_trans pz (Nat.le_trans (G8 hI.1) (by rw[vG Au.k];exact hn)))| (rw[hQ.2.2.1,if_pos (by omega)];exact Nat.le_trans pz (Nat.le_trans (G8 hI.1) (by rw[vG Au.k];exact hn))))) ?_;rintro aOy Y51 ⟨ame,aqi,aqE⟩;refine zD 5<|zF hK9 (⟨2,w0,L0,p0,w1,Y51,ame⟩) ⟨by dsimp only;rw[if_neg (by decide),hQ.2.1,if_neg (by omega)],by dsimp only;rw[if_neg (by decide),aqi.1,hQ.2.2.1,if_pos (by omega)],hQ.2.2.2.1,aqE⟩ [1,2,0,3,4]
 refine jd 8 [3,4] ?_;have hk1:k=2:=by omega
 have hae:=agc (s:=0) (hI.1.fin axL) Au.k kT;have bhm:=agc (s:=1) (hI.1.fin axL) Au.k bfz;exact zR (.agg ⟨[.slice (some ⟨Gy,0,none⟩) 2 2]⟩) [4] [0,1,2] ((Gy,.cells ⟨[w0,w1]⟩ 98 (0,0))::(L0++L1)) ⟨_,_,_,rfl,λbU hk=>⟨[w0,w1],eZ [w0,w1] (hk _ (.head _)) (λ_ _=>rfl),.cons (by have:=hQ.2.2.2.1;rw[hQ.2.1,cy (by omega),hae] at this;exact this.ju (λx hx=>hk x (.tail _ (cZ _ hx)))) (.cons (by have:=hQ.2.2.2.2;rw[hQ.2.2.1,cy (by omega),bhm] at this;exact this.ju (λx hx=>hk x (.tail _ (gD _ hx)))) .nil)⟩⟩
theorem BX{x y:ak}:qW x y=true↔x.h <y.h\/(x.h=y.h/\mL ⟨x.n,x.l⟩ ⟨y.n,y.l⟩):=by
 have hp:=xq (x:=⟨x.n,x.l⟩) (y:=⟨y.n,y.l⟩)
 grind [Ir,qW,ay7,orL,uf]
theorem Kx:aco qW where
 tr h1 h2:=by rw[BX] at*;simp only[mL] at*;omega
 jD {x y} h:=by
  rw[BX,BX];simp only[mL];rcases x with ⟨a,b,c⟩;rcases y with ⟨d,e,f⟩
  grind
 asy {x y} h:=by
  grind [BX,qW,mL]
def AN{g1 g2:ak->List ak}{h z:ak}:z∈Gc g1 g2 h↔∃x∈g1 h,z∈g2 x:=by rw[Gc,lU,fG]
def y3(S:List (List au))(c:aT):List (List au):=(List.range S.length).map λ(s:Nat)=>dO Ir (iP (s:Int) ((aH S).flatMap (gk S c)))
structure yD where
 ways:List Int
 fin:List (List au)
 g:ak->List ak
def pX:List (List aT)->yD->List yD
 | [],x=>[x]
 |l::rest,x=>l.zipIdx.flatMap λp=>if iO x.fin p.1=0 then pX rest ⟨x.ways++[(p.2:Int)],y3 x.fin p.1,Gc x.g (gk x.fin p.1)⟩ else []
def eY(S:List (List au))(ways:List (List aT)):List yD:=pX ways ⟨[],S,tY⟩
def Apart(H:List ak)(g:ak->List ak):Prop:=∀a∈H,∀b∈H,∀z,z∈g a->z∈g b->a=b
def Apart.one{H:List ak}:Apart H tY:=λa _ b _ z h1 h2=>by
 simp only[tY,aU] at h1 h2;rw[<-h1,h2]
def Apart.then'{H K:List ak}{g1 g2:ak->List ak}(h1:Apart H g1)(h2:Apart K g2)(hk:∀a∈H,∀x∈g1 a,x∈K):Apart H (Gc g1 g2):=λa ha b hb z Wn hz2=>by
 obtain⟨x,hx,hzx⟩:=AN.1 Wn;obtain⟨y,hy,hzy⟩:=AN.1 hz2;have:=h2 x (hk a ha x hx) y (hk b hb y hy) z hzx hzy;subst this;exact h1 a ha b hb x hx hy
theorem IY{p:α->Bool}{x:α}:∀ {l:List α} {k:Nat},x∈l->p x=true->bM p l k>=0
 | [],_,h,_=>by grind
 |y::l,k,h,hp=>by
  simp only[bM];cases hy:p y with
  |true=>simp
  |false=>
   rcases aN.1 h with rfl|h
   .grind
   exact IY h hp
theorem asI{l:List au}(h:(⟨n,t⟩:au)∈l):bM (cD n t) l 0>=0:=IY h (th.2 rfl)
def aiF(S:List (List au))(z:ak):Prop:=(0<=z.h/\z.h <(S.length:Int))/\p8 ⟨z.n,z.l⟩
theorem QS{x:ak}:∀ {u:List (ak×List ak)} {y:List ak},x∉u.map (·.1)->u.foldl (λy p=>if x=p.1 then p.2 else y) y=y
 | [],_,_=>rfl
 |p::u,y,h=>by
  simp only[bR,aN,not_or] at h;rw[lS,cy h.1,QS h.2]
def ah7{p:ak×List ak}:∀ {u:List (ak×List ak)} {y:List ak},(u.map (·.1)).Nodup->p∈u->u.foldl (λy q=>if p.1=q.1 then q.2 else y) y=p.2
 |q::u,y,hn,h=>by
  rw[bR,iG] at hn;rw[lS];rcases aN.1 h with rfl|h
  .rw[dN rfl,QS hn.1]
  exact ah7 hn.2 h
def QP{u:List (ak×List ak)}{x:ak}(h:x∉u.map (·.1)):gU u x=[x]:=QS h
def MW{u:List (ak×List ak)}{p:ak×List ak}(hn:(u.map (·.1)).Nodup)(h:p∈u):gU u p.1=p.2:=ah7 hn h
structure EO(S:List (List au))(u:List (ak×List ak)):Prop where
 key:(u.map (·.1)).Nodup
 val:∀p∈u,(p.2.Nodup/\p.2.length<=2)/\∀z∈p.2,aiF S z
 dis:∀p∈u,∀q∈u,∀z,z∈p.2->z∈q.2->p.1=q.1
 new:∀p∈u,∀z∈p.2,z∈aH S->z∈u.map (·.1)
structure GA(S:List (List au))(g:ak->List ak):Prop where
 val:∀h∈aH S,((g h).Nodup/\(g h).length<=2)/\∀z∈g h,aiF S z
 ap:Apart (aH S) g
theorem Qr{S:List (List au)}(hO:cq S){z:ak}(h:z∈aH S):aiF S z:=by
 obtain⟨j,l,p,h1,h2,h3,rfl⟩:=vn.1 h;exact⟨⟨YE _,by grind [eV]⟩,hO.ok l (zL h2) p h3⟩
def EO.mov{S:List (List au)}{u:List (ak×List ak)}(h:EO S u)(hO:cq S):GA S (gU u):=by
 have key:∀x∈aH S,(∃p∈u,p.1=x/\gU u x=p.2)\/(x∉u.map (·.1)/\gU u x=[x]):=λx _=>by
  by_cases hx:x∈u.map (·.1)
  .obtain⟨p,hp,rfl⟩:=a8.1 hx;exact .inl ⟨p,hp,rfl,MW h.key hp⟩
  exact .inr ⟨hx,QP hx⟩
 refine⟨λx hx=>?_,λa ha b hb z h1 h2=>?_⟩
 .rcases key x hx with ⟨p,hp,_,e⟩| ⟨_,e⟩
  .rw[e];exact h.val p hp
  rw[e];exact⟨by simp,λz hz=>by rw[aU] at hz;subst hz;exact Qr hO hx⟩
 rcases key a ha with ⟨p,hp,rfl,e⟩| ⟨na,e⟩<;>rcases key b hb with ⟨q,hq,rfl,e'⟩| ⟨nb,e'⟩<;>rw[e] at h1<;>rw[e'] at h2
 .exact h.dis p hp q hq z h1 h2
 .rw[aU] at h2;subst h2;exact absurd (h.new p hp z h1 hb) nb
 .rw[aU] at h1;subst h1;exact absurd (h.new q hq z h2 ha) na
 rw[aU] at h1 h2;rw[<-h1,h2]
theorem N5{S:List (List au)}{s:Nat}{l:List au}{u:List (ak×List ak)}{K:List au}(hl:S[s]?=some l) (hK:K.Nodup) (hm:∀x∈l,x∈K) (hk:u.map (·.1)=K.map (eV (s:Int))) (hv:∀p∈u,∃z,p.2=[z]/\aiF S z/\(z.h=(s:Int)\/z∉aH S)) (hd:∀p∈u,∀q∈u,p.2=q.2->p.1=q.1):EO S u where
 key:=by
  rw[hk];refine Mh.2 (hK.imp λ{a b} IM e=>IM ?_);rcases a with ⟨a,c⟩;rcases b with ⟨b,d⟩
  simp only[eV,ak.mk.injEq,true_and] at e;rw[e.1,e.2]
 val p hp:=by
  obtain⟨z,e,h1,_⟩:=hv p hp;rw[e];exact⟨by simp,λy hy=>by rw[aU] at hy;subst hy;exact h1⟩
 dis p hp q hq z h1 h2:=(by grind)
 new p hp z hz hh:=by
  obtain⟨y,e,_,h3⟩:=hv p hp;rw[e,aU] at hz;subst hz;rcases h3 with h3|h3
  .obtain⟨j,l',x,_,h4,h5,rfl⟩:=vn.1 hh;have hj:j=s:=by simp only[eV] at h3;omega
   subst hj;rw[hl] at h4;cases h4;rw[hk];exact cY (hm x h5)
  exact absurd hh h3
theorem yC{l:List au}(h:l.Pairwise mL):l.Nodup:=h.imp λ{a b} h e=>by grind [mL]
theorem PD{s:Int}{x y:au}(h:eV s x=eV s y):x=y:=by
 rcases x with ⟨a,b⟩;rcases y with ⟨c,d⟩
 simp only[eV,ak.mk.injEq,true_and] at h;rw[h.1,h.2]
theorem Z1:Da n= !mM n:=by simp[mM,Da]
theorem ahW{l:List au}(h:l.Nodup):((l.filter λx=>mM x.n)++(l.filter λx=>Da x.n)).Nodup:=
 by grind [eo,Z1]
theorem abi{l:List au}{x:au}(h:x∈l):x∈(l.filter λx=>mM x.n)++(l.filter λx=>Da x.n):=by
 grind [Z1,mM]
theorem ayy{γ:Type}{f:α->γ}{a:List α}{b:List β}(h:a.length=b.length):(a.zip b).map (λp=>f p.1)=a.map f:=by
 rw[show (λp=>f p.1)=f∘Prod.fst from rfl,<-qU,List.map_fst_zip (by omega)]
theorem anH{s:Int}{h:List au}:(H6 s h).map (·.1)=h.map (eV s):=by
 simp[H6,nk,ayy]
theorem VA{s:Int}{h:List au}{p:ak×List ak}(hp:p∈H6 s h):∃(i:Nat) (x y:au),h[i]?=some x/\h[h.length-1-i]?=some y/\i <h.length/\p=(eV s x,[eV s y]):=by
 simp only[H6,a8] at hp;obtain⟨q,hq,rfl⟩:=hp
 grind [dV]
theorem agw{S:List (List au)}{s:Nat}{l:List au}(hO:cq S)(hl:S[s]?=some l):EO S (Mo (s:Int) l):=by
 have Dm:=zL hl;have hn:=yC (hO.Sk l Dm);have Bx:=(aA.1 hl).1;refine N5 hl (ahW hn) (λx hx=>abi hx) (by simp only[Mo,pW,iL,List.flatMap_nil,e9,cw,anH]) (λp hp=>?_) (λp hp q hq e=>?_)
 .obtain⟨h,hh,hp⟩:=fG.1 hp;obtain⟨i,x,y,_,h2,_,rfl⟩:=VA hp;exact⟨_,rfl,⟨⟨YE _,by simp only[eV];omega⟩,hO.ok l Dm y (abh hh (zL h2))⟩,.inl rfl⟩
 obtain⟨h,hh,hp⟩:=fG.1 hp;obtain⟨h',hh',hq⟩:=fG.1 hq;obtain⟨i,x,y,h1,h2,h3,rfl⟩:=VA hp;obtain⟨i',x',y',h1',h2',h3',rfl⟩:=VA hq;simp only[iH,Mg] at e;obtain rfl:=PD e;have hm:=zL h2;have Qt:=zL h2';have Qv:h=h':=by
  simp only[pW,aN,fF,aZ] at hh hh';rcases hh with rfl|rfl<;>rcases hh' with rfl|rfl
  .rfl
  .have a:=(cQ.1 hm).2;have b:=(cQ.1 Qt).2;rw[Z1,a] at b;cases b
  .have a:=(cQ.1 hm).2;have b:=(cQ.1 Qt).2;rw[Z1,b] at a;cases a
  rfl
 subst Qv;have hnh:h.Nodup:=by
  simp only[pW,aN,fF,aZ] at hh;rcases hh with rfl|rfl<;>exact hn.filter _
 grind [aA,RS]
theorem JZ(h:1<=n):(mM n=true/\Int.tmod n 2=1)\/(mM n=false/\Int.tmod n 2=0):=by
 grind [Int.tmod_eq_emod_of_nonneg,mM]
theorem agF{S:List (List au)}{s:Nat}{l:List au}(hO:cq S)(hl:S[s]?=some l):EO S (Gf (s:Int) l):=by
 have Dm:=zL hl;have Bx:=(aA.1 hl).1;refine N5 hl (yC (hO.Sk l Dm)) (λx hx=>hx) (by simp[Gf,nk]) (λp hp=>?_) (λp hp q hq e=>?_)
 .obtain⟨x,hx,rfl⟩:=List.mem_map.1 hp;have hx:=hO.ok l Dm x hx;refine⟨_,rfl,⟨⟨Int.natCast_nonneg _,by dsimp only;omega⟩,?_,hx.2⟩,.inl rfl⟩;have h1:=hx.1;have h2:0<=x.n:=by omega
  rcases JZ h1.1 with ⟨h,h3⟩| ⟨h,h3⟩<;>rw[Int.tmod_eq_emod_of_nonneg h2] at h3
  .rw[if_pos h];dsimp only;omega
  rw[h,if_neg (by decide)];dsimp only;omega
 obtain⟨x,hx,rfl⟩:=a8.1 hp;obtain⟨y,hy,rfl⟩:=a8.1 hq;have h1:=(hO.ok l Dm x hx).1;have h1':=(hO.ok l Dm y hy).1;have h2:0<=x.n:=by omega
 have h2':0<=y.n:=by omega
 simp only[iH,Mg,ak.mk.injEq,true_and] at e
 grind [JZ,Int.tmod_eq_emod_of_nonneg,eV]
theorem U4{l:List α}{p:α×Nat}(h:p∈l.zipIdx):l[p.2]?=some p.1:=by grind
theorem abW{S:List (List au)}{s:Nat}{l:List au}(hO:cq S)(hl:S[s]?=some l):EO S (Ez (s:Int) l):=by
 have Dm:=zL hl;have hn:=yC (hO.Sk l Dm);have Bx:=(aA.1 hl).1;have Ee:=hO.len l Dm;have hk:∀k,((uZ (s:Int) l k).map (·.1))=(vL l k).map (eV (s:Int)):=λk=>by
  simp only[uZ,EB,qU,nk];refine pI λi=>?_;simp[gi,List.getElem?_zipIdx];cases (vL l k)[i]?<;>rfl
 have jA:∀p∈Ez (s:Int) l,∃(k i:Nat) (x:au),k <2/\(vL l k)[i]?=some x/\i <6/\p=(eV (s:Int) x,[⟨(s:Int),2*(i:Int)+1+k,0⟩]):=λp hp=>by
  obtain⟨k,hk1,hp⟩:=fG.1 hp;simp only[uZ,EB] at hp;obtain⟨q,hq,rfl⟩:=a8.1 hp;have h1:=U4 hq;have h2:=(aA.1 h1).1;have h3:=Uo (l:=l) (k:=k);exact⟨k,q.2,q.1,dZ.1 hk1,h1,by omega,rfl⟩
 refine N5 hl (ahW hn) (λx hx=>abi hx) ?_ (λp hp=>?_) (λp hp q hq e=>?_)
 .show ((uZ (s:Int) l 0++(uZ (s:Int) l 1++[])).map λp:ak×List ak=>p.1)=_;rw[e9,cw,hk,hk,<-cw];rfl
 .obtain⟨k,i,x,h1,h2,h3,rfl⟩:=jA p hp;exact⟨_,rfl,⟨⟨Int.natCast_nonneg _,by dsimp only;omega⟩,⟨by dsimp only;omega,by dsimp only;omega⟩,by dsimp only;omega,by dsimp only;omega⟩,.inl rfl⟩
 grind
theorem aKB{l:List au}(h:l.Pairwise mL){x y:au}(hx:x∈l)(hy:l[l.length-1]?=some y):x.n<=y.n:=by
 obtain⟨i,hi⟩:=dV hx;have hl:=(aA.1 hi).1;by_cases e:i=l.length-1
 .grind
 have:=wD h (show i <l.length-1 by omega) hi hy;simp only[mL] at this;omega
theorem anS{l:List au}(h:l.Pairwise mL)(hp:∀x∈l,p8 x){x:au}(hx:x∈l):x.n<=gW l:=by
 have hl:=List.length_pos_of_mem hx;obtain⟨y,hy⟩:∃y,l[l.length-1]?=some y:=⟨_,ai (by omega)⟩;have h1:=aKB h hx hy;have h2:=(tm2 (hp y (zL hy)).1).1
 grind [gW]
theorem raise_0{l:List au}(hp:∀x∈l,p8 x):0<=gW l:=by
 simp only[gW];split
 .rename_i y hy;have:=hp y (zL hy);have h2:=(tm2 this.1).1;have:=this.1;omega
 grind
theorem join_le{l lo:List au}(h:sC l lo=0){x:au}(hx:x∈l):x.n+gW lo<=40:=by
 grind [join_6,gW,join_1]
def ahx{S:List (List au)}{s o:Nat}{l lo:List au}(hO:cq S)(hl:S[s]?=some l) (qP:S[o]?=some lo) (he:sC l lo=0):EO S (Ix (s:Int) (o:Int) l (gW lo)):=by
 have Dm:=zL hl;have hom:=zL qP;have hso:=(aA.1 qP).1;refine N5 hl (yC (hO.Sk l Dm)) (λx hx=>hx) (by simp[Ix,nk]) (λp hp=>?_) (λp hp q hq e=>?_)
 .obtain⟨x,hx,rfl⟩:=List.mem_map.1 hp;have h1:=hO.ok l Dm x hx;have h2:=join_le he hx;have h3:=raise_0 (hO.ok lo hom);refine⟨_,rfl,⟨⟨Int.natCast_nonneg _,by dsimp only;omega⟩,⟨by have:=h1.1;dsimp only;omega,h2⟩,h1.2⟩,.inr λh=>?_⟩;obtain⟨j,l',y,_,h4,h5,e⟩:=vn.1 h;simp only[eV,ak.mk.injEq] at e;have hj:j=o:=by omega
  subst hj;rw[qP] at h4;cases h4;have:=anS (hO.Sk lo hom) (hO.ok lo hom) h5;have:=h1.1;omega
 obtain⟨x,hx,rfl⟩:=a8.1 hp;obtain⟨y,hy,rfl⟩:=a8.1 hq;simp only[iH,Mg,ak.mk.injEq,true_and] at e;have:x.n=y.n:=by omega
 simp only[eV,this,e.2]
theorem ahk{l:List au}:∀ {f:Nat} {k:Int},rU l n f k<=4->k+(f:Int)=6->k<=rU l n f k/\(⟨n,rU l n f k⟩:au)∉l
 |0,k,h,e=>by simp only[rU] at h;omega
 |f+1,k,h,e=>by
  simp only[rU] at h ⊢;cases hd:decide (bM (cD n k) l 0>=0) with
  |true=>
   rw[hd] at h;simp only[cG] at h ⊢;obtain⟨h1,h2⟩:=ahk h (by omega);exact⟨by omega,h2⟩
  |false=>
   simp only[jI]
   grind [af,asI]
def ate{S:List (List au)}{s:Nat}{l:List au}(hO:cq S)(hl:S[s]?=some l) (he:Ex l n t=0):EO S (Ls (s:Int) l n t):=by
 have Dm:=zL hl;have Bx:=(aA.1 hl).1;cases hd:(!decide (bM (cD n t) l 0>=0)) with
 |true=>rw[div_3 hd] at he;cases he
 |false=>
  have uM:=apY hd;have hle:rU l n 5 1<=4:=by
   by_cases h:rU l n 5 1>4
   .rw[div_6 hd h] at he;cases he
   omega
  obtain⟨h1,h2⟩:=ahk hle (by decide);have hp:=hO.ok l Dm _ uM;have eA:t≠rU l n 5 1:=λe=>by rw[<-e] at h2;exact h2 uM
  refine⟨by simp[Ls],λp pU=>?_,λp hp q hq z _ _=>?_,λp pU z hz hh=>?_⟩
  .simp only[Ls,aU] at pU;subst pU;refine⟨⟨by simp[eA],by simp⟩,λz hz=>?_⟩;simp only[aN,fF,aZ] at hz;rcases hz with rfl|rfl
   .exact⟨⟨Int.natCast_nonneg _,by dsimp only;omega⟩,hp⟩
   exact⟨⟨Int.natCast_nonneg _,by dsimp only;omega⟩,hp.1,by dsimp only;omega,hle⟩
  .simp only[Ls,aU] at hp hq;rw[hp,hq]
  simp only[Ls,aU] at pU;subst pU;simp only[aN,fF,aZ] at hz;rcases hz with rfl|rfl
  .simp[Ls]
  obtain⟨j,l',y,_,h4,h5,e⟩:=vn.1 hh;simp only[eV,ak.mk.injEq] at e;have hj:j=s:=by omega
  subst hj;rw[hl] at h4;cases h4;rcases y with ⟨a,b⟩
  dsimp only at e;obtain⟨_,rfl,rfl⟩:=e;exact absurd h5 h2
theorem ayF{S:List (List au)}{s:Nat}:EO S [((⟨(s:Int),n,t⟩:ak),([]:List ak))]:=
 ⟨by simp,λp hp=>by grind,λp hp q hq z _ _=>by grind,λp hp z hz=>by grind⟩
theorem abV{S:List (List au)}{s o:Nat}{l:List au}{a b:Int}(hO:cq S)(hl:S[s]?=some l) (qP:S[o]?=some []):EO S (r5 (s:Int) (o:Int) (FO l a b)):=by
 have Dm:=zL hl;have hso:=(aA.1 qP).1;have lO:(FO l a b).Nodup:=(yC (hO.Sk l Dm)).sublist ((List.drop_sublist _ _).trans (List.take_sublist _ _));have hlen:(FO l a b).length<=6:=by
  have:=hO.len l Dm;simp only[FO,rD,cH];omega
 have jA:∀p∈r5 (s:Int) (o:Int) (FO l a b),∃(i:Nat) (x:au),(FO l a b)[i]?=some x/\i <6/\p=(eV (s:Int) x,[⟨(o:Int),(i:Int)+1,0⟩]):=λp hp=>by
  obtain⟨q,hq,rfl⟩:=a8.1 hp;have h1:=U4 hq;have h2:=(aA.1 h1).1;exact⟨q.2,q.1,h1,by omega,rfl⟩
 have hk:(r5 (s:Int) (o:Int) (FO l a b)).map (·.1)=(FO l a b).map (eV (s:Int)):=by
  simp only[r5,qU,nk];refine pI λi=>?_;simp[gi,List.getElem?_zipIdx];cases (FO l a b)[i]?<;>rfl
 refine⟨by rw[hk];exact Mh.2 (lO.imp λ{a b} IM e=>IM (PD e)),λp hp=>?_,λp hp q hq z h1 h2=>?_,λp hp z hz hh=>?_⟩
 .obtain⟨i,x,h1,h2,rfl⟩:=jA p hp;refine⟨by simp,λz hz=>?_⟩;simp only[List.mem_singleton] at hz;subst hz;exact⟨⟨Int.natCast_nonneg _,by dsimp only;omega⟩,⟨by dsimp only;omega,by dsimp only;omega⟩,by dsimp only;omega,by dsimp only;omega⟩
 .grind
 obtain⟨i,x,h1,h2,rfl⟩:=jA p hp;simp only[aU] at hz;subst hz;obtain⟨j,l',y,_,h4,h5,e⟩:=vn.1 hh;simp only[eV,ak.mk.injEq] at e;have hj:j=o:=by omega
 subst hj;rw[qP] at h4;cases h4;cases h5
def Ah{S:List (List au)}{c:aT}(hO:cq S)(hc:n9 S c)(he:iO S c=0):GA S (gk S c):=by
 obtain⟨k,st,ot,fn,fl,tn,tl⟩:=c;obtain⟨hk,dt,hot,_,_,_⟩:=hc;dsimp only at hk dt hot;obtain⟨s,rfl⟩:=Int.eq_ofNat_of_zero_le dt.1;obtain⟨l,hl⟩:∃l,S[s]?=some l:=⟨_,List.getElem?_eq_getElem (by omega)⟩;have e1:=uC hl;refine EO.mov ?_ hO;have mA:k=1\/k=2\/k=3\/k=4\/k=5\/k=6\/k=7:=by omega
 rcases mA with rfl|rfl|rfl|rfl|rfl|rfl|rfl
 .simpa [yA,e1] using agw hO hl
 .simpa [yA,e1] using agF hO hl
 .simpa [yA,e1] using abW hO hl
 .have ho:=hot (.inl rfl);obtain⟨o,rfl⟩:=dR ho.1;obtain⟨lo,qP⟩:∃l,S[o]?=some l:=⟨_,ai (by omega)⟩;have e2:=uC qP;by_cases eA:(o:Int)=s
  .simp[iO,eA] at he
  simp[iO,e1,e2,eA] at he;simpa [yA,e1,e2] using ahx hO hl qP he
 .simp[iO,e1] at he;simpa [yA,e1] using ate hO hl he
 .simpa [yA] using ayF
 have ho:=hot (.inr rfl);obtain⟨o,rfl⟩:=dR ho.1;obtain⟨lo,qP⟩:∃l,S[o]?=some l:=⟨_,ai (by omega)⟩;have e2:=uC qP;by_cases eA:(o:Int)=s
 .simp[iO,eA] at he
 have bfQ:lo=[]:=by
  simp[iO,e1,e2,eA] at he;by_cases h1:bM (cD fn fl) l 0 <0
  .rw[I8 h1] at he;cases he
  by_cases h2:bM (cD tn tl) l 0 <0
  .rw[I7 h1 h2] at he;cases he
  by_cases h3:bM (cD tn tl) l 0 <bM (cD fn fl) l 0
  .rw[I6 h1 h2 h3] at he;cases he
  by_cases h4:lo.length>0
  .rw[I5 h1 h2 h3 h4] at he;cases he
  exact kQ (by omega)
 subst bfQ;simpa [yA,e1] using abV hO hl qP
theorem ah8{H:List ak}{g:ak->List ak}(hn:H.Nodup)(h1:∀h∈H,(g h).Nodup)(h2:Apart H g):(H.flatMap g).Nodup:=
 List.pairwise_flatMap.2 ⟨h1,List.pairwise_iff_getElem.2 λi j hi hj Og x hx y hy e=>by
  subst e;have:=h2 _ (AF hi) _ (AF hj) x hx hy
  grind [absurd,RS]⟩
theorem Lg{H:List α}{g:α->List β}{k:Nat}(h:∀x∈H,(g x).length<=k):(H.flatMap g).length<=H.length*k:=by
 induction H with
 |nil=>simp
 |cons a H ih=>
  grind [aL,aJ,acz]
theorem aij{s:Int}{L:List ak}{y:au}:y∈iP s L↔eV s y∈L:=by
 simp only[iP,a8,cQ,aC];constructor
 .rintro⟨z,⟨h1,rfl⟩,rfl⟩;exact h1
 intro h;exact⟨_,⟨h,rfl⟩,rfl⟩
theorem Hz{s:Int}{L:List ak}(h:L.Nodup):(iP s L).Nodup:=
 Mh.2 ((h.filter _).imp_of_mem λ{a b} ha hb IM e=>IM (by
  rcases a with ⟨a1,a2,a3⟩;rcases b with ⟨b1,b2,b3⟩
  grind))
theorem xT{lt:α->α->Bool}{xs:List α}(hn:xs.Nodup)(hL:aco lt):(dO lt xs).length=xs.length:=by
 have h:=w9 hL hn;refine((List.perm_ext_iff_of_nodup (h.imp λ{a b} h e=>?_) hn).2 λx=>lU).length_eq;have:=hL.asy h;grind
theorem ay0(L:List ak):(iP 0 L).length+(iP 1 L).length<=L.length:=by
 induction L with
 |nil=>simp[iP]
 |cons x L ih=>
  grind [iP,dE]
theorem Qp(S:List (List au)):∀k,(Dl S k).length=((S.take k).map List.length).sum
 |0=>rfl
 |k+1=>by
  simp only[Dl,aL,Qp S k];cases h:S[k]? with
  |none=>
   grind [List.getElem?_eq_none_iff,bF]
  |some l=>rw[c8 h];simp
theorem B8{S:List (List au)}:(aH S).length=(S.map List.length).sum:=by
 have:=Qp S S.length;rwa[bF (bk _)] at this
theorem KG{S:List (List au)}(hO:cq S):(aH S).length<=6:=by rw[B8];exact hO.jD
theorem Jm{S:List (List au)}{c:aT}:(y3 S c).length=S.length:=by simp[y3]
theorem aKI{S:List (List au)}{c:aT}{l:List au}(h:(y3 S c)[j]?=some l):j <S.length/\l=dO Ir (iP (j:Int) ((aH S).flatMap (gk S c))):=by
 grind [y3]
theorem aKH{S:List (List au)}{c:aT}(hM:GA S (gk S c)){h z:ak}(hh:h∈aH S)(hz:z∈gk S c h):z∈aH (y3 S c):=by
 have h1:=((hM.val h hh).2 z hz).1;obtain⟨s,hs⟩:=dR h1.1;have rF:s <S.length:=by omega
 have:(y3 S c)[s]?=some (dO Ir (iP (s:Int) ((aH S).flatMap (gk S c)))):=by simp[y3,List.getElem?_range rF]
 have e:z=eV (s:Int) ⟨z.n,z.l⟩:=by rcases z with ⟨a,b,c⟩;simp only at hs;simp[eV,hs]
 grind [B9,lU,aij]
theorem aKG{S:List (List au)}{c:aT}(hO:cq S)(hM:GA S (gk S c))(ht:(aH S).length<=3):cq (y3 S c):=by
 have kT:((aH S).flatMap (gk S c)).Nodup:=ah8 (B5 hO _) (λh hh=>(hM.val h hh).1.1) hM.ap;have wK:((aH S).flatMap (gk S c)).length<=6:=by have:=Lg (H:=aH S) (g:=gk S c) (k:=2) λx hx=>(hM.val x hx).1.2;omega
 have eB:∀l∈y3 S c,∃j:Nat,l=dO Ir (iP (j:Int) ((aH S).flatMap (gk S c))):=λl hl=>by
  obtain⟨j,hj⟩:=dV hl;exact⟨j,(aKI hj).2⟩
 refine {two:=by rw[Jm];exact hO.two,len:=λl hl=>?_,ok:=λl hl x hx=>?_,Sk:=λl hl=>?_,jD:=?_}
 .obtain⟨j,rfl⟩:=eB l hl;rw[xT (Hz kT) SF];exact bZ pz wK
 .have h2:=ay0 ((aH S).flatMap (gk S c));have e:=λs:Int=>xT (Hz (s:=s) kT) SF;have hk:S.length=1\/S.length=2:=by have:=hO.two;omega
  grind [y3,GC]
 .obtain⟨j,rfl⟩:=eB l hl;have:=aij.1 (lU.1 hx);obtain⟨h,hh,hz⟩:=fG.1 this;exact((hM.val h hh).2 _ hz).2
 obtain⟨j,rfl⟩:=eB l hl;exact(w9 SF (Hz kT)).imp λh=>xq.1 h
theorem Iq{S:List (List au)}{g:ak->List ak}(hO:cq S)(hM:GA S g):((aH S).flatMap g).length<=12:=by
 have:=Lg λx hx=>(hM.val x hx).1.2
 grind [KG]
def aeb{S:List (List au)}{g:ak->List ak}(hO:cq S)(hM:GA S g):((aH S).flatMap g).Nodup:=ah8 (B5 hO _) (λh hh=>(hM.val h hh).1.1) hM.ap
structure YB(H:List ak)(d:Nat)(x:yD):Prop where
 two:d<=2
 fin:d<=1->cq x.fin
 jD:d=0->(aH x.fin).length<=3
 g:∀h∈H,(x.g h).Nodup/\(x.g h).length<=2^d
 inn:∀h∈H,∀z∈x.g h,z∈aH x.fin
 ap:Apart H x.g
theorem YB.len{H:List ak}{x:yD}(h:YB H d x)(hd:d<=1){y:ak}(hy:y∈H):(x.g y).length<=2:=by
 have:=(h.g y hy).2;have:d=0\/d=1:=by omega
 grind
theorem OX{xs:List ak}(h:xs.Nodup):(dO qW xs).Nodup:=(w9 Kx h).imp λ{a b} h e=>by have:=Kx.asy h;grind
def YB.fm{H:List ak}{x:yD}{g:ak->List ak}(h:YB H d x)(hM:GA x.fin g){y:ak}(hy:y∈H):((x.g y).flatMap g).length<=2^(d+1)/\((x.g y).flatMap g).Nodup:=by
 have h1:=h.g y hy;have uM:=h.inn y hy;constructor
 .have h2:=Lg (H:=x.g y) (g:=g) (k:=2) λz hz=>(hM.val z (uM z hz)).1.2;omega
 exact ah8 h1.1 (λz hz=>(hM.val z (uM z hz)).1.1) λa ha b hb z h3 h4=>hM.ap a (uM a ha) b (uM b hb) z h3 h4
theorem YB.next{H:List ak}{x:yD}{c:aT}{w:List Int}(h:YB H d x)(hd:d<=1)(hM:GA x.fin (gk x.fin c)):YB H (d+1) ⟨w,y3 x.fin c,Gc x.g (gk x.fin c)⟩ where
 two:=by omega
 fin Dp:=by
  have hd0:d=0:=by omega
  exact aKG (h.fin hd) hM (h.jD hd0)
 jD Dp:=by omega
 g y hy:=by
  obtain⟨h1,h2⟩:=h.fm hM hy
  grind [OX,Gc,xT,Kx]
 inn y hy z hz:=by
  obtain⟨a,ha,hz⟩:=AN.1 hz;exact aKH hM (h.inn y hy a ha) hz
 ap:=h.ap.then' (λa ha b hb z h1 h2=>hM.ap a ha b hb z h1 h2) h.inn
theorem YB.start{S:List (List au)}(hO:cq S)(ht:(aH S).length<=3):YB (aH S) 0 ⟨[],S,tY⟩ where
 two:=by simp
 fin _:=hO
 jD _:=ht
 g y _:=by simp[tY]
 inn y hy z hz:=by grind [tY,aU]
 ap:= .one
structure YA where
 a:Option Addr
 n:Nat
 c:Nat
 ea:Option Addr
 en:Nat
 ec:Nat
 r:Nat
abbrev afJ(t:YA):List Value:=[.slice t.a t.n t.c,.slice t.ea t.en t.ec,.map (some t.r)]
def bjx(ro:Nat->Option Obj)(r:Nat)(H:List ak)(g:ak->List ak):Prop:=∃es ck F,agh ro r H g es ck F
def TrR(H:List ak)(ro:Nat->Option Obj)(t:YA)(x:yD):Prop:=dk ro (.slice t.a t.n t.c) 1 eC x.ways/\bH ro (.slice t.ea t.en t.ec) x.fin/\bjx ro t.r H x.g
def agh.up{bU:Nat->Option Obj}{H:List ak}{g:ak->List ak}{es:Array MapEntry}{F:List (ak×Value)}(h:agh ro r H g es ck F)(hs:Sub ro bU):agh bU r H g es ck F:=⟨hs _ _ h.m,h.e,h.k,λx hx=>(h.v x hx).up hs⟩
def RI.up{bU:Nat->Option Obj}{H:List ak}{g:ak->List ak}{es:Array MapEntry}{F:List (ak×Value)}(h:RI ro r H g es ck F)(hs:Sub ro bU):RI bU r H g es ck F:=⟨hs _ _ h.m,h.e,h.k,λx hx=>(h.v x hx).up hs⟩
theorem RI.s{H:List ak}{g:ak->List ak}{es:Array MapEntry}{F:List (ak×Value)}(h:RI ro r H g es ck F):agh ro r H g es ck F:=⟨h.m,h.e,λx=>by rw[h.k],h.v⟩
def TrO(H:List ak)(LL:Cells)(t:YA)(x:yD):Prop:=∀bU,Knows bU LL->TrR H bU t x
abbrev aJ2(H:List ak)(L:List yD):(Nat->Option Obj)->Nat->List Value->Cells->Prop:=λ_ k vs LL=>∃x t,L[k]?=some x/\vs=[.agg ⟨afJ t⟩]/\TrO H LL t x
structure qv(S:List (List au))(ways:List (List aT)):Prop where
 two:ways.length<=2
 ok:∀l∈ways,(1<=l.length/\l.length<=2)/\∀c∈l,n9 S c
def n9.gf{S T:List (List au)}{c:aT}(h:n9 S c)(e:T.length=S.length):n9 T c:=⟨h.k,by rw[e];exact h.st,by rw[e];exact h.ot,h.no,h.fr,h.to⟩
def DV(x:yD)(i:Nat)(c:aT):yD:=⟨x.ways++[(i:Int)],y3 x.fin c,Gc x.g (gk x.fin c)⟩
def HT(rest:List (List aT))(x:yD)(p:aT×Nat):List yD:=if iO x.fin p.1=0 then pX rest (DV x p.2 p.1) else []
theorem yw{rest:List (List aT)}{x:yD}:pX (l::rest) x=l.zipIdx.flatMap (HT rest x):=rfl
def ry(rest:List (List aT))(x:yD)(l:List aT)(i:Nat):Nat:=((l.zipIdx.take i).flatMap (HT rest x)).length
theorem acW{c:aT}(h:l[i]?=some c):l.zipIdx[i]?=some (c,i):=by grind
theorem ah0{rest:List (List aT)}{x:yD}{c:aT}(h:l[i]?=some c):ry rest x l (i+1)=ry rest x l i+(HT rest x (c,i)).length:=by
 simp_all[ry,Fp]
theorem abq{rest:List (List aT)}{x:yD}{c:aT}(h:l[i]?=some c) (he:iO x.fin c≠0):ry rest x l (i+1)=ry rest x l i:=by
 simp_all[ah0,HT]
theorem Us{rest:List (List aT)}{x:yD}{c:aT}(h:l[i]?=some c) (he:iO x.fin c=0):ry rest x l (i+1)=ry rest x l i+(pX rest (DV x i c)).length:=by
 rw[ah0 h,HT,dN he]
theorem Ut{rest:List (List aT)}{x:yD}:ry rest x l l.length=(pX (l::rest) x).length:=by
 simp[yw,ry,bF]
def aym{rest:List (List aT)}{x:yD}{c:aT}{y:yD}(h:l[i]?=some c) (he:iO x.fin c=0) (hj:(pX rest (DV x i c))[j]?=some y):(pX (l::rest) x)[ry rest x l i+j]?=some y:=by
 have h1:=Fp (f:=HT rest x) (acW h);have h2:l.zipIdx.flatMap (HT rest x)=(l.zipIdx.take (i+1)).flatMap (HT rest x)++(l.zipIdx.drop (i+1)).flatMap (HT rest x):=by rw[<-iF,fH]
 have e:HT rest x (c,i)=pX rest (DV x i c):=dN he;rw[yw,h2,h1,bx,sj (by simp[ry]),e];simp only[ry,Nat.add_sub_cancel_left];rw[kD (aA.1 hj).1,hj]
theorem Fi:∀ {rest:List (List aT)} {x:yD},(∀l∈rest,l.length<=2)->(pX rest x).length<=2^rest.length
 | [],_,_=>by simp[pX]
 |l::rest,x,h=>by
  rw[yw];have h1:=Lg (H:=l.zipIdx) (g:=HT rest x) (k:=2^rest.length) λp _=>by
   simp only[HT];split
   .exact Fi λl hl=>h l (.tail _ hl)
   exact bQ _
  have h2:=h l (.head _);rw[List.length_zipIdx] at h1;have h3:l.length*2^rest.length<=2*2^rest.length:=mh _ h2
  grind
theorem qf{S:List (List au)}(hW:qv S ways):(eY S ways).length<=4:=by
 have h:=Fi (x:=⟨[],S,tY⟩) λl hl=>(hW.ok l hl).1.2;have h2:2^ways.length<=2^2:=pH (by simp) hW.two
 grind [eY]
def agb{S:List (List au)}(hO:cq S):S.length=1\/S.length=2:=by have:=hO.two;omega
def S9(ro:Nat->Option Obj)(b:Nat)(S:List (List au))(ways:List (List aT)):Prop:=∃vS vT vH fa fc,ro b=some (.cells ⟨[vS,vT,.slice fa 0 fc,vH]⟩ 173 (0,0))/\bH ro vS S/\ku ro vT ways/\dk ro vH 3 bO (aH S)
def S9.up{bU:Nat->Option Obj}{S:List (List au)}(h:S9 ro b S ways)(hs:Sub ro bU):S9 bU b S ways:=by
 obtain⟨vS,vT,vH,fa,fc,h1,h2,h3,h4⟩:=h;exact⟨vS,vT,vH,fa,fc,hs _ _ h1,h2.up hs,h3.up hs,h4.up hs⟩
theorem aUI{v:Value}{S:List (List au)}{c:aT}(hc:n9 S c)(hS:bH ro v S)(hO:cq S):eT zT 170 [.agg ⟨[v]⟩,.agg ⟨p6 c⟩] ro [] (λr Y=>
 ∃m,r= .tuple ⟨[.map m,zI (iO S c)]⟩/\(iO S c=0->∃rm F es ck Z,m=some rm/\Y=(rm,.map es ck)::Z/\wN mw F es ck/\F.map (·.1)=aH S/\MV Z F (gk S c))):=
 (aUJ hc hS hO).mono λr Y h=>h.elim (λh=>⟨none,h.2.1,λe=>absurd e h.1⟩) λ⟨h0,rm,F,LM,Z,h1,h2,h3,h4,h5⟩=>⟨some rm,by grind,λ_=>by
  obtain⟨es,ck,rfl,hE⟩:=h3
  grind⟩
theorem Xa{S:List (List au)}{c:aT}{I3:Array MapEntry}{F1:List (ak×Value)}(hO:cq S)(hM:GA S (gk S c))(hP:RI ro r1 (aH S) (gk S c) I3 NX F1):eT zT 172 [.map (some r1),zI (S.length:Int)] ro [] (λr Y=>∃a n c',r= .agg ⟨[.slice a n c']⟩/\∀bU,Knows bU Y->bH bU (.slice a n c') (y3 S c)):=by
 have h1:=Iq hO hM;have h2:=aeb hO hM;rcases agb hO with h|h
 .have:=ayx hP h1 (λx hx z hz=>by have:=((hM.val x hx).2 z hz).1;rw[h] at this;omega) (Hz h2)
  grind [y3]
 have:=ayw hP h1 (λx hx z hz=>by have:=((hM.val x hx).2 z hz).1;rw[h] at this;omega) (Hz h2) (Hz h2);simp only[y3,h,GC,List.range_zero,aY,cw,bR,lR,dK];exact this
def aJV{fa:Option Addr}{S:List (List au)}(hS:bH ro vS S)(hO:cq S)(hT:ku ro vT ways)(hW:qv S ways):eT zT 129 [.agg ⟨[vS,vT,.slice fa 0 fc]⟩] ro [] (λr Y=>∃b vH LH,r= .tuple ⟨[zP b,zI 0]⟩/\Y=(b,.cells ⟨[vS,vT,.slice fa 0 fc,vH]⟩ 173 (0,0))::LH/\bI vH 3 41 bO (aH S) LH):=by
 have nP:=hS;obtain⟨pG,hs,nq⟩:=hS;obtain⟨sS,qsb,qso,sR,rfl,qsk,qsh,qsl⟩:=hs;obtain⟨nn,ht,j8⟩:=id hT;obtain⟨fZ,xg,xe,eR,rfl,xf,ou,oh⟩:=ht;have Sa:=nq.len;have hl7:=j8.len;have nI:=hO.two;have aaY:=hW.two;have Pb:∀(i:Nat) (p:jo),([]:List jo)[i]?=some p->eW ⟨ro,[]⟩ 0 (0+i*6) 6 (p5 p):=λ_ _ h=>wU h;refine zE<|zD 2<|jn λb1=>jd 8 [0]<|zxp [.agg ⟨[.slice sS pG.length sR]⟩] (λhs=>asw (nP.up hs) hO)<|jd 17 [0]<|zJ 21 ((nn.length:Int)>3) (λh1=>?_) λh1=>?_
 ·
  exfalso;omega
 refine jd 11 [0]<|iz [1,1,1,0,1,0,0] [] (λ(zz:Nat)=>[(1,zP b1),(23,.slice fZ nn.length eR),(24,zI (nn.length:Int)),(25,zI (zz:Int))]) (λzz=>[zxc b1 28 [.slice sS pG.length sR,.slice fZ nn.length eR,.slice fa 0 fc]]) (λzz=>zz<=nn.length) (λzz=>nn.length-zz) 0 (by omega) [0] ?_;rintro k hI K1 cU rest;refine zD 5<|zJ 26 ((k:Int) <(nn.length:Int)) (λh2=>?_) λh2=>?_
 ·
  refine zD 6<|zxs nn k eR 1 ou (λx27 KB=>?_);obtain⟨l28,Ww,h28⟩:=j8.get KB;obtain akf:=hW.ok _ (zL Ww);obtain⟨an6,aPk,aPj,ajm,rfl,bcB,aFe,aFd⟩:=h28;refine jl 0 (oh _ _ KB)<|jn λb6=>jd 10 [0,0]<|zJ 32 ((l28.length:Int)=0) (λh3=>?_) λh3=>?_
  ·
   exfalso;omega
  refine jd 10 [0]<|zJ 36 ((l28.length:Int)>3) (λh4=>?_) λh4=>?_
  ·
   exfalso;omega
  refine jd 10 [0]<|iz [1,1,1,0,1,0,0,1,1,0,0,1,1,1,1,0,0] [K1] (λ(zz:Nat)=>[(1,zP b1),(23,.slice fZ nn.length eR),(24,zI (nn.length:Int)),(25,zI (k:Int)),(38,.slice an6 l28.length ajm),(39,zI (l28.length:Int)),(40,zI (zz:Int))]) (λzz=>[zxc b6 82 [.slice an6 l28.length ajm],zxc b1 28 [.slice sS pG.length sR,.slice fZ nn.length eR,.slice fa 0 fc]]) (λzz=>zz<=l28.length) (λzz=>l28.length-zz) 0 (by omega) [0,1] ?_;rintro i hJ K2 kU rest;refine zD 5<|zJ 41 ((i:Int) <(l28.length:Int)) (λh5=>?_) λh5=>?_
  ·
   refine zD 6<|zxt l28 i ajm 7 aFe aFd λx42 Iz=>jn λb8=>jd 3 [0] ?_;have Ol:=(akf.2 _ (zL Iz)).k;refine jd 3 [0]<|zxp [zI x42.k,zI 1,zI 7] (λhs=>ayv)<|zD 2<|js 47 (!(pE x42.k 1 7)) (λh6=>?_) (λh6=>?_)
   ·
    try simp only[zB] at h6
    exfalso;simp only[pE,ax,ar] at h6;omega
   try simp only[zB] at h6
   refine zD 3<|zW ((i:Int)+1)<|zD 2<|zY kU (i+1) (by omega) [1,2]
  refine zD 3<|zW ((k:Int)+1)<|zD 2<|zY cU (k+1) (by omega) [1]
 refine jd 17 [0,0,0]<|zxo 3 λtx=>jc (vs:=[.agg ⟨[.slice sS pG.length sR]⟩]) [] (ah4 nP hO) ?_;rintro v57 L57 aSA;obtain⟨YQ,YN,KT⟩:=aSA.form;subst KT;refine eH tx [1]<|zD 1<|zxo 5 λtw=>jn λb59=>eH tw [1,2]<|jd 11 [2]<|iz [1,1,1,1,1,1,0,1,0,0] [] (λ(zz:Nat)=>[(1,zP b1),(9,zP b59),(61,.slice fa 0 fc),(62,zI 0),(63,zI 0)]) (λzz=>[zxc b59 173 [.slice sS pG.length sR,.slice fZ nn.length eR,.slice fa 0 fc,(.slice YQ (aH S).length YN)],.l L57,zxc b1 28 [.slice sS pG.length sR,.slice fZ nn.length eR,.slice fa 0 fc]]) (λzz=>True) (λzz=>zz) 0 trivial [0,1,2] ?_;rintro z hQ K5 hK5 rest;refine zD 14<|zR (.tuple ⟨[zP b59,zI 0]⟩) [] [0,1] _ ⟨_,_,_,rfl,rfl,aSA⟩
def Walk:List (List aT)->yD->List Int->yD->Prop
 | [],x,w,y=>w=[]/\y=x
 |l::rest,x,w,y=>∃(i:Nat) (c:aT) (w':List Int),w=(i:Int)::w'/\l[i]?=some c/\iO x.fin c=0/\Walk rest (DV x i c) w' y
def mem_grow:∀ {rest:List (List aT)} {x y:yD},y∈pX rest x↔∃w,Walk rest x w y
 | [],x,y=>by simp[pX,Walk]
 |l::rest,x,y=>by
  rw[yw];simp only[fG,Walk];constructor
  .rintro⟨⟨c,i⟩,hp,hy⟩;simp only[HT] at hy;split at hy
   .rename_i he;obtain⟨w,hw⟩:=mem_grow.1 hy;exact⟨_,i,c,w,rfl,U4 hp,he,hw⟩
   cases hy
  rintro⟨w,i,c,w',_,h1,he,hw⟩;exact⟨(c,i),zL (acW h1),by simp only[HT];rw[dN he];exact mem_grow.2 ⟨w',hw⟩⟩
theorem JJ:∀ {rest:List (List aT)} {x y:yD} {w:List Int},Walk rest x w y->y.ways=x.ways++w/\w.length=rest.length
 | [],x,y,w,h=>by obtain⟨rfl,rfl⟩:=h;simp
 |l::rest,x,y,w,h=>by
  obtain⟨i,c,w',rfl,_,_,h⟩:=h;obtain⟨h1,h2⟩:=JJ h
  grind [DV]
structure alh(ro:Nat->Option Obj)(bl b b1 b2 b3:Nat):Prop where
 t:ro b1=some (.cells ⟨[zP b]⟩ 156 (0,0))
 y:ro b2=some (.cells ⟨[.func (.yield bl) #[] #[]]⟩ 253 (0,0))
 g:ro b3=some (.cells ⟨[.func (.func 168) ⟨[]⟩ ⟨[zP b1,zP b2,zP b3]⟩]⟩ 253 (0,0))
def alh.up{bU:Nat->Option Obj}(h:alh ro bl b b1 b2 b3)(hs:Sub ro bU):alh bU bl b b1 b2 b3:=⟨hs _ _ h.t,hs _ _ h.y,hs _ _ h.g⟩
def aUG{t:YA}{S:List (List au)}(QB:S9 ro b S ways):iI zT 169 [zP b,.agg ⟨[.slice t.a t.n t.c,.slice t.ea t.en t.ec,(.map (some t.r))]⟩] ro (.bool true):=by
 obtain⟨vS,vT,vH,fa,fc,gb,hS,hT,hHs⟩:=QB;have nP:=hS;obtain⟨pG,hs,nq⟩:=hS;obtain⟨sS,qsb,qso,sR,rfl,qsk,qsh,qsl⟩:=hs;obtain⟨nn,ht,j8⟩:=id hT;obtain⟨fZ,xg,xe,eR,rfl,xf,ou,oh⟩:=ht;have Sa:=nq.len;have hl7:=j8.len;have Pb:∀(i:Nat) (p:jo),([]:List jo)[i]?=some p->eW ⟨ro,[]⟩ 0 (0+i*6) 6 (p5 p):=λ_ _ h=>wU h;refine zE<|zD 2<|jn λb3=>zD 9<|jl (b:=b) (off:=0) (m:=4) (vs:=[.slice sS pG.length sR,.slice fZ nn.length eR,.slice fa 0 fc,vH]) 2 ⟨_,_,_,.inl gb,rfl⟩<|zD 4<|iz [1,0,1,0,0] [] (λ(zz:Nat)=>[(3,zP b3),(11,.slice fa 0 fc),(12,zI 0),(13,zI 0)]) (λzz=>[zxc b3 163 [.slice t.a t.n t.c,.slice t.ea t.en t.ec,(.map (some t.r))]]) (λzz=>True) (λzz=>zz) 0 trivial [0] ?_;rintro z hI K1 cU rest;refine zD 12<|zX _ ⟨rfl,rfl⟩
def asp:eT zT 130 [zP b] ro [] (λr Y=>∃b1,r= .func (.func 167) ⟨[]⟩ ⟨[zP b1]⟩/\Y=[(b1,.cells ⟨[zP b]⟩ 156 (0,0))]):=by
 refine zE<|zD 2<|jn λb1=>zD 8<|zR (.func (.func 167) ⟨[]⟩ ⟨[zP b1]⟩) [] [0] _ ⟨_,rfl,rfl⟩
def aUE{S:List (List au)}{L:List yD}{Inv:Nat->Cells->Prop}{B:Cells}{t:YA}{x:yD}{k:Nat}(QB:S9 ro b S ways)(hC:alh ro bl b b1 b2 b3)(hn:t.n=ways.length)(hx:L[k]?=some x) (hR:TrO (aH S) LL t x) (hB:Inv k B) (hy:YOK zT bl ro L.length (aJ2 (aH S) L) Inv Stop):eT zT 168 [.agg ⟨[.slice t.a t.n t.c,.slice t.ea t.en t.ec,(.map (some t.r))]⟩,zP b1,zP b2,zP b3] ro (LL++B) (λr Y=>∃c,r= .bool c/\(c=true->Inv (k+1) Y)/\(c=false->Stop Y)):=by
 have bhw:=QB;obtain⟨vS,vT,vH,fa,fc,gb,hS,hT,hHs⟩:=QB;have nP:=hS;obtain⟨pG,hs,nq⟩:=hS;obtain⟨sS,qsb,qso,sR,rfl,qsk,qsh,qsl⟩:=hs;obtain⟨nn,ht,j8⟩:=id hT;obtain⟨fZ,xg,xe,eR,rfl,xf,ou,oh⟩:=ht;have Sa:=nq.len;have hl7:=j8.len;have Pb:∀(i:Nat) (p:jo),([]:List jo)[i]?=some p->eW ⟨ro,[]⟩ 0 (0+i*6) 6 (p5 p):=λ_ _ h=>wU h;refine zC [.l LL,.l B]<|zD 2<|jn λb4=>jd 13 [0]<|jl (b:=b1) (off:=0) (m:=1) (vs:=[zP b]) 0 ⟨_,_,_,.inl hC.t,rfl⟩<|zD 3<|jl (b:=b) (off:=0) (m:=4) (vs:=[.slice sS pG.length sR,.slice fZ nn.length eR,.slice fa 0 fc,vH]) 1 ⟨_,_,_,.inl gb,rfl⟩<|zD 3<|zJ 21 ((t.n:Int)=(nn.length:Int)) (λh1=>?_) λh1=>?_
 ·
  refine zD 3<|jl (b:=b1) (off:=0) (m:=1) (vs:=[zP b]) 0 ⟨_,_,_,.inl hC.t,rfl⟩<|jd 1 [0]<|zxp [zP b,.agg ⟨[.slice t.a t.n t.c,.slice t.ea t.en t.ec,(.map (some t.r))]⟩] (λhs=>aUG (t:=t) (bhw.up hs))<|zD 2<|jl (b:=b2) (off:=0) (m:=1) (vs:=[(.func (.yield bl) #[] #[])]) 0 ⟨_,_,_,.inl hC.y,rfl⟩<|jd 1 [0]<|jyc [1,2] (hy k [.agg ⟨[.slice t.a t.n t.c,.slice t.ea t.en t.ec,(.map (some t.r))]⟩] LL B ro (aA.1 hx).1 ⟨x,t,hx,rfl,hR⟩ hB (Sub.refl _)) (Sub.refl _) ?_;intro v29 Y29 beo;obtain⟨c29,rfl,bg2,bgP⟩:=yb beo;refine zD 4<|zR _ [] [0] _ ⟨_,rfl,bg2,bgP⟩
 exfalso;omega
def biv{S:List (List au)}{Inv:Nat->Cells->Prop}{B:Cells}{t:YA}{x:yD}{k0:Nat}{rest:List (List aT)}(QB:S9 ro b S ways)(hC:alh ro bl b b1 b2 b3)(hW:qv S ways)(hn:t.n=d)(hxd:x.ways.length=d)(hwd:ways.drop d=l::rest)(hk:YB (aH S) d x)(wK:x.fin.length=S.length)(hR:TrO (aH S) LL t x)(hB:Inv k0 B)(hG:∀(i:Nat) (c:aT),l[i]?=some c->iO x.fin c=0->∀ {cK:Nat->Option Obj},Sub ro cK->∀ {t':YA} {LL' B':Cells},t'.n=d+1->TrO (aH S) LL' t' (DV x i c)->Inv (k0+ry rest x l i) B'->eT zT 168 [.agg ⟨afJ t'⟩,zP b1,zP b2,zP b3] cK (LL'++B') (λr Y=>∃c,r= .bool c/\(c=true->Inv (k0+ry rest x l (i+1)) Y)/\(c=false->Stop Y))):eT zT 168 [.agg ⟨[.slice t.a t.n t.c,.slice t.ea t.en t.ec,(.map (some t.r))]⟩,zP b1,zP b2,zP b3] ro (LL++B) (λr Y=>∃c,r= .bool c/\(c=true->Inv (k0+(pX (l::rest) x).length) Y)/\(c=false->Stop Y)):=by
 have hwl:=qz List.length hwd;simp only[rD,aJ] at hwl;have hwt:=hW.two;have MO:d<=1:=by omega
 have aSt:2^(d+1)<=12:=bZ (pH (by decide) (show d+1<=2 by omega)) (by decide);have hle:ways[d]?=some l:=by have:=qz (·[0]?) hwd;simpa using this
 obtain⟨vS,vT,vH,fa,fc,gb,hS,hT,hHs⟩:=QB;have nP:=hS;obtain⟨pG,hs,nq⟩:=hS;obtain⟨sS,qsb,qso,sR,rfl,qsk,qsh,qsl⟩:=hs;obtain⟨nn,ht,j8⟩:=id hT;obtain⟨fZ,xg,xe,eR,rfl,xf,ou,oh⟩:=ht;have Sa:=nq.len;have hl7:=j8.len;have Pb:∀(i:Nat) (p:jo),([]:List jo)[i]?=some p->eW ⟨ro,[]⟩ 0 (0+i*6) 6 (p5 p):=λ_ _ h=>wU h;refine zC [.l LL,.l B]<|zD 2<|jn λb4=>zD 1<|jf [1] LL (λAD fq iu=>?_);obtain⟨hw1,hE1,es0,ck0,F0,Au⟩:=hR _ iu;refine jd 12 [0]<|jl (b:=b1) (off:=0) (m:=1) (vs:=[zP b]) 0 ⟨_,_,_,.inl (fq _ _ hC.t),rfl⟩<|zD 3<|jl (b:=b) (off:=0) (m:=4) (vs:=[.slice sS pG.length sR,.slice fZ nn.length eR,.slice fa 0 fc,vH]) 1 ⟨_,_,_,.inl (fq _ _ gb),rfl⟩<|zD 3<|zJ 21 ((t.n:Int)=(nn.length:Int)) (λh4=>?_) λh4=>?_
 ·
  exfalso;omega
 refine zD 5<|jl (b:=b1) (off:=0) (m:=1) (vs:=[zP b]) 0 ⟨_,_,_,.inl (fq _ _ hC.t),rfl⟩<|zD 3<|jl (b:=b) (off:=0) (m:=4) (vs:=[.slice sS pG.length sR,.slice fZ nn.length eR,.slice fa 0 fc,vH]) 1 ⟨_,_,_,.inl (fq _ _ gb),rfl⟩<|zD 1<|zxs nn t.n eR 1 ou λj6 pd=>zD 1 ?_;obtain⟨l39,aS3,h39⟩:=j8.get pd;obtain bfJ:=hW.ok _ (zL aS3);obtain ayb:l39=l:=Option.some.inj (aS3.symm.trans (by rw[hn];exact hle));obtain⟨bco,bpJ,bpH,aPg,rfl,bpI,bcn,bcm⟩:=h39;refine jl 0 ((oh _ _ pd).ext (xB fq))<|zD 4<|iz [1,1,1,0,1,0,0] [] (λ(zz:Nat×Cells)=>[(1,zP b1),(3,zP b3),(4,zP b4),(39,.slice bco l39.length aPg),(40,zI (l39.length:Int)),(41,zI (zz.1:Int))]) (λzz=>[.l zz.2,zxc b4 163 [.slice t.a t.n t.c,.slice t.ea t.en t.ec,(.map (some t.r))]]) (λzz=>zz.1<=l39.length/\Inv (k0+ry rest x l zz.1) zz.2) (λzz=>l39.length-zz.1) (⟨0,B⟩) ⟨by dsimp only;omega,by simpa [ry] using hB⟩ [1,0] ?_;rintro⟨i,B⟩ hI K1 cU rest;dsimp only at hI;refine zD 5<|zJ 42 ((i:Int) <(l39.length:Int)) (λh5=>?_) λh5=>?_
 ·
  refine zD 7<|zxs l39 i aPg 7 bcn λYd Ws=>jl 0 ((bcm _ _ Ws).ext (xB fq))<|jn λb8=>jd 4 [0] ?_;have Eh:=(bfJ.2 _ (zL Ws)).gf wK;have zh:l[i]?=some Yd:=by rw[<-ayb];exact Ws
  refine jd 4 [2,0]<|jc (vs:=[.agg ⟨[.slice t.ea t.en t.ec]⟩,.agg ⟨[zI Yd.k,zI Yd.st,zI Yd.ot,zI Yd.fn,zI Yd.fl,zI Yd.tn,zI Yd.tl]⟩]) [] (aUI (c:=Yd) Eh hE1 (hk.fin MO)) ?_;rintro _ Y50 ⟨m50,rfl,bgM⟩;refine zD 12<|js 54 (!decide ((iO x.fin Yd)=0)) (λh6=>?_) (λh6=>?_)
  ·
   refine zD 3<|zW ((i:Int)+1)<|zD 2<|zF cU (⟨i+1,B⟩) (by dsimp only;rw[abq zh (by simp_all)];exact hI.2) [2,3]
  refine zD 3 ?_;have II:iO x.fin Yd=0:=by simp_all
  obtain⟨r9,F9,es9,ck9,Z9,rfl,rfl,hE9,SV,hM9⟩:=bgM II;have MS:=Ah (hk.fin MO) Eh II;refine jg 0 [.b r9 (.map es9 ck9),.l Z9]<|jf [0,1] ((r9,.map es9 ck9)::Z9) (λro9 Jz hk8=>?_);have hP2:RI ro9 r9 (aH x.fin) (gk x.fin Yd) es9 ck9 F9:=⟨hk8 _ (.head _),hE9,SV,hM9 _ (Knows.tail hk8)⟩;refine zD 1<|jl (b:=b3) (off:=0) (m:=1) (vs:=[.func (.func 168) ⟨[]⟩ ⟨[zP b1,zP b2,zP b3]⟩]) 0 ⟨_,_,_,.inl (Jz _ _ (fq _ _ hC.g)),rfl⟩<|jd 4 [2]<|jl (b:=b1) (off:=0) (m:=1) (vs:=[zP b]) 0 ⟨_,_,_,.inl (Jz _ _ (fq _ _ hC.t)),rfl⟩<|zD 4<|jl (b:=b) (off:=0) (m:=4) (vs:=[.slice sS pG.length sR,.slice fZ nn.length eR,.slice fa 0 fc,vH]) 0 ⟨_,_,_,.inl (Jz _ _ (fq _ _ gb)),rfl⟩<|jd 4 [2]<|vg [3,5] ⟨λ_ _ tw=>?_,λ_ _ KW=>?_,trivial⟩
  ·
   refine jc (vs:=[.slice t.a t.n t.c]) [] (aUL (hw1.up Jz) (by omega)) ?_;rintro v58 L58 aqD;obtain⟨JQ,JM,Hh⟩:=aqD.form;subst Hh;refine eH tw [1,2,3]<|zxo 5 λWJ=>jn λb60=>eH WJ (zN 1 4)<|zxo 6 λhL9=>zxl eC b60 (i:Int) 1 0 (aqD) (λDv Du L61 lZ=>?_) (hb:=by simp only[aJ,aO];omega);refine ee hL9 [[4],[],[],[]]<|zxo 15 λHm=>jc (vs:=[(.map (some r9)),zI (pG.length:Int)]) [] ((show eT _ _ [.map (some r9),zI (pG.length:Int)] _ _ _ from by rw[Sa,<-wK];exact Xa (hk.fin MO) MS hP2)) ?_;rintro _ L70 ⟨a70,n70,c70,rfl,aJk⟩;refine eH Hm (zN 1 5)<|zxo 19 λKZ=>jc (vs:=[(.map (some t.r)),(.map (some r9))]) [] (aCj (Au.up Jz) hP2.s hk.inn (λh hh=>⟨bZ (hk.len MO hh) (by decide),bZ (hk.fm MS hh).1 aSt,(hk.fm MS hh).2⟩)) ?_;rintro _ _ ⟨r74,F74,bjB,Z74,rfl,rfl,aHC,aHR,aIL⟩;obtain⟨Xp,Xx,rfl,aJj⟩:=aHC;refine jg 0 [.b r74 (.map Xp Xx),.l Z74]<|eH KZ (zN 2 6)<|zD 1<|zxo 21 λWW=>jc (vs:=[.agg ⟨[(.slice Dv ((x.ways++[(i:Int)])).length Du),.slice a70 n70 c70,(.map (some r74))]⟩,zP b1,zP b2,zP b3]) [3,2,0,1,6] ((show eT _ _ _ _ (L61++(L70++(r74,.map Xp Xx)::(Z74++B))) _ from by have:=hG i Yd zh II (fq.trans Jz) (t':=⟨Dv,((x.ways++[(i:Int)])).length,Du,a70,n70,c70,r74⟩) (LL':=L61++(L70++(r74,.map Xp Xx)::Z74)) (by simp[hxd]) (λbU hk=>⟨lZ.ju (Knows.left hk),aJk _ (Knows.left (Knows.right hk)),Xp,Xx,F74,(Knows.right (Knows.right hk)) _ (.head _),aJj,aHR,λy hy=>aIL bU (Knows.tail (Knows.right (Knows.right hk))) y hy⟩) hI.2;rwa[bx,bx,dK] at this)) ?_;rintro _ Y76 ⟨c76,rfl,aIw,aIq⟩;refine ee WW [[],[]]<|zD 2<|js 77 (!c76) (λh16=>?_) (λh16=>?_)
   ·
    try simp only[zB] at h16
    refine zD 6<|cd q0.a.a (.bool false) [] [0] Y76 (fq.trans Jz) ⟨_,_,rfl,rfl,_,rfl,nofun,λ_=>aIq (by simp_all)⟩
   try simp only[zB] at h16
   refine zD 3<|zW ((i:Int)+1)<|zD 2<|dX cU (⟨i+1,Y76⟩) ⟨by dsimp only;omega,aIw (by simp_all)⟩ (by dsimp only;omega) [0,3] Jz
  refine jn λb60=>eH KW [1,2,3]<|zxo 3 λQI=>jc (vs:=[.slice t.a t.n t.c]) [] (aUL (hw1.up Jz) (by omega)) ?_;rintro v58 L58 aqD;obtain⟨JQ,JM,Hh⟩:=aqD.form;subst Hh;refine eH QI (zN 1 4)<|zxo 6 λQH=>zxl eC b60 (i:Int) 0 1 (aqD) (λDv Du L61 lZ=>?_) (hb:=by simp only[aJ,aO];omega);refine ee QH [[4],[],[],[]]<|zxo 15 λWV=>jc (vs:=[(.map (some r9)),zI (pG.length:Int)]) [] ((show eT _ _ [.map (some r9),zI (pG.length:Int)] _ _ _ from by rw[Sa,<-wK];exact Xa (hk.fin MO) MS hP2)) ?_;rintro _ L70 ⟨a70,n70,c70,rfl,aJk⟩;refine eH WV (zN 1 5)<|zxo 19 λHl=>jc (vs:=[(.map (some t.r)),(.map (some r9))]) [] (aCj (Au.up Jz) hP2.s hk.inn (λh hh=>⟨bZ (hk.len MO hh) (by decide),bZ (hk.fm MS hh).1 aSt,(hk.fm MS hh).2⟩)) ?_;rintro _ _ ⟨r74,F74,bjB,Z74,rfl,rfl,aHC,aHR,aIL⟩;obtain⟨Xp,Xx,rfl,aJj⟩:=aHC;refine jg 0 [.b r74 (.map Xp Xx),.l Z74]<|eH Hl (zN 2 6)<|zD 1<|zxo 21 λHk=>jc (vs:=[.agg ⟨[(.slice Dv ((x.ways++[(i:Int)])).length Du),.slice a70 n70 c70,(.map (some r74))]⟩,zP b1,zP b2,zP b3]) [3,2,0,1,6] ((show eT _ _ _ _ (L61++(L70++(r74,.map Xp Xx)::(Z74++B))) _ from by have:=hG i Yd zh II (fq.trans Jz) (t':=⟨Dv,((x.ways++[(i:Int)])).length,Du,a70,n70,c70,r74⟩) (LL':=L61++(L70++(r74,.map Xp Xx)::Z74)) (by simp[hxd]) (λbU hk=>⟨lZ.ju (Knows.left hk),aJk _ (Knows.left (Knows.right hk)),Xp,Xx,F74,(Knows.right (Knows.right hk)) _ (.head _),aJj,aHR,λy hy=>aIL bU (Knows.tail (Knows.right (Knows.right hk))) y hy⟩) hI.2;rwa[bx,bx,dK] at this)) ?_;rintro _ Y76 ⟨c76,rfl,aIw,aIq⟩;refine ee Hk [[],[]]<|zD 2<|js 77 (!c76) (λWZ=>?_) (λWZ=>?_)
  ·
   try simp only[zB] at WZ
   refine zD 6<|cd q0.a.a (.bool false) [] [0] Y76 (fq.trans Jz) ⟨_,_,rfl,rfl,_,rfl,nofun,λ_=>aIq (by simp_all)⟩
  try simp only[zB] at WZ
  refine zD 3<|zW ((i:Int)+1)<|zD 2<|dX cU (⟨i+1,Y76⟩) ⟨by dsimp only;omega,aIw (by simp_all)⟩ (by dsimp only;omega) [0,3] Jz
 refine zD 7<|cd q0.a (.bool true) [] [0] B fq ⟨_,_,rfl,rfl,_,rfl,(λ_=>by have:=hI.2;rw[show i=l.length by rw[<-ayb];omega,Ut] at this;exact this),nofun⟩
def aCl{S:List (List au)}{L:List yD}{Inv:Nat->Cells->Prop}(hW:qv S ways):∀ {rest:List (List aT)} {d:Nat} {x:yD} {t:YA} {LL B:Cells} {k0:Nat} {ro:Nat->Option Obj},S9 ro b S ways->alh ro bl b b1 b2 b3->ways.drop d=rest->d<=ways.length->x.ways.length=d->t.n=d->YB (aH S) d x->x.fin.length=S.length->TrO (aH S) LL t x->(∀j y,(pX rest x)[j]?=some y->L[k0+j]?=some y)->Inv k0 B->YOK zT bl ro L.length (aJ2 (aH S) L) Inv Stop->
 eT zT 168 [.agg ⟨afJ t⟩,zP b1,zP b2,zP b3] ro (LL++B) (λr Y=>∃c,r= .bool c/\(c=true->Inv (k0+(pX rest x).length) Y)/\(c=false->Stop Y))
 | [],d,x,t,LL,B,k0,ro,QB,hC,hd,hle,hxd,hn,hk,wK,hR,hL,hB,hy=>by
  have e:ways.length=d:=by have:=qz List.length hd;simp at this;omega
  exact aUE QB hC (by omega) (hL 0 x (by simp[pX])) hR hB hy
 |l::rest,d,x,t,LL,B,k0,ro,QB,hC,hd,hle,hxd,hn,hk,wK,hR,hL,hB,hy=>by
  have hwl:=qz List.length hd;simp only[rD,aJ] at hwl;have MO:d<=1:=by have:=hW.two;omega
  have Dm:l∈ways:=Cy (by rw[hd];exact .head _);refine biv QB hC hW hn hxd hd hk wK hR hB λi c hi he cK hs t' LL' B' hn' hR' hB'=>?_;have Eh:=((hW.ok l Dm).2 c (zL hi)).gf wK;have:=aCl (rest:=rest) (d:=d+1) (k0:=k0+ry rest x l i) hW (QB.up hs) (hC.up hs) (by rw[<-List.drop_drop,hd];rfl) (by omega) (by simp[DV,hxd]) hn' (hk.next MO (Ah (hk.fin MO) Eh he)) (by simp[DV,Jm,wK]) hR' (λj y hj=>by rw[Nat.add_assoc];exact hL _ y (aym hi he hj)) hB' (hy.up hs);rw[Us hi he,<-Nat.add_assoc];exact this
def akB{S:List (List au)}(g1:ro b1=some (.cells ⟨[zP b]⟩ 156 (0,0)))(QB:S9 ro b S ways)(hO:cq S)(hW:qv S ways)(h3:(aH S).length<=3):ItX zT 167 [] [zP b1] ro [] (eY S ways).length (aJ2 (aH S) (eY S ways)) (λZ=>Z=[]):=by
 intro bl cK Inv Stop hs hy B hB;replace g1:=hs _ _ g1;replace QB:=QB.up hs;have bhv:=QB;obtain⟨vS,vT,vH,fa,fc,gb,hS,hT,hHs⟩:=QB;have nP:=hS;obtain⟨pG,rF,nq⟩:=hS;obtain⟨avW,bpf,bpb,avV,rfl,bpd,bpe,bpc⟩:=rF;obtain⟨nn,ht,j8⟩:=id hT;obtain⟨fZ,xg,xe,eR,rfl,xf,ou,oh⟩:=ht;have Pb:∀(i:Nat) (p:jo),([]:List jo)[i]?=some p->eW ⟨cK,[]⟩ 0 (0+i*6) 6 (p5 p):=λ_ _ h=>wU h;refine zC [.l B]<|zD 2<|jn λb2=>zD 3<|jn λb3=>jd 5 [0]<|jf [1,0] ((b2,.cells ⟨[(.func (.yield bl) #[] #[])]⟩ 253 (0,0))::[(b3,.cells ⟨[.func (.func 168) ⟨[]⟩ ⟨[zP b1,zP b2,zP b3]⟩]⟩ 253 (0,0))]) λAD fq iu=>zD 2<|jl (b:=b3) (off:=0) (m:=1) (vs:=[.func (.func 168) ⟨[]⟩ ⟨[zP b1,zP b2,zP b3]⟩]) 0 ⟨_,_,_,.inl (iu _ (.tail _ (.head _))),rfl⟩<|jl (b:=b1) (off:=0) (m:=1) (vs:=[zP b]) 0 ⟨_,_,_,.inl (fq _ _ g1),rfl⟩<|zD 3<|jl (b:=b) (off:=0) (m:=4) (vs:=[.slice avW pG.length avV,.slice fZ nn.length eR,.slice fa 0 fc,vH]) 0 ⟨_,_,_,.inl (fq _ _ gb),rfl⟩<|jl (b:=b1) (off:=0) (m:=1) (vs:=[zP b]) 0 ⟨_,_,_,.inl (fq _ _ g1),rfl⟩<|zD 3<|jl (b:=b) (off:=0) (m:=4) (vs:=[.slice avW pG.length avV,.slice fZ nn.length eR,.slice fa 0 fc,vH]) 0 ⟨_,_,_,.inl (fq _ _ gb),rfl⟩<|zxo 6 λuk=>jc (vs:=[.agg ⟨[.slice avW pG.length avV]⟩]) [] (ayt (nP.up fq) hO) ?_;rintro _ YC ⟨a11,n11,c11,rfl,bh3⟩;refine eH uk [1]<|zxo 12 λC7=>jc (vs:=[.agg ⟨[.slice avW pG.length avV]⟩]) [] (MX (nP.up fq) hO) ?_;rintro _ _ ⟨r17,F17,btZ,Z17,rfl,rfl,aSV,aeW,bhz⟩;obtain⟨ayI,ay9,rfl,bh2⟩:=aSV;refine jg 0 [.b r17 (.map ayI ay9),.l Z17]<|eH C7 [2,3]<|zD 1<|zxo 14 λtx=>jc (vs:=[.agg ⟨[zS,.slice a11 n11 c11,(.map (some r17))]⟩,zP b1,zP b2,zP b3]) [2,0,1,3] ((show eT _ _ _ _ (YC++(r17,.map ayI ay9)::(Z17++B)) _ from by have:=aCl hW (t:=⟨none,0,0,a11,n11,c11,r17⟩) (LL:=YC++(r17,.map ayI ay9)::Z17) (k0:=0) (bhv.up fq) ⟨(fq _ _ g1),iu _ (.head _),iu _ (.tail _ (.head _))⟩ rfl (bQ _) rfl rfl (YB.start hO h3) rfl (λbU hk=>⟨dk.nil _ _ _ _ _,bh3 _ (Knows.left hk),ayI,ay9,F17,(Knows.right hk) _ (.head _),bh2,λh=>by rw[aeW],λy hy=>bhz bU (Knows.tail (Knows.right hk)) y hy⟩) (λj y hj=>by rw[iE];exact hj) hB (YOK.up hy fq);rwa[bx,dK] at this)) ?_;rintro _ Y19 ⟨c19,rfl,bg5,bgS⟩;refine ee tx [[],[]]<|zD 1<|cd q0.a (.tuple ⟨[]⟩) [] [0] Y19 fq ⟨_,_,rfl,rfl,[],Y19,rfl,rfl,by cases c19 with|true=>exact .inl (by have:=bg5 rfl;rwa[iE] at this)|false=>exact .inr (bgS rfl)⟩
def asx{fa:Option Addr}{S:List (List au)}(hS:bH ro vS S)(hO:cq S)(hT:ku ro vT ways)(hW:qv S ways)(h3:(aH S).length<=3):FnG zT 90 [.agg ⟨[vS,vT,.slice fa 0 fc]⟩] ro [] (λr cK Y=>∃b vl ts Lt Z,r= .tuple ⟨[zP b,vl,zI 0]⟩/\S9 cK b S ways/\Y=Lt++Z/\bI vl 3 163 afJ ts Lt/\ts.length=(eY S ways).length/\∀bU,Knows bU Z->kz (TrR (aH S) bU) ts (eY S ways)):=by
 have nP:=hS;obtain⟨pG,hs,nq⟩:=hS;obtain⟨sS,qsb,qso,sR,rfl,qsk,qsh,qsl⟩:=hs;obtain⟨nn,ht,j8⟩:=id hT;obtain⟨fZ,xg,xe,eR,rfl,xf,ou,oh⟩:=ht;have Sa:=nq.len;have hl7:=j8.len;have nI:=hO.two;have aaY:=hW.two;have Pb:∀(i:Nat) (p:jo),([]:List jo)[i]?=some p->eW ⟨ro,[]⟩ 0 (0+i*6) 6 (p5 p):=λ_ _ h=>wU h;refine aRu (hm:=bD) [] [] de<|zD 2<|jn λb1=>jd 7 [0]<|jc (vs:=[.agg ⟨[.slice sS pG.length sR,.slice fZ nn.length eR,.slice fa 0 fc]⟩]) [] (aJV nP hO hT hW) ?_;rintro _ _ ⟨wM,aNr,aWu,rfl,rfl,SR⟩;refine jg 0 [zxc wM 173 [.slice sS pG.length sR,.slice fZ nn.length eR,.slice fa 0 fc,aNr],.l aWu]<|zD 5<|jf [0,1] ((wM,.cells ⟨[.slice sS pG.length sR,.slice fZ nn.length eR,.slice fa 0 fc,aNr]⟩ 173 (0,0))::aWu) (λAD fq iu=>?_);have QB:S9 AD wM S ways:=⟨_,_,_,_,_,iu _ (.head _),nP.up fq,hT.up fq,SR.ju (Knows.tail iu)⟩;refine zD 10 ?_;have hLn:(eY S ways).length<=4:=qf hW;refine zD 1<|jn λb7=>zD 5<|jc (vs:=[zP wM]) [] (asp) ?_;rintro _ _ ⟨aBd,rfl,rfl⟩;refine jg 0 [zxc aBd 156 [zP wM]]<|jf [0] [(aBd,.cells ⟨[zP wM]⟩ 156 (0,0))] λro6 yj hk5=>zD 2<|uI<|uI<|jrf [] (akB (hk5 _ (.head _)) (QB.up yj) hO hW h3) (by rintro _ _ _ _ ⟨_,_,_,rfl,_⟩;rfl) (λ(zz:Value×Cells×(List YA)×Cells)=>[zxc b7 157 [zz.1],.l zz.2.1,.l zz.2.2.2]) (λkk=>(λ(zz:Value×Cells×(List YA)×Cells)=>bI zz.1 3 163 afJ zz.2.2.1 zz.2.1/\zz.2.2.1.length=kk/\(∀bU,Knows bU zz.2.2.2->kz (TrR (aH S) bU) zz.2.2.1 ((eY S ways).take kk))/\(eY S ways).length<=4)) (λjump=>(λ(zz:Value×Cells×(List YA)×Cells)=>False)) (⟨zS,[],[],[]⟩) ⟨bI.nil _ _ _,rfl,λ_ _=> .nil,hLn⟩ [2,0,1] ?_ ?_ ?_
 ·
  rintro bl7 bd7 kk7 vs7 LL7 ⟨vl,Lt,ts,Z⟩ ro7 hk7 bgv hI Jz;obtain⟨x7,t7,hx7,rfl,hR7⟩:=bgv;dsimp only at hI;have ep:=(List.getElem?_eq_some_iff.1 hx7).1;refine zD 1<|jn λb8=>jd 2 [0]<|aGu<|jd 4 [2,0]<|jn λb22=>zxl afJ b22 (⟨t7.a,t7.n,t7.c,t7.ea,t7.en,t7.ec,t7.r⟩:YA) 4 0 (hI.1) (λbav bae L23 Wv=>?_) (hb:=by simp only[List.length_cons,List.length_nil];omega);refine jd 2 [4]<|jyn qy0 (Sub.refl _) ⟨(.slice bav ((ts++[(⟨t7.a,t7.n,t7.c,t7.ea,t7.en,t7.ec,t7.r⟩:YA)])).length bae),L23,(ts++[(⟨t7.a,t7.n,t7.c,t7.ea,t7.en,t7.ec,t7.r⟩:YA)]),LL7++Z⟩ ⟨Wv,by simp only[zM];omega,λbU hk=>Br (hI.2.2.1 bU (Knows.right hk)) hx7 (hR7 bU (Knows.left hk)),hI.2.2.2⟩ [3,4,0,6,5]
 ·
  rintro bd7 ⟨vl,Lt,ts,Z⟩ Z7 hI hZ7;dsimp only at hI;subst hZ7;refine jd 9 [2]<|bdT qm0.a.a.m (.tuple ⟨[zP wM,vl,zI 0]⟩) [0] [] [2,3] (Lt++Z) (Sub.refl _) ⟨_,_,_,rfl,rfl,(fq.trans yj),wM,vl,ts,Lt,Z,rfl,QB.up yj,rfl,hI.1,hI.2.1,by have:=hI.2.2.1;rwa[List.take_of_length_le (Nat.le_refl _)] at this⟩
 rintro bd7 ⟨vl,Lt,ts,Z⟩ Z7 jump hS hZ7;exact hS.elim
def wv(t:YA):Value:= .slice t.a t.n t.c
def kz.maps{γ δ:Type}{R:α->β->Prop}{T:γ->δ->Prop}{f:α->γ}{g:β->δ}(h:∀a b,R a b->T (f a) (g b)):∀ {l:List α} {m:List β},kz R l m->kz T (l.map f) (m.map g)
 | [],[],.nil=> .nil
 |_::_,_::_,.cons h1 h2=> .cons (h _ _ h1) (kz.maps h h2)
def ah3{fa:Option Addr}{S:List (List au)}(hS:bH ro vS S)(hO:cq S)(hT:ku ro vT ways)(hW:qv S ways)(h3:(aH S).length<=3):eT zT 29 [.agg ⟨[vS,vT,.slice fa 0 fc]⟩] ro [] (λr Y=>∃a n c,r= .tuple ⟨[.slice a n c,zI 0]⟩/\n=((eY S ways).map (·.ways)).length/\∀AE,Knows AE Y->at6 AE (.slice a n c) ((eY S ways).map (·.ways))):=by
 have nP:=hS;obtain⟨pG,hs,nq⟩:=hS;obtain⟨sS,qsb,qso,sR,rfl,qsk,qsh,qsl⟩:=hs;obtain⟨nn,ht,j8⟩:=id hT;obtain⟨fZ,xg,xe,eR,rfl,xf,ou,oh⟩:=ht;have Sa:=nq.len;have hl7:=j8.len;have nI:=hO.two;have aaY:=hW.two;have Pb:∀(i:Nat) (p:jo),([]:List jo)[i]?=some p->eW ⟨ro,[]⟩ 0 (0+i*6) 6 (p5 p):=λ_ _ h=>wU h;have hLn:=qf (S:=S) hW;refine zE<|zD 2<|jn λb1=>jd 6 [0]<|jcG (vs:=[.agg ⟨[.slice sS pG.length sR,.slice fZ nn.length eR,.slice fa 0 fc]⟩]) [] (asx nP hO hT hW h3) ?_;rintro _ cK _ fq ⟨Dd,vl,ts,Lt,Z,rfl,QB,rfl,hL,htl,hA⟩;obtain⟨uS,uT,uH,ua,uc,gb,_,_,hh⟩:=QB;obtain⟨rE,Zx,Zv,qV,rfl,Zw,VK,VJ⟩:=hh;obtain⟨aDQ,amA,akn⟩:=hL.form;subst akn;refine jg 0 [.l Lt,.l Z]<|zD 28<|uI<|iz [1,1,1,1,0,1,0,0] [] (λ(zz:Nat×Value×Cells)=>[(2,zS),(3,zI 0),(7,zz.2.1),(19,(.slice aDQ ts.length amA)),(20,zI (ts.length:Int)),(21,zI (zz.1:Int))]) (λzz=>[.l zz.2.2,.l Lt,.l Z,zxc b1 28 [.slice sS pG.length sR,.slice fZ nn.length eR,.slice fa 0 fc]]) (λzz=>zz.1<=ts.length/\bI zz.2.1 1 45 qa ((ts.take zz.1).map wv) zz.2.2) (λzz=>ts.length-zz.1) (⟨0,zS,[]⟩) ⟨by dsimp only;omega,bI.nil _ _ _⟩ (zN 0 4) ?_;rintro⟨k,vO,LO⟩ hI K1 cU rest;dsimp only at hI;refine zD 5<|zJ 22 ((k:Int) <(ts.length:Int)) (λh2=>?_) λh2=>?_
 ·
  refine zD 6 ?_;obtain⟨pF,rV⟩:=zG ts k;refine jxo 3 hL rV λb23 aIC=>yL 0 [1] Lt (λs _ hZ=>kN hL aIC hZ rV)<|jn λb9=>jd 6 [0,0]<|jn λb28=>gB (sz:=1) (ps:=((ts.take k).map wv)) (qs:=[(.slice pF.a pF.n pF.c:Value)]) (enc:=qa) (w:= .slice (some ⟨b28,0,none⟩) 1 1) [2] [0] [(b28,.cells ⟨([(.slice pF.a pF.n pF.c:Value)].map qa).flatten⟩ 45 (0,0))] (hI.2) (λs _ hZ=>dg [(.slice pF.a pF.n pF.c:Value)] (hZ _ (.head _)) (by intro p hp;rfl)) (by intro p hp;rw[aU] at hp;subst hp;exact aG rfl) (by simp only[dE,cH,aJ,aO];omega) (λv29 L29 Ao=>?_);obtain⟨Vg,Vd,Qy⟩:=Ao.form;subst Qy;refine zD 3<|zW ((k:Int)+1)<|zD 2<|zF cU (⟨k+1,(.slice Vg ((((ts.take k).map wv)++[(.slice pF.a pF.n pF.c:Value)])).length Vd),L29⟩) (by rw[c8 rV,cw];exact Ao) [0,3,4,5]
 refine zD 3 ?_;obtain⟨va3,vc3,he3⟩:=hI.2.form;subst he3;refine zD 6<|cd q0.a (.tuple ⟨[(.slice va3 (((ts.take k).map wv)).length vc3),zI 0]⟩) [] [0,2] (LO++Z) fq ⟨_,_,rfl,rfl,_,_,_,rfl,by simp only[dE,cH];omega,λAE hk=>⟨_,hI.2.ju (Knows.left hk),by rw[bF (by omega)];exact(hA AE (Knows.right hk)).maps λ_ _ h=>h.1⟩⟩
def aJN{v:Value}{S:List (List au)}{c:aT}(hc:n9 S c)(he:iO S c=0)(hS:bH ro v S)(hO:cq S):eT zT 170 [.agg ⟨[v]⟩,.agg ⟨p6 c⟩] ro [] (λr Y=>∃rm F LM Z,r= .tuple ⟨[.map (some rm),zI 0]⟩/\Y=LM++Z/\g9 rm mw F LM/\F.map (·.1)=aH S/\MV Z F (gk S c)):=
 (aUJ hc hS hO).mono λ_ _ h=>(h.resolve_left λh=>h.1 he).2
def aAH{v:Value}{S:List (List au)}(hc:n9 S ch)(he:iO S ch=0)(nP:bH ro v S)(hO:cq S):eT zT 216 [.agg ⟨[v]⟩,.agg ⟨p6 ch⟩] ro [] (λr Y=>∃rm F LM Z,r= .tuple ⟨[.map (some rm),zI 0]⟩/\Y=LM++Z/\g9 rm mw F LM/\F.map (·.1)=aH S/\MV Z F (gk S ch)):=by
 refine zE<|zD 2<|jn λb2=>jn λb3=>jd 7 [1]<|zxp [.agg ⟨[v]⟩] (λhs=>asw (nP.up hs) hO)<|jd 13 [1,0]<|jc (vs:=[.agg ⟨[v]⟩,.agg ⟨[zI ch.k,zI ch.st,zI ch.ot,zI ch.fn,zI ch.fl,zI ch.tn,zI ch.tl]⟩]) [] (aJN hc he nP hO) ?_;rintro _ _ ⟨r9,F9,LM9,Z9,rfl,rfl,hm9,SV,hM9⟩;refine jg 0 [.l LM9,.l Z9]<|zD 6<|zR _ [] [0,1] _ ⟨_,F9,LM9,Z9,rfl,rfl,hm9,SV,hM9⟩
def anB{v:Value}{S:List (List au)}{y:ak}(hc:n9 S ch)(he:iO S ch=0)(nP:bH ro v S)(hO:cq S)(hy:y∈aH S):eT zT 153 [.agg ⟨[v]⟩,.agg ⟨p6 ch⟩,.agg ⟨[zI y.h,zI y.n,zI y.l]⟩] ro [] (λr Y=>∃a n c,r= .tuple ⟨[.slice a n c,zI 0]⟩/\∀AE,Knows AE Y->dk AE (.slice a n c) 3 bO (dO qW (gk S ch y))):=by
 have MS:=Ah hO hc he;refine zE<|zD 2<|jn λb3=>jn λb4=>jn λb5=>jd 7 [2,1]<|jc (vs:=[.agg ⟨[v]⟩,.agg ⟨[zI ch.k,zI ch.st,zI ch.ot,zI ch.fn,zI ch.fl,zI ch.tn,zI ch.tl]⟩]) [] (aAH hc he nP hO) ?_;rintro _ _ ⟨r9,F9,LM9,Z9,rfl,rfl,hm9,SV,hM9⟩;obtain⟨es9,ck9,rfl,hE9⟩:=hm9;refine jg 0 [.b r9 (.map es9 ck9),.l Z9]<|zD 5<|jf [0,1] ((r9,.map es9 ck9)::Z9) (λAD fq iu=>?_);have hP2:RI AD r9 (aH S) (gk S ch) es9 ck9 F9:=⟨iu _ (.head _),hE9,SV,hM9 _ (Knows.tail iu)⟩;refine jd 13 [0]<|jlu (kv:=mw) (F:=F9) (r:=r9) (K:=41) y (zS) true [] [] wV (λs he _=>⟨_,_,he _ _ (.inl hP2.m),hP2.e⟩) ?_;obtain⟨w28,aGP,akf⟩:=Od (k:=y) (F:=F9) (by rw[hP2.k];exact hy);have hww:dk AD w28 3 bO (gk S ch y):=hP2.v _ akf;obtain⟨wC,R3,R2,uF,rfl,qwk,MB,MA⟩:=hww;refine jw 24 (.tuple ⟨[.slice wC ((gk S ch y).length) uF,.bool true]⟩) (show R5 (zS) true y F9=_ from by simp only[R5,aGP];rfl) ?_;refine zD 17<|jc (vs:=[.slice wC ((gk S ch y).length) uF]) [] (W9 (show dk _ _ _ _ _ from ⟨wC,R3,R2,uF,rfl,qwk,MB,MA⟩) (bZ (MS.val y hy).1.2 (by decide)) (MS.val y hy).1.1) ?_;rintro v30 L30 ⟨aDn,aqj,aa3⟩;obtain⟨aDO,aDH,aIi⟩:=aa3.form;subst aIi;refine zD 4<|cd q0.a (.tuple ⟨[(.slice aDO aDn.length aDH),zI 0]⟩) [] [0] L30 fq ⟨_,_,rfl,rfl,_,_,_,rfl,λAE hk=>by have:=aa3.ju hk;have e:=aqj.1;subst e;exact this⟩
def aEG{v:Value}{S:List (List au)}(hc:n9 S ch)(he:iO S ch=0)(nP:bH ro v S)(hO:cq S):eT zT 154 [.agg ⟨[v]⟩,.agg ⟨p6 ch⟩] ro [] (λr Y=>∃a n c,r= .tuple ⟨[.agg ⟨[.slice a n c]⟩,zI 0]⟩/\∀bU,Knows bU Y->bH bU (.slice a n c) (y3 S ch)):=by
 have hS:=nP;obtain⟨pG,hs,nq⟩:=hS;obtain⟨sS,qsb,qso,sR,rfl,qsk,qsh,qsl⟩:=hs;refine zE<|zD 2<|jn λb2=>jn λb3=>jn λb4=>jd 6 [2,1]<|jc (vs:=[.agg ⟨[.slice sS pG.length sR]⟩,.agg ⟨[zI ch.k,zI ch.st,zI ch.ot,zI ch.fn,zI ch.fl,zI ch.tn,zI ch.tl]⟩]) [] (aAH hc he nP hO) ?_;rintro _ _ ⟨r9,F9,LM9,Z9,rfl,rfl,hm9,SV,hM9⟩;obtain⟨es9,ck9,rfl,hE9⟩:=hm9;refine jg 0 [.b r9 (.map es9 ck9),.l Z9]<|zD 5<|jf [0,1] ((r9,.map es9 ck9)::Z9) (λAD fq iu=>?_);have hP2:RI AD r9 (aH S) (gk S ch) es9 ck9 F9:=⟨iu _ (.head _),hE9,SV,hM9 _ (Knows.tail iu)⟩;refine jd 15 [2]<|jc (vs:=[(.map (some r9)),zI (pG.length:Int)]) [] ((show eT _ _ [.map (some r9),zI (pG.length:Int)] _ _ _ from by rw[nq.len];exact Xa hO (Ah hO hc he) hP2)) ?_;rintro _ L22 ⟨a22,n22,c22,rfl,bh1⟩;refine jd 4 [1]<|cd q0.a (.tuple ⟨[.agg ⟨[.slice a22 n22 c22]⟩,zI 0]⟩) [1] [0] L22 fq ⟨_,_,rfl,rfl,_,_,_,rfl,bh1⟩
structure bY where
 (past:Int)
 (x y z:cz)
def bY.at(t:bY):Nat->cz
 |0=>t.x
 |1=>t.y
 |_=>t.z
def bY.put(t:bY)(k:Nat)(l:cz):bY:=match k with
 |0=>{t with x:=l}
 |1=>{t with y:=l}
 |_=>{t with z:=l}
def NR(t:bY):List Value:=[zI t.past,zI t.x.a,zI t.x.b,zI t.x.c,zI t.x.d,zI t.y.a,zI t.y.b,zI t.y.c,zI t.y.d,zI t.z.a,zI t.z.b,zI t.z.c,zI t.z.d]
def Yi{k:Nat}(h:k <3):k=0\/k=1\/k=2:=by omega
def JW{s:St}{t:bY}{fz:Nat×Nat}{k:Nat}(h:s.has b (.cells ⟨NR t⟩ T fz))(hk:k <3):eW s b (1+(k:Int).toNat*4) 4 (jH (t.at k)):=by
 rcases Yi hk with rfl|rfl|rfl<;>exact⟨_,_,_,h,rfl⟩
theorem avj{t:bY}{k:Nat}{l:cz}(hk:k <3):gZ (NR t) (1+(k:Int).toNat*4) (jH l)=NR (t.put k l):=by
 rcases Yi hk with rfl|rfl|rfl<;>rfl
def avk{t:bY}{k:Nat}{l:cz}(hk:k <3):Nat.ble ((1+(k:Int).toNat*4)+(jH l).length) (NR t).length=true:=by
 rcases Yi hk with rfl|rfl|rfl<;>rfl
theorem bY.af6{t:bY}{k:Nat}{l:cz}(h:j <k)(hk:k <3):(t.put k l).at j=t.at j:=by
 rcases Yi hk with rfl|rfl|rfl
 .omega
 .obtain rfl:j=0:=by omega
  rfl
 obtain rfl|rfl:j=0\/j=1:=by omega
 all_goals rfl
def Ng(t:bY)(x:cz)(j d:Nat):Prop:=x.at d≠ -1/\x.at d=(t.at j).at d
def pY(D:Int)(t:bY)(p:Nat)(x:cz):Bool:=(List.range p).all λj=>(List.range D.toNat).all λd=> !(!decide (x.at d= -1)&&decide (x.at d=(t.at j).at d))
theorem aJW{t:bY}{x:cz}(h:∀j,j <p->∀d,d <D.toNat->¬Ng t x j d):pY D t p x=true:=by
 grind [pY,cM,Ng]
theorem aJX{t:bY}{x:cz}(hj:j <p)(hd:d <D.toNat)(h:Ng t x j d):pY D t p x=false:=by
 cases hf:pY D t p x with
 |false=>rfl
 |true=>
  simp only[pY,cM] at hf
  grind [Ng]
def aQX{W:kg}{t:bY}{x:cz}(hH:ro Hb=some (.cells ⟨W.cells u⟩ 113 (0,0)))(hD:1<=W.D/\W.D<=4)(hp:p<=3):iI zT 142 [zP Hb,.agg ⟨[zI t.past,zI t.x.a,zI t.x.b,zI t.x.c,zI t.x.d,zI t.y.a,zI t.y.b,zI t.y.c,zI t.y.d,zI t.z.a,zI t.z.b,zI t.z.c,zI t.z.d]⟩,zI (p:Int),.agg ⟨[zI x.a,zI x.b,zI x.c,zI x.d]⟩] ro (.bool (pY W.D t p x)):=by
 refine zE<|zD 2<|jn λb5=>jn λb7=>zD 7<|jah (b:=b5) (off:=1) (len:=3) (p:Int) (by omega)<|zD 4<|iz [1,0,1,0,0] [] (λ(zz:Nat)=>[(0,zP Hb),(7,zP b7),(14,(.slice (some ⟨b5,1,none⟩) (p:Int).toNat 3)),(15,zI (p:Int)),(16,zI (zz:Int))]) (λzz=>[zxc b7 120 [zI x.a,zI x.b,zI x.c,zI x.d],zxc b5 123 [zI t.past,zI t.x.a,zI t.x.b,zI t.x.c,zI t.x.d,zI t.y.a,zI t.y.b,zI t.y.c,zI t.y.d,zI t.z.a,zI t.z.b,zI t.z.c,zI t.z.d]]) (λzz=>zz<=p/\∀j,j <zz->∀d,d <W.D.toNat->¬Ng t x j d) (λzz=>p-zz) 0 ⟨bQ _,λj hj=>absurd hj (fS _)⟩ [0,1] ?_;rintro k hI K1 cU rest;refine zD 5<|zJ 17 ((k:Int) <(p:Int)) (λh1=>?_) λh1=>?_
 ·
  refine zD 6<|jix (a:=some ⟨b5,1,none⟩) (b:=b5) (off:=1) (len:=(p:Int).toNat) (k:Int) 3 4 rfl (by omega)<|yL (b:=b5) (off:=1+(k:Int).toNat*4) (m:=4) (vs:=[zI ((t.at k).a),zI ((t.at k).b),zI ((t.at k).c),zI ((t.at k).d)]) 0 [1] [(b5,.cells ⟨[zI t.past,zI t.x.a,zI t.x.b,zI t.x.c,zI t.x.d,zI t.y.a,zI t.y.b,zI t.y.c,zI t.y.d,zI t.z.a,zI t.z.b,zI t.z.c,zI t.z.d]⟩ 123 (0,0))] (λs _ hZ=>(JW (t:=t) (hZ _ (.head _)) (by omega)))<|jn λCH=>jd 8 [0]<|jl (b:=Hb) (off:=0) (m:=11) (vs:=[W.a0,W.a1,W.a2,W.a3,W.a4,zI W.D,zI W.S,W.a7,(.slice W.ha W.H W.iK),u,W.LJ]) 5 ⟨_,_,_,.inl hH,rfl⟩<|zD 3<|iz [1,0,1,0,0,1,1,0,0,1,1,0,0] [K1] (λ(zz:Nat)=>[(0,zP Hb),(7,zP b7),(10,zP CH),(14,(.slice (some ⟨b5,1,none⟩) (p:Int).toNat 3)),(15,zI (p:Int)),(16,zI (k:Int)),(24,zI W.D),(25,zI (zz:Int))]) (λzz=>[zxc CH 120 [zI ((t.at k).a),zI ((t.at k).b),zI ((t.at k).c),zI ((t.at k).d)],zxc b7 120 [zI x.a,zI x.b,zI x.c,zI x.d],zxc b5 123 [zI t.past,zI t.x.a,zI t.x.b,zI t.x.c,zI t.x.d,zI t.y.a,zI t.y.b,zI t.y.c,zI t.y.d,zI t.z.a,zI t.z.b,zI t.z.c,zI t.z.d]]) (λzz=>(zz:Int)<=W.D/\∀e,e <zz->¬Ng t x k e) (λzz=>W.D.toNat-zz) 0 ⟨by omega,λj hj=>absurd hj (fS _)⟩ [0,1,2] ?_;rintro d hJ K2 kU rest;refine zD 5<|zJ 26 ((d:Int) <W.D) (λh2=>?_) λh2=>?_
  ·
   refine zD 12<|Dk (b:=b7) (off:=0) (len:=4) (sz:=1) (d:Int) (by omega)<|yL (b:=b7) (off:=0+(d:Int).toNat*1) (m:=1) (vs:=[zI (x.at d)]) 0 [1] [(b7,.cells ⟨[zI x.a,zI x.b,zI x.c,zI x.d]⟩ 120 (0,0))] (λs _ hZ=>jR (hZ _ (.head _)) (vD (x:=x) (by omega)))<|zD 2<|js 4 (!decide ((x.at d)=(-1))) (λh3=>?_) (λh3=>?_)
   ·
    have yW:=h3;replace yW:=af (by simpa using yW);refine zD 1<|Dk (b:=b7) (off:=0) (len:=4) (sz:=1) (d:Int) (by omega)<|yL (b:=b7) (off:=0+(d:Int).toNat*1) (m:=1) (vs:=[zI (x.at d)]) 0 [1] [(b7,.cells ⟨[zI x.a,zI x.b,zI x.c,zI x.d]⟩ 120 (0,0))] (λs _ hZ=>jR (hZ _ (.head _)) (vD (x:=x) (by omega)))<|zD 1<|Dk (b:=CH) (off:=0) (len:=4) (sz:=1) (d:Int) (by omega)<|yL (b:=CH) (off:=0+(d:Int).toNat*1) (m:=1) (vs:=[zI ((t.at k).at d)]) 0 [0] [(CH,.cells ⟨[zI ((t.at k).a),zI ((t.at k).b),zI ((t.at k).c),zI ((t.at k).d)]⟩ 120 (0,0))] (λs _ hZ=>jR (hZ _ (.head _)) (vD (x:=(t.at k)) (by omega)))<|zD 3<|zJ 40 ((x.at d)=((t.at k).at d)) (λh4=>?_) λh4=>?_
    ·
     refine zD 6<|zX _ ⟨by rw[aJX (j:=k) (d:=d) (by omega) (by omega) ⟨by omega,by omega⟩],rfl⟩
    refine zD 3<|zW ((d:Int)+1)<|zD 2<|zY kU (d+1) ⟨by omega,λe he=>(HO.1 he).elim (hJ.2 e) λh=>by subst h;exact λhm=>by simp only[Ng] at hm;omega⟩ [0,1,2]
   have yW:=h3;replace yW:=ah (by simpa using yW);refine zD 12<|zW ((d:Int)+1)<|zD 2<|zY kU (d+1) ⟨by omega,λe he=>(HO.1 he).elim (hJ.2 e) λh=>by subst h;exact λhm=>by simp only[Ng] at hm;omega⟩ [0,1,2]
  refine zD 3<|zW ((k:Int)+1)<|zD 2<|zY cU (k+1) ⟨by omega,λj hj=>(HO.1 hj).elim (hI.2 j) λh=>by subst h;exact λd2 hd2=>hJ.2 d2 (by omega)⟩ [1,2]
 refine zD 7<|zX _ ⟨by rw[aJW (λj hj=>hI.2 j (by omega))],rfl⟩
theorem Em{κ:Type}[DecidableEq κ]{k:κ}{v:Value}:∀ {F:List (κ×Value)} {i:Nat},ub k F i=none->ub k (F++[(k,v)]) i=some (i+F.length,v)
 | [],i,_=>by simp[ub]
 |x::l,i,h=>by
  simp only[ub] at h;split at h
  .grind
  rename_i hk;rw[dK,ub,cy hk,Em h,aJ,show i+1+l.length=i+(l.length+1) by omega]
theorem abA{κ:Type}[DecidableEq κ]{k:κ}{v:Value}:∀ {F:List (κ×Value)} {i j:Nat} {u:Value},ub k F i=some (j,u)->ub k (xb k v F (j-i)) i=some (j,v)
 | [],_,_,_,h=>by cases h
 |x::l,i,j,u,h=>by
  simp only[ub] at h
  split at h
  .cases h;simp[xb,ub]
  rename_i hk
  have h2:=tC h
  have:=abA (v:=v) h
  rw[show j-i=(j-(i+1))+1 by omega]
  simp_all[xb,ub,if_neg]
abbrev v4(a b c d:Int):Value:= .agg ⟨[zI a,zI b,zI c,zI d]⟩
def biH{P:Program}{z:List Value}(tf:TF P T (.array 4 3) sz dP z ag)(t3:TF P 3 (.int .i64) 1 by1 z1 false)(a b c d a' b' c' d':Int):
 EqD P (dep+2) T (v4 a b c d) (v4 a' b' c' d') (a==a'&&(b==b'&&(c==c'&&(d==d'&&true)))):=by
 intro α s k Q E;rw[Op.equalIn];simp only[aI,db tf,eE t3];simp only[Std.Legacy.Range.forIn_eq_forIn_range',Std.Legacy.Range.size,acA,Nat.add_sub_cancel,Nat.div_one,List.range'_succ,List.range'_zero,List.forIn_cons,List.forIn_nil,aI,iE,Nat.mul_one];have p (l:List Value) (o:Nat) (v:Value) (h:nth l o=some v):RE P 3 l o v:=oI t3 h;rw[p _ 0 (zI a) rfl];simp only[aI];rw[p _ 0 (zI a') rfl];simp only[aI];rw[tE t3 a a'];cases ha:a==a' with
 |false=>simp only[sr,dF,aQ,aI,wR]
 |true=>
 simp only[qZ,aW,cJ,aQ,F8,aI];rw[p _ 1 (zI b) rfl];simp only[aI];rw[p _ 1 (zI b') rfl];simp only[aI];rw[tE t3 b b'];cases hb:b==b' with
 |false=>simp only[sr,dF,aQ,aI,wR]
 |true=>
 simp only[qZ,aW,cJ,aQ,F8,aI];rw[p _ 2 (zI c) rfl];simp only[aI];rw[p _ 2 (zI c') rfl];simp only[aI];rw[tE t3 c c'];cases hc:c==c' with
 |false=>simp only[sr,dF,aQ,aI,wR]
 |true=>
 simp only[qZ,aW,cJ,aQ,F8,aI];rw[p _ 3 (zI d) rfl];simp only[aI];rw[p _ 3 (zI d') rfl];simp only[aI];rw[tE t3 d d'];cases hd:d==d' with
 |false=>simp only[sr,dF,aQ,aI,wR]
 |true=>simp only[qZ,aW,cJ,aQ,F8,aI]
def ck4{P:Program}{z:List Value}(tf:TF P T (.array 4 3) sz dP z ag)(t3:TF P 3 (.int .i64) 1 by1 z1 false)(a b c d:Int):CkD P (dep+2) T (v4 a b c d):=by
 intro bb α K s Q E;rw[Instr.checkKey];simp only[aI,db tf];simp only[Std.Legacy.Range.forIn_eq_forIn_range',Std.Legacy.Range.size,acA,Nat.add_sub_cancel,Nat.div_one,List.range'_succ,List.range'_zero,List.forIn_cons,List.forIn_nil,aI,iE,eE t3,Nat.zero_mul,Nat.mul_one];have p (l:List Value) (o:Nat) (v:Value) (h:nth l o=some v):RE P 3 l o v:=oI t3 h;rw[p _ 0 (zI a) rfl];simp only[aI];rw[M6 t3 a bb];simp only[aQ,aI,eE t3,Nat.mul_one];rw[p _ 1 (zI b) rfl];simp only[aI];rw[M6 t3 b bb];simp only[aQ,aI,eE t3,Nat.mul_one];rw[p _ 2 (zI c) rfl];simp only[aI];rw[M6 t3 c bb];simp only[aQ,aI,eE t3,Nat.mul_one];rw[p _ 3 (zI d) rfl];simp only[aI];rw[M6 t3 d bb];simp only[aQ,aI]
abbrev kvL(x:cz):Value:= .agg ⟨jH x⟩
def ahr:X4 zT 120 kvL:=apO (q6 Tryz.typeInfo120 Tryz.underlying120 rfl rfl rfl rfl rfl rfl) (λk=>⟨_,rfl⟩)
 (λk=>ck4 (dep:=9998) (q6 Tryz.typeInfo120 Tryz.underlying120 rfl rfl rfl rfl rfl rfl) rN _ _ _ _)
 (λa b=>by
  have h:=biH (dep:=9998) (q6 Tryz.typeInfo120 Tryz.underlying120 rfl rfl rfl rfl rfl rfl) rN a.a a.b a.c a.d b.a b.b b.c b.d;have e:(a.a==b.a&&(a.b==b.b&&(a.c==b.c&&(a.d==b.d&&true))))=decide (a=b):=by
   rcases a with ⟨x,y,z,t⟩;rcases b with ⟨u,v,w,r⟩
   rw[GD];simp
  rwa[e] at h)
 (λk=>by simp[Instr.sameBits,jH])
def vk(k:IntKind)(a b:Int):Int:=k.wrap (BitVec.ofInt k.bits a&&& ~~~ BitVec.ofInt k.bits b).toNat
structure eI where
 (w m0 m1 m2:Value)
def eI.m(x:eI):Nat->Value
 |0=>x.m0
 |1=>x.m1
 |_=>x.m2
def Bn(x:eI):List Value:=[x.w,x.m0,x.m1,x.m2]
theorem PH{x:eI}{k:Nat}(h:k <3):nth (Bn x) (1+(k:Int).toNat*1)=some (x.m k):=by
 rcases Yi h with rfl|rfl|rfl<;>rfl
structure fN where
 (name:ByteArray)
 (st no lt:Int)
 (late:Bool)
 (low high:Int)
def rB(x:fN):List Value:=[.string x.name,zI x.st,zI x.no,zI x.lt,.bool x.late,zI x.low,zI x.high]
structure Ct(ro:Nat->Option Obj)(Hb:Nat)(W:kg)(u:Value)(np ne:Nat)(ls:List cz)(ps:List eI)(mk:Nat->Nat->cz->Int):Prop where
 h:ro Hb=some (.cells ⟨W.cells u⟩ 113 (0,0))
 d:1<=W.D/\W.D<=4
 n3:np<=3
 pe:∃xs:List ByteArray,xs.length=np/\dk ro W.a3 1 mG xs
 e:∃es:List fN,es.length=ne/\dk ro W.a7 7 rB es
 e5:ne<=5
 l:dk ro u 4 jH ls
 ll:ls.length<=5000
 p:dk ro W.LJ 4 Bn ps
 pl:ps.length<=1000
 m:∀i x,ps[i]?=some x->∀j,j <np->∃r es ck F,x.m j= .map (some r)/\ro r=some (.map es ck)/\wN kvL F es ck/\∀y∈ls,R5 (.int .u8 0) false y F= .int .u8 (mk i j y)
def Ct.up{bU:Nat->Option Obj}{W:kg}{ls:List cz}{ps:List eI}{mk:Nat->Nat->cz->Int}(h:Ct ro Hb W u np ne ls ps mk)(hs:Sub ro bU):Ct bU Hb W u np ne ls ps mk:=
 ⟨hs _ _ h.h,h.d,h.n3,h.pe.imp λ_ k=>⟨k.1,k.2.up hs⟩,h.e.imp λ_ k=>⟨k.1,k.2.up hs⟩,h.e5,h.l.up hs,h.ll,h.p.up hs,h.pl,λi x hi j hj=>by
  obtain⟨r,es,ck,F,h1,h2,h3,h4⟩:=h.m i x hi j hj;exact⟨r,es,ck,F,h1,hs _ _ h2,h3,h4⟩⟩
def nY(D:Int)(ls:List cz)(mk:Nat->Nat->cz->Int)(need:Int):Nat->bY->Nat->Int->List bY
 |0,t,_,m=>bif !decide (vk .u8 need m=0) then [] else [t]
 |k+1,t,p,m=>ls.flatMap λx=>bif pY D t p x then nY D ls mk need k (t.put p x) (p+1) (iOr .u8 m (mk t.past.toNat p x)) else []
def Ej(D:Int)(ls:List cz)(mk:Nat->Nat->cz->Int)(need:Int)(k:Nat)(t:bY)(p:Nat)(m:Int)(x:cz):List bY:=bif pY D t p x then nY D ls mk need k (t.put p x) (p+1) (iOr .u8 m (mk t.past.toNat p x)) else []
theorem uR{ls:List cz}{mk:Nat->Nat->cz->Int}{k:Nat}{t:bY}{m:Int}:nY D ls mk need (k+1) t p m=ls.flatMap (Ej D ls mk need k t p m):=rfl
def Nd(t t':bY)(p:Nat):Prop:=∀x,t'.put p x=t.put p x
theorem Nd.past{t t':bY}(h:Nd t t' p):t'.past=t.past:=by
 have:=qz bY.past (h ⟨0,0,0,0⟩);have e:∀t:bY,(t.put p ⟨0,0,0,0⟩).past=t.past:=λt=>by unfold bY.put;grind
 grind
theorem Nd.free{t t':bY}{x:cz}(h:Nd t t' p)(hp:p <3):pY D t' p x=pY D t p x:=by
 have e:∀j,j <p->t'.at j=t.at j:=λj hj=>by
  rw[<-bY.af6 (l:=⟨0,0,0,0⟩) hj hp,h,bY.af6 hj hp]
 simp only[pY]
 grind
theorem av7{t:bY}{x y:cz}:(t.put p x).put p y=t.put p y:=by
 rcases p with _|_|p<;>rfl
theorem Nd.put{t t':bY}{y:cz}(h:Nd t t' p):Nd t (t'.put p y) p:=λx=>by rw[av7,h]
abbrev eTs(L:List bY):(Nat->Option Obj)->Nat->List Value->Cells->Prop:=λ_ k vs LL=>∃t,L[k]?=some t/\vs=[.agg ⟨NR t⟩]/\LL=[]
structure aue(ro:Nat->Option Obj)(bl Hb:Nat)(need:Int)(bw bn dP bg:Nat):Prop where
 w:ro bw=some (.cells ⟨[zP Hb]⟩ 103 (0,0))
 n:ro bn=some (.cells ⟨[.int .u8 need]⟩ 137 (0,0))
 y:ro dP=some (.cells ⟨[.func (.yield bl) #[] #[]]⟩ 223 (0,0))
 g:ro bg=some (.cells ⟨[.func (.func 141) ⟨[]⟩ ⟨[zP bw,zP bn,zP dP,zP bg]⟩]⟩ 224 (0,0))
def aCT(bl Hb:Nat)(W:kg)(u:Value)(np ne:Nat)(ls:List cz)(ps:List eI)(mk:Nat->Nat->cz->Int)(need:Int)(bw bn dP bg:Nat)(L:List bY)(Inv:Nat->Cells->Prop)(Stop:Cells->Prop)(n:Nat):Prop:=
 ∀(ro:Nat->Option Obj) (p:Nat) (t:bY) (m:Int) (q:Nat) (B:Cells),aue ro bl Hb need bw bn dP bg->Ct ro Hb W u np ne ls ps mk->p+n=np->(0<=t.past/\t.past <ps.length)->Part L q (nY W.D ls mk need n t p m)->Inv q B->YOK zT bl ro L.length (eTs L) Inv Stop->
  eT zT 141 [.agg ⟨NR t⟩,zI (p:Int),.int .u8 m,zP bw,zP bn,zP dP,zP bg] ro B (λr Y=>∃c,r= .bool c/\(c=true->Inv (q+(nY W.D ls mk need n t p m).length) Y)/\(c=false->Stop Y))
def apu{l:List α}{x:α}(h:l[j]?=some x):l=l.take j++[x]++l.drop (j+1):=by
 rw[<-c8 h,fH]
theorem Q0{l:List α}{x:α}{G:α->List β}(h:l[j]?=some x):((l.take (j+1)).flatMap G).length=((l.take j).flatMap G).length+(G x).length:=by
 rw[c8 h,iF,aL,List.flatMap_singleton]
def aF7{n q:Nat}{t:bY}{m:Int}{B:Cells}{L:List bY}{Inv:Nat->Cells->Prop}{W:kg}{ls:List cz}{ps:List eI}{mk:Nat->Nat->cz->Int}(ih:∀k,k <n->aCT bl Hb W u np ne ls ps mk need bw bn dP bg L Inv Stop k)(iK:aue ro bl Hb need bw bn dP bg)(eJ:Ct ro Hb W u np ne ls ps mk)(hpn:p+n=np)(hpa:0<=t.past/\t.past <ps.length)(hP:Part L q (nY W.D ls mk need n t p m))(hB:Inv q B)(hy:YOK zT bl ro L.length (eTs L) Inv Stop):eT zT 141 [.agg ⟨[zI t.past,zI t.x.a,zI t.x.b,zI t.x.c,zI t.x.d,zI t.y.a,zI t.y.b,zI t.y.c,zI t.y.d,zI t.z.a,zI t.z.b,zI t.z.c,zI t.z.d]⟩,zI (p:Int),.int .u8 m,zP bw,zP bn,zP dP,zP bg] ro B (λr Y=>∃c,r= .bool c/\(c=true->Inv (q+(nY W.D ls mk need n t p m).length) Y)/\(c=false->Stop Y)):=by
 obtain⟨gw,gn,gy,gg⟩:=id iK;obtain⟨xs,Jx,xO⟩:=eJ.pe;obtain⟨qi,Yh,Yf,qd,zh,Yg,VI,VH⟩:=xO;obtain⟨es,vK,nJ⟩:=eJ.e;obtain⟨gY,yK,yJ,gP,yV,GQ,xo,xm⟩:=nJ;obtain⟨fO,rh,q9,fb,hle,sV,mR,nN⟩:=eJ.l;obtain⟨gX,xY,xX,gF,Bd,A2,xk,xj⟩:=eJ.p;have hH:ro Hb=some (.cells ⟨[W.a0,W.a1,W.a2,.slice qi xs.length qd,W.a4,zI W.D,zI W.S,.slice gY es.length gP,(.slice W.ha W.H W.iK),.slice fO ls.length fb,.slice gX ps.length gF]⟩ 113 (0,0)):=by rw[<-zh,<-yV,<-hle,<-Bd];exact eJ.h
 have Yn:=eJ.n3;have Ug:=eJ.e5;have Ee:=eJ.ll;have wm:=eJ.pl;have Yt:=eJ.d;refine zC [.l B]<|zD 2<|jn λb7=>zD 6<|jl (b:=bw) (off:=0) (m:=1) (vs:=[zP Hb]) 0 ⟨_,_,_,.inl gw,rfl⟩<|zD 3<|jl (b:=Hb) (off:=0) (m:=11) (vs:=[W.a0,W.a1,W.a2,.slice qi xs.length qd,W.a4,zI W.D,zI W.S,.slice gY es.length gP,(.slice W.ha W.H W.iK),.slice fO ls.length fb,.slice gX ps.length gF]) 3 ⟨_,_,_,.inl hH,rfl⟩<|zD 3<|zJ 20 ((p:Int)=(xs.length:Int)) (λh1=>?_) λh1=>?_
 ·
  refine zD 2 ?_;obtain rfl:n=0:=by omega
  refine zD 1<|jl (b:=bn) (off:=0) (m:=1) (vs:=[.int .u8 need]) 0 ⟨_,_,_,.inl gn,rfl⟩<|zD 4<|js 25 (!decide ((vk .u8 need m)=0)) (λh2=>?_) (λh2=>?_)
  ·
   have nu:=h2;replace nu:=af (by simpa using nu);refine zD 7<|zR (.bool true) [] [1] B ⟨_,rfl,(λ_=>by rw[show nY W.D ls mk need 0 t p m=[] by simp only[nY,h2];rfl];exact hB),nofun⟩
  have nu:=h2;replace nu:=ah (by simpa using nu);have aq5:nY W.D ls mk need 0 t p m=[t]:=by simp only[nY,h2];rfl
  have hel:=Part.get (i:=0) (x:=t) hP (by rw[aq5];rfl);refine jl (b:=dP) (off:=0) (m:=1) (vs:=[(.func (.yield bl) #[] #[])]) 0 ⟨_,_,_,.inl gy,rfl⟩<|jd 1 [0]<|jyc [1] (hy q [.agg ⟨[zI t.past,zI t.x.a,zI t.x.b,zI t.x.c,zI t.x.d,zI t.y.a,zI t.y.b,zI t.y.c,zI t.y.d,zI t.z.a,zI t.z.b,zI t.z.c,zI t.z.d]⟩] [] B ro hel.1 ⟨_,hel.2,rfl,rfl⟩ hB (Sub.refl _)) (Sub.refl _) ?_;intro v26 Y26 aGC;obtain⟨c26,rfl,bg4,bgR⟩:=yb aGC;refine zD 4<|zR (.bool c26) [] [0] _ ⟨_,rfl,(λh=>by rw[aq5];exact bg4 h),bgR⟩
 refine zD 4 ?_;obtain⟨k,rfl⟩:∃k,n=k+1:=⟨n-1,by omega⟩;rw[uR] at hP;refine zD 1<|jl (b:=bw) (off:=0) (m:=1) (vs:=[zP Hb]) 0 ⟨_,_,_,.inl gw,rfl⟩<|zD 2<|jl (b:=Hb) (off:=0) (m:=11) (vs:=[W.a0,W.a1,W.a2,.slice qi xs.length qd,W.a4,zI W.D,zI W.S,.slice gY es.length gP,(.slice W.ha W.H W.iK),.slice fO ls.length fb,.slice gX ps.length gF]) 9 ⟨_,_,_,.inl hH,rfl⟩<|zD 4<|iz [1,1,0,1,0,0] [] (λ(zz:Nat×bY×Cells)=>[(1,zI (p:Int)),(2,.int .u8 m),(3,zP bw),(6,zP bg),(7,zP b7),(33,.slice fO ls.length fb),(34,zI (ls.length:Int)),(35,zI (zz.1:Int))]) (λzz=>[zxc b7 123 [zI zz.2.1.past,zI zz.2.1.x.a,zI zz.2.1.x.b,zI zz.2.1.x.c,zI zz.2.1.x.d,zI zz.2.1.y.a,zI zz.2.1.y.b,zI zz.2.1.y.c,zI zz.2.1.y.d,zI zz.2.1.z.a,zI zz.2.1.z.b,zI zz.2.1.z.c,zI zz.2.1.z.d],.l zz.2.2]) (λzz=>zz.1<=ls.length/\Inv (q+((ls.take zz.1).flatMap (Ej W.D ls mk need k t p m)).length) zz.2.2/\Nd t zz.2.1 p) (λzz=>ls.length-zz.1) (⟨0,t,B⟩) ⟨Nat.zero_le _,by simpa using hB,λ_=>rfl⟩ [0,1] ?_;rintro⟨j,tt,B⟩ hJ K1 cU rest;dsimp only at hJ;refine zD 5<|zJ 36 ((j:Int) <(ls.length:Int)) (λh3=>?_) λh3=>?_
 ·
  refine zD 6<|zxt ls j fb 4 mR nN λj6 pd=>jn λDd=>jd 5 [0]<|jl (b:=bw) (off:=0) (m:=1) (vs:=[zP Hb]) 0 ⟨_,_,_,.inl gw,rfl⟩<|jd 3 [1,0]<|zxp [zP Hb,.agg ⟨[zI tt.past,zI tt.x.a,zI tt.x.b,zI tt.x.c,zI tt.x.d,zI tt.y.a,zI tt.y.b,zI tt.y.c,zI tt.y.d,zI tt.z.a,zI tt.z.b,zI tt.z.c,zI tt.z.d]⟩,zI (p:Int),.agg ⟨[zI j6.a,zI j6.b,zI j6.c,zI j6.d]⟩] (λhs=>aQX (t:=tt) (p:=p) (x:=j6) (hs _ _ eJ.h) eJ.d (by omega))<|zD 2<|js 44 (!(pY W.D tt p j6)) (λh4=>?_) (λh4=>?_)
  ·
   try simp only[zB] at h4
   have KR:Ej W.D ls mk need k t p m j6=[]:=by simp only[Ej,show pY W.D t p j6=false from by rw[<-hJ.2.2.free (by omega)];simpa using h4];rfl
   refine zD 3<|zW ((j:Int)+1)<|zD 2<|zF cU (⟨j+1,tt,B⟩) ⟨by dsimp only;rw[Q0 pd,KR];exact hJ.2.1,hJ.2.2⟩ [1,2]
  try simp only[zB] at h4
  have SX:pY W.D t p j6=true:=by rw[<-hJ.2.2.free (by omega)];simpa using h4
  have hpt:=(hJ.2.2.put (y:=j6)).past;have KR:Ej W.D ls mk need k t p m j6=nY W.D ls mk need k (tt.put p j6) (p+1) (iOr .u8 m (mk (tt.put p j6).past.toNat p j6)):=by rw[hpt,hJ.2.2 j6];simp only[Ej,SX,cG]
  have hPg:Part L (q+((ls.take j).flatMap (Ej W.D ls mk need k t p m)).length) (nY W.D ls mk need k (tt.put p j6) (p+1) (iOr .u8 m (mk (tt.put p j6).past.toNat p j6))):=by rw[<-KR];exact Part.flat hP (apu pd)
  refine jd 7 [0]<|Dk (b:=b7) (off:=1) (len:=3) (sz:=4) (p:Int) (by omega)<|jsx 1 b7 (1+(p:Int).toNat*4) [zI tt.past,zI tt.x.a,zI tt.x.b,zI tt.x.c,zI tt.x.d,zI tt.y.a,zI tt.y.b,zI tt.y.c,zI tt.y.d,zI tt.z.a,zI tt.z.b,zI tt.z.c,zI tt.z.d] [zI j6.a,zI j6.b,zI j6.c,zI j6.d] 123 (aG rfl) (avk (t:=tt) (l:=j6) (by omega))<|jmw 0 [zxc b7 123 [zI ((tt.put p j6).past),zI ((tt.put p j6).x.a),zI ((tt.put p j6).x.b),zI ((tt.put p j6).x.c),zI ((tt.put p j6).x.d),zI ((tt.put p j6).y.a),zI ((tt.put p j6).y.b),zI ((tt.put p j6).y.c),zI ((tt.put p j6).y.d),zI ((tt.put p j6).z.a),zI ((tt.put p j6).z.b),zI ((tt.put p j6).z.c),zI ((tt.put p j6).z.d)]] (L:=[(b7,.cells ⟨gZ [zI tt.past,zI tt.x.a,zI tt.x.b,zI tt.x.c,zI tt.x.d,zI tt.y.a,zI tt.y.b,zI tt.y.c,zI tt.y.d,zI tt.z.a,zI tt.z.b,zI tt.z.c,zI tt.z.d] (1+(p:Int).toNat*4) [zI j6.a,zI j6.b,zI j6.c,zI j6.d]⟩ 123 (0,0))]) (by show [(b7,Obj.cells ⟨gZ (NR tt) (1+(p:Int).toNat*4) (jH j6)⟩ 123 (0,0))]=_;rw[avj (by omega)];rfl) ?_;refine zD 3<|jl (b:=bg) (off:=0) (m:=1) (vs:=[.func (.func 141) ⟨[]⟩ ⟨[zP bw,zP bn,zP dP,zP bg]⟩]) 0 ⟨_,_,_,.inl gg,rfl⟩<|jd 2 [0]<|zW ((p:Int)+1)<|zD 1<|jl (b:=bw) (off:=0) (m:=1) (vs:=[zP Hb]) 0 ⟨_,_,_,.inl gw,rfl⟩<|zD 2<|jl (b:=Hb) (off:=0) (m:=11) (vs:=[W.a0,W.a1,W.a2,.slice qi xs.length qd,W.a4,zI W.D,zI W.S,.slice gY es.length gP,(.slice W.ha W.H W.iK),.slice fO ls.length fb,.slice gX ps.length gF]) 10 ⟨_,_,_,.inl hH,rfl⟩<|jd 3 [0] ?_;obtain⟨x61,aGK⟩:=zG ps ((tt.put p j6).past.toNat);refine Yj ((tt.put p j6).past) gF 4 xk aGK (cE (show 0<=(tt.put p j6).past/\(tt.put p j6).past <((ps).length:Int) from (by omega)).1).symm<|zD 1<|Dk (b:=xY) (off:=xX+(tt.put p j6).past.toNat*4+1) (len:=3) (sz:=1) (p:Int) (by omega) ?_;obtain⟨mr,mes,mck,mF,hmv,Ap,hmE,hmL⟩:=eJ.m _ _ aGK p (by omega);refine jl (b:=xY) (off:=xX+(tt.put p j6).past.toNat*4+1+(p:Int).toNat*1) (m:=1) (vs:=[(.map (some mr))]) 0 (show eW ⟨ro,[]⟩ xY (xX+(tt.put p j6).past.toNat*4+1+(p:Int).toNat*1) 1 [.map (some mr)] from by have:=Zq (xj _ _ aGK) (PH (x:=x61) (k:=p) (by omega));rw[hmv] at this;simpa [Nat.add_assoc] using this) ?_;refine jd 1 [1]<|zxo 17 λC7=>jlu (kv:=kvL) (F:=mF) (r:=mr) (K:=120) (j6:cz) (.int .u8 0) false [] [] ahr (λs he _=>⟨_,_,he _ _ (.inl Ap),hmE⟩)<|eH C7 [0,1,2]<|jw 17 (.int .u8 (mk (tt.put p j6).past.toNat p j6)) (hmL _ (zL pd))<|zD 1<|zxo 19 λtx=>jc (vs:=[.agg ⟨[zI ((tt.put p j6).past),zI ((tt.put p j6).x.a),zI ((tt.put p j6).x.b),zI ((tt.put p j6).x.c),zI ((tt.put p j6).x.d),zI ((tt.put p j6).y.a),zI ((tt.put p j6).y.b),zI ((tt.put p j6).y.c),zI ((tt.put p j6).y.d),zI ((tt.put p j6).z.a),zI ((tt.put p j6).z.b),zI ((tt.put p j6).z.c),zI ((tt.put p j6).z.d)]⟩,zI ((p:Int)+1),.int .u8 (iOr .u8 m (mk (tt.put p j6).past.toNat p j6)),zP bw,zP bn,zP dP,zP bg]) [2] (ih k (by omega) _ (p+1) (tt.put p j6) _ (q+((ls.take j).flatMap (Ej W.D ls mk need k t p m)).length) _ iK eJ (by omega) ⟨by rw[hJ.2.2.put.past];exact hpa.1,by rw[hJ.2.2.put.past];exact hpa.2⟩ hPg hJ.2.1 hy) ?_;rintro _ Y68 ⟨XE,rfl,aIx,bgL⟩;refine ee tx [[1],[],[]]<|zD 2<|js 69 (!XE) (λh7=>?_) (λh7=>?_)
  ·
   try simp only[zB] at h7
   refine zD 6<|zR (.bool false) [] [0] _ ⟨_,rfl,nofun,λ_=>bgL (by simp_all)⟩
  try simp only[zB] at h7
  refine zD 3<|zW ((j:Int)+1)<|zD 2<|zF cU (⟨j+1,(tt.put p j6),Y68⟩) ⟨by dsimp only;rw[Q0 pd,KR];rw[<-Nat.add_assoc];exact aIx (by simp_all),hJ.2.2.put⟩ [1,0]
 refine zD 7<|zR (.bool true) [] [1] B ⟨_,rfl,(λ_=>by rw[uR];have:=hJ.2.1;rwa[bF (by omega)] at this),nofun⟩
def aQW{W:kg}{ls:List cz}{ps:List eI}{mk:Nat->Nat->cz->Int}{L:List bY}{Inv:Nat->Cells->Prop}:∀n,aCT bl Hb W u np ne ls ps mk need bw bn dP bg L Inv Stop n:=by
 intro n
 induction n using Nat.strongRecOn with
 |_ n ih=>exact λro p t m q B hc hI hpn hpa hP hB hy=>aF7 ih hc hI hpn hpa hP hB hy
def OS(i:Nat):bY:=⟨(i:Int),⟨0,0,0,0⟩,⟨0,0,0,0⟩,⟨0,0,0,0⟩⟩
def ZN(D:Int)(ls:List cz)(mk:Nat->Nat->cz->Int)(np:Nat)(need:Int)(i:Nat):List bY:=nY D ls mk need np (OS i) 0 0
def iC(D:Int)(ls:List cz)(mk:Nat->Nat->cz->Int)(np k:Nat)(need:Int):List bY:=(List.range k).flatMap (ZN D ls mk np need)
def ajf{n:Nat}(h:j <n):∃r,List.range n=List.range j++[j]++r:=by
 refine⟨(List.range n).drop (j+1),?_⟩;have h1:(List.range n).take (j+1)=List.range (j+1):=by rw[List.take_range,Nat.min_eq_left h]
 rw[<-GC,<-h1,fH]
def allM(n:Nat):Int:=IntKind.u8.wrap (iU .u8 1 (n:Int)-1)
def aet{W:kg}{ls:List cz}{ps:List eI}{mk:Nat->Nat->cz->Int}(eJ:Ct ro Hb W u np ne ls ps mk)(g1:ro bw=some (.cells ⟨[zP Hb]⟩ 103 (0,0)))(g2:ro bn=some (.cells ⟨[.int .u8 need]⟩ 137 (0,0))):ItX zT 140 [] [zP bw,zP bn] ro [] (iC W.D ls mk np ps.length need).length (eTs (iC W.D ls mk np ps.length need)) (λZ=>Z=[]):=by
 intro bl cK Inv Stop hs hy B hB;replace g1:=hs _ _ g1;replace g2:=hs _ _ g2;replace eJ:=eJ.up hs;obtain⟨xs,Jx,xO⟩:=eJ.pe;obtain⟨qi,Yh,Yf,qd,zh,Yg,VI,VH⟩:=xO;obtain⟨es,vK,nJ⟩:=eJ.e;obtain⟨gY,yK,yJ,gP,yV,GQ,xo,xm⟩:=nJ;obtain⟨fO,rh,q9,fb,hle,sV,mR,nN⟩:=eJ.l;obtain⟨gX,xY,xX,gF,Bd,A2,xk,xj⟩:=eJ.p;have hH:cK Hb=some (.cells ⟨[W.a0,W.a1,W.a2,.slice qi xs.length qd,W.a4,zI W.D,zI W.S,.slice gY es.length gP,(.slice W.ha W.H W.iK),.slice fO ls.length fb,.slice gX ps.length gF]⟩ 113 (0,0)):=by rw[<-zh,<-yV,<-hle,<-Bd];exact eJ.h
 have Yn:=eJ.n3;have Ug:=eJ.e5;have Ee:=eJ.ll;have wm:=eJ.pl;have Yt:=eJ.d;refine zC [.l B]<|zD 2<|jn λb3=>zD 3<|jn λb4=>jd 8 [0]<|jf [0,1] ((b4,.cells ⟨[.func (.func 141) ⟨[]⟩ ⟨[zP bw,zP bn,zP b3,zP b4]⟩]⟩ 224 (0,0))::[(b3,.cells ⟨[(.func (.yield bl) #[] #[])]⟩ 223 (0,0))]) λAD fq iu=>jl (b:=bw) (off:=0) (m:=1) (vs:=[zP Hb]) 0 ⟨_,_,_,.inl (fq _ _ g1),rfl⟩<|zD 2<|jl (b:=Hb) (off:=0) (m:=11) (vs:=[W.a0,W.a1,W.a2,.slice qi xs.length qd,W.a4,zI W.D,zI W.S,.slice gY es.length gP,(.slice W.ha W.H W.iK),.slice fO ls.length fb,.slice gX ps.length gF]) 10 ⟨_,_,_,.inl (fq _ _ hH),rfl⟩<|zD 4<|iz [1,1,1,1,0,0] [] (λ(zz:Nat×Cells)=>[(4,zP b4),(11,zI (ps.length:Int)),(12,zI (zz.1:Int))]) (λzz=>[.l zz.2]) (λzz=>zz.1<=ps.length/\Inv ((List.range zz.1).flatMap (ZN W.D ls mk np need)).length zz.2) (λzz=>ps.length-zz.1) (⟨0,B⟩) ⟨Nat.zero_le _,by simpa using hB⟩ [0] ?_;rintro⟨i,B⟩ hI K1 cU rest;dsimp only at hI;refine zD 5<|zJ 13 ((i:Int) <(ps.length:Int)) (λh4=>?_) λh4=>?_
 ·
  refine zD 10 ?_;obtain⟨rr,hrr⟩:=ajf (show i <ps.length by omega);refine zD 1<|jl (b:=b4) (off:=0) (m:=1) (vs:=[.func (.func 141) ⟨[]⟩ ⟨[zP bw,zP bn,zP b3,zP b4]⟩]) 0 ⟨_,_,_,.inl (iu _ (.head _)),rfl⟩<|zD 2<|jc (vs:=[.agg ⟨[zI (i:Int),zI 0,zI 0,zI 0,zI 0,zI 0,zI 0,zI 0,zI 0,zI 0,zI 0,zI 0,zI 0]⟩,zI 0,.int .u8 0,zP bw,zP bn,zP b3,zP b4]) [0] (aQW (need:=need) np _ 0 (OS i) 0 ((List.range i).flatMap (ZN W.D ls mk np need)).length _ ⟨(fq _ _ g1),(fq _ _ g2),iu _ (.tail _ (.head _)),iu _ (.head _)⟩ (eJ.up fq) (iE _) ⟨YE _,by show (i:Int) <_;omega⟩ (by have h:=Part.flat (L:=iC W.D ls mk np ps.length need) (p:=0) (G:=ZN W.D ls mk np need) ⟨[],[],by simp[iC],rfl⟩ hrr;rwa[iE] at h) hI.2 (YOK.up hy fq)) ?_;rintro _ Y18 ⟨c18,rfl,bg6,bgT⟩;refine zD 2<|js 19 (!c18) (λh5=>?_) (λh5=>?_)
  ·
   try simp only[zB] at h5
   refine zD 2<|cd q0.a (.tuple ⟨[]⟩) [] [0] Y18 fq ⟨_,_,rfl,rfl,[],_,rfl,rfl,.inr (bgT (by simp_all))⟩
  try simp only[zB] at h5
  refine zD 3<|zW ((i:Int)+1)<|zD 2<|zF cU (⟨i+1,Y18⟩) (by dsimp only;rw[List.range_succ,List.flatMap_append,List.length_append,List.flatMap_singleton];exact bg6 (by simp_all)) [0]
 refine zD 2<|cd q0.a (.tuple ⟨[]⟩) [] [0] B fq ⟨_,_,rfl,rfl,[],_,rfl,rfl,.inl (by have h:=hI.2;rwa[show i=ps.length by omega] at h)⟩
def V7:eT zT 109 [zP Hb,.int .u8 need] ro [] (λr Y=>∃b2 b3,r= .func (.func 140) ⟨[]⟩ ⟨[zP b2,zP b3]⟩/\Y=[(b2,.cells ⟨[zP Hb]⟩ 103 (0,0)),(b3,.cells ⟨[.int .u8 need]⟩ 137 (0,0))]):=by
 refine zE<|zD 2<|jn λb2=>jn λb3=>zD 8<|zR (.func (.func 140) ⟨[]⟩ ⟨[zP b2,zP b3]⟩) [] [1,0] _ ⟨_,_,rfl,rfl⟩
def ahp{W:kg}{ls:List cz}{ps:List eI}{mk:Nat->Nat->cz->Int}(eJ:Ct ro Hb W u np ne ls ps mk):iI zT 81 [zP Hb] ro (.int .u8 (allM ne)):=by
 obtain⟨xs,Jx,xO⟩:=eJ.pe;obtain⟨qi,Yh,Yf,qd,zh,Yg,VI,VH⟩:=xO;obtain⟨es,vK,nJ⟩:=eJ.e;obtain⟨gY,yK,yJ,gP,yV,GQ,xo,xm⟩:=nJ;obtain⟨fO,rh,q9,fb,hle,sV,mR,nN⟩:=eJ.l;obtain⟨gX,xY,xX,gF,Bd,A2,xk,xj⟩:=eJ.p;have hH:ro Hb=some (.cells ⟨[W.a0,W.a1,W.a2,.slice qi xs.length qd,W.a4,zI W.D,zI W.S,.slice gY es.length gP,(.slice W.ha W.H W.iK),.slice fO ls.length fb,.slice gX ps.length gF]⟩ 113 (0,0)):=by rw[<-zh,<-yV,<-hle,<-Bd];exact eJ.h
 have Yn:=eJ.n3;have Ug:=eJ.e5;have Ee:=eJ.ll;have wm:=eJ.pl;have Yt:=eJ.d;refine zE<|zD 10<|jl (b:=Hb) (off:=0) (m:=11) (vs:=[W.a0,W.a1,W.a2,.slice qi xs.length qd,W.a4,zI W.D,zI W.S,.slice gY es.length gP,(.slice W.ha W.H W.iK),.slice fO ls.length fb,.slice gX ps.length gF]) 7 ⟨_,_,_,.inl hH,rfl⟩<|zD 1<|jsh (k:= .u8) (k':= .i64) (a:=1) (b:=(es.length:Int)) 137 (by omega)<|zD 4<|zX (.int .u8 (IntKind.u8.wrap ((iU .u8 1 (es.length:Int))-1))) ⟨by rw[<-vK];rfl,rfl⟩
theorem aNz{l:List α}(h:0 <l.length):(!l.isEmpty)=true:=by cases l<;>simp_all
theorem aD0{l:List α}(h:l.length=0):(!l.isEmpty)=false:=by cases l<;>simp_all
def aBk{W:kg}{ls:List cz}{ps:List eI}{mk:Nat->Nat->cz->Int}(eJ:Ct ro Hb W u np ne ls ps mk):eT zT 80 [zP Hb,.int .u8 need] ro [] (λr Y=>r= .bool (!(iC W.D ls mk np ps.length need).isEmpty)/\Y=[]):=by
 refine aew bD [] [] de<|zD 2<|jn λb4=>zD 6<|jc (vs:=[zP Hb,.int .u8 need]) [] (V7 (Hb:=Hb) (need:=need)) ?_;rintro _ _ ⟨q2,q3,rfl,rfl⟩;refine jg 0 [zxc q2 103 [zP Hb],zxc q3 137 [.int .u8 need]]<|jf [0,1] ((q2,.cells ⟨[zP Hb]⟩ 103 (0,0))::[(q3,.cells ⟨[.int .u8 need]⟩ 137 (0,0))]) λAD fq iu=>zD 2<|jrf [] (aet (need:=need) (eJ.up fq) (iu _ (.head _)) (iu _ (.tail _ (.head _)))) (by rintro _ _ _ _ ⟨_,_,rfl,_⟩;rfl) (λ(zz:Bool)=>[zxc b4 4 [.bool zz]]) (λkk=>(λ(zz:Bool)=>zz=false/\kk=0)) (λjump=>(λ(zz:Bool)=>jump= .ret/\zz=true/\0 <(iC W.D ls mk np ps.length need).length)) false ⟨rfl,rfl⟩ [0] ?_ ?_ ?_
 ·
  rintro bl4 bd4 kk4 vs4 LL4 bo ro4 hk4 ae2 hI yj;obtain⟨x4,hx4,rfl,rfl⟩:=ae2;refine zD 1<|jbg<|jd 6 [1]<|jys qy0 (Sub.refl _) .ret true ⟨rfl,rfl,by have:=(aA.1 hx4).1;omega⟩ [0,1]
 ·
  rintro bd4 bo Z4 hI hZ4;subst hZ4;refine jd 5 [2]<|jrM qm0.a.m (.bool false) [0] [1] [] [] fq ⟨by rw[aD0 hI.2],rfl⟩
 rintro bd4 bo Z4 jump hS hZ4;obtain⟨rfl,hS⟩:=hS;subst hZ4;exact jrM qm0.a.m (.bool bo) [0] [1] [] [] fq ⟨by rw[hS.1,aNz hS.2],rfl⟩
def D5{f:FuncId}{fi ca:List Value}{B:Cells}{Jn:Nat->Cells->Prop}{W:kg}{ls:List cz}{ps:List eI}{mk:Nat->Nat->cz->Int}(eJ:Ct ro Hb W u np ne ls ps mk)(JF:HM zT f=true)(hB:Jn 0 B)(beP:∀k x,(iC W.D ls mk np ps.length (allM ne))[k]?=some x->∀bU,Sub ro bU->∀B,Jn k B->eT zT f (fi++[.agg ⟨NR x⟩]++ca) bU B (λ_ Y=>Jn (k+1) Y)) (hN:(iC W.D ls mk np ps.length (allM ne)).length<=1000000):eT zT 56 [zP Hb,.agg ⟨[(.func (.func f) ⟨fi⟩ ⟨ca⟩)]⟩] ro B (λr Y=>r= zI ((iC W.D ls mk np ps.length (allM ne)).length:Int)/\Jn (iC W.D ls mk np ps.length (allM ne)).length Y):=by
 refine aew bD [.l B] [] de<|zD 2<|jn λb3=>zD 4<|jn λb5=>jd 7 [0]<|zxp [zP Hb] (λhs=>ahp (eJ.up hs))<|jc (vs:=[zP Hb,.int .u8 (allM ne)]) [] (V7 (Hb:=Hb) (need:=(allM ne))) ?_;rintro _ _ ⟨q2,q3,rfl,rfl⟩;refine jg 0 [zxc q2 103 [zP Hb],zxc q3 137 [.int .u8 (allM ne)]]<|jf [0,1] ((q2,.cells ⟨[zP Hb]⟩ 103 (0,0))::[(q3,.cells ⟨[.int .u8 (allM ne)]⟩ 137 (0,0))]) λAD fq iu=>zD 2<|jrf [] (aet (need:=allM ne) (eJ.up fq) (iu _ (.head _)) (iu _ (.tail _ (.head _)))) (by rintro _ _ _ _ ⟨_,_,rfl,_⟩;rfl) (λ(zz:Int×Cells)=>[zxc b5 3 [zI zz.1],zxc b3 126 [(.func (.func f) ⟨fi⟩ ⟨ca⟩)],.l zz.2]) (λkk=>(λ(zz:Int×Cells)=>zz.1=(kk:Int)/\Jn kk zz.2)) (λjump=>(λ(zz:Int×Cells)=>False)) (⟨0,B⟩) ⟨rfl,hB⟩ [0,1,2] ?_ ?_ ?_
 ·
  rintro bl4 bd4 kk4 vs4 LL4 ⟨n,B⟩ ro4 hk4 ae2 hI yj;obtain⟨x4,hx4,rfl,rfl⟩:=ae2;dsimp only at hI;have hkk:=(List.getElem?_eq_some_iff.1 hx4).1;refine zD 1<|jn λb6=>jd 2 [0]<|aGu<|jd 4 [2]<|zW (n+1)<|jd 13 [2,3,3,0]<|jcF (vs:=fi++[Value.agg ⟨NR x4⟩]++ca) [4] JF (beP _ _ hx4 _ (fq.trans yj) _ hI.2) ?_;rintro vv Y20 bhW;refine zD 1<|jyn qy0 (Sub.refl _) ⟨(n+1),Y20⟩ ⟨by dsimp only;omega,bhW⟩ [2,3,4,0]
 ·
  rintro bd4 ⟨n,B⟩ Z4 hI hZ4;dsimp only at hI;subst hZ4;refine jd 6 [2]<|jrM qm0.a.m (zI n) [0] [] [3] B fq ⟨by rw[hI.1],hI.2⟩
 rintro bd4 ⟨n,B⟩ Z4 jump hS hZ4;exact hS.elim
def aw2{W:kg}{ls:List cz}{ps:List eI}{mk:Nat->Nat->cz->Int}(eJ:Ct ro Hb W u np ne ls ps mk)(hN:(iC W.D ls mk np ps.length (allM ne)).length<=1000000):eT zT 56 [zP Hb,.agg ⟨[.nilFunc]⟩] ro [] (λr Y=>r= zI ((iC W.D ls mk np ps.length (allM ne)).length:Int)/\Y=[]):=by
 refine aew bD [] [] de<|zD 2<|jn λb3=>zD 4<|jn λb5=>jd 7 [0]<|zxp [zP Hb] (λhs=>ahp (eJ.up hs))<|jc (vs:=[zP Hb,.int .u8 (allM ne)]) [] (V7 (Hb:=Hb) (need:=(allM ne))) ?_;rintro _ _ ⟨q2,q3,rfl,rfl⟩;refine jg 0 [zxc q2 103 [zP Hb],zxc q3 137 [.int .u8 (allM ne)]]<|jf [0,1] ((q2,.cells ⟨[zP Hb]⟩ 103 (0,0))::[(q3,.cells ⟨[.int .u8 (allM ne)]⟩ 137 (0,0))]) λAD fq iu=>zD 2<|jrf [] (aet (need:=allM ne) (eJ.up fq) (iu _ (.head _)) (iu _ (.tail _ (.head _)))) (by rintro _ _ _ _ ⟨_,_,rfl,_⟩;rfl) (λ(zz:Int)=>[zxc b5 3 [zI zz],zxc b3 126 [.nilFunc]]) (λkk=>(λ(zz:Int)=>zz=(kk:Int))) (λjump=>(λ(zz:Int)=>False)) 0 rfl [0,1] ?_ ?_ ?_
 ·
  rintro bl4 bd4 kk4 vs4 LL4 n ro4 hk4 ae2 hI yj;obtain⟨x4,hx4,rfl,rfl⟩:=ae2;have hkk:=(aA.1 hx4).1;refine zD 1<|jn λb6=>jd 2 [0]<|aGu<|jd 4 [2]<|zW (n+1)<|jd 10 [2,3]<|jyn qy0 (Sub.refl _) (n+1) (by omega) [1,2,3]
 ·
  rintro bd4 n Z4 hI hZ4;subst hZ4;refine jd 6 [2]<|jrM qm0.a.m (zI n) [0] [] [] [] fq ⟨by rw[hI],rfl⟩
 rintro bd4 n Z4 jump hS hZ4;exact hS.elim
def EU{t:bY}{k:Nat}(hk:k <3)(hd:d <4):nth (NR t) (1+(k:Int).toNat*4+(d:Int).toNat*1)=some (zI ((t.at k).at d)):=by
 have h4:d=0\/d=1\/d=2\/d=3:=by omega
 rcases Yi hk with rfl|rfl|rfl<;>rcases h4 with rfl|rfl|rfl|rfl<;>rfl
def La(np:Nat)(t:bY)(h:Int)(d:Nat):Int:=bM (λj=>decide ((t.at j).at d=h)) (List.range np) 0
def aF6{t:bY}{h:Int}{d:Nat}{Hb np ne:Nat}{W:kg}{u:Value}{ls:List cz}{ps:List eI}{mk:Nat->Nat->cz->Int}{ro:Nat->Option Obj}(eJ:Ct ro Hb W u np ne ls ps mk)(hd:d <4):iI zT 60 [zP Hb,.agg ⟨[zI t.past,zI t.x.a,zI t.x.b,zI t.x.c,zI t.x.d,zI t.y.a,zI t.y.b,zI t.y.c,zI t.y.d,zI t.z.a,zI t.z.b,zI t.z.c,zI t.z.d]⟩,zI h,zI (d:Int)] ro (zI (La np t h d)):=by
 obtain⟨xs,Jx,xO⟩:=eJ.pe;obtain⟨qi,Yh,Yf,qd,zh,Yg,VI,VH⟩:=xO;obtain⟨es,vK,nJ⟩:=eJ.e;obtain⟨gY,yK,yJ,gP,yV,GQ,xo,xm⟩:=nJ;obtain⟨fO,rh,q9,fb,hle,sV,mR,nN⟩:=eJ.l;obtain⟨gX,xY,xX,gF,Bd,A2,xk,xj⟩:=eJ.p;have hH:ro Hb=some (.cells ⟨[W.a0,W.a1,W.a2,.slice qi xs.length qd,W.a4,zI W.D,zI W.S,.slice gY es.length gP,(.slice W.ha W.H W.iK),.slice fO ls.length fb,.slice gX ps.length gF]⟩ 113 (0,0)):=by rw[<-zh,<-yV,<-hle,<-Bd];exact eJ.h
 have Yn:=eJ.n3;have Ug:=eJ.e5;have Ee:=eJ.ll;have wm:=eJ.pl;have Yt:=eJ.d;refine zE<|zD 2<|jn λb5=>zD 9<|jl (b:=Hb) (off:=0) (m:=11) (vs:=[W.a0,W.a1,W.a2,.slice qi xs.length qd,W.a4,zI W.D,zI W.S,.slice gY es.length gP,(.slice W.ha W.H W.iK),.slice fO ls.length fb,.slice gX ps.length gF]) 3 ⟨_,_,_,.inl hH,rfl⟩<|zD 4<|iz [1,0,1,0,0] [] (λ(zz:Nat)=>[(2,zI h),(3,zI (d:Int)),(5,zP b5),(15,zI (xs.length:Int)),(16,zI (zz:Int))]) (λzz=>[zxc b5 123 [zI t.past,zI t.x.a,zI t.x.b,zI t.x.c,zI t.x.d,zI t.y.a,zI t.y.b,zI t.y.c,zI t.y.d,zI t.z.a,zI t.z.b,zI t.z.c,zI t.z.d]]) (λzz=>zz<=np/\La np t h d=bM (λj=>decide ((t.at j).at d=h)) ((List.range np).drop zz) zz) (λzz=>np-zz) 0 ⟨bQ _,rfl⟩ [0] ?_;rintro k hI K1 cU rest;have hkr:k <np->(List.range np)[k]?=some k:=λh=>List.getElem?_range h;refine zD 5<|zJ 17 ((k:Int) <(xs.length:Int)) (λh1=>?_) λh1=>?_
 ·
  refine zD 14<|Dk (b:=b5) (off:=1) (len:=3) (sz:=4) (k:Int) (by omega)<|Dk (b:=b5) (off:=1+(k:Int).toNat*4) (len:=4) (sz:=1) (d:Int) (by omega)<|yL (b:=b5) (off:=1+(k:Int).toNat*4+(d:Int).toNat*1) (m:=1) (vs:=[zI ((t.at k).at d)]) 0 [0] [(b5,.cells ⟨[zI t.past,zI t.x.a,zI t.x.b,zI t.x.c,zI t.x.d,zI t.y.a,zI t.y.b,zI t.y.c,zI t.y.d,zI t.z.a,zI t.z.b,zI t.z.c,zI t.z.d]⟩ 123 (0,0))] (λs _ hZ=>jR (hZ _ (.head _)) (EU (t:=t) (by omega) (by omega)))<|zD 3<|zJ 26 (((t.at k).at d)=h) (λh2=>?_) λh2=>?_
  ·
   refine zD 7<|zX (zI (k:Int)) ⟨by rw[hI.2,pZ (hkr (by omega)),cN (by omega)]<;>rfl,rfl⟩
  refine zD 3<|zW ((k:Int)+1)<|zD 2<|zY cU (k+1) ⟨by omega,by rw[hI.2,pZ (hkr (by omega)),cX (by omega)]<;>rfl⟩ [0]
 refine zD 7<|zX (zI (-1)) ⟨by rw[hI.2,Mi (by rw[List.length_range];omega)]<;>rfl,rfl⟩
end Go.L
