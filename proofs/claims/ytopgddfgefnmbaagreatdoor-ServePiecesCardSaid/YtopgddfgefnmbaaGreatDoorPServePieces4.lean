/-
  SEVERAL TEXTS IN ONE: Dx7, Sx5, StrJ, Dig, Tell, Cols, Dx8, Dx10, Dx11, Dx12, Dx13, ColsR, Dx14, Dx15, K29, Dx9, Dx16, Dx17.
-/
import Derived.Test.YtopgddfgefnmbaaGreatDoorPServePieces3
import Derived.Below
set_option maxHeartbeats 8000000
set_option maxRecDepth 100000
namespace Go.Proofs.YtopgddfgefnmbaaGreatDoor
open Go Go.RK
def gh (o:Option (List UInt8 × List UInt8)):Value:=match o with
 | none=>.nilIface
 | some (a,c)=>.iface 169 (.agg ⟨[St a,St c]⟩)
abbrev rj:List UInt8:=([99,117,114,114,101,110,116,32,116,114,97,110,115,97,99,116,105,111,110,32,105,115,32,97,98,111,114,116,101,100,44,32,99,111,109,109,97,110,100,115,32,105,103,110,111,114,101,100,32,117,110,116,105,108,32,101,110,100,32,111,102,32,116,114,97,110,115,97,99,116,105,111,110,32,98,108,111,99,107]:List UInt8)
theorem iA {h:aj} (a c:List UInt8):ai Tryz.prog 204 ⟨[St a,St c]⟩ h fun u h'=>u=gh (some (a,c))∧h'=h:=by
 refine calls [(0,_),(1,_)] Tryz.func204 rfl Tryz.ntmps204 rfl ⟨rfl,rfl,trivial⟩ ?_
 refine G2 ?_;refine G2 ?_;refine WL.step (aH (vs:=[_,_]) (cs:=[_,_]) (fun | [a0,a1]=>[a0,a1] | _=>[]) rfl rfl (by kernel_rfl)) rfl rfl rfl ?_
 refine WL.step (fW ⟨_,Tryz.underlying169,fun _ h=>by cases h⟩ rfl) rfl rfl rfl (Go ?_)
 refine Gs [(4,_)] ?_;refine Gt ?_
 exact ⟨rfl,rfl⟩
def kq (t:List UInt8) (st:Int):Option (List UInt8 × List UInt8):=if (bx t).k=0 then some (([52,50,54,48,49]:List UInt8),([115,121,110,116,97,120,32,101,114,114,111,114]:List UInt8)) else if st=69∧cF (bx t)=false then some (([50,53,80,48,50]:List UInt8),rj) else none
def gJ (t:List UInt8) (st:Int):Option (List UInt8 × List UInt8):=if st=69∧cF (bx t)=false then some (([50,53,80,48,50]:List UInt8),rj) else none
theorem vx {h:aj}:ai Tryz.prog 275 ⟨[]⟩ h fun u h'=>u=St rj∧h'=h:=by
 refine calls [] Tryz.func275 rfl Tryz.ntmps275 rfl trivial ?_
 refine G2 ?_;refine G2 ?_;refine Gt ?_
 exact ⟨rfl,rfl⟩
section
variable {h:aj} {A:Ad} {st:Int} {sk ov:Bool} {aY:Int} {L:List (List UInt8 × gX)} {P:List (List UInt8 × eI)}
theorem yB (k:Ss h A st sk ov aY L P) (t:List UInt8) (hm:t.length≤1000000):ai Tryz.prog 242 ⟨[.pointer (some ⟨A.be,0,none⟩),St t,.int .u8 st]⟩ h fun u h'=>u=.tuple ⟨[St ((kq t st).getD ([],[])).1,St ((kq t st).getD ([],[])).2,.bool (kq t st).isSome]⟩∧Ext No h h':=by
 have kx:=fun h'=>ns (h:=h') (bx t)
 have kr:=mc k.se.eb
 have RZ:=k.se.eb
 have R0:=k.se.em
 have kp:=fun h'=>pN (h:=h') t hm
 unfold kq
 obtain ⟨v,hv⟩:∃ v,bx t=v:=⟨_,rfl⟩
 rw [hv] at kx kp ⊢
 unfold gm.cells nb at kx kp
 rcases (show v.k=0∨v.k ≠ 0∧st=69∧cF v=false∨v.k ≠ 0∧st=69∧cF v=true∨v.k ≠ 0∧st ≠ 69∧cF v=true∨v.k ≠ 0∧st ≠ 69∧cF v=false∧v.k=1∨v.k ≠ 0∧st ≠ 69∧cF v=false∧v.k ≠ 1 by
   by_cases e1:v.k=0
   · exact .inl e1
   · by_cases e2:st=69 <;> cases e3:cF v
     · exact .inr (.inl ⟨e1,e2,rfl⟩)
     · exact .inr (.inr (.inl ⟨e1,e2,rfl⟩))
     · by_cases e4:v.k=1
       · exact .inr (.inr (.inr (.inr (.inl ⟨e1,e2,rfl,e4⟩))))
       · exact .inr (.inr (.inr (.inr (.inr ⟨e1,e2,rfl,e4⟩))))
     · exact .inr (.inr (.inr (.inl ⟨e1,e2,rfl⟩)))) with e1 | ⟨e1,e2,e3⟩ | ⟨e1,e2,e3⟩ | ⟨e1,e2,e3⟩ | ⟨e1,e2,e3,e4⟩ | ⟨e1,e2,e3,e4⟩
 aa
   try rw [e3] at kx
   refine calls [(0,_),(1,_),(2,_)] Tryz.func242 rfl Tryz.ntmps242 rfl ⟨rfl,rfl,rfl,trivial⟩ ?_
   aa (refine G2 ?_;refine G3 ?_;refine WL.call (vs:=[_]) rfl Tryz.call258 rfl (kr) rfl rfl rfl ?_;rintro _ hz ⟨rfl,_⟩;subst hz;refine Go ?_;refine Gs [(0,_),(1,_),(2,_),(12,_)] ?_;refine aJ 1 2 ?_ TT.mk;refine ay 2 ?_;refine WC.skip ?_;refine Gn ?_;refine G2 ?_;refine WL.call (vs:=[_]) rfl Tryz.call214 rfl (kp _) rfl rfl rfl ?_;rintro _ h1 ⟨rfl,aB⟩;refine WL.al (au (fun w=>Tryz.zeroValue278 w)) rfl rfl rfl ?_;rintro _ h2 ⟨b9,rfl,gI,bR,aK⟩;refine WL.az (aq Tryz.sizeOf278 rfl rfl rfl bR rfl (by simp [Value.oneCell'])) rfl rfl ?_;rintro _ h3 ⟨bC,aS⟩;have X3:Ext No h h3:=aB.trans (aK.trans' aS (fun q hq e=>by omega));refine Gn ?_;refine WC.seq ?_;refine WC.block ?_;refine G2 ?_;refine WL.ld rfl (by first | exact ab bC rfl | assumption) rfl rfl rfl (Go ?_);refine Gs [(0,_),(1,_),(2,_),(9,_),(15,_)] ?_;refine aJ 3 4 ?_ TT.mk)
   aa try (
   refine ay 3 ?_
   aa (refine G2 ?_;refine Gs [(6,_),(7,_),(8,_)] ?_;refine Gt ?_;refine ⟨?_,X3⟩;first | (rw [if_pos e1];rfl) | (rw [if_neg e1,if_pos ⟨e2,e3⟩];rfl) | (rw [if_neg e1,if_neg (fun y=>by rw [e3] at y;exact absurd y.2 (by decide))];rfl) | (rw [if_neg e1,if_neg (fun y=>e2 y.1)];rfl))
   skip)
   aa (refine ay 4 ?_;refine G2 ?_;refine bU 22 ?_ TT.mk;first | refine WL.pass rfl rfl rfl ?_ | (refine WL.step (aA Tryz.isAgg278 Tryz.sizeOf278 rfl rfl (by exact At.ax bC)) rfl rfl rfl ?_))
   aa (
    first
      | (refine WL.pass rfl rfl rfl ?_)
      | (refine WL.call (vs:=[_]) rfl Tryz.call265 rfl (kx _) rfl rfl rfl ?_
         rintro _ h4 ⟨rfl,bh⟩
         have bC:=bh.obj bC aQ
         have X3:=X3.trans bh))
   aa (refine Gg ?_;refine Go ?_;refine Gs [(0,_),(1,_),(9,_),(19,_)] ?_;refine aJ 5 6 ?_ TT.mk)
   aa try (
   refine ay 5 ?_
   aa (refine G2 ?_;refine Gs [(6,_),(7,_),(8,_)] ?_;refine Gt ?_;refine ⟨?_,X3⟩;first | (rw [if_pos e1];rfl) | (rw [if_neg e1,if_pos ⟨e2,e3⟩];rfl) | (rw [if_neg e1,if_neg (fun y=>by rw [e3] at y;exact absurd y.2 (by decide))];rfl) | (rw [if_neg e1,if_neg (fun y=>e2 y.1)];rfl))
   skip)
   aa (refine ay 6 ?_;refine WC.seq ?_;refine WC.sr ?_;refine WL.step (aA Tryz.isAgg278 Tryz.sizeOf278 rfl rfl (by exact At.ax bC)) rfl rfl rfl ?_;refine WL.call (vs:=[_]) rfl Tryz.call265 rfl (kx _) rfl rfl rfl ?_;rintro _ h4 ⟨rfl,bh⟩;have bC:=bh.obj bC aQ;have X3:=X3.trans bh;refine Go ?_;refine aJ 7 8 ?_ TT.mk)
   aa try (
   refine ay 7 ?_
   aa (refine WC.skip ?_)
   skip)
   aa try (
   refine ay 8 ?_
   aa (refine WC.region (Go ?_);refine WL.ld rfl (by first | exact ab bC rfl | assumption) rfl rfl rfl (Go ?_))
   skip)
   aa (refine Gn ?_;refine Gs [(0,_),(1,_),(27,_)] ?_;refine aJ 9 10 ?_ TT.mk)
   aa try (
   refine ay 9 ?_
   aa (refine WC.skip ?_)
   skip)
   aa try (
   refine ay 10 ?_
   aa (refine G2 ?_;refine WL.step (ah rfl) rfl rfl rfl (Go ?_);refine WL.ld rfl (by first | exact ab (X3.obj RZ aQ) rfl | assumption) rfl rfl rfl (Go ?_);refine WL.step ((dD fR Tryz.underlying97 Tryz.underlying9 (fun w=>Tryz.zeroValue4 w) rfl rfl (R0.ext X3 aQ) (by rfl)).2) rfl rfl rfl (Go ?_);refine Gs [(33,_)] ?_;refine aJ 11 12 ?_ TT.mk;refine ay 12 ?_;refine WC.skip ?_)
   skip)
   aa (refine Gn ?_;refine G2 ?_;refine Gt ?_;refine ⟨?_,X3⟩;first | (rw [if_pos e1];rfl) | (rw [if_neg e1,if_pos ⟨e2,e3⟩];rfl) | (rw [if_neg e1,if_neg (fun y=>by rw [e3] at y;exact absurd y.2 (by decide))];rfl) | (rw [if_neg e1,if_neg (fun y=>e2 y.1)];rfl))
theorem jB (k:Ss h A st sk ov aY L P) (t:List UInt8) (hm:t.length≤1000000):ai Tryz.prog 203 ⟨[.pointer (some ⟨A.bs,0,none⟩),St t]⟩ h fun u h'=>u=gh (kq t st)∧Ext No h h':=by
 have hb:=k.se.bB
 have kv:=yB k t hm
 cases hr:kq t st
 aa
   rw [hr] at kv
   dsimp only [Option.getD_none,Option.getD_some,Option.isSome_none,Option.isSome_some] at kv
   refine calls [(0,_),(1,_)] Tryz.func203 rfl Tryz.ntmps203 rfl ⟨rfl,rfl,trivial⟩ ?_
   aa (refine G2 ?_;refine WC.seq ?_;refine WC.seq ?_;refine WC.cg (fun h'=>Ext No h h') 17 17 rfl dB ?_;refine WH.tk 0 rfl (fun hq hC=>an rfl) rfl rfl rfl ?_;refine WH.tk 1 rfl (fun hq hC=>ah rfl) rfl rfl rfl ?_;refine WH.tk 2 rfl (fun hq hC=>ag rfl Tryz.underlying153 rfl Tryz.sizeOf46) rfl rfl rfl ?_;refine WH.tk 3 rfl (fun hq hC=>aC Tryz.isAgg46 rfl (by first | exact hC.cell (by first | exact ab hb rfl | assumption) aQ)) rfl rfl rfl ?_;refine WH.tk 4 rfl (fun hq hC=>an rfl) rfl rfl rfl ?_;refine WH.tk 5 rfl (fun hq hC=>an rfl) rfl rfl rfl ?_;refine WH.tk 6 rfl (fun hq hC=>ah rfl) rfl rfl rfl ?_;refine WH.tk 7 rfl (fun hq hC=>ag rfl Tryz.underlying153 rfl Tryz.sizeOf5) rfl rfl rfl ?_;refine WH.tk 8 rfl (fun hq hC=>aC Tryz.isAgg5 rfl (by first | exact hC.cell (by first | exact ab hb rfl | assumption) aQ)) rfl rfl rfl ?_;refine WH.one 9 (by kernel_rfl) ?_;refine aE.call (vs:=[_,_,_]) rfl rfl Tryz.call242 rfl (kv) rfl rfl rfl ?_ (fun _=>by kernel_rfl);rintro _ h1 ⟨rfl,aB⟩;refine ⟨fun _=>aB,?_⟩;refine WH.tk 10 rfl (fun hq hC=>an rfl) rfl rfl rfl ?_;refine WH.tk 11 rfl (fun hq hC=>bY rfl rfl) rfl rfl rfl ?_;refine WH.tk 12 rfl (fun hq hC=>bY rfl rfl) rfl rfl rfl ?_;refine WH.tk 13 rfl (fun hq hC=>bY rfl rfl) rfl rfl rfl ?_;refine WH.tk 14 rfl (fun hq hC=>aR rfl) rfl rfl rfl ?_;refine WH.tk 15 rfl (fun hq hC=>aR rfl) rfl rfl rfl ?_;refine WH.tk 16 rfl (fun hq hC=>aR rfl) rfl rfl rfl ?_;refine WH.done (by kernel_rfl) ?_;refine Gn ?_;refine Gs [(5,_),(6,_),(7,_)] ?_;refine G2 ?_;refine aJ 1 2 ?_ TT.mk)
   aa try (
   refine ay 1 ?_
   aa (refine G2 ?_;refine WL.call (vs:=[_,_]) rfl Tryz.call204 rfl (iA _ _) rfl rfl rfl ?_;rintro _ hq ⟨rfl,hz⟩;replace hz:=hz.symm;subst hz;refine Go ?_;refine Gs [(4,_)] ?_;refine Gt ?_;exact ⟨rfl,by first | exact aB | exact hC⟩)
   skip)
   aa (refine ay 2 ?_;refine WC.skip ?_;refine Gn ?_;refine Gs [] ?_;refine G2 ?_;refine Gt ?_;exact ⟨rfl,by first | exact aB | exact hC⟩)
theorem pP (k:Ss h A st sk ov aY L P) (t:List UInt8) {v:Value} (hm:t.length≤1000000) (hv:∃ B n c,v=.slice B n c):ai Tryz.prog 245 ⟨[.pointer (some ⟨A.bs,0,none⟩),.agg ⟨[St t,v]⟩]⟩ h fun u h'=>u=gh (gJ t st)∧Ext No h h':=by
 have hb:=k.se.bB
 have kx:=fun h'=>ns (h:=h') (bx t)
 have kp:=fun h'=>pN (h:=h') t hm
 obtain ⟨B,n,c,rfl⟩:=hv
 unfold gJ
 obtain ⟨w,hw⟩:∃ w,bx t=w:=⟨_,rfl⟩
 rw [hw] at kx kp ⊢
 unfold gm.cells nb at kx kp
 rcases (show st=69∧cF w=false∨st=69∧cF w=true∨st ≠ 69 by
   by_cases e1:st=69 <;> cases e3:cF w
   · exact .inl ⟨e1,rfl⟩
   · exact .inr (.inl ⟨e1,rfl⟩)
   · exact .inr (.inr e1)
   · exact .inr (.inr e1)) with ⟨e1,e3⟩ | ⟨e1,e3⟩ | e1
 aa
   try rw [e3] at kx
   refine calls [(0,_),(1,_)] Tryz.func245 rfl Tryz.ntmps245 rfl ⟨rfl,rfl,trivial⟩ ?_
   aa (refine WC.sr ?_;refine WL.al (aI rfl) rfl rfl rfl ?_;rintro _ h1 ⟨b3,rfl,b0,aT,aB⟩;refine Go ?_;refine G3 ?_;refine WL.step (ah rfl) rfl rfl rfl (Go ?_);refine WL.ld rfl (by first | exact ab (aB.obj hb aQ) rfl | assumption) rfl rfl rfl (Go ?_);refine bU 10 ?_ TT.mk;refine Gg ?_;first | refine WL.pass rfl rfl rfl ?_ | (refine WL.ld rfl (by first | exact ab aT rfl | assumption) rfl rfl rfl ?_))
   aa (
    first
      | (refine WL.pass rfl rfl rfl ?_)
      | (refine WL.call (vs:=[_]) rfl Tryz.call214 rfl (kp _) rfl rfl rfl ?_
         rintro _ h2 ⟨rfl,aK⟩))
   aa (
    first
      | (refine WL.pass rfl rfl rfl ?_)
      | (refine WL.call (vs:=[_]) rfl Tryz.call265 rfl (kx _) rfl rfl rfl ?_
         rintro _ h3 ⟨rfl,aS⟩
         replace aB:=(aB.trans aK).trans aS))
   aa (refine Gg ?_;refine Go ?_;refine Gs [(16,_)] ?_;refine aJ 1 2 ?_ TT.mk)
   aa try (
   refine ay 1 ?_
   aa (refine WC.sr ?_;refine WL.call (vs:=[]) rfl Tryz.call275 rfl (vx) rfl rfl rfl ?_;rintro _ hq ⟨rfl,hz⟩;replace hz:=hz.symm;subst hz;refine WL.call (vs:=[_,_]) rfl Tryz.call204 rfl (iA _ _) rfl rfl rfl ?_;rintro _ hq ⟨rfl,hz⟩;replace hz:=hz.symm;subst hz;refine Go ?_;refine Gt ?_)
   aa (
    refine ⟨?_,aB⟩
    first
     | exact congrArg gh (if_pos (show st=69∧cF w=false from ⟨e1,e3⟩)).symm
     | exact (show Value.nilIface=gh none from rfl).trans (congrArg gh (if_neg (show ¬ (st=69∧cF w=false) from fun y=>absurd (e3.symm.trans y.2) (by decide))).symm)
     | exact (show Value.nilIface=gh none from rfl).trans (congrArg gh (if_neg (show ¬ (st=69∧cF w=false) from fun y=>e1 y.1)).symm))
   skip)
   aa (refine ay 2 ?_;refine WC.skip ?_;refine Gn ?_;refine G2 ?_;refine Gt ?_)
   aa (
    refine ⟨?_,aB⟩
    first
     | exact congrArg gh (if_pos (show st=69∧cF w=false from ⟨e1,e3⟩)).symm
     | exact (show Value.nilIface=gh none from rfl).trans (congrArg gh (if_neg (show ¬ (st=69∧cF w=false) from fun y=>absurd (e3.symm.trans y.2) (by decide))).symm)
     | exact (show Value.nilIface=gh none from rfl).trans (congrArg gh (if_neg (show ¬ (st=69∧cF w=false) from fun y=>e1 y.1)).symm))
end
section
variable {h h':aj} {bs ms bp mp be me:Nat} {st od:Int} {sk ov:Bool} {aY:Int} {L P P' R:List (List UInt8 × Value)} {S:Nat→Prop}
def HL (k st:Int) (tag:List UInt8):List Value:=[.int .u8 k,.int .u8 st,St tag,St [],St [],In 0,In 0,.slice none 0 0,.slice none 0 0,.slice none 0 0,.slice none 0 0]
theorem fK {v:Value} {b:Nat} {l:List bj} (e:l=[]):¬ dG v l b:=fun h=>by subst e;rcases h with ⟨z,_⟩ | ⟨c,hc,_⟩;simp at z;cases hc
theorem jl {v:Value} {b:Nat} {l:List Rw} (e:l=[]):¬ dU v l b:=fun h=>by subst e;rcases h with ⟨z,_⟩ | ⟨c,hc,_⟩;simp at z;cases hc
end
end Go.Proofs.YtopgddfgefnmbaaGreatDoor
namespace Go.Proofs.YtopgddfgefnmbaaGreatDoor
open Go Go.RK Go.RowKit
theorem tC {P:Program} {k:FuncId} {args:Array Value} {h:aj} {v:Value} (hc:∀ w:World,w.heap=h→Calls P k args w fun e w'=>e=.returned v∧Below w.heap.size w w'):ai P k args h fun u h'=>u=v∧Ext No h h' :=
 fun w hw=>(hc w hw).mono fun e w' ⟨he,hb⟩=>⟨⟨hb.tape,hb.os,hb.output,trivial⟩,v,he,rfl,by subst hw;exact ⟨hb.size,fun b eH _=>hb.block b eH⟩⟩
theorem KJ {h:aj} {b:Nat} (a c d:List UInt8) (hb:h[b]?=some (.cells ⟨[St a,St c,St d]⟩ 9 (0,0))) (hl:a.length+c.length+d.length≤1000000) :
   ai Tryz.prog 273 ⟨[.slice (some ⟨b,0,none⟩) 3 3,St [32]]⟩ h fun u h'=>u=St (a++[32]++c++[32]++d)∧Ext No h h':=by
 have e:Lib.join ([ByteArray.mk ⟨a⟩,⟨⟨c⟩⟩,⟨⟨d⟩⟩].map (·.data.toList)) (ByteArray.mk ⟨[32]⟩).data.toList=a++[32]++c++[32]++d:=by
   show Lib.join [a,c,d] [32]=_
   rw [Lib.join_cons]
   simp [Lib.joinTail]
 refine tC fun w hw=>?_
 subst hw
 have:=Tryz.strings_Join b 0 3 [⟨⟨a⟩⟩,⟨⟨c⟩⟩,⟨⟨d⟩⟩] ⟨⟨[32]⟩⟩ w (fun j x hj=>?_) (ak hb) (by simp) (by simp) (by rw [e];simp;omega)
 · rw [e] at this
   exact this
 · rw [ni,cell_of hb,Nat.zero_add]
   rcases j with _ | _ | _ | j <;> simp at hj ⊢
   aa (subst hj;rfl)
end Go.Proofs.YtopgddfgefnmbaaGreatDoor
namespace Go.Proofs.YtopgddfgefnmbaaGreatDoor
open Go Go.RK
def dn (m:Nat):List UInt8:=if m < 10 then [UInt8.ofNat (48+m)] else UInt8.ofNat (48+m % 10) :: dn (m / 10)
def zA (m:Nat):List UInt8:=(dn m).reverse
def dE (n:Int):List UInt8:=if n < 0 then 45 :: zA n.natAbs else zA n.natAbs
theorem nx {m:Nat} (h:m < 10):dn m=[UInt8.ofNat (48+m)]:=by unfold dn;rw [if_pos h]
theorem rk {m:Nat} (h:¬ m < 10):dn m=UInt8.ofNat (48+m % 10) :: dn (m / 10):=by rw [dn,if_neg h]
theorem BN (k m:Nat) (h:m < 10 ^ (k+1)):(dn m).length≤k+1:=by
 induction k generalizing m with
 | zero=>rw [nx (by omega)];simp
 | succ k ih =>
   by_cases h1:m < 10
   · rw [nx h1];simp
   · rw [rk h1]
     have:m / 10 < 10 ^ (k+1):=by
       rw [Nat.div_lt_iff_lt_mul (by omega)]
       rw [Nat.pow_succ] at h
       exact h
     have:=ih _ this
     simp;omega
theorem iB (m:Nat) (h:m≤9223372036854775808):(dn m).length≤20:=BN 19 m (by omega)
theorem Ek (m:Nat) (h:m≤9223372036854775808):(zA m).length≤20:=by unfold zA;simpa using iB m h
theorem BO (m:Nat):0 < (dn m).length:=by unfold dn;split <;> simp
theorem dA (n:Int) (h:n.natAbs≤9223372036854775808):(dE n).length≤21:=by
 have:=Ek _ h
 unfold dE
 split <;> simp <;> omega
theorem HM (m:Nat):By (UInt8.ofNat (48+m % 10))=.int .u8 (48+(m % 10:Nat)):=by
 have:(UInt8.ofNat (48+m % 10)).toNat=48+m % 10:=by simp;omega
 unfold By
 rw [this]
 simp
theorem vy (m:Nat):(-(m:Int)).tdiv 10 = -((m / 10:Nat):Int):=by rw [Int.neg_tdiv];rfl
theorem vz (m:Nat):(-(m:Int)).tmod 10 = -((m % 10:Nat):Int):=by rw [Int.neg_tmod];rfl
def Bl (h:aj) (b:Nat) (v:Value) (bs:List UInt8):Prop:=(∃ p,h[b]?=some (.cells ⟨[p,v]⟩ 344 (0,0))∧(p=.pointer none∨p=.pointer (some ⟨b,0,none⟩)))∧Own h v 5 1 bs.length (bK bs)∧(bs=[]→v=.slice none 0 0)
theorem BP (v:Value) (w:World):(callFunc 314 #[v]).run Tryz.prog w=.ok (.value v) w:=by
 rw [run_callFunc_extern (P:=Tryz.prog) (fn:=Tryz.f314) (e:=Extern.AbiNoEscape.same) (by kernel_rfl) (by kernel_rfl) rfl (by kernel_rfl) (by kernel_rfl)]
 rfl
theorem yC {h:aj} {b:Nat} {v:Value} {bs:List UInt8} (r:Bl h b v bs) :
   ai Tryz.prog 303 ⟨[.pointer (some ⟨b,0,none⟩)]⟩ h fun u h'=>u=.tuple ⟨[]⟩∧h'[b]?=some (.cells ⟨[.pointer (some ⟨b,0,none⟩),v]⟩ 344 (0,0))∧Ext (fun k=>k=b) h h':=by
 obtain ⟨⟨p,hb,rfl | rfl⟩,ho,_⟩:=r
 · obtain ⟨A,c,rfl,_⟩:=ho.slice
   refine calls [(0,_)] Tryz.func303 rfl Tryz.ntmps303 rfl ⟨rfl,trivial⟩ ?_
   refine G2 ?_;refine WL.step (ah rfl) rfl rfl rfl (Go ?_);refine Ld ?_;refine WL.step (fP Tryz.underlying342 rfl rfl) rfl rfl rfl ?_;refine Gn ?_;refine Gs [(0,_),(6,_)] ?_
   refine aJ 1 2 ?_ TT.mk
   aa (refine ay 1 ?_)
   refine WC.region (Go ?_);refine WL.step (su Tryz.underlying342 Tryz.underlying215 (show Tryz.prog.info? 344=some Tryz.t344 by kernel_rfl) (by decide) rfl (by assumption) (Nat.le_of_ble_eq_true rfl)) rfl rfl rfl ?_
   refine WL.step (x6 (fun w=>BP _ w) rfl) rfl rfl rfl ?_
   refine WL.step (o5 Tryz.underlying215 Tryz.underlying342 (show Tryz.prog.info? 344=some Tryz.t344 by kernel_rfl) rfl (by assumption) (by kernel_rfl)) rfl rfl rfl ?_
   refine WL.step (ah rfl) rfl rfl rfl (Go ?_);refine WL.az (aD Tryz.sizeOf342 rfl rfl (by assumption) (Nat.le_of_ble_eq_true rfl) rfl rfl) rfl rfl ?_
   rintro _ h1 ⟨aT,aB⟩
   refine Gn ?_;refine Gn ?_
   refine fQ [] trivial ?_
   exact ⟨rfl,aT,aB⟩
 · obtain ⟨A,c,rfl,_⟩:=ho.slice
   refine calls [(0,_)] Tryz.func303 rfl Tryz.ntmps303 rfl ⟨rfl,trivial⟩ ?_
   refine G2 ?_;refine WL.step (ah rfl) rfl rfl rfl (Go ?_);refine Ld ?_;refine WL.step (fP Tryz.underlying342 rfl rfl) rfl rfl rfl ?_;refine Gn ?_;refine Gs [(0,_),(6,_)] ?_
   refine aJ 1 2 ?_ TT.mk
   aa (refine ay 2 ?_)
   refine G2 ?_;refine WL.step (ah rfl) rfl rfl rfl (Go ?_);refine Ld ?_;refine Go ?_;refine WL.step (zV Tryz.underlying342 (show Tryz.prog.info? 344=some Tryz.t344 by kernel_rfl) rfl rfl) rfl rfl rfl ?_
   refine Gn ?_;refine Gs [(19,_)] ?_
   refine aJ 3 4 ?_ TT.mk
   aa (refine ay 4 ?_)
   refine WC.skip ?_;refine Gn ?_
   refine fQ [] trivial ?_
   exact ⟨rfl,hb,.refl _ _⟩
theorem pQ {h:aj} {b:Nat} {v:Value} {bs:List UInt8} (r:Bl h b v bs) (c:UInt8) (hm:bs.length≤1000000) :
   ai Tryz.prog 277 ⟨[.pointer (some ⟨b,0,none⟩),By c]⟩ h fun u h'=>u=.nilIface∧∃ v',Bl h' b v' (bs++[c])∧Ext (fun k=>k=b∨v.ownBlock=some k) h h'∧∀ k,v'.ownBlock=some k→v.ownBlock=some k∨h.size≤k:=by
 have r0:=r
 obtain ⟨⟨p,hb,_⟩,ho,_⟩:=r
 obtain ⟨A,c0,rfl,_⟩:=ho.slice
 have ep:(Value.slice A bs.length c0).ownBlock ≠ some b:=bZ ho hb (by decide)
 refine calls [(0,_),(1,_)] Tryz.func277 rfl Tryz.ntmps277 rfl ⟨rfl,rfl,trivial⟩ ?_
 refine G2 ?_;refine G2 ?_;refine WL.call (vs:=[_]) rfl Tryz.call303 rfl (yC r0) rfl rfl rfl ?_
 rintro _ h1 ⟨rfl,aT,aB⟩
 have kE:=ho.ext aB (fun k hk e=>ep (by rw [hk,e]))
 refine Gn ?_;refine G2 ?_;refine WL.step (ah rfl) rfl rfl rfl (Go ?_);refine Ld ?_;refine Go ?_;refine WL.al (aw (vs:=[_]) (cs:=[_]) (fun | [a0]=>[a0] | _=>[]) Tryz.underlying23 rfl rfl (by kernel_rfl)) rfl rfl rfl ?_
 rintro _ h3 ⟨b3,rfl,gN,bC,aS⟩
 have ee:=kE.ext aS (fun _ _=>aQ)
 have vm:=aS.obj aT aQ
 refine WL.al (aX (sz:=1) (bytes:=1) rfl Tryz.underlying23 (show Tryz.prog.info? 5=some Tryz.t5 by kernel_rfl) rfl rfl rfl rfl (by decide) rfl rfl ee (bG bC rfl) (by simp [Value.oneCell']) (by simp only [maxLen];omega) (by omega)) rfl rfl rfl ?_
 rintro v4 h4 ⟨gk,bh,sS⟩
 obtain ⟨A4,c4,rfl,_⟩:=gk.slice
 have bN:=bh.obj vm (fun e=>ep e)
 refine WL.step (ah rfl) rfl rfl rfl (Go ?_);refine WL.az (aD Tryz.sizeOf23 rfl rfl bN (Nat.le_of_ble_eq_true rfl) rfl rfl) rfl rfl ?_
 rintro _ h5 ⟨cd,aO⟩
 refine Gn ?_;refine Gs [] ?_;refine G2 ?_;refine Gt ?_
 exact ⟨rfl,_,⟨⟨_,cd,.inr rfl⟩,by simpa using gk.ext aO (fun k hk e=>bZ gk bN (by decide) (by rw [hk,e])),by simp⟩,(((aB.mono (fun k _ e=>.inl e)).trans (aS.mono (fun k _ e=>e.elim))).trans' bh (fun k _ e=>.inr e)).trans' aO (fun k _ e=>.inl e),GR sS (Nat.le_trans aB.size aS.size)⟩
theorem jV {h:aj} {b:Nat} {v:Value} {bs:List UInt8} (r:Bl h b v bs) (hm:bs.length≤1000000) :
   ai Tryz.prog 278 ⟨[.pointer (some ⟨b,0,none⟩)]⟩ h fun u h'=>u=St bs∧Ext (fun k=>v.ownBlock=some k) h h':=by
 obtain ⟨⟨p,hb,_⟩,ho,R1⟩:=r
 rcases ho with ⟨_,⟨rfl,h0⟩ | ⟨g,cap,cur,rfl,hg,hn,rZ,xY,Dg⟩⟩
 · obtain rfl:=List.eq_nil_of_length_eq_zero h0
   refine calls [(0,_)] Tryz.func278 rfl Tryz.ntmps278 rfl ⟨rfl,trivial⟩ ?_
   refine G2 ?_;refine WC.seq ?_;refine WC.jO 10 dB (by kernel_rfl) ?_
   show WS _ _ _ [_,_,_,_,_,_,_,_,_,_] _ _ _
   refine WS.step (an rfl) rfl rfl rfl ?_;refine WS.step (ah rfl) rfl rfl rfl ?_;refine WS.step (ag rfl Tryz.underlying344 rfl Tryz.sizeOf23) rfl rfl rfl ?_;refine WS.step (aC Tryz.isAgg23 rfl (by first | assumption | exact ab (by assumption) rfl)) rfl rfl rfl ?_
   refine WS.step (o0 rfl) rfl rfl rfl ?_;refine WS.step (an rfl) rfl rfl rfl ?_;refine WS.step (ah rfl) rfl rfl rfl ?_;refine WS.step (ag rfl Tryz.underlying344 rfl Tryz.sizeOf23) rfl rfl rfl ?_;refine WS.step (aC Tryz.isAgg23 rfl (by first | assumption | exact ab (by assumption) rfl)) rfl rfl rfl ?_
   refine WS.step (cB rfl Tryz.underlying23 rfl) rfl rfl rfl ?_;refine WS.nil ?_
   show WL _ _ _ [_,_] _ _ _
   refine WL.al (kX rfl rfl rfl) rfl rfl rfl ?_
   rintro _ hz ⟨rfl,_⟩
   subst hz
   refine WL.step (aR rfl) rfl rfl rfl ?_;refine WL.nil ?_;refine Gn ?_;refine Gs [(2,_)] ?_;refine Gt ?_
   exact ⟨rfl,.refl _ _⟩
 · have R2:h[g]?=some (.cells ⟨cur.toList⟩ 5 (0,0)):=hg
   by_cases I4:cap=0
   · have h0:bs=[]:=List.eq_nil_of_length_eq_zero (by omega)
     cases R1 h0
   ·
     refine calls [(0,_)] Tryz.func278 rfl Tryz.ntmps278 rfl ⟨rfl,trivial⟩ ?_
     refine G2 ?_;refine WC.seq ?_;refine WC.jO 10 dB (by kernel_rfl) ?_
     show WS _ _ _ [_,_,_,_,_,_,_,_,_,_] _ _ _
     refine WS.step (an rfl) rfl rfl rfl ?_;refine WS.step (ah rfl) rfl rfl rfl ?_;refine WS.step (ag rfl Tryz.underlying344 rfl Tryz.sizeOf23) rfl rfl rfl ?_;refine WS.step (aC Tryz.isAgg23 rfl (by first | assumption | exact ab (by assumption) rfl)) rfl rfl rfl ?_
     refine WS.step (qH rfl (by omega)) rfl rfl rfl ?_
     refine WS.step (an rfl) rfl rfl rfl ?_;refine WS.step (ah rfl) rfl rfl rfl ?_;refine WS.step (ag rfl Tryz.underlying344 rfl Tryz.sizeOf23) rfl rfl rfl ?_;refine WS.step (aC Tryz.isAgg23 rfl (by first | assumption | exact ab (by assumption) rfl)) rfl rfl rfl ?_
     refine WS.step (cB rfl Tryz.underlying23 rfl) rfl rfl rfl ?_;refine WS.nil ?_
     show WL _ _ _ [_,_] _ _ _
     refine WL.al (lM rfl Tryz.underlying365 (by kernel_rfl) rfl rfl rfl R2 (by simpa using Dg) (by unfold maxLen;omega)) rfl rfl rfl ?_
     rintro _ h1 ⟨rfl,aB⟩
     refine WL.step (aR rfl) rfl rfl rfl ?_;refine WL.nil ?_;refine Gn ?_;refine Gs [(2,_)] ?_;refine Gt ?_
     exact ⟨rfl,aB.mono (fun k _ e=>by rw [e];rfl)⟩
theorem pR {h:aj} (m:Nat) (hm:m≤9223372036854775808) :
   ai Tryz.prog 276 ⟨[In (-(m:Int))]⟩ h fun u h'=>Own h' u 5 1 (dn m).length (bK (dn m))∧Ext No h h'∧∀ k,u.ownBlock=some k→h.size≤k:=by
 have lg:=iB m hm
 refine calls [(0,_)] Tryz.func276 rfl Tryz.ntmps276 rfl ⟨rfl,trivial⟩ ?_
 refine G2 ?_;refine G2 ?_;refine WC.block ?_;refine WC.bO (X:=List UInt8 × Value × Nat) (fun x=>([(3,x.2.1),(0,In (-(x.2.2:Int)))]:Fr)) [] (fun x h'=>x.2.2≤m∧x.1++dn x.2.2=dn m∧Own h' x.2.1 5 1 x.1.length (bK x.1)∧Ext No h h'∧∀ k,x.2.1.ownBlock=some k→h.size≤k) (fun x=>x.2.2) (([],.slice none 0 0,m)) ⟨rfl,rfl,trivial⟩ (by exact ⟨Nat.le_refl _,rfl,Own.nil _ _ _,.refl _ _,by simp [Value.ownBlock]⟩) ?_
 rintro ⟨out,v1,q⟩ h1 ⟨hq,El,kE,aB,iO⟩
 simp only at hq El kE iO
 obtain ⟨A1,c1,rfl,_⟩:=kE.slice
 have j0:=congrArg List.length El
 rw [List.length_append] at j0
 have si:=BO q
 have e1:=vy q
 have e2:=vz q
 refine WC.sub [(0,_),(3,_)] ⟨rfl,rfl,trivial⟩ ?_
 dsimp only
 refine WC.block ?_;refine G2 ?_;refine WL.step (zT rfl rfl (by decide)) rfl rfl rfl ?_
 rw [e2]
 refine WL.step (fz rfl rfl (by omega)) rfl rfl rfl ?_
 refine WL.step (pG Tryz.underlying3 Tryz.underlying5 rfl (by omega)) rfl rfl rfl ?_
 rw [show (48 - -((q % 10:Nat):Int))=48+(q % 10:Nat) by omega,← HM]
 refine WL.al (aw (vs:=[_]) (cs:=[_]) (fun | [a0]=>[a0] | _=>[]) Tryz.underlying23 rfl rfl (by kernel_rfl)) rfl rfl rfl ?_
 rintro _ h3 ⟨b3,rfl,gN,bC,aS⟩
 refine WL.al (aX (sz:=1) (bytes:=1) rfl Tryz.underlying23 (show Tryz.prog.info? 5=some Tryz.t5 by kernel_rfl) rfl rfl rfl rfl (by decide) rfl rfl (kE.ext aS (fun _ _=>aQ)) (bG bC rfl) (by simp [Value.oneCell']) (by simp only [maxLen];omega) (by omega)) rfl rfl rfl ?_
 rintro v4 h4 ⟨gk,bh,sS⟩
 have tD:=cb sS iO (by have:=aB.size;have:=aS.size;omega)
 have Qc:=(aB.trans aS).trans' bh (fun q hq e=>by have:=iO q e;omega)
 refine Go ?_;refine Gs [(0,_),(3,_)] ?_;refine G2 ?_;refine WL.step (js rfl rfl (by decide) (kV (by omega) (by decide))) rfl rfl rfl ?_
 rw [e1]
 refine WL.step (aR rfl) rfl rfl rfl ?_;refine Gn ?_;refine G2 ?_
 refine aJ 1 2 (Hb.mk fun hb=>?_) (Hb.mk fun hb=>?_)
 aa try (
 refine ay 1 ?_
 refine G2 ?_;refine Gs [(2,_)] ?_;refine Gt ?_
 exact ⟨by rw [← El,nx (m:=q) (by omega)];have e9:q % 10=q:=Nat.mod_eq_of_lt (by omega);rw [e9] at gk;simpa using gk,Qc,tD⟩
 skip)
 aa (refine ay 2 ?_)
 refine WC.skip ?_;refine Gn ?_
 exact ⟨(out++[UInt8.ofNat (48+q % 10)],_,q / 10),⟨rfl,rfl,trivial⟩,(by exact ⟨by simp;omega,by rw [← El,rk (m:=q) (by omega)];simp,by simpa using gk,Qc,tD⟩),(by simp;omega)⟩
theorem BQ {l:List UInt8} {j:Nat} {y:UInt8} (hy:l[j]?=some y):(bK l)[j]?=some (By y):=by simp [hy]
theorem pS {l:List UInt8} {j:Nat} {y:UInt8} (hy:l[j]?=some y):(l.drop j).reverse=(l.drop (j+1)).reverse++[y]:=by
 rw [List.drop_eq_getElem?_toList_append,hy]
 simp
theorem xd {h:aj} {b:Nat} {v:Value} {bs:List UInt8} (r:Bl h b v bs):b < h.size:=by
 obtain ⟨⟨p,hb,_⟩,_⟩:=r
 exact ak hb
theorem BR {h:aj} (m:Nat) (hm:m≤9223372036854775807) :
   ai Tryz.prog 246 ⟨[In m]⟩ h fun u h'=>u=St (dE m)∧Ext No h h':=by
 have ed:dE (m:Int)=zA m:=by unfold dE;rw [if_neg (by omega)];rfl
 have lg:=iB m (by omega)
 refine calls [(0,_)] Tryz.func246 rfl Tryz.ntmps246 rfl ⟨rfl,trivial⟩ ?_
 refine G2 ?_;refine G2 ?_;refine G3 ?_;refine Gs [(0,_),(3,_),(10,_)] ?_
 refine aJ 1 2 ?_ TT.mk
 aa (refine ay 1 ?_)
 refine WC.region (Go ?_);refine WL.step (qG rfl (by omega)) rfl rfl rfl (Go ?_)
 refine Gn ?_;refine G2 ?_;refine WL.call (vs:=[_]) rfl Tryz.call276 rfl (pR m (by omega)) rfl rfl rfl ?_
 rintro v4 h4 ⟨gk,bh,tD⟩
 obtain ⟨A4,c4,rfl,_⟩:=gk.slice
 refine Go ?_;refine Gs [(3,_),(4,_)] ?_;refine G3 ?_
 refine aJ 3 4 ?_ TT.mk
 aa (refine ay 4 ?_)
 refine WC.skip ?_;refine Gn ?_;refine WC.sr ?_;refine WL.al (au (fun w=>Tryz.zeroValue344 w)) rfl rfl rfl ?_
 rintro _ h5 ⟨b5,rfl,r6,cd,aO⟩
 have Jd:=gk.ext aO (fun _ _=>aQ)
 have zC:∀ k,(Value.slice A4 (dn m).length c4).ownBlock=some k→k < b5:=fun k e=>by have:=gk.lt e;omega
 refine Gn ?_;refine G3 ?_;refine Gs [(4,_),(5,_),(6,_)] ?_;refine WC.block ?_;refine WC.bO (X:=Nat × Value) (fun x=>([(6,In ((x.1:Int) - 1))]:Fr)) [(4,_),(5,_)] (fun x h'=>x.1≤(dn m).length∧Bl h' b5 x.2 ((dn m).drop x.1).reverse∧Own h' (Value.slice A4 (dn m).length c4) 5 1 (dn m).length (bK (dn m))∧Ext No h h'∧h.size≤b5∧∀ k,x.2.ownBlock=some k→b5 < k) (fun x=>x.1) (((dn m).length,.slice none 0 0)) ⟨rfl,rfl,rfl,trivial⟩ (by exact ⟨Nat.le_refl _,by simpa [Bl] using (⟨⟨_,cd,.inl rfl⟩,Own.nil _ _ _⟩:_∧_),Jd,bh.trans aO,Nat.le_trans bh.size r6,by simp [Value.ownBlock]⟩) ?_
 rintro ⟨k,v6⟩ h6 ⟨hk,j3,gT,aP,r5,jg⟩
 simp only at hk j3 jg
 refine WC.sub [(6,_),(4,_),(5,_)] ⟨rfl,rfl,rfl,trivial⟩ ?_
 dsimp only
 refine G3 ?_
 refine aJ 5 6 (Hb.mk fun hb=>?_) (Hb.mk fun hb=>?_)
 aa try (
 refine ay 5 ?_
 refine WC.skip ?_
 skip)
 aa try (
 refine ay 6 ?_
 refine WC.exit ?_
 repeat' (ae first | refine aZ ?_ | refine aF rfl ?_ | refine aL ?_ | refine aN ?_ | refine aV ?_)
 refine Br.out (i:=1000) ?_
 skip)
 aa (refine Gn ?_;first | refine Br.ad ?_ | refine WC.seq ?_)
 aa (first | refine Br.ad ?_ | refine WC.block ?_)
 aa (
  first
    | (refine Br.ad ?_)
    | (obtain ⟨bL,oL,hA,gx,cX⟩:=Rd.at_ gT.rd (by omega)
       obtain ⟨j,rfl⟩:∃ j,k=j+1:=⟨k - 1,by omega⟩
       obtain ⟨y,hy⟩:∃ y,(dn m)[j]?=some y:=⟨_,List.getElem?_eq_getElem (by omega)⟩
       have hc:=cX.get (p:=oL+j * 1) (v:=By y) j (BQ hy) (by omega)
       have e8:(((j+1:Nat):Int) - 1)=(j:Nat):=by omega
       rw [e8]))
 aa (first | refine Br.ad ?_ | refine WC.region ?_)
 aa (refine Go ?_;first | refine Br.ad ?_ | (refine WL.step (aG Tryz.underlying23 Tryz.sizeOf5 rfl rfl rfl (by omega) (by first | rfl | assumption)) rfl rfl rfl ?_))
 aa (first | refine Br.ad ?_ | refine Ld ?_)
 aa (
  first
    | (refine Br.ad ?_)
    | (refine WL.call (vs:=[_,_]) rfl Tryz.call277 rfl (pQ j3 y (by simp;omega)) rfl rfl rfl ?_
       rintro _ h7 ⟨rfl,v7,HN,bu,NO⟩))
 aa (refine Gn ?_;first | refine Br.ad ?_ | refine Gs [(4,_),(5,_),(6,_)] ?_)
 aa (first | refine Br.ad ?_ | refine WC.region ?_)
 aa (refine Go ?_;first | refine Br.ad ?_ | (exact ⟨(j,_),⟨rfl,rfl,rfl,trivial⟩,(by exact ⟨by simp;omega,by rw [pS hy];exact HN,gT.ext bu (fun q hq e=>e.elim (fun e=>by have:=zC q hq;omega) (fun e=>by have:=zC q hq;have:=jg q e;omega)),aP.trans' bu (fun q hq e=>e.elim (fun e=>by omega) (fun e=>by have:=jg q e;omega)),r5,fun q hq=>(NO q hq).elim (jg q) (fun e=>Nat.lt_of_lt_of_le (xd j3) e)⟩),(by simp)⟩))
 try (refine Br.mk (i:=1000) ?_)
 refine Gn ?_;refine Gs [(5,_)] ?_;refine WC.sr ?_;refine WL.call (vs:=[_]) rfl Tryz.call278 rfl (jV j3 (by simp;omega)) rfl rfl rfl ?_
 rintro _ h8 ⟨rfl,bH⟩
 refine Go ?_;refine Gt ?_
 exact ⟨by rw [show k=0 by omega,ed];simp [zA],aP.trans' bH (fun q hq e=>by have:=jg q e;omega)⟩
theorem BS {h:aj} (m:Nat) (h0:0 < m) (hm:m≤9223372036854775808) :
   ai Tryz.prog 246 ⟨[In (-(m:Int))]⟩ h fun u h'=>u=St (dE (-(m:Int)))∧Ext No h h':=by
 have ed:dE (-(m:Int))=45 :: zA m:=by unfold dE;rw [if_pos (by omega)];simp
 have lg:=iB m (by omega)
 refine calls [(0,_)] Tryz.func246 rfl Tryz.ntmps246 rfl ⟨rfl,trivial⟩ ?_
 refine G2 ?_;refine G2 ?_;refine G3 ?_;refine Gs [(0,_),(3,_),(10,_)] ?_
 refine aJ 1 2 ?_ TT.mk
 aa (refine ay 2 ?_)
 refine WC.skip ?_;refine Gn ?_;refine G2 ?_;refine WL.call (vs:=[_]) rfl Tryz.call276 rfl (pR m (by omega)) rfl rfl rfl ?_
 rintro v4 h4 ⟨gk,bh,tD⟩
 refine Go ?_;refine Gs [(3,_),(4,_)] ?_;refine G3 ?_
 refine aJ 3 4 ?_ TT.mk
 aa (refine ay 3 ?_)
 refine WC.region (Go ?_);refine WL.al (aw (vs:=[_]) (cs:=[_]) (fun | [a0]=>[a0] | _=>[]) Tryz.underlying23 rfl rfl (by kernel_rfl)) rfl rfl rfl ?_
 rintro _ h3 ⟨b3,rfl,gN,bC,aS⟩
 refine WL.al (aX (sz:=1) (bytes:=1) rfl Tryz.underlying23 (show Tryz.prog.info? 5=some Tryz.t5 by kernel_rfl) rfl rfl rfl rfl (by decide) rfl rfl (gk.ext aS (fun _ _=>aQ)) (bG bC rfl) (by simp [Value.oneCell']) (by simp only [maxLen];omega) (by omega)) rfl rfl rfl ?_
 rintro v7 h7 ⟨nT,bu,FQ⟩
 have NP:=cb FQ tD (by have:=bh.size;have:=aS.size;omega)
 have FY:=(bh.trans aS).trans' bu (fun q hq e=>by have:=tD q e;omega)
 have R3:bK (dn m)++[.int .u8 45]=bK (dn m++[45]):=by simp
 have R4:(dn m).length+1=(dn m++[45]).length:=by simp
 rw [R3,R4] at nT
 have NA:(dn m++[45]).length≤21:=by omega
 obtain ⟨A7,c7,rfl,_⟩:=nT.slice
 refine Go ?_;refine Gn ?_;refine WC.sr ?_;refine WL.al (au (fun w=>Tryz.zeroValue344 w)) rfl rfl rfl ?_
 rintro _ h5 ⟨b5,rfl,r6,cd,aO⟩
 have Jd:=nT.ext aO (fun _ _=>aQ)
 have zC:∀ k,(Value.slice A7 (dn m++[45]).length c7).ownBlock=some k→k < b5:=fun k e=>by have:=nT.lt e;omega
 refine Gn ?_;refine G3 ?_;refine Gs [(4,_),(5,_),(6,_)] ?_;refine WC.block ?_;refine WC.bO (X:=Nat × Value) (fun x=>([(6,In ((x.1:Int) - 1))]:Fr)) [(4,_),(5,_)] (fun x h'=>x.1≤(dn m++[45]).length∧Bl h' b5 x.2 ((dn m++[45]).drop x.1).reverse∧Own h' (Value.slice A7 (dn m++[45]).length c7) 5 1 (dn m++[45]).length (bK (dn m++[45]))∧Ext No h h'∧h.size≤b5∧∀ k,x.2.ownBlock=some k→b5 < k) (fun x=>x.1) (((dn m++[45]).length,.slice none 0 0)) ⟨rfl,rfl,rfl,trivial⟩ (by exact ⟨Nat.le_refl _,by simpa [Bl] using (⟨⟨_,cd,.inl rfl⟩,Own.nil _ _ _⟩:_∧_),Jd,FY.trans aO,Nat.le_trans FY.size r6,by simp [Value.ownBlock]⟩) ?_
 rintro ⟨k,v6⟩ h6 ⟨hk,j3,gT,aP,r5,jg⟩
 simp only at hk j3 jg
 refine WC.sub [(6,_),(4,_),(5,_)] ⟨rfl,rfl,rfl,trivial⟩ ?_
 dsimp only
 refine G3 ?_
 refine aJ 5 6 (Hb.mk fun hb=>?_) (Hb.mk fun hb=>?_)
 aa try (
 refine ay 5 ?_
 refine WC.skip ?_
 skip)
 aa try (
 refine ay 6 ?_
 refine WC.exit ?_
 repeat' (ae first | refine aZ ?_ | refine aF rfl ?_ | refine aL ?_ | refine aN ?_ | refine aV ?_)
 refine Br.out (i:=1000) ?_
 skip)
 aa (refine Gn ?_;first | refine Br.ad ?_ | refine WC.seq ?_)
 aa (first | refine Br.ad ?_ | refine WC.block ?_)
 aa (
  first
    | (refine Br.ad ?_)
    | (obtain ⟨bL,oL,hA,gx,cX⟩:=Rd.at_ gT.rd (by omega)
       obtain ⟨j,rfl⟩:∃ j,k=j+1:=⟨k - 1,by omega⟩
       obtain ⟨y,hy⟩:∃ y,(dn m++[45])[j]?=some y:=⟨_,List.getElem?_eq_getElem (by omega)⟩
       have hc:=cX.get (p:=oL+j * 1) (v:=By y) j (BQ hy) (by omega)
       have e8:(((j+1:Nat):Int) - 1)=(j:Nat):=by omega
       rw [e8]))
 aa (first | refine Br.ad ?_ | refine WC.region ?_)
 aa (refine Go ?_;first | refine Br.ad ?_ | (refine WL.step (aG Tryz.underlying23 Tryz.sizeOf5 rfl rfl rfl (by omega) (by first | rfl | assumption)) rfl rfl rfl ?_))
 aa (first | refine Br.ad ?_ | refine Ld ?_)
 aa (
  first
    | (refine Br.ad ?_)
    | (refine WL.call (vs:=[_,_]) rfl Tryz.call277 rfl (pQ j3 y (by simp;omega)) rfl rfl rfl ?_
       rintro _ h7 ⟨rfl,v7,HN,bu,NO⟩))
 aa (refine Gn ?_;first | refine Br.ad ?_ | refine Gs [(4,_),(5,_),(6,_)] ?_)
 aa (first | refine Br.ad ?_ | refine WC.region ?_)
 aa (refine Go ?_;first | refine Br.ad ?_ | (exact ⟨(j,_),⟨rfl,rfl,rfl,trivial⟩,(by exact ⟨by simp;omega,by rw [pS hy];exact HN,gT.ext bu (fun q hq e=>e.elim (fun e=>by have:=zC q hq;omega) (fun e=>by have:=zC q hq;have:=jg q e;omega)),aP.trans' bu (fun q hq e=>e.elim (fun e=>by omega) (fun e=>by have:=jg q e;omega)),r5,fun q hq=>(NO q hq).elim (jg q) (fun e=>Nat.lt_of_lt_of_le (xd j3) e)⟩),(by simp)⟩))
 try (refine Br.mk (i:=1000) ?_)
 refine Gn ?_;refine Gs [(5,_)] ?_;refine WC.sr ?_;refine WL.call (vs:=[_]) rfl Tryz.call278 rfl (jV j3 (by simp;omega)) rfl rfl rfl ?_
 rintro _ h8 ⟨rfl,bH⟩
 refine Go ?_;refine Gt ?_
 exact ⟨by rw [show k=0 by omega,ed];simp [zA],aP.trans' bH (fun q hq e=>by have:=jg q e;omega)⟩
theorem gY {h:aj} (n:Int) (h0 : -9223372036854775808≤n) (h1:n≤9223372036854775807) :
   ai Tryz.prog 246 ⟨[In n]⟩ h fun u h'=>u=St (dE n)∧Ext No h h':=by
 by_cases hp:0≤n
 · obtain ⟨m,rfl⟩:=Int.eq_ofNat_of_zero_le hp
   exact BR m (by omega)
 · obtain ⟨m,rfl⟩:∃ m:Nat,n = -(m:Int):=⟨n.natAbs,by omega⟩
   exact BS m (by omega) (by omega)
def ku (n:List UInt8):List UInt8:=[34]++n++[34]
def iM (t n w:List UInt8):List UInt8:=t++[32]++ku n++[32]++w
def om (n:List UInt8):List UInt8:=if n=[] then ([117,110,110,97,109,101,100,32,112,114,101,112,97,114,101,100,32,115,116,97,116,101,109,101,110,116,32,100,111,101,115,32,110,111,116,32,101,120,105,115,116]:List UInt8) else iM ([112,114,101,112,97,114,101,100,32,115,116,97,116,101,109,101,110,116]:List UInt8) n ([100,111,101,115,32,110,111,116,32,101,120,105,115,116]:List UInt8)
def xe (n:List UInt8):List UInt8:=iM ([112,114,101,112,97,114,101,100,32,115,116,97,116,101,109,101,110,116]:List UInt8) n ([97,108,114,101,97,100,121,32,101,120,105,115,116,115]:List UInt8)
def xf (n:List UInt8):List UInt8:=([44,32,98,117,116,32,112,114,101,112,97,114,101,100,32,115,116,97,116,101,109,101,110,116,32]:List UInt8)++ku n++([32,114,101,113,117,105,114,101,115,32]:List UInt8)
def rl (p:Int) (n:List UInt8) (w:Int):List UInt8:=([98,105,110,100,32,109,101,115,115,97,103,101,32,115,117,112,112,108,105,101,115,32]:List UInt8)++dE p++([32,112,97,114,97,109,101,116,101,114,115]:List UInt8)++xf n++dE w
theorem mj (n:List UInt8):(ku n).length=n.length+2:=by simp [ku]
theorem tF (n:List UInt8):(xf n).length=n.length+37:=by simp [xf,mj]
theorem pT {h:aj} (n:List UInt8) (hn:n.length≤1000000):ai Tryz.prog 274 ⟨[St n]⟩ h fun u h'=>u=St (ku n)∧h'=h:=by
 refine calls [(0,_)] Tryz.func274 rfl Tryz.ntmps274 rfl ⟨rfl,trivial⟩ ?_
 refine G2 ?_;refine G2 ?_;refine WL.step (dC rfl rfl (by first | (simp only [List.length_append,List.length_cons,List.length_nil];omega) | (simp;omega))) rfl rfl rfl ?_;refine WL.step (dC rfl rfl (by first | (simp only [List.length_append,List.length_cons,List.length_nil];omega) | (simp;omega))) rfl rfl rfl (Go ?_);refine Gs [(2,_)] ?_;refine Gt ?_
 exact ⟨rfl,rfl⟩
theorem ln {h:aj} (t n w:List UInt8) (ht:t.length≤100) (hn:n.length≤100000) (hw:w.length≤100):ai Tryz.prog 243 ⟨[St t,St n,St w]⟩ h fun u h'=>u=St (iM t n w)∧Ext No h h':=by
 have hq:=mj n
 refine calls [(0,_),(1,_),(2,_)] Tryz.func243 rfl Tryz.ntmps243 rfl ⟨rfl,rfl,rfl,trivial⟩ ?_
 refine G2 ?_;refine G2 ?_;refine WL.call (vs:=[_]) rfl Tryz.call274 rfl (pT n (by omega)) rfl rfl rfl ?_
 rintro _ hz ⟨rfl,_⟩
 subst hz
 refine Go ?_;refine WL.al (aw (vs:=[_,_,_]) (cs:=[_,_,_]) (fun | [a0,a1,a2]=>[a0,a1,a2] | _=>[]) Tryz.underlying249 rfl rfl (by kernel_rfl)) rfl rfl rfl ?_
 rintro _ h1 ⟨b1,rfl,b0,aT,aB⟩
 refine WL.call (vs:=[_,_]) rfl Tryz.call273 rfl (KJ t (ku n) w aT (by omega)) rfl rfl rfl ?_
 rintro _ h2 ⟨rfl,aK⟩
 refine Go ?_;refine Gs [(6,_)] ?_;refine Gt ?_
 exact ⟨rfl,aB.trans aK⟩
theorem tG {h:aj} (n:List UInt8) (hn:n.length≤100000):ai Tryz.prog 244 ⟨[St n]⟩ h fun u h'=>u=St (om n)∧Ext No h h':=by
 by_cases h0:n=[]
 · subst h0
   refine calls [(0,_)] Tryz.func244 rfl Tryz.ntmps244 rfl ⟨rfl,trivial⟩ ?_
   refine G2 ?_;refine G3 ?_
   refine aJ 1 2 ?_ TT.mk
   aa (refine ay 1 ?_)
   refine G2 ?_;refine Gt ?_
   exact ⟨rfl,.refl _ _⟩
 · rw [om,if_neg h0]
   refine calls [(0,_)] Tryz.func244 rfl Tryz.ntmps244 rfl ⟨rfl,trivial⟩ ?_
   refine G2 ?_;refine G3 ?_
   refine aJ 1 2 ?_ TT.mk
   aa (refine ay 2 ?_)
   refine WC.skip ?_;refine Gn ?_;refine G2 ?_;refine WL.call (vs:=[_,_,_]) rfl Tryz.call243 rfl (ln ([112,114,101,112,97,114,101,100,32,115,116,97,116,101,109,101,110,116]:List UInt8) n ([100,111,101,115,32,110,111,116,32,101,120,105,115,116]:List UInt8) (by simp) hn (by simp)) rfl rfl rfl ?_
   rintro _ h2 ⟨rfl,aK⟩
   refine Go ?_;refine Gs [(2,_)] ?_;refine Gt ?_
   exact ⟨rfl,aK⟩
theorem vA {h:aj} (n:List UInt8) (hn:n.length≤100000):ai Tryz.prog 205 ⟨[St n]⟩ h fun u h'=>u=St (xe n)∧Ext No h h':=by
 refine calls [(0,_)] Tryz.func205 rfl Tryz.ntmps205 rfl ⟨rfl,trivial⟩ ?_
 refine G2 ?_;refine G2 ?_;refine WL.call (vs:=[_,_,_]) rfl Tryz.call243 rfl (ln ([112,114,101,112,97,114,101,100,32,115,116,97,116,101,109,101,110,116]:List UInt8) n ([97,108,114,101,97,100,121,32,101,120,105,115,116,115]:List UInt8) (by simp) hn (by simp)) rfl rfl rfl ?_
 rintro _ h2 ⟨rfl,aK⟩
 refine Go ?_;refine Gt ?_
 exact ⟨rfl,aK⟩
theorem vB {h:aj} (n:List UInt8) (hn:n.length≤100000):ai Tryz.prog 250 ⟨[St n]⟩ h fun u h'=>u=St (iM ([112,111,114,116,97,108]:List UInt8) n ([100,111,101,115,32,110,111,116,32,101,120,105,115,116]:List UInt8))∧Ext No h h':=by
 refine calls [(0,_)] Tryz.func250 rfl Tryz.ntmps250 rfl ⟨rfl,trivial⟩ ?_
 refine G2 ?_;refine G2 ?_;refine WL.call (vs:=[_,_,_]) rfl Tryz.call243 rfl (ln ([112,111,114,116,97,108]:List UInt8) n ([100,111,101,115,32,110,111,116,32,101,120,105,115,116]:List UInt8) (by simp) hn (by simp)) rfl rfl rfl ?_
 rintro _ h2 ⟨rfl,aK⟩
 refine Go ?_;refine Gt ?_
 exact ⟨rfl,aK⟩
theorem vC {h:aj} (n:List UInt8) (hn:n.length≤100000):ai Tryz.prog 211 ⟨[St n]⟩ h fun u h'=>u=St (iM ([99,117,114,115,111,114]:List UInt8) n ([97,108,114,101,97,100,121,32,101,120,105,115,116,115]:List UInt8))∧Ext No h h':=by
 refine calls [(0,_)] Tryz.func211 rfl Tryz.ntmps211 rfl ⟨rfl,trivial⟩ ?_
 refine G2 ?_;refine G2 ?_;refine WL.call (vs:=[_,_,_]) rfl Tryz.call243 rfl (ln ([99,117,114,115,111,114]:List UInt8) n ([97,108,114,101,97,100,121,32,101,120,105,115,116,115]:List UInt8) (by simp) hn (by simp)) rfl rfl rfl ?_
 rintro _ h2 ⟨rfl,aK⟩
 refine Go ?_;refine Gt ?_
 exact ⟨rfl,aK⟩
theorem yD {h:aj} (n:List UInt8) (hn:n.length≤100000):ai Tryz.prog 247 ⟨[St n]⟩ h fun u h'=>u=St (xf n)∧h'=h:=by
 have hq:=mj n
 refine calls [(0,_)] Tryz.func247 rfl Tryz.ntmps247 rfl ⟨rfl,trivial⟩ ?_
 refine G2 ?_;refine G2 ?_;refine WL.call (vs:=[_]) rfl Tryz.call274 rfl (pT n (by omega)) rfl rfl rfl ?_
 rintro _ hz ⟨rfl,_⟩
 subst hz
 refine WL.step (dC rfl rfl (by first | (simp only [List.length_append,List.length_cons,List.length_nil];omega) | (simp;omega))) rfl rfl rfl ?_;refine WL.step (dC rfl rfl (by first | (simp only [List.length_append,List.length_cons,List.length_nil];omega) | (simp;omega))) rfl rfl rfl (Go ?_);refine Gs [(2,_)] ?_;refine Gt ?_
 exact ⟨rfl,rfl⟩
theorem yE {h:aj} (p:Int) (n:List UInt8) (w:Int) (hn:n.length≤100000) (hp : -9223372036854775808≤p∧p≤9223372036854775807) (hw : -9223372036854775808≤w∧w≤9223372036854775807) :
   ai Tryz.prog 209 ⟨[In p,St n,In w]⟩ h fun u h'=>u=St (rl p n w)∧Ext No h h':=by
 have hq:=tF n
 have UG:=dA p (by omega)
 have UH:=dA w (by omega)
 refine calls [(0,_),(1,_),(2,_)] Tryz.func209 rfl Tryz.ntmps209 rfl ⟨rfl,rfl,rfl,trivial⟩ ?_
 refine G2 ?_;refine G2 ?_;refine WL.call (vs:=[_]) rfl Tryz.call246 rfl (gY p hp.1 hp.2) rfl rfl rfl ?_
 rintro _ h1 ⟨rfl,aB⟩
 refine WL.step (dC rfl rfl (by first | (simp only [List.length_append,List.length_cons,List.length_nil];omega) | (simp;omega))) rfl rfl rfl ?_;refine WL.step (dC rfl rfl (by first | (simp only [List.length_append,List.length_cons,List.length_nil];omega) | (simp;omega))) rfl rfl rfl (Go ?_);refine WL.call (vs:=[_]) rfl Tryz.call247 rfl (yD n hn) rfl rfl rfl ?_
 rintro _ hz ⟨rfl,_⟩
 subst hz
 refine WL.step (dC rfl rfl (by first | (simp only [List.length_append,List.length_cons,List.length_nil];omega) | (simp;omega))) rfl rfl rfl (Go ?_);refine WL.call (vs:=[_]) rfl Tryz.call246 rfl (gY w hw.1 hw.2) rfl rfl rfl ?_
 rintro _ h2 ⟨rfl,aK⟩
 refine WL.step (dC rfl rfl (by first | (simp only [List.length_append,List.length_cons,List.length_nil];omega) | (simp;omega))) rfl rfl rfl (Go ?_);refine Gs [(6,_)] ?_;refine Gt ?_
 exact ⟨rfl,aB.trans aK⟩
def dh (n:Int):Nat:=(min (max n 0) 1000).toNat
theorem jC (n:Int):dh n≤1000:=by unfold dh;omega
theorem pU {h:aj} (n:Int):ai Tryz.prog 311 ⟨[In n]⟩ h fun u h'=>u=In (dh n)∧h'=h:=by
 refine calls [(0,_)] Tryz.func311 rfl Tryz.ntmps311 rfl ⟨rfl,trivial⟩ ?_
 refine G2 ?_;refine G2 ?_;refine WL.step (qF rfl rfl) rfl rfl rfl ?_;refine WL.step (kU rfl rfl) rfl rfl rfl (Go ?_);refine Gs [(2,_)] ?_;refine Gt ?_
 exact ⟨by unfold dh;congr 1;omega,rfl⟩
def Em (i:Nat):List (Bool × List UInt8):=[(false,dE i)]
theorem BT {h:aj} (i:Nat) (hi:i≤100000):ai Tryz.prog 293 ⟨[In i]⟩ h fun u h'=>∃ l,cN h' u l∧l.map bj.pl=Em i∧Ext No h h'∧∀ b,dG u l b→h.size≤b:=by
 have I6:=dA i (by omega)
 refine calls [(0,_)] Tryz.func293 rfl Tryz.ntmps293 rfl ⟨rfl,trivial⟩ ?_
 refine G2 ?_;refine G2 ?_;refine WL.call (vs:=[_]) rfl Tryz.call246 rfl (gY i (by omega) (by omega)) rfl rfl rfl ?_
 rintro _ h1 ⟨rfl,aB⟩
 refine WL.al (j5 Tryz.underlying9 Tryz.underlying23 Tryz.underlying5 rfl) rfl rfl rfl ?_
 rintro _ h2 ⟨b2,c2,rfl,gI,rX,aK⟩
 refine WL.step (aH (vs:=[_]) (cs:=[_,_]) (fun | [a1]=>[(.bool false),a1] | _=>[]) rfl rfl (by kernel_rfl)) rfl rfl rfl ?_
 refine WL.al (aw (vs:=[_]) (cs:=[_,_]) (fun | [.agg ⟨[a0,a1]⟩]=>[a0,a1] | _=>[]) Tryz.underlying40 rfl rfl (by kernel_rfl)) rfl rfl rfl ?_
 rintro _ h3 ⟨b3,rfl,gN,bC,aS⟩
 refine Go ?_;refine Gs [(2,_)] ?_;refine Gt ?_
 exact ⟨[⟨false,.slice (some ⟨b2,0,none⟩) (dE i).length c2,dE i⟩],⟨bG bC rfl,⟨by simp [reachBytes],_,_,rfl,by simp [maxLen]⟩,by simpa [bj.ok] using ⟨rX.av aS,by unfold reachBytes;omega⟩⟩,rfl,(aB.trans aK).trans aS,by rintro b (⟨_,e⟩ | ⟨c,hc,_,e⟩);simp [Value.ownBlock] at e;have:=aB.size;have:=aK.size;omega;simp at hc;subst hc;simp [Value.ownBlock] at e;have:=aB.size;omega⟩
structure Mk (h0 h:aj) (v:Value) (L:List Rw):Prop where
 own:Own h v 40 1 L.length (L.map Rw.v)
 rows:∀ r∈L,cN h r.v r.l
 ext:Ext No h0 h
 fresh:∀ k,v.ownBlock=some k→h0.size≤k
 apart:∀ r∈L,∀ b,dG r.v r.l b→v.ownBlock ≠ some b
theorem Mk.done {h0 h:aj} {v:Value} {L:List Rw} (m:Mk h0 h v L) (hl:L.length≤100000) (hc:∃ A c,v=.slice A L.length c∧c≤maxLen):kD h v L:=⟨m.own.rd,⟨by unfold reachBytes;omega,hc⟩,m.rows⟩
theorem Mk.next {h0 h h1 h3 h4:aj} {v v4 u:Value} {L:List Rw} {l:List bj} (m:Mk h0 h v L) (x1:Ext No h h1) (c1:cN h1 u l) (f1:∀ b,dG u l b→h.size≤b) (x3:Ext No h1 h3)
   (o4:Own h4 v4 40 1 (L.length+1) (L.map Rw.v++[u])) (x4:Ext (fun k=>v.ownBlock=some k) h3 h4) (hl:v4.ownBlock=v.ownBlock∨v4.ownBlock=some h3.size):Mk h0 h4 v4 (L++[⟨u,l⟩]):=by
 have s0:=m.ext.size
 have s1:=x1.size
 have s3:=x3.size
 have Qd:=x1.trans x3
 refine ⟨by simpa using o4,fun r hr=>?_,(m.ext.trans Qd).trans' x4 fun k hk e=>?_,cb hl m.fresh (by omega),fun r hr b hb e=>?_⟩
 · rcases List.mem_append.1 hr with hr | hr
   · exact ((m.rows r hr).av Qd).ext x4 fun b hb e=>m.apart r hr b hb e
   · simp at hr
     subst hr
     refine (c1.av x3).ext x4 fun b hb e=>?_
     have:=f1 b hb
     have:=m.own.lt e
     omega
 · have:=m.fresh k e;omega
 · rcases List.mem_append.1 hr with hr | hr
   · have h1:=m.apart r hr b hb
     have h2:=(m.rows r hr).lt hb
     rcases hl with hl | hl
     · exact h1 (hl▸e)
     · rw [hl] at e;simp at e;omega
   · simp at hr
     subst hr
     have h1:=f1 b hb
     have h2:=c1.lt hb
     rcases hl with hl | hl
     · rw [hl] at e
       have:=m.own.lt e
       omega
     · rw [hl] at e;simp at e;omega
theorem Mk.nil (h:aj):Mk h h (.slice none 0 0) []:=⟨Own.nil _ _ _,by simp,.refl _ _,by simp [Value.ownBlock],by simp⟩
def jW (n:Nat):List (List (Bool × List UInt8)):=(List.range n).map fun i=>Em (i+1)
theorem vD (n:Nat):jW (n+1)=jW n++[Em (n+1)]:=by unfold jW;rw [List.range_succ];simp
theorem ml (n:Nat):(jW n).length=n:=by simp [jW]
theorem yF {h:aj} (n:Int):ai Tryz.prog 292 ⟨[In n,.func (.func 293) #[] #[]]⟩ h fun u h'=>∃ L,kD h' u L∧L.map Rw.pl=jW (dh n)∧Ext No h h'∧∀ b,dU u L b→h.size≤b:=by
 have hh:=jC n
 refine calls [(0,_),(1,_)] Tryz.func292 rfl Tryz.ntmps292 rfl ⟨rfl,rfl,trivial⟩ ?_
 refine G2 ?_;refine G2 ?_;refine G3 ?_;refine WL.call (vs:=[_]) rfl Tryz.call311 rfl (pU n) rfl rfl rfl ?_
 rintro _ hz ⟨rfl,_⟩
 subst hz
 refine Go ?_;refine WC.block ?_;refine WC.bO (X:=Nat × Value × List Rw) (fun x=>([(5,x.2.1),(9,In (x.1:Int))]:Fr)) [(1,_),(8,_)] (fun x h'=>x.1≤dh n∧Mk h h' x.2.1 x.2.2∧x.2.2.map Rw.pl=jW x.1∧∀ r∈x.2.2,∀ b,dG r.v r.l b→h.size≤b) (fun x=>dh n - x.1) ((0,.slice none 0 0,[])) ⟨rfl,rfl,rfl,rfl,trivial⟩ (by exact ⟨Nat.zero_le _,Mk.nil h,rfl,by simp⟩) ?_
 rintro ⟨k,v1,L⟩ h1 ⟨hk,mk,hp,hf⟩
 simp only at hk mk hp hf
 have hL:L.length=k:=by simpa [ml] using congrArg List.length hp
 obtain ⟨A1,c1,rfl,_⟩:=mk.own.slice
 refine WC.sub [(5,_),(9,_),(1,_),(8,_)] ⟨rfl,rfl,rfl,rfl,trivial⟩ ?_
 dsimp only
 refine G2 ?_;refine WC.seq ?_
 refine aJ 1 2 (Hb.mk fun hb=>?_) (Hb.mk fun hb=>?_)
 aa try (
 refine ay 1 ?_
 refine WC.skip ?_
 skip)
 aa try (
 refine ay 2 ?_
 refine WC.exit ?_
 repeat' (ae first | refine aZ ?_ | refine aF rfl ?_ | refine aL ?_ | refine aN ?_ | refine aV ?_)
 refine Br.out (i:=1000) ?_
 skip)
 aa (refine Gn ?_;first | refine Br.ad ?_ | refine WC.seq ?_)
 aa (first | refine Br.ad ?_ | refine WC.block ?_)
 aa (first | refine Br.ad ?_ | refine WC.sr ?_)
 aa (refine Go ?_;first | refine Br.ad ?_ | refine WC.region ?_)
 aa (refine Go ?_)
 aa (
  first
    | (refine Br.ad ?_)
    | (have e1:((k:Int)+1)=((k+1:Nat):Int):=by omega
       rw [e1]))
 aa (
  first
    | (refine Br.ad ?_)
    | (refine WL.fT (vs:=[_]) rfl rfl Tryz.call293 rfl (BT (k+1) (by omega)) rfl rfl rfl ?_
       rintro u2 h2 ⟨l2,lI,Ka,aK,fg⟩))
 aa (first | refine Br.ad ?_ | (obtain ⟨A2,c2,rfl⟩:∃ A c,u2=.slice A l2.length c:=(by obtain ⟨_,⟨_,A,c,e,_⟩,_⟩:=lI;exact ⟨A,c,e⟩)))
 aa (
  first
    | (refine Br.ad ?_)
    | (refine WL.al (aw (vs:=[_]) (cs:=[_]) (fun | [a0]=>[a0] | _=>[]) Tryz.underlying271 rfl rfl (by kernel_rfl)) rfl rfl rfl ?_
       rintro _ h3 ⟨b3,rfl,gN,bC,aS⟩))
 aa (
  first
    | (refine Br.ad ?_)
    | (refine WL.al (aX (sz:=1) (bytes:=24) rfl Tryz.underlying271 (show Tryz.prog.info? 40=some Tryz.t40 by kernel_rfl) rfl rfl rfl rfl (by decide) rfl rfl (mk.own.ext (aK.trans aS) (fun _ _=>aQ)) (bG bC rfl) (by simp [Value.oneCell']) (by simp only [maxLen];omega) (by omega)) rfl rfl rfl ?_
       rintro v4 h4 ⟨gk,bh,sS⟩))
 aa (first | refine Br.ad ?_ | have R5:=mk.next aK lI fg aS gk bh sS)
 aa (refine Go ?_;first | refine Br.ad ?_ | refine Gs [(1,_),(5,_),(8,_),(9,_)] ?_)
 aa (first | refine Br.ad ?_ | refine WC.region ?_)
 aa (refine Go ?_;first | refine Br.ad ?_ | (exact ⟨(k+1,_,L++[_]),⟨rfl,rfl,rfl,rfl,trivial⟩,(by exact ⟨by simp;omega,R5,by rw [List.map_append,hp,vD];simp [Rw.pl,Ka],fun r hr b hb=>(List.mem_append.1 hr).elim (fun hr=>hf r hr b hb) (fun hr=>by simp at hr;subst hr;have:=fg b hb;have:=mk.ext.size;omega)⟩),(by simp;omega)⟩))
 try (refine Br.mk (i:=1000) ?_)
 refine Gn ?_;refine Gs [(5,_)] ?_;refine G2 ?_;refine Gt ?_
 exact ⟨L,mk.done (by omega) mk.own.cap,by rw [hp,show k=dh n by omega],mk.ext,fun b hb=>hb.elim (fun e=>mk.fresh b e.2) (fun ⟨r,hr,e⟩=>hf r hr b e)⟩
theorem lq {h:aj} {A:Option Addr} {c b:Nat} {D:List UInt8} {e:TypeId} {z:Nat × Nat} (hr:Rd h (.slice A D.length c) 1 D.length (bK D)) (hD:D.length≤1000) (hb:h[b]?=some (.cells ⟨[.bool false,.slice A D.length c]⟩ e z)) :
   cN h (.slice (some ⟨b,0,none⟩) 1 1) [⟨false,.slice A D.length c,D⟩] :=
 ⟨bG hb rfl,⟨by simp [reachBytes],_,_,rfl,by simp [maxLen]⟩,fun x hx=>by
   simp only [List.mem_singleton] at hx
   subst hx
   exact ⟨hr,by show D.length≤reachBytes;unfold reachBytes;omega⟩⟩
theorem yG {h:aj} (n:Int):ai Tryz.prog 259 ⟨[In n]⟩ h fun u h'=>∃ L,kD h' u L∧L.map Rw.pl=jW (dh n)∧Ext No h h'∧∀ b,dU u L b→h.size≤b:=by
 refine calls [(0,_)] Tryz.func259 rfl Tryz.ntmps259 rfl ⟨rfl,trivial⟩ ?_
 refine G2 ?_;refine G2 ?_;refine WL.call (vs:=[_,_]) rfl Tryz.call292 rfl (yF n) rfl rfl rfl ?_
 rintro u1 h1 h2
 refine Go ?_;refine Gt ?_
 exact h2
theorem BU {h:aj} (n:Int) (h0 : -9223372036854775808≤n) (h1:n≤9223372036854775807) :
   ai Tryz.prog 263 ⟨[In n]⟩ h fun u h'=>u=St ([83,69,76,69,67,84,32]++dE n)∧Ext No h h':=by
 have I6:=dA n (by omega)
 refine calls [(0,_)] Tryz.func263 rfl Tryz.ntmps263 rfl ⟨rfl,trivial⟩ ?_
 refine G2 ?_;refine G2 ?_;refine WL.call (vs:=[_]) rfl Tryz.call246 rfl (gY n h0 h1) rfl rfl rfl ?_
 rintro _ h2 ⟨rfl,aK⟩
 refine WL.step (dC rfl rfl (by first | (simp only [List.length_append,List.length_cons,List.length_nil];omega) | (simp;omega))) rfl rfl rfl (Go ?_);refine Gs [(2,_)] ?_;refine Gt ?_
 exact ⟨rfl,aK⟩
def yH (n:List UInt8):List Value:=[St n,In 0,In 0,In 25,In (-1),In (-1),In 0]
def gZ (n:Nat):List (List UInt8):=(List.range n).map fun i=>99 :: dE ((i+1:Nat):Int)
theorem vE (n:Nat):gZ (n+1)=gZ n++[99 :: dE ((n+1:Nat):Int)]:=by unfold gZ;rw [List.range_succ];simp
theorem pV (n:Nat):(gZ n).length=n:=by simp [gZ]
theorem tH {h:aj} (i:Nat) (hi:i≤100000):ai Tryz.prog 298 ⟨[In i]⟩ h fun u h'=>u=.agg ⟨yH (99 :: dE i)⟩∧Ext No h h':=by
 have I6:=dA i (by omega)
 refine calls [(0,_)] Tryz.func298 rfl Tryz.ntmps298 rfl ⟨rfl,trivial⟩ ?_
 refine WC.sr ?_;refine WL.al (au (fun w=>Tryz.zeroValue212 w)) rfl rfl rfl ?_
 rintro _ h1 ⟨b1,rfl,b0,aT,aB⟩
 refine Gn ?_;refine G2 ?_;refine WL.call (vs:=[_]) rfl Tryz.call246 rfl (gY i (by omega) (by omega)) rfl rfl rfl ?_
 rintro _ h2 ⟨rfl,aK⟩
 refine WL.step (dC rfl rfl (by first | (simp only [List.length_append,List.length_cons,List.length_nil];omega) | (simp;omega))) rfl rfl rfl ?_;refine WL.step (aH (vs:=[_,_,_,_]) (cs:=[_,_,_,_,_,_,_]) (fun | [a0,a3,a4,a5]=>[a0,(.int .i64 0),(.int .i64 0),a3,a4,a5,(.int .i64 0)] | _=>[]) rfl rfl (by kernel_rfl)) rfl rfl rfl ?_
 refine WL.az (aq Tryz.sizeOf212 rfl rfl rfl (aK.obj aT aQ) rfl (by simp [Value.oneCell'])) rfl rfl ?_
 rintro _ h3 ⟨bC,aS⟩
 refine Gn ?_;refine Gs [(2,_)] ?_;refine WC.ret ?_
 repeat' (ae first | refine bq ?_ | refine ba ?_)
 refine cA _ ⟨⟨_,rfl,bJ Tryz.isAgg212 Tryz.sizeOf212 (by assumption) rfl⟩,trivial⟩ ?_
 exact ⟨rfl,(aB.trans aK).trans' aS (fun k hk e=>by omega)⟩
theorem yI {h:aj} (n:Int):ai Tryz.prog 297 ⟨[In n,.func (.func 298) #[] #[]]⟩ h fun u h'=>Own h' u 212 7 (dh n) ((gZ (dh n)).flatMap yH)∧Ext No h h'∧∀ k,u.ownBlock=some k→h.size≤k:=by
 have hh:=jC n
 refine calls [(0,_),(1,_)] Tryz.func297 rfl Tryz.ntmps297 rfl ⟨rfl,rfl,trivial⟩ ?_
 refine G2 ?_;refine G2 ?_;refine G3 ?_;refine WL.call (vs:=[_]) rfl Tryz.call311 rfl (pU n) rfl rfl rfl ?_
 rintro _ hz ⟨rfl,_⟩
 subst hz
 refine Go ?_;refine WC.block ?_;refine WC.bO (X:=Nat × Value) (fun x=>([(5,x.2),(9,In (x.1:Int))]:Fr)) [(1,_),(8,_)] (fun x h'=>x.1≤dh n∧Own h' x.2 212 7 x.1 ((gZ x.1).flatMap yH)∧Ext No h h'∧∀ k,x.2.ownBlock=some k→h.size≤k) (fun x=>dh n - x.1) ((0,.slice none 0 0)) ⟨rfl,rfl,rfl,rfl,trivial⟩ (by exact ⟨Nat.zero_le _,Own.nil _ _ _,.refl _ _,by simp [Value.ownBlock]⟩) ?_
 rintro ⟨k,v1⟩ h1 ⟨hk,ho,hx,hf⟩
 simp only at hk ho hf
 obtain ⟨A1,c1,rfl,_⟩:=ho.slice
 refine WC.sub [(5,_),(9,_),(1,_),(8,_)] ⟨rfl,rfl,rfl,rfl,trivial⟩ ?_
 dsimp only
 refine G2 ?_;refine WC.seq ?_
 refine aJ 1 2 (Hb.mk fun hb=>?_) (Hb.mk fun hb=>?_)
 aa try (
 refine ay 1 ?_
 refine WC.skip ?_
 skip)
 aa try (
 refine ay 2 ?_
 refine WC.exit ?_
 repeat' (ae first | refine aZ ?_ | refine aF rfl ?_ | refine aL ?_ | refine aN ?_ | refine aV ?_)
 refine Br.out (i:=1000) ?_
 skip)
 aa (refine Gn ?_;first | refine Br.ad ?_ | refine WC.seq ?_)
 aa (first | refine Br.ad ?_ | refine WC.block ?_)
 aa (first | refine Br.ad ?_ | refine WC.sr ?_)
 aa (refine Go ?_;first | refine Br.ad ?_ | refine WC.region ?_)
 aa (refine Go ?_)
 aa (
  first
    | (refine Br.ad ?_)
    | (have e1:((k:Int)+1)=((k+1:Nat):Int):=by omega
       rw [e1]))
 aa (
  first
    | (refine Br.ad ?_)
    | (refine WL.fT (vs:=[_]) rfl rfl Tryz.call298 rfl (tH (k+1) (by omega)) rfl rfl rfl ?_
       rintro _ h2 ⟨rfl,aK⟩))
 aa (first | refine Br.ad ?_ | unfold yH)
 aa (
  first
    | (refine Br.ad ?_)
    | (refine WL.al (aw (vs:=[_]) (cs:=[_,_,_,_,_,_,_]) (fun | [.agg ⟨[a0,a1,a2,a3,a4,a5,a6]⟩]=>[a0,a1,a2,a3,a4,a5,a6] | _=>[]) Tryz.underlying137 rfl rfl (by kernel_rfl)) rfl rfl rfl ?_
       rintro _ h3 ⟨b3,rfl,gN,bC,aS⟩))
 aa (
  first
    | (refine Br.ad ?_)
    | (refine WL.al (aX (sz:=7) (bytes:=64) rfl Tryz.underlying137 (show Tryz.prog.info? 212=some Tryz.t212 by kernel_rfl) rfl rfl rfl rfl (by decide) rfl rfl (ho.ext (aK.trans aS) (fun _ _=>aQ)) (bG bC rfl) (by simp [Value.oneCell']) (by simp only [maxLen];omega) (by omega)) rfl rfl rfl ?_
       rintro v4 h4 ⟨gk,bh,sS⟩))
 aa (refine Go ?_;first | refine Br.ad ?_ | refine Gs [(1,_),(5,_),(8,_),(9,_)] ?_)
 aa (first | refine Br.ad ?_ | refine WC.region ?_)
 aa (refine Go ?_;first | refine Br.ad ?_ | (exact ⟨(k+1,_),⟨rfl,rfl,rfl,rfl,trivial⟩,(by exact ⟨by simp;omega,by rw [vE,List.flatMap_append,List.flatMap_singleton];exact gk,((hx.trans aK).trans aS).trans' bh (fun q hq e=>by have:=hf q e;omega),cb sS hf (by have:=hx.size;have:=aK.size;have:=aS.size;omega)⟩),(by simp;omega)⟩))
 try (refine Br.mk (i:=1000) ?_)
 refine Gn ?_;refine Gs [(5,_)] ?_;refine G2 ?_;refine Gt ?_
 exact ⟨by rw [show dh n=k by omega];exact ho,hx,hf⟩
theorem yJ {h:aj} (n:Int):ai Tryz.prog 266 ⟨[In n]⟩ h fun u h'=>Own h' u 212 7 (dh n) ((gZ (dh n)).flatMap yH)∧Ext No h h'∧∀ k,u.ownBlock=some k→h.size≤k:=by
 refine calls [(0,_)] Tryz.func266 rfl Tryz.ntmps266 rfl ⟨rfl,trivial⟩ ?_
 refine G2 ?_;refine G2 ?_;refine WL.call (vs:=[_,_]) rfl Tryz.call297 rfl (yI n) rfl rfl rfl ?_
 rintro u1 h1 h2
 refine Go ?_;refine Gt ?_
 exact h2
abbrev eT:=Bool × List UInt8
abbrev HO:=List UInt8 × List Int
abbrev HP:=List UInt8 × List Int × List eT × List (List eT) × Bool × Bool
abbrev KK:=Option (List UInt8 × List UInt8)
structure SP where
 st:Int
 sk:Bool
 ov:Bool
 aY:Int
 L:List (List UInt8 × HO)
 P:List (List UInt8 × HP)
structure gK where
 kind:Int
 what:Int
 name:List UInt8
 bm:List UInt8
 text:List UInt8
 aU:List Int
 params:List eT
 max:Int
structure jD where
 kind:Int
 status:Int:=0
 tag:List UInt8:=[]
 name:List UInt8:=[]
 value:List UInt8:=[]
 n:Int:=0
 m:Int:=0
 aU:List Int:=[]
 dt:List cI:=[]
 row:List eT:=[]
 fields:List bz:=[]
def Fm.p (f:Fm):gK:=⟨f.kind,f.what,f.name,f.bm,f.text,f.aU,f.params.map bj.pl,f.max⟩
def Bk.p (b:Bk):jD:=⟨b.kind,b.status,b.tag,b.name,b.value,b.n,b.m,b.aU,b.dt,b.row.map bj.pl,b.fields⟩
def rm (L:List (List UInt8 × gX)):List (List UInt8 × HO):=L.map fun q=>(q.1,q.2.text,q.2.aU)
def gi (P:List (List UInt8 × eI)):List (List UInt8 × HP):=P.map fun q=>(q.1,q.2.d.pl)
abbrev gn:=SP × List jD × KK
def jX (s:SP) (n:List UInt8):KK:=match bQ s.L n with
 | none=>some (([50,54,48,48,48]:List UInt8),om n)
 | some t=>gJ t.1 s.st
def hG (s:SP) (n:List UInt8):KK:=match bQ s.P n with
 | none=>some (([51,52,48,48,48]:List UInt8),iM ([112,111,114,116,97,108]:List UInt8) n ([100,111,101,115,32,110,111,116,32,101,120,105,115,116]:List UInt8))
 | some p=>gJ p.1 s.st
def eU (s:SP) (f:gK):gn :=
 let s1:SP:=if f.name=[] then { s with L:=ct s.L [] } else s
 match kq f.text s.st with
 | some e=>(s1,[],some e)
 | none=>if (bQ s1.L f.name).isSome=true then (s1,[],some (([52,50,80,48,53]:List UInt8),xe f.name)) else ({ s1 with L:=cz s1.L f.name (f.text,f.aU) },[{ kind:=49 }],none)
def fY (s:SP) (f:gK):gn:=match jX s f.name with
 | some e=>(s,[],some e)
 | none=>match bQ s.L f.name with
   | none=>(s,[],none)
   | some t=>if f.params.length ≠ t.2.length then (s,[],some (([48,56,80,48,49]:List UInt8),rl (f.params.length:Int) f.name (t.2.length:Int)))
     else if f.bm ≠ []∧(bQ s.P f.bm).isSome=true then (s,[],some (([52,50,80,48,51]:List UInt8),iM ([99,117,114,115,111,114]:List UInt8) f.bm ([97,108,114,101,97,100,121,32,101,120,105,115,116,115]:List UInt8)))
     else ({ s with P:=cz s.P f.bm (t.1,t.2,f.params,[],false,false) },[{ kind:=50 }],none)
def BV (nm:List UInt8):cI:=⟨nm,0,0,25,-1,-1,0⟩
def pW (n:Int):jD:={ kind:=84,dt:=(gZ (dh n)).map BV }
def jm (t:HO):jD:=if gE (bx t.1)=true then pW (ph (bx t.1) t.2.length) else { kind:=110 }
def cG (s:SP) (f:gK):gn:=if f.what=83 then (match jX s f.name with
   | some e=>(s,[],some e)
   | none=>match bQ s.L f.name with
     | none=>(s,[],none)
     | some t=>(s,[{ kind:=116,aU:=t.2 },jm t],none))
 else match hG s f.bm with
   | some e=>(s,[],some e)
   | none=>match bQ s.P f.bm with
     | none=>(s,[],none)
     | some p=>(s,[jm (p.1,p.2.1)],none)
def yK (n:Nat):List UInt8:=([83,69,76,69,67,84,32]:List UInt8)++dE (n:Int)
def db (l:List (List eT)) (more:Bool):List jD:=l.map (fun r=>({ kind:=68,row:=r }:jD))++[if more=true then { kind:=115 } else { kind:=67,tag:=yK l.length }]
def cO (s:SP) (v:gm):gn:=if v.k=1 then (s,[{ kind:=73 }],none) else if v.k=8 then (s,[],some (v.c,([102,97,105,108,101,100,32,111,110,32,112,117,114,112,111,115,101]:List UInt8)))
 else ({ s with st:=(fv s.st v).1,P:=if cF v=true then [] else s.P },[{ kind:=67,tag:=(fv s.st v).2 }],none)
def dq (v:gm) (ps:List eT) (aY:Int):List (List eT) × Int:=if v.k=5 then (jW (dh v.n),aY) else if v.k=6 then ([ps],aY) else if v.k=7 then ([[(false,dE (aY+1))]],aY+1) else ([],aY)
def dW (rs:List (List eT)) (ov:Bool) (most:Int):List (List eT) × List (List eT) × Bool :=
 if ov=true then ([],rs,true) else
   let n:=if 0 < most then min rs.length most.toNat else rs.length
   (rs.take n,rs.drop n,decide ((rs.drop n).length=0))
def cu (s:SP) (f:gK):gn:=match hG s f.bm with
 | some e=>(s,[],some e)
 | none=>match bQ s.P f.bm with
   | none=>(s,[],none)
   | some (t,o,ps,rs,dm,ov) =>
     if gE (bx t)=true then
       let rc:=if dm=true then (rs,s.aY) else dq (bx t) ps s.aY
       let q:=dW rc.1 ov f.max
       ({ s with aY:=rc.2,P:=cz s.P f.bm (t,o,ps,q.2.1,true,q.2.2) },db q.1 (!q.2.2),none)
     else if dm=true∧(bx t).k ≠ 1 then (s,[],some (([53,53,48,48,48]:List UInt8),([112,111,114,116,97,108,32,99,97,110,110,111,116,32,98,101,32,114,117,110]:List UInt8)))
     else match cO s (bx t) with
       | (s1,out,none)=>({ s1 with P:=if cF (bx t)=true∨dm=true then s1.P else cz s1.P f.bm (t,o,ps,[],true,ov) },out,none)
       | r=>r
def hH (s:SP) (f:gK):gn:=if f.what=83 then ({ s with L:=ct s.L f.name },[{ kind:=51 }],none) else ({ s with P:=ct s.P f.bm },[{ kind:=51 }],none)
def dL (s:SP) (f:gK):gn :=
 let s1:SP:={ s with L:=ct s.L [],P:=ct s.P [] }
 match kq f.text s.st with
 | some e=>(s1,[],some e)
 | none => if gE (bx f.text) = true then
     let rc:=dq (bx f.text) [] s.aY
     ({ s1 with aY:=rc.2 },pW (ph (bx f.text) 0) :: db rc.1 false,none)
   else cO s1 (bx f.text)
def eF (s:SP):SP × jD:=({ s with P:=if s.st=73 then [] else s.P },{ kind:=90,status:=s.st })
def eL (s:SP) (f:gK):gn :=
 if f.kind=80 then eU s f else if f.kind=66 then fY s f else if f.kind=68 then cG s f else if f.kind=69 then cu s f
 else if f.kind=67 then hH s f else if f.kind=81 then dL s f else (s,[],none)
def pj (c t:List UInt8):jD:={ kind:=69,fields:=kF ([69,82,82,79,82]:List UInt8) c t }
def iC (s:SP) (c t:List UInt8):SP × jD:=({ s with st:=fu s.st,P:=if fu s.st=69 then [] else s.P },pj c t)
def fZ (f:gK) (r:gn):SP × List jD :=
 let a:SP × List jD:=match r.2.2 with
   | some (c,t)=>((iC { r.1 with sk:=decide (f.kind ≠ 81) } c t).1,r.2.1++[(iC r.1 c t).2])
   | none=>(r.1,r.2.1)
 if f.kind=81 then ((eF a.1).1,a.2++[(eF a.1).2]) else a
def iV (s:SP) (f:gK):SP × List jD :=
 if s.ov=true then (s,[])
 else if f.kind=88 then ({ s with ov:=true },[])
 else if f.kind=83 then ((eF { s with sk:=false }).1,[(eF s).2])
 else if s.sk=true then (s,[])
 else fZ f (eL s f)
section
variable {κ α β:Type} [DecidableEq κ]
theorem oo (F:α→β) (E:List (κ × α)) (n:κ):bQ (E.map fun q=>(q.1,F q.2)) n=(bQ E n).map F:=by
 induction E with
 | nil=>rfl
 | cons a E ih=>rw [List.map_cons,fJ,fJ,ih];split <;> rfl
theorem tI (F:α→β) (E:List (κ × α)) (n:κ):ct (E.map fun q=>(q.1,F q.2)) n=(ct E n).map fun q=>(q.1,F q.2):=by
 unfold ct
 rw [List.filter_map]
 rfl
theorem tJ (F:α→β) (E:List (κ × α)) (n:κ) (v:α):cz (E.map fun q=>(q.1,F q.2)) n (F v)=(cz E n v).map fun q=>(q.1,F q.2):=by
 unfold cz
 rw [oo]
 rcases bQ E n with _ | w
 · simp
 · simp only [Option.map_some,Option.isSome_some,if_true,List.map_map]
   refine List.map_congr_left fun p _=>?_
   simp only [Function.comp]
   split <;> rfl
end
theorem lu (L:List (List UInt8 × gX)) (n:List UInt8):bQ (rm L) n=(bQ L n).map fun q=>(q.text,q.aU):=oo (fun q:gX=>(q.text,q.aU)) L n
theorem gF (P:List (List UInt8 × eI)) (n:List UInt8):bQ (gi P) n=(bQ P n).map fun q=>q.d.pl:=oo (fun q:eI=>q.d.pl) P n
theorem lv (L:List (List UInt8 × gX)) (n:List UInt8):rm (ct L n)=ct (rm L) n:=(tI (fun q:gX=>(q.text,q.aU)) L n).symm
theorem ny (P:List (List UInt8 × eI)) (n:List UInt8):gi (ct P n)=ct (gi P) n:=(tI (fun q:eI=>q.d.pl) P n).symm
theorem ly (L:List (List UInt8 × gX)) (n:List UInt8) (v:gX):rm (cz L n v)=cz (rm L) n (v.text,v.aU):=(tJ (fun q:gX=>(q.text,q.aU)) L n v).symm
theorem rn (P:List (List UInt8 × eI)) (n:List UInt8) (v:eI):gi (cz P n v)=cz (gi P) n v.d.pl:=(tJ (fun q:eI=>q.d.pl) P n v).symm
def Bk.F (b:Bk) (q:Nat):Prop:=(0 < b.aU.length∧b.vo.ownBlock=some q)∨(0 < b.dt.length∧b.vc.ownBlock=some q)∨dG b.vr b.row q∨(0 < b.fields.length∧b.vf.ownBlock=some q)
theorem Bk.ok.ext {h h':aj} {S:Nat→Prop} {b:Bk} (k:b.ok h) (a:Ext S h h') (hS:∀ q,b.F q→¬ S q):b.ok h':=by
 refine ⟨⟨k.aU.1.ext' a fun q h1 h2=>hS q (.inl ⟨?_,h2⟩),k.aU.2⟩,⟨k.dt.1.ext' a fun q h1 h2=>hS q (.inr (.inl ⟨?_,h2⟩)),k.dt.2⟩,k.row.ext a fun q hq=>hS q (.inr (.inr (.inl hq))),⟨k.fields.1.ext' a fun q h1 h2=>hS q (.inr (.inr (.inr ⟨?_,h2⟩))),k.fields.2⟩⟩
 · exact h1
 · exact h1
 · exact h1
theorem Bk.ok.lt {h:aj} {b:Bk} {q:Nat} (k:b.ok h) (hq:b.F q):q < h.size:=by
 rcases hq with ⟨h1,h2⟩ | ⟨h1,h2⟩ | hq | ⟨h1,h2⟩
 · exact k.aU.1.lt h1 h2
 · exact k.dt.1.lt h1 h2
 · exact k.row.lt hq
 · exact k.fields.1.lt h1 h2
theorem Bk.ok.one {h:aj} {b:Bk} (k:b.ok h):∀ v∈b.cells,v.oneCell'=true:=by
 obtain ⟨_,_,e1,_⟩:=k.aU.1
 obtain ⟨_,_,e2,_⟩:=k.dt.1
 obtain ⟨_,⟨_,_,_,e3,_⟩,_⟩:=k.row
 obtain ⟨_,_,e4,_⟩:=k.fields.1
 simp [Bk.cells,Value.oneCell',e1,e2,e3,e4]
structure cH (h0 h:aj) (v:Value) (B:List Bk):Prop where
 own:Own h v 140 11 B.length (B.flatMap Bk.cells)
 ok:∀ b∈B,b.ok h
 vf:∀ q,v.ownBlock=some q→h0.size≤q
 bf:∀ b∈B,∀ q,b.F q→h0.size≤q
 dj:∀ b∈B,∀ q,b.F q→v.ownBlock ≠ some q
theorem cH.nil (h0 h:aj):cH h0 h (.slice none 0 0) []:=⟨Own.nil _ _ _,(fun _ h=>nomatch h),by simp [Value.ownBlock],(fun _ h=>nomatch h),(fun _ h=>nomatch h)⟩
theorem cH.ext {h0 h h':aj} {S:Nat→Prop} {v:Value} {B:List Bk} (k:cH h0 h v B) (x:Ext S h h') (hS:∀ q,S q→q < h0.size):cH h0 h' v B :=
 ⟨k.own.ext x fun q hq e=>by have:=k.vf q hq;have:=hS q e;omega,fun b hb=>(k.ok b hb).ext x fun q hq e=>by have:=k.bf b hb q hq;have:=hS q e;omega,k.vf,k.bf,k.dj⟩
theorem cH.av {h0 h h':aj} {v:Value} {B:List Bk} (k:cH h0 h v B) (x:Ext No h h'):cH h0 h' v B:=k.ext x fun _ e=>e.elim
theorem cH.mono {h0 h1 h:aj} {v:Value} {B:List Bk} (k:cH h1 h v B) (e:h0.size≤h1.size):cH h0 h v B :=
 ⟨k.own,k.ok,fun q hq=>Nat.le_trans e (k.vf q hq),fun b hb q hq=>Nat.le_trans e (k.bf b hb q hq),k.dj⟩
theorem cH.snoc {h0 h h':aj} {v v':Value} {B:List Bk} {b:Bk} (k:cH h0 h v B) (ok:b.ok h) (fb:∀ z,b.F z→h0.size≤z) (hd:∀ z,b.F z→v.ownBlock ≠ some z) (hs:h0.size≤h.size)
   (ho:Own h' v' 140 11 (B.length+1) (B.flatMap Bk.cells++b.cells)) (hx:Ext (fun z=>v.ownBlock=some z) h h') (hl:v'.ownBlock=v.ownBlock∨v'.ownBlock=some h.size):cH h0 h' v' (B++[b]):=by
 have okB:∀ c∈B++[b],c.ok h∧(∀ z,c.F z→h0.size≤z)∧∀ z,c.F z→v.ownBlock ≠ some z:=fun c hc=>by
   rcases List.mem_append.1 hc with hc | hc
   · exact ⟨k.ok c hc,k.bf c hc,k.dj c hc⟩
   · obtain rfl:=List.mem_singleton.1 hc
     exact ⟨ok,fb,hd⟩
 refine ⟨by simpa using ho,fun c hc=>(okB c hc).1.ext hx fun z hz e=>(okB c hc).2.2 z hz e,fun q hq=>?_,fun c hc=>(okB c hc).2.1,fun c hc z hz e=>?_⟩
 · rcases hl with e | e
   · exact k.vf q (e▸hq)
   · rw [e] at hq
     simp only [Option.some.injEq] at hq
     omega
 · rcases hl with e2 | e2
   · exact (okB c hc).2.2 z hz (e2▸e)
   · rw [e2] at e
     simp only [Option.some.injEq] at e
     have:=(okB c hc).1.lt hz
     omega
def lJ (k st:Int) (tag:List UInt8):Bk:=⟨k,st,tag,[],[],0,0,nS,[],nS,[],nS,[],nS,[]⟩
theorem iD (h:aj) (k st:Int) (tag:List UInt8):(lJ k st tag).ok h:=⟨⟨Rd.nil _ _,by simp [lJ]⟩,⟨Rd.nil _ _,by simp [lJ]⟩,gU h _,⟨Rd.nil _ _,by simp [lJ]⟩⟩
theorem jn {k st:Int} {tag:List UInt8} {q:Nat}:¬ (lJ k st tag).F q:=fun e=>by
 rcases e with ⟨e,_⟩ | ⟨e,_⟩ | e | ⟨e,_⟩
 · exact absurd e (Nat.lt_irrefl 0)
 · exact absurd e (Nat.lt_irrefl 0)
 · exact (fK rfl e).elim
 · exact absurd e (Nat.lt_irrefl 0)
theorem cH.one {h0 h:aj} {q:Nat} {b:Bk} (hq:h[q]?=some (.cells ⟨b.cells⟩ 140 (0,0))) (ok:b.ok h) (hg:h0.size≤q) (hF:∀ z,b.F z→h0.size≤z∧z ≠ q):cH h0 h (.slice (some ⟨q,0,none⟩) 1 1) [b] :=
 ⟨by simpa using dR hq (len:=1) rfl (by simp [maxLen]),by simpa using ok,fun z hz=>by simp [Value.ownBlock] at hz;omega,by simpa using fun z hz=>(hF z hz).1,by simpa [Value.ownBlock] using fun z hz e=>(hF z hz).2 e.symm⟩
theorem cH.tag {h0 h:aj} {q:Nat} {k st:Int} {tag:List UInt8} (hq:h[q]?=some (.cells ⟨HL k st tag⟩ 140 (0,0))) (hg:h0.size≤q):cH h0 h (.slice (some ⟨q,0,none⟩) 1 1) [lJ k st tag] :=
 .one hq (iD _ _ _ _) hg fun _ e=>(jn e).elim
theorem cH.append {h0 h h':aj} {v w v':Value} {B C:List Bk} (k:cH h0 h v B) (j:cH h0 h w C) (hd:∀ c∈C,∀ z,c.F z→v.ownBlock ≠ some z) (hs:h0.size≤h.size)
   (ho:Own h' v' 140 11 (B.length+C.length) (B.flatMap Bk.cells++C.flatMap Bk.cells)) (hx:Ext (fun z=>v.ownBlock=some z) h h') (hl:v'.ownBlock=v.ownBlock∨v'.ownBlock=some h.size):cH h0 h' v' (B++C):=by
 have okB:∀ c∈B++C,c.ok h∧(∀ z,c.F z→h0.size≤z)∧∀ z,c.F z→v.ownBlock ≠ some z:=fun c hc=>by
   rcases List.mem_append.1 hc with hc | hc
   · exact ⟨k.ok c hc,k.bf c hc,k.dj c hc⟩
   · exact ⟨j.ok c hc,j.bf c hc,hd c hc⟩
 refine ⟨by simpa using ho,fun c hc=>(okB c hc).1.ext hx fun z hz e=>(okB c hc).2.2 z hz e,fun q hq=>?_,fun c hc=>(okB c hc).2.1,fun c hc z hz e=>?_⟩
 · rcases hl with e | e
   · exact k.vf q (e▸hq)
   · rw [e] at hq
     simp only [Option.some.injEq] at hq
     omega
 · rcases hl with e2 | e2
   · exact (okB c hc).2.2 z hz (e2▸e)
   · rw [e2] at e
     simp only [Option.some.injEq] at e
     have:=(okB c hc).1.lt hz
     omega
theorem cH.ext' {h0 h h':aj} {S:Nat→Prop} {v:Value} {B:List Bk} (k:cH h0 h v B) (x:Ext S h h') (h1:∀ q,v.ownBlock=some q→¬ S q) (h2:∀ b∈B,∀ q,b.F q→¬ S q):cH h0 h' v B :=
 ⟨k.own.ext x h1,fun b hb=>(k.ok b hb).ext x (h2 b hb),k.vf,k.bf,k.dj⟩
theorem Bk.R6 {b:Bk} (h1:b.aU=[]) (h2:b.dt=[]) (h3:b.row=[]) (h4:b.fields=[]) (q:Nat):¬ b.F q:=fun e=>by
 rcases e with ⟨e,_⟩ | ⟨e,_⟩ | e | ⟨e,_⟩
 · rw [h1] at e;exact absurd e (Nat.lt_irrefl 0)
 · rw [h2] at e;exact absurd e (Nat.lt_irrefl 0)
 · exact (fK h3 e).elim
 · rw [h4] at e;exact absurd e (Nat.lt_irrefl 0)
def Fm.F (f:Fm) (q:Nat):Prop:=(0 < f.aU.length∧f.vo.ownBlock=some q)∨dG f.vp f.params q
structure hJ (f:Fm):Prop where
 n:f.name.length≤100000
 p:f.bm.length≤100000
 t:f.text.length≤100000
 o:f.aU.length≤20000
 m:f.params.length≤100000
 x : -9223372036854775808≤f.max∧f.max≤9223372036854775807
def cy (st:Int) (sk ov:Bool) (aY:Int) (L:List (List UInt8 × gX)) (P:List (List UInt8 × eI)):SP:=⟨st,sk,ov,aY,rm L,gi P⟩
def Sv (g:aj) (A:Ad) (P0:List (List UInt8 × eI)) (h:aj) (s:SP):Prop:=∃ L P,Ss h A s.st s.sk s.ov s.aY L P∧rm L=s.L∧gi P=s.P∧Tn A P0 g h P
structure jJ (s:SP):Prop where
 l:∀ q∈s.L,q.2.1.length≤100000
 p:∀ q∈s.P,q.2.1.length≤100000∧q.2.2.1.length≤20000∧q.2.2.2.1.length≤100000∧q.2.2.2.2.1.length≤100000∧∀ r∈q.2.2.2.2.1,r.length≤100000
 c:s.aY < 1000000
def cx (h:aj) (A:Ad) (P:List (List UInt8 × eI)) (r:gn) (u:Value) (h':aj):Prop:=∃ v B,(r.2.2 ≠ none→v=nS)∧u=.tuple ⟨[v,gh r.2.2]⟩∧cH h h' v B∧B.map Bk.p=r.2.1∧Sv h A P h' r.1
def ft (h:aj) (A:Ad) (L:List (List UInt8 × gX)) (P:List (List UInt8 × eI)) (r:gn) (u:Value) (h':aj):Prop:=∃ v B,(r.2.2 ≠ none→v=nS)∧u=.tuple ⟨[v,gh r.2.2]⟩∧cH h h' v B∧B.map Bk.p=r.2.1∧∃ L' P',(∀ q∈L',q∈L)∧(∀ q∈P',q∈P)∧Ss h' A r.1.st r.1.sk r.1.ov r.1.aY L' P'∧rm L'=r.1.L∧gi P'=r.1.P∧Tn A P h h' P'
theorem ft.Qe {h h':aj} {A:Ad} {L:List (List UInt8 × gX)} {P:List (List UInt8 × eI)} {r:gn} {u:Value} (d:ft h A L P r u h'):cx h A P r u h':=by
 obtain ⟨v,B,c,e,O,p,L',P',_,_,k⟩:=d
 exact ⟨v,B,c,e,O,p,L',P',k⟩
section
variable {h h':aj} {A:Ad} {st:Int} {sk ov:Bool} {aY:Int} {L:List (List UInt8 × gX)} {P:List (List UInt8 × eI)}
theorem jJ.tl (lm:jJ (cy st sk ov aY L P)):∀ q∈L,q.2.text.length≤100000:=fun q hq=>lm.l _ (List.mem_map.2 ⟨q,hq,rfl⟩)
theorem jJ.tp (lm:jJ (cy st sk ov aY L P)):∀ q∈P,q.2.d.text.length≤100000∧q.2.d.aU.length≤20000∧(q.2.d.ps.map bj.pl).length≤100000∧(q.2.d.rs.map Rw.pl).length≤100000∧∀ r∈q.2.d.rs.map Rw.pl,r.length≤100000:=fun q hq=>lm.p _ (List.mem_map.2 ⟨q,hq,rfl⟩)
theorem mm (k:Ss h A st sk ov aY L P) (lm:jJ (cy st sk ov aY L P)) (n:List UInt8) (hn:n.length≤100000):ai Tryz.prog 208 ⟨[.pointer (some ⟨A.bs,0,none⟩),St n]⟩ h fun u h' =>
   (∃ q:gX,u=.tuple ⟨[uA q,gh (jX (cy st sk ov aY L P) n)]⟩∧(∃ B c,q.vo=.slice B q.aU.length c)∧(jX (cy st sk ov aY L P) n=none→bQ L n=some q))∧Ext No h h':=by
 have jI:=cW uA L n
 have yL:jX (cy st sk ov aY L P) n=match (bQ L n).map fun q=>(q.text,q.aU) with
   | none=>some (([50,54,48,48,48]:List UInt8),om n)
   | some t=>gJ t.1 st:=by rw [← lu];rfl
 rcases hg:bQ L n with _ | ⟨text,vo,aU⟩
 · rw [hg] at jI yL
   dsimp only [Option.map_none] at jI yL
   rw [yL]
   refine calls [(0,_),(1,_)] Tryz.func208 rfl Tryz.ntmps208 rfl ⟨rfl,rfl,trivial⟩ ?_
   refine WC.sr ?_;refine WL.al (au (fun w=>Tryz.zeroValue261 w)) rfl rfl rfl ?_
   rintro _ h1 ⟨b4,rfl,b0,bN,aB⟩
   refine Go ?_;refine WC.sr ?_
   have k1:=k.av aB
   have hb:=k1.se.bB
   have DV:=k1.se.ka
   have l4:=ak bN
   refine WL.step (an rfl) rfl rfl rfl ?_;refine WL.step (ah rfl) rfl rfl rfl (Go ?_);refine WL.ld rfl (by first | exact ab hb rfl | assumption) rfl rfl rfl (Go ?_)
   refine WL.step ((dD fR Tryz.underlying149 Tryz.underlying9 (fun w=>Tryz.zeroValue261 w) rfl rfl DV jI).1) rfl rfl rfl (Go ?_)
   refine WL.al (au (fun w=>Tryz.zeroValue261 w)) rfl rfl rfl ?_
   rintro _ h2 ⟨b6,rfl,gI,cj,aK⟩
   refine WL.az (aq Tryz.sizeOf261 rfl rfl rfl cj rfl (by simp [Value.oneCell'])) rfl rfl ?_
   rintro _ h3 ⟨HQ,aS⟩
   have X3:Ext No h1 h3:=aK.trans' aS (fun q hq e=>by omega)
   have tK:=X3.obj bN aQ
   refine Go ?_;refine Gs [(0,_),(1,_),(4,_),(6,_),(7,_)] ?_;refine G3 ?_
   refine aJ 1 2 ?_ TT.mk
   aa (refine ay 1 ?_)
   refine WC.sr ?_;refine WL.step (aH (vs:=[]) (cs:=[_,_]) (fun | []=>[(St []),(.slice none 0 0)] | _=>[]) rfl rfl (by kernel_rfl)) rfl rfl rfl (Go ?_)
   refine WL.call (vs:=[_]) rfl Tryz.call244 rfl (tG n hn) rfl rfl rfl ?_
   rintro _ h4 ⟨rfl,bh⟩
   refine WL.call (vs:=[_,_]) rfl Tryz.call204 rfl (iA _ _) rfl rfl rfl ?_
   rintro _ hq ⟨rfl,hz⟩
   replace hz:=hz.symm
   subst hz
   refine WL.az (aq Tryz.sizeOf261 rfl rfl rfl (bh.obj tK aQ) rfl (by simp [Value.oneCell'])) rfl rfl ?_
   rintro _ h5 ⟨cd,aO⟩
   refine Go ?_;refine Gs [(4,_),(5,_)] ?_;refine WC.ret ?_
   repeat' (ae first | refine bq ?_ | refine ba ?_)
   refine di _ _ ⟨⟨_,rfl,bJ Tryz.isAgg261 Tryz.sizeOf261 cd rfl⟩,rfl,trivial⟩ ?_
   exact ⟨⟨⟨[],.slice none 0 0,[]⟩,rfl,⟨_,_,rfl⟩,fun e=>by cases e⟩,((aB.trans X3).trans bh).trans' aO (fun q hq e=>by omega)⟩
 · have hm:=cm hg
   have nj:=lm.tl _ hm
   obtain ⟨B,c,gG,_⟩:=(k.jA _ hm).1
   dsimp only at nj gG
   subst gG
   rw [hg] at jI yL
   dsimp only [Option.map_some,uA] at jI yL
   rw [yL]
   unfold uA
   refine calls [(0,_),(1,_)] Tryz.func208 rfl Tryz.ntmps208 rfl ⟨rfl,rfl,trivial⟩ ?_
   refine WC.sr ?_;refine WL.al (au (fun w=>Tryz.zeroValue261 w)) rfl rfl rfl ?_
   rintro _ h1 ⟨b4,rfl,b0,bN,aB⟩
   refine Go ?_;refine WC.sr ?_
   have k1:=k.av aB
   have hb:=k1.se.bB
   have DV:=k1.se.ka
   have l4:=ak bN
   refine WL.step (an rfl) rfl rfl rfl ?_;refine WL.step (ah rfl) rfl rfl rfl (Go ?_);refine WL.ld rfl (by first | exact ab hb rfl | assumption) rfl rfl rfl (Go ?_)
   refine WL.step ((gR fR Tryz.underlying149 Tryz.underlying9 rfl rfl DV jI).1) rfl rfl rfl (Go ?_);refine WL.al (au (fun w=>Tryz.zeroValue261 w)) rfl rfl rfl ?_
   rintro _ h2 ⟨b6,rfl,gI,cj,aK⟩
   refine WL.az (aq Tryz.sizeOf261 rfl rfl rfl cj rfl (by simp [Value.oneCell'])) rfl rfl ?_
   rintro _ h3 ⟨HQ,aS⟩
   have X3:Ext No h1 h3:=aK.trans' aS (fun q hq e=>by omega)
   have k3:=k1.av X3
   have tK:=X3.obj bN aQ
   have KL:¬ b6=b4:=by omega
   refine Go ?_;refine Gs [(0,_),(1,_),(4,_),(6,_),(7,_)] ?_;refine G3 ?_
   refine aJ 1 2 ?_ TT.mk
   aa (refine ay 2 ?_)
   refine WC.skip ?_;refine Gn ?_;refine Gs [(0,_),(4,_),(6,_)] ?_;refine WC.seq ?_;refine WC.cg (fun h'=>Ext (fun q=>q=b4) h3 h') 6 6 rfl dB ?_
   refine WH.tk 0 rfl (fun hq hC=>aA Tryz.isAgg261 Tryz.sizeOf261 rfl rfl (by exact (At.ax HQ).ext hC KL)) rfl rfl rfl ?_
   refine WH.tk 1 rfl (fun hq hC=>an rfl) rfl rfl rfl ?_
   refine WH.tk 2 rfl (fun hq hC=>aA Tryz.isAgg261 Tryz.sizeOf261 rfl rfl (by exact (At.ax HQ).ext hC KL)) rfl rfl rfl ?_
   refine WH.one 3 (by kernel_rfl) ?_
   refine aE.call (vs:=[_,_]) rfl rfl Tryz.call245 rfl (pP k3 text (by omega) ⟨_,_,_,rfl⟩) rfl rfl rfl ?_ (fun _=>by kernel_rfl)
   rintro _ h4 ⟨rfl,bh⟩
   refine ⟨fun _=>bh.mono fun _ _ e=>e.elim,?_⟩
   have Qf:Ext (fun q=>q=b4) h3 h4:=bh.mono fun _ _ e=>e.elim
   refine WH.one 4 (by kernel_rfl) ?_
   refine aE.cY rfl (aq Tryz.sizeOf261 rfl rfl rfl (bh.obj tK aQ) rfl (by simp [Value.oneCell'])) rfl rfl ?_ (fun _=>by kernel_rfl)
   rintro _ h5 ⟨cd,aO⟩
   refine ⟨fun _=>Qf.trans aO,?_⟩
   have FU:=Qf.trans aO
   refine WH.tk 5 rfl (fun hq hC=>aR rfl) rfl rfl rfl ?_
   refine WH.done (by kernel_rfl) ?_
   refine Gn ?_;refine Gs [(4,_),(5,_)] ?_;refine WC.ret ?_
   repeat' (ae first | refine bq ?_ | refine ba ?_)
   refine di _ _ ⟨⟨_,rfl,bJ Tryz.isAgg261 Tryz.sizeOf261 cd rfl⟩,rfl,trivial⟩ ?_
   exact ⟨⟨⟨text,_,aU⟩,rfl,⟨_,_,rfl⟩,fun _=>rfl⟩,(aB.trans X3).trans' FU (fun q hq e=>by omega)⟩
theorem Ss.pe (k:Ss h A st sk ov aY L P) {n:List UInt8} {i:eI} (hi:bQ P n=some i):Pe h A.bp A.mp (fq xa P) i.p n i.d :=
 have hm:=cm hi
 ⟨k.se.pb,k.se.pm,by rw [cW,hi];rfl,(k.eJ _ hm).1,(k.eJ _ hm).2.1,fun q hq e=>(k.eJ _ hm).2.2 q hq (e▸.inr (.inr (.inr (.inr ⟨_,hm,rfl⟩))))⟩
theorem fh (k:Ss h A st sk ov aY L P) (lm:jJ (cy st sk ov aY L P)) (n:List UInt8) (hn:n.length≤100000):ai Tryz.prog 213 ⟨[.pointer (some ⟨A.bs,0,none⟩),St n]⟩ h fun u h' =>
   (∃ d:PD,u=.tuple ⟨[.agg ⟨d.cells⟩,gh (hG (cy st sk ov aY L P) n)]⟩∧d.ok h'∧(∀ q,d.F q→h.size≤q)∧(hG (cy st sk ov aY L P) n=none→∃ i,bQ P n=some i∧d.pl=i.d.pl))∧Ext No h h':=by
 have jI:=cW xa P n
 have yL:hG (cy st sk ov aY L P) n=match (bQ P n).map fun q=>q.d.pl with
   | none=>some (([51,52,48,48,48]:List UInt8),iM ([112,111,114,116,97,108]:List UInt8) n ([100,111,101,115,32,110,111,116,32,101,120,105,115,116]:List UInt8))
   | some t=>gJ t.1 st:=by rw [← gF];rfl
 rcases hg:bQ P n with _ | i
 · rw [hg] at jI yL
   dsimp only [Option.map_none] at jI yL
   rw [yL]
   have kg:=fun (g:aj) (k:Ss g A st sk ov aY L P)=>Hn n k.se.pb k.se.pm jI
   unfold Hj PD.cells at kg
   refine calls [(0,_),(1,_)] Tryz.func213 rfl Tryz.ntmps213 rfl ⟨rfl,rfl,trivial⟩ ?_
   refine WC.sr ?_;refine WL.al (au (fun w=>Tryz.zeroValue273 w)) rfl rfl rfl ?_
   rintro _ h1 ⟨b4,rfl,b0,bN,aB⟩
   refine Go ?_;refine WC.sr ?_
   have k1:=k.av aB
   have hb:=k1.se.bB
   have l4:=ak bN
   refine WL.step (an rfl) rfl rfl rfl ?_;refine WL.step (ah rfl) rfl rfl rfl (Go ?_);refine WL.ld rfl (by first | exact ab hb rfl | assumption) rfl rfl rfl (Go ?_)
   refine WL.call (vs:=[_,_]) rfl Tryz.call249 rfl (kg _ k1) rfl rfl rfl ?_
   rintro _ h2 ⟨rfl,aK⟩
   refine Go ?_;refine WL.al (au (fun w=>Tryz.zeroValue273 w)) rfl rfl rfl ?_
   rintro _ h3 ⟨b6,rfl,gN,cj,aS⟩
   refine WL.az (aq Tryz.sizeOf273 rfl rfl rfl cj rfl (by simp [Value.oneCell'])) rfl rfl ?_
   rintro _ h4 ⟨En,bh⟩
   have hY:Ext No h1 h4:=aK.trans (aS.trans' bh (fun q hq e=>by omega))
   have gL:=hY.obj bN aQ
   refine Go ?_;refine Gs [(0,_),(1,_),(4,_),(6,_),(7,_)] ?_;refine G3 ?_
   refine aJ 1 2 ?_ TT.mk
   aa (refine ay 1 ?_)
   refine WC.sr ?_;refine WL.step (aH (vs:=[]) (cs:=[_,_,_,_,_,_]) (fun | []=>[(St []),(.slice none 0 0),(.slice none 0 0),(.slice none 0 0),(.bool false),(.bool false)] | _=>[]) rfl rfl (by kernel_rfl)) rfl rfl rfl (Go ?_)
   refine WL.call (vs:=[_]) rfl Tryz.call250 rfl (vB n hn) rfl rfl rfl ?_
   rintro _ h5 ⟨rfl,aO⟩
   refine WL.call (vs:=[_,_]) rfl Tryz.call204 rfl (iA _ _) rfl rfl rfl ?_
   rintro _ hq ⟨rfl,hz⟩
   replace hz:=hz.symm
   subst hz
   refine WL.az (aq Tryz.sizeOf273 rfl rfl rfl (aO.obj gL aQ) rfl (by simp [Value.oneCell'])) rfl rfl ?_
   rintro _ h6 ⟨HR,aP⟩
   refine Go ?_;refine Gs [(4,_),(5,_)] ?_;refine WC.ret ?_
   repeat' (ae first | refine bq ?_ | refine ba ?_)
   refine di _ _ ⟨⟨_,rfl,bJ Tryz.isAgg273 Tryz.sizeOf273 HR rfl⟩,rfl,trivial⟩ ?_
   exact ⟨⟨Hj,rfl,Hk _,fun q hq=>by
    rcases hq with ⟨h0,_⟩ | hq | hq
    · exact absurd h0 (by decide)
    · exact (fK rfl hq).elim
    · exact (jl rfl hq).elim,fun e=>by cases e⟩,((aB.trans hY).trans aO).trans' aP (fun q hq e=>by omega)⟩
 · have gH:=k.pe hg
   have nj:=(lm.tp _ (cm hg)).1
   dsimp only at nj
   rw [hg] at yL
   dsimp only [Option.map_some] at yL
   rw [yL]
   have kg:=fun (g:aj) (k:Ss g A st sk ov aY L P)=>KG (k.pe hg)
   refine calls [(0,_),(1,_)] Tryz.func213 rfl Tryz.ntmps213 rfl ⟨rfl,rfl,trivial⟩ ?_
   refine WC.sr ?_;refine WL.al (au (fun w=>Tryz.zeroValue273 w)) rfl rfl rfl ?_
   rintro _ h1 ⟨b4,rfl,b0,bN,aB⟩
   refine Go ?_;refine WC.sr ?_
   have k1:=k.av aB
   have hb:=k1.se.bB
   have l4:=ak bN
   refine WL.step (an rfl) rfl rfl rfl ?_;refine WL.step (ah rfl) rfl rfl rfl (Go ?_);refine WL.ld rfl (by first | exact ab hb rfl | assumption) rfl rfl rfl (Go ?_)
   refine WL.call (vs:=[_,_]) rfl Tryz.call249 rfl (kg _ k1) rfl rfl rfl ?_
   rintro _ h2 ⟨⟨d2,rfl,jv,lj,fg⟩,aK⟩
   refine Go ?_;refine WL.al (au (fun w=>Tryz.zeroValue273 w)) rfl rfl rfl ?_
   rintro _ h3 ⟨b6,rfl,gN,cj,aS⟩
   refine WL.az (aq Tryz.sizeOf273 rfl rfl rfl cj rfl (fp jv)) rfl rfl ?_
   rintro _ h4 ⟨En,bh⟩
   have hY:Ext No h1 h4:=aK.trans (aS.trans' bh (fun q hq e=>by omega))
   have k4:=k1.av hY
   have lK:=jv.ext (aS.trans' (S:=No) bh (fun q hq e=>by omega)) (fun _ _=>aQ)
   have gL:=hY.obj bN aQ
   have KL:¬ b6=b4:=by have:=aK.size;omega
   have pX:d2.text=i.d.text:=congrArg (·.1) lj
   obtain ⟨text,vo,aU,vp,ps,vr,rs,dm,over⟩:=d2
   dsimp only at pX
   subst pX
   dsimp only [PD.cells] at En
   obtain ⟨A3,c3,gG,_⟩:=id lK.aU
   dsimp only at gG
   subst gG
   refine Go ?_;refine Gs [(0,_),(1,_),(4,_),(6,_),(7,_)] ?_;refine G3 ?_
   refine aJ 1 2 ?_ TT.mk
   aa (refine ay 2 ?_)
   refine WC.skip ?_;refine Gn ?_;refine Gs [(0,_),(4,_),(6,_)] ?_;refine WC.seq ?_;refine WC.cg (fun h'=>Ext (fun q=>q=b4) h4 h') 7 7 rfl dB ?_
   refine WH.tk 0 rfl (fun hq hC=>aA Tryz.isAgg273 Tryz.sizeOf273 rfl rfl (by exact (At.ax En).ext hC KL)) rfl rfl rfl ?_
   refine WH.tk 1 rfl (fun hq hC=>an rfl) rfl rfl rfl ?_
   refine WH.tk 2 rfl (fun hq hC=>ag rfl Tryz.underlying273 rfl Tryz.sizeOf261) rfl rfl rfl ?_
   refine WH.tk 3 rfl (fun hq hC=>aA Tryz.isAgg261 Tryz.sizeOf261 rfl rfl (by exact At.pre (xs:=[_,_]) (ys:=[_,_,_,_]) ((At.ax En).ext hC KL))) rfl rfl rfl ?_
   refine WH.one 4 (by kernel_rfl) ?_
   refine aE.call (vs:=[_,_]) rfl rfl Tryz.call245 rfl (pP k4 i.d.text (by omega) ⟨_,_,_,rfl⟩) rfl rfl rfl ?_ (fun _=>by kernel_rfl)
   rintro _ h5 ⟨rfl,aO⟩
   refine ⟨fun _=>aO.mono fun _ _ e=>e.elim,?_⟩
   have FU:Ext (fun q=>q=b4) h4 h5:=aO.mono fun _ _ e=>e.elim
   refine WH.one 5 (by kernel_rfl) ?_
   refine aE.cY rfl (aq Tryz.sizeOf273 rfl rfl rfl (aO.obj gL aQ) rfl (fp lK)) rfl rfl ?_ (fun _=>by kernel_rfl)
   rintro _ h6 ⟨HR,aP⟩
   refine ⟨fun _=>FU.trans aP,?_⟩
   have Ja:=FU.trans aP
   refine WH.tk 6 rfl (fun hq hC=>aR rfl) rfl rfl rfl ?_
   refine WH.done (by kernel_rfl) ?_
   refine Gn ?_;refine Gs [(4,_),(5,_)] ?_;refine WC.ret ?_
   repeat' (ae first | refine bq ?_ | refine ba ?_)
   refine di _ _ ⟨⟨_,rfl,bJ Tryz.isAgg273 Tryz.sizeOf273 HR rfl⟩,rfl,trivial⟩ ?_
   exact ⟨⟨⟨i.d.text,_,aU,vp,ps,vr,rs,dm,over⟩,rfl,(lK.ext aO (fun _ _=>aQ)).ext aP (fun q hq e=>by subst e;have:=fg _ hq;omega),fun q hq=>by have:=fg q hq;have:=aB.size;omega,fun _=>⟨i,rfl,lj⟩⟩,(aB.trans hY).trans' Ja (fun q hq e=>by omega)⟩
end
section
variable {h h':aj} {A:Ad} {st:Int} {sk ov:Bool} {aY:Int} {L:List (List UInt8 × gX)} {P:List (List UInt8 × eI)}
def oq (L:List (List UInt8 × gX)) (n:List UInt8):List (List UInt8 × gX):=if n=[] then ct L [] else L
theorem BW (f:gK):eU (cy st sk ov aY L P) f=match kq f.text st with
   | some e=>(cy st sk ov aY (oq L f.name) P,[],some e)
   | none=>match bQ (oq L f.name) f.name with
     | some _=>(cy st sk ov aY (oq L f.name) P,[],some (([52,50,80,48,53]:List UInt8),xe f.name))
     | none=>({ cy st sk ov aY (oq L f.name) P with L:=cz (rm (oq L f.name)) f.name (f.text,f.aU) },[{ kind:=49 }],none):=by
 have e1:(if f.name=[] then { cy st sk ov aY L P with L:=ct (cy st sk ov aY L P).L [] } else cy st sk ov aY L P)=cy st sk ov aY (oq L f.name) P:=by
   unfold oq
   split
   · simp only [cy,lv]
   · rfl
 unfold eU
 dsimp only
 rw [e1]
 have hg:=lu (oq L f.name) f.name
 rcases hr:kq f.text st with _ | e
 · simp only [cy,hr,hg]
   cases bQ (oq L f.name) f.name <;> simp
 · simp only [cy,hr]
theorem cx.err {r:gn} {a c:List UInt8} {s:SP} (hr:r=(s,[],some (a,c))) (k:Sv h A P h' s):cx h A P r (.tuple ⟨[.slice none 0 0,gh (some (a,c))]⟩) h':=by
 subst hr
 exact ⟨_,[],fun _=>rfl,rfl,cH.nil _ _,rfl,k⟩
theorem Sv.of {P0:List (List UInt8 × eI)} {g:aj} (k:Ss h A st sk ov aY L P) (t:Tn A P0 g h P):Sv g A P0 h (cy st sk ov aY L P):=⟨L,P,k,rfl,rfl,t⟩
theorem Eo (k:Ss h A st sk ov aY L P) (f:Fm) (hf:f.ok h) (hF:∀ q,f.F q→¬ Mu A P q) (fl:hJ f):ai Tryz.prog 146 ⟨[.pointer (some ⟨A.bs,0,none⟩),.agg ⟨f.cells⟩]⟩ h (cx h A P (eU (cy st sk ov aY L P) f.p)):=by
 have gH:=BW (st:=st) (sk:=sk) (ov:=ov) (aY:=aY) (L:=L) (P:=P) f.p
 obtain ⟨⟨e1,_⟩,⟨e2,_⟩,⟨e3,_⟩,e4,_⟩:=hf
 obtain ⟨pY,oW,yM,kF,_⟩:=fl
 obtain ⟨fk,w,n,p,t,vo,o,vf,fs,vs,rs,vp,ps,mx⟩:=f
 dsimp only [Fm.p] at e1 e2 e3 e4 gH pY oW yM kF
 have er:=e1
 obtain ⟨A1,c1,rfl,_⟩:=e1
 obtain ⟨_,_,rfl,_⟩:=e2
 obtain ⟨_,_,rfl,_⟩:=e3
 obtain ⟨_,_,rfl,_⟩:=e4
 dsimp only [Fm.cells,Fm.p]
 obtain ⟨L1,HS⟩:∃ L1,oq L n=L1:=⟨_,rfl⟩
 rw [HS] at gH
 obtain ⟨r,hr⟩:∃ r,kq t st=r:=⟨_,rfl⟩
 obtain ⟨g,hg⟩:∃ g,bQ L1 n=g:=⟨_,rfl⟩
 have jI:=cW uA L1 n
 rw [hg] at jI
 rw [hr,hg] at gH
 rcases (show (n=[]∧L1=ct L []∧g=none)∨(n ≠ []∧L1=L) by
   unfold oq at HS
   by_cases hn:n=[]
   · rw [if_pos hn] at HS
     exact .inl ⟨hn,HS.symm,by rw [← hg,← HS,hn,BK,if_pos rfl]⟩
   · rw [if_neg hn] at HS
     exact .inr ⟨hn,HS.symm⟩) with ⟨hn,hL,Na⟩ | ⟨hn,hL⟩
 · subst Na
   rcases r with _ | ⟨ra,rb⟩
   aa
     dsimp only [Option.map_none] at jI gH
     refine calls [(0,_),(1,_)] Tryz.func146 rfl Tryz.ntmps146 rfl ⟨rfl,rfl,trivial⟩ ?_
     aa (refine WC.sr ?_;refine WL.al (aI rfl) rfl rfl rfl ?_;rintro _ h1 ⟨b3,rfl,b0,aT,aB⟩;have k1:=k.av aB;have NQ:=k1.se.bB;have NR:=k1.se.ka;refine Go ?_;refine G3 ?_;refine WL.ld rfl (by first | exact ab aT rfl | assumption) rfl rfl rfl (Go ?_);refine Gs [(0,_),(3,_),(11,_)] ?_;refine aJ 1 2 ?_ TT.mk;refine ay 1 ?_;refine WC.region (Go ?_);refine WL.step (ah rfl) rfl rfl rfl (Go ?_);refine WL.ld rfl (by first | exact ab NQ rfl | assumption) rfl rfl rfl ?_;refine WL.az (fG rfl fR Tryz.underlying149 Tryz.underlying9 rfl rfl NR) rfl rfl ?_;rintro _ h2 ⟨pZ,aK⟩)
     aa (
      rw [eS,← hL] at pZ
      obtain ⟨k2,t2⟩:=k1.oh aK pZ (fun q hq=>.inl (cJ (hL▸hq)).1)
      have bR:=t2.1.obj aT (k1.not aT (by decide) (by decide) (by decide))
      have T2:=(Tn.no (A:=A) (P:=P) aB).trans t2)
     aa (refine Gn ?_;refine Gn ?_;refine G3 ?_;refine WL.ld rfl (by first | exact ab bR rfl | assumption) rfl rfl rfl ?_)
     aa (
      refine WL.call (vs:=[_,_]) rfl Tryz.call203 rfl (jB k2 t (by omega)) rfl rfl rfl ?_
      rintro _ h3 ⟨rfl,aS⟩
      rw [hr]
      dsimp only [gh]
      have k3:=k2.av aS
      have bC:=aS.obj bR aQ
      have Ep:=k3.se.bB
      have BX:=k3.se.ka
      have T3:=T2.trans (Tn.no (A:=A) (P:=P) aS))
     aa (refine Go ?_;refine Gs [(0,_),(3,_),(6,_)] ?_;refine G2 ?_;first | (refine WL.step (fX (by kernel_rfl) rfl rfl) rfl rfl rfl ?_) | (refine WL.step (cU (by kernel_rfl) rfl rfl) rfl rfl rfl ?_))
     aa (refine Gn ?_;refine aJ 3 4 ?_ TT.mk)
     aa try (
     refine ay 3 ?_
     aa (refine G2 ?_;refine Gs [(4,_),(5,_)] ?_;refine Gt ?_)
     aa (
      first
       | exact cx.err gH (.of k3 T3)
       | exact cx.err gH (.of (k5.av aP) (T5.trans (Tn.no (A:=A) (P:=P) aP)))
       | (rw [gH];exact ⟨_,[lJ 49 0 []],(fun e=>absurd rfl e),rfl,.tag Jk (by have:=T7.1.size;omega),rfl,_,_,k7.av bH,ly _ _ _,rfl,T7.trans (Tn.no (A:=A) (P:=P) bH)⟩))
     skip)
     aa (refine ay 4 ?_;refine WC.skip ?_;refine Gn ?_;refine WC.seq ?_;refine WC.seq ?_;refine WC.cg (fun h'=>Ext No h3 h') 13 13 rfl dB ?_;refine WH.tk 0 rfl (fun hq hC=>an rfl) rfl rfl rfl ?_;refine WH.tk 1 rfl (fun hq hC=>ah rfl) rfl rfl rfl ?_;refine WH.tk 2 rfl (fun hq hC=>ag rfl Tryz.underlying153 rfl Tryz.sizeOf149) rfl rfl rfl ?_;refine WH.tk 3 rfl (fun hq hC=>aC Tryz.isAgg149 rfl (by first | exact hC.cell (by first | exact ab Ep rfl | assumption) aQ)) rfl rfl rfl ?_;refine WH.tk 4 rfl (fun hq hC=>ag rfl Tryz.underlying42 rfl Tryz.sizeOf9) rfl rfl rfl ?_;refine WH.tk 5 rfl (fun hq hC=>aC Tryz.isAgg9 rfl (by first | exact hC.cell (by first | exact ab bC rfl | assumption) aQ)) rfl rfl rfl ?_;refine WH.tk 6 rfl (fun hq hC=>(dD fR Tryz.underlying149 Tryz.underlying9 (fun w=>Tryz.zeroValue261 w) rfl rfl (BX.ext hC aQ) jI).1) rfl rfl rfl ?_;refine WH.tk 7 rfl (fun hq hC=>an rfl) rfl rfl rfl ?_;refine WH.tk 8 rfl (fun hq hC=>bY rfl rfl) rfl rfl rfl ?_;refine WH.tk 9 rfl (fun hq hC=>bY rfl rfl) rfl rfl rfl ?_;refine WH.one 10 (by kernel_rfl) ?_;refine aE.run rfl (au (fun w=>Tryz.zeroValue261 w)) rfl rfl rfl ?_ (fun _=>by kernel_rfl);rintro _ h4 ⟨b7,rfl,pH,bN,bh⟩;refine ⟨fun _=>bh,?_⟩;refine WH.one 11 (by kernel_rfl) ?_;refine aE.cY rfl (aq Tryz.sizeOf261 rfl rfl rfl bN rfl (by first | (simp [Value.oneCell'];done) | (simp [Value.oneCell'];exact iE _ hg))) rfl rfl ?_ (fun _=>by kernel_rfl);rintro _ h5 ⟨cd,aO⟩;refine ⟨fun _=>bh.trans' aO (fun q hq e=>by omega),?_⟩;have X5:Ext No h3 h5:=bh.trans' aO (fun q hq e=>by omega);have k5:=k3.av X5;have HT:=k5.se.bB;have HU:=k5.se.ka;have iQ:=X5.obj bC aQ;have T5:=T3.trans (Tn.no (A:=A) (P:=P) X5);refine WH.tk 12 rfl (fun hq hC=>aR rfl) rfl rfl rfl ?_;refine WH.done (by kernel_rfl) ?_;refine Gn ?_;refine Gs [(0,_),(3,_),(8,_)] ?_;refine G2 ?_;refine aJ 5 6 ?_ TT.mk;refine ay 6 ?_;refine WC.skip ?_;refine Gn ?_;refine WC.seq ?_;refine WC.cg (fun h'=>Ext No h5 h') 12 13 rfl dB ?_;refine WH.tk 0 rfl (fun hq hC=>an rfl) rfl rfl rfl ?_;refine WH.tk 1 rfl (fun hq hC=>ah rfl) rfl rfl rfl ?_;refine WH.tk 2 rfl (fun hq hC=>ag rfl Tryz.underlying153 rfl Tryz.sizeOf149) rfl rfl rfl ?_;refine WH.tk 3 rfl (fun hq hC=>aC Tryz.isAgg149 rfl (by first | exact hC.cell (by first | exact ab HT rfl | assumption) aQ)) rfl rfl rfl ?_;refine WH.tk 4 rfl (fun hq hC=>ag rfl Tryz.underlying42 rfl Tryz.sizeOf9) rfl rfl rfl ?_;refine WH.tk 5 rfl (fun hq hC=>aC Tryz.isAgg9 rfl (by first | exact hC.cell (by first | exact ab iQ rfl | assumption) aQ)) rfl rfl rfl ?_)
     aa (refine WH.tk 6 rfl (fun hq hC=>ag rfl Tryz.underlying42 rfl Tryz.sizeOf9) rfl rfl rfl ?_;refine WH.tk 7 rfl (fun hq hC=>aC Tryz.isAgg9 rfl (by first | exact hC.cell (by first | exact ab iQ rfl | assumption) aQ)) rfl rfl rfl ?_;refine WH.tk 8 rfl (fun hq hC=>ag rfl Tryz.underlying42 rfl Tryz.sizeOf39) rfl rfl rfl ?_;refine WH.tk 9 rfl (fun hq hC=>aC Tryz.isAgg39 rfl (by first | exact hC.cell (by first | exact ab iQ rfl | assumption) aQ)) rfl rfl rfl ?_;refine WH.one 10 (by kernel_rfl) ?_;refine aE.call (vs:=[_]) rfl rfl Tryz.call206 rfl (iu o (er.ext' T5.1 (fun q h1 h2=>hF q (.inl ⟨h1,h2⟩))) (by unfold reachBytes;omega)) rfl rfl rfl ?_ (fun _=>by kernel_rfl);rintro v6 h6 ⟨gT,aP,jg⟩;obtain ⟨A6,c6,rfl,_⟩:=gT.slice;refine ⟨fun _=>aP,?_⟩;refine WH.tk 11 rfl (fun hq hC=>aH (vs:=[_,_]) (cs:=[_,_]) (fun | [a0,a1]=>[a0,a1] | _=>[]) rfl rfl (by kernel_rfl)) rfl rfl rfl ?_;refine WH.one 12 (by kernel_rfl) ?_;refine aE.cY rfl (ij fR Tryz.underlying149 Tryz.underlying9 rfl rfl rfl (HU.ext aP aQ)) rfl rfl ?_ (fun _=>by kernel_rfl);rintro _ h7 ⟨KM,bu⟩;refine ⟨fun e=>(by cases e),?_⟩)
     aa (
      rw [show (Value.agg ⟨[St t,.slice A6 o.length c6]⟩)=uA ⟨t,.slice A6 o.length c6,o⟩ from rfl,mf] at KM
      have k6:=k5.av aP
      obtain ⟨k7,t7⟩:=k6.oh bu KM (fun q hq=>(cD hq).elim (fun e=>.inr (by subst e;exact ⟨gT.rd,kF,fun z _ hz=>⟨k6.BL gT (by decide) (by decide) (by decide) z hz,fun e=>by have:=k5.zz.s z e;have:=jg z hz;omega⟩⟩)) (fun e=>.inl e.1))
      have T7:=(T5.trans (Tn.no (A:=A) (P:=P) aP)).trans t7)
     aa (refine WH.done (by kernel_rfl) ?_;refine Gn ?_;refine Gs [] ?_;refine WC.sr ?_;refine WL.call (vs:=[_]) rfl Tryz.call207 rfl (iz 49) rfl rfl rfl ?_;rintro _ h8 ⟨q,rfl,Jk,Jl,bH⟩;refine Go ?_;refine Gt ?_)
     aa (
      first
       | exact cx.err gH (.of k3 T3)
       | exact cx.err gH (.of (k5.av aP) (T5.trans (Tn.no (A:=A) (P:=P) aP)))
       | (rw [gH];exact ⟨_,[lJ 49 0 []],(fun e=>absurd rfl e),rfl,.tag Jk (by have:=T7.1.size;omega),rfl,_,_,k7.av bH,ly _ _ _,rfl,T7.trans (Tn.no (A:=A) (P:=P) bH)⟩))
 · rcases r with _ | ⟨ra,rb⟩
   · rcases g with _ | gq
     aa
       have iE:∀ q,bQ L1 n=some q→q.vo.oneCell'=true:=fun q hq=>by
         obtain ⟨_,_,e,_⟩:=(k.jA _ (cm (hL▸hq))).1
         rw [e];rfl
       dsimp only [Option.map_none,Option.map_some,uA] at jI gH
       refine calls [(0,_),(1,_)] Tryz.func146 rfl Tryz.ntmps146 rfl ⟨rfl,rfl,trivial⟩ ?_
       aa (refine WC.sr ?_;refine WL.al (aI rfl) rfl rfl rfl ?_;rintro _ h1 ⟨b3,rfl,b0,bR,aB⟩;have k2:Ss h1 A st sk ov aY L1 P:=hL▸k.av aB;have T2:=Tn.no (A:=A) (P:=P) aB;refine Go ?_;refine G3 ?_;refine WL.ld rfl (by first | exact ab bR rfl | assumption) rfl rfl rfl (Go ?_);refine Gs [(0,_),(3,_),(11,_)] ?_;refine aJ 1 2 ?_ TT.mk;refine ay 2 ?_;refine WC.skip ?_;refine Gn ?_;refine G3 ?_;refine WL.ld rfl (by first | exact ab bR rfl | assumption) rfl rfl rfl ?_)
       aa (
        refine WL.call (vs:=[_,_]) rfl Tryz.call203 rfl (jB k2 t (by omega)) rfl rfl rfl ?_
        rintro _ h3 ⟨rfl,aS⟩
        rw [hr]
        dsimp only [gh]
        have k3:=k2.av aS
        have bC:=aS.obj bR aQ
        have Ep:=k3.se.bB
        have BX:=k3.se.ka
        have T3:=T2.trans (Tn.no (A:=A) (P:=P) aS))
       aa (refine Go ?_;refine Gs [(0,_),(3,_),(6,_)] ?_;refine G2 ?_;refine WL.step (cU (by kernel_rfl) rfl rfl) rfl rfl rfl ?_;refine Gn ?_;refine aJ 3 4 ?_ TT.mk;refine ay 4 ?_;refine WC.skip ?_;refine Gn ?_;refine WC.seq ?_;refine WC.seq ?_;refine WC.cg (fun h'=>Ext No h3 h') 13 13 rfl dB ?_;refine WH.tk 0 rfl (fun hq hC=>an rfl) rfl rfl rfl ?_;refine WH.tk 1 rfl (fun hq hC=>ah rfl) rfl rfl rfl ?_;refine WH.tk 2 rfl (fun hq hC=>ag rfl Tryz.underlying153 rfl Tryz.sizeOf149) rfl rfl rfl ?_;refine WH.tk 3 rfl (fun hq hC=>aC Tryz.isAgg149 rfl (by first | exact hC.cell (by first | exact ab Ep rfl | assumption) aQ)) rfl rfl rfl ?_;refine WH.tk 4 rfl (fun hq hC=>ag rfl Tryz.underlying42 rfl Tryz.sizeOf9) rfl rfl rfl ?_;refine WH.tk 5 rfl (fun hq hC=>aC Tryz.isAgg9 rfl (by first | exact hC.cell (by first | exact ab bC rfl | assumption) aQ)) rfl rfl rfl ?_;first | (refine WH.tk 6 rfl (fun hq hC=>(gR fR Tryz.underlying149 Tryz.underlying9 rfl rfl (BX.ext hC aQ) jI).1) rfl rfl rfl ?_) | (refine WH.tk 6 rfl (fun hq hC=>(dD fR Tryz.underlying149 Tryz.underlying9 (fun w=>Tryz.zeroValue261 w) rfl rfl (BX.ext hC aQ) jI).1) rfl rfl rfl ?_))
       aa (refine WH.tk 7 rfl (fun hq hC=>an rfl) rfl rfl rfl ?_;refine WH.tk 8 rfl (fun hq hC=>bY rfl rfl) rfl rfl rfl ?_;refine WH.tk 9 rfl (fun hq hC=>bY rfl rfl) rfl rfl rfl ?_;refine WH.one 10 (by kernel_rfl) ?_;refine aE.run rfl (au (fun w=>Tryz.zeroValue261 w)) rfl rfl rfl ?_ (fun _=>by kernel_rfl);rintro _ h4 ⟨b7,rfl,pH,bN,bh⟩;refine ⟨fun _=>bh,?_⟩;refine WH.one 11 (by kernel_rfl) ?_;refine aE.cY rfl (aq Tryz.sizeOf261 rfl rfl rfl bN rfl (by first | (simp [Value.oneCell'];done) | (simp [Value.oneCell'];exact iE _ hg))) rfl rfl ?_ (fun _=>by kernel_rfl);rintro _ h5 ⟨cd,aO⟩;refine ⟨fun _=>bh.trans' aO (fun q hq e=>by omega),?_⟩;have X5:Ext No h3 h5:=bh.trans' aO (fun q hq e=>by omega);have k5:=k3.av X5;have HT:=k5.se.bB;have HU:=k5.se.ka;have iQ:=X5.obj bC aQ;have T5:=T3.trans (Tn.no (A:=A) (P:=P) X5);refine WH.tk 12 rfl (fun hq hC=>aR rfl) rfl rfl rfl ?_;refine WH.done (by kernel_rfl) ?_;refine Gn ?_;refine Gs [(0,_),(3,_),(8,_)] ?_;refine G2 ?_;refine aJ 5 6 ?_ TT.mk)
       aa try (
       refine ay 5 ?_
       aa (refine G2 ?_;refine WL.ld rfl (by first | exact ab iQ rfl | assumption) rfl rfl rfl ?_;refine WL.call (vs:=[_]) rfl Tryz.call205 rfl (vA n (by omega)) rfl rfl rfl ?_;rintro _ h6 ⟨rfl,aP⟩;refine WL.call (vs:=[_,_]) rfl Tryz.call204 rfl (iA _ _) rfl rfl rfl ?_;rintro _ hq ⟨rfl,hz⟩;replace hz:=hz.symm;subst hz;refine Go ?_;refine Gs [(4,_),(5,_)] ?_;refine Gt ?_)
       aa (
        first
         | exact cx.err gH (.of k3 T3)
         | exact cx.err gH (.of (k5.av aP) (T5.trans (Tn.no (A:=A) (P:=P) aP)))
         | (rw [gH];exact ⟨_,[lJ 49 0 []],(fun e=>absurd rfl e),rfl,.tag Jk (by have:=T7.1.size;omega),rfl,_,_,k7.av bH,ly _ _ _,rfl,T7.trans (Tn.no (A:=A) (P:=P) bH)⟩))
       skip)
       aa (refine ay 6 ?_;refine WC.skip ?_;refine Gn ?_;refine WC.seq ?_;refine WC.cg (fun h'=>Ext No h5 h') 12 13 rfl dB ?_;refine WH.tk 0 rfl (fun hq hC=>an rfl) rfl rfl rfl ?_;refine WH.tk 1 rfl (fun hq hC=>ah rfl) rfl rfl rfl ?_;refine WH.tk 2 rfl (fun hq hC=>ag rfl Tryz.underlying153 rfl Tryz.sizeOf149) rfl rfl rfl ?_;refine WH.tk 3 rfl (fun hq hC=>aC Tryz.isAgg149 rfl (by first | exact hC.cell (by first | exact ab HT rfl | assumption) aQ)) rfl rfl rfl ?_;refine WH.tk 4 rfl (fun hq hC=>ag rfl Tryz.underlying42 rfl Tryz.sizeOf9) rfl rfl rfl ?_;refine WH.tk 5 rfl (fun hq hC=>aC Tryz.isAgg9 rfl (by first | exact hC.cell (by first | exact ab iQ rfl | assumption) aQ)) rfl rfl rfl ?_;refine WH.tk 6 rfl (fun hq hC=>ag rfl Tryz.underlying42 rfl Tryz.sizeOf9) rfl rfl rfl ?_;refine WH.tk 7 rfl (fun hq hC=>aC Tryz.isAgg9 rfl (by first | exact hC.cell (by first | exact ab iQ rfl | assumption) aQ)) rfl rfl rfl ?_;refine WH.tk 8 rfl (fun hq hC=>ag rfl Tryz.underlying42 rfl Tryz.sizeOf39) rfl rfl rfl ?_;refine WH.tk 9 rfl (fun hq hC=>aC Tryz.isAgg39 rfl (by first | exact hC.cell (by first | exact ab iQ rfl | assumption) aQ)) rfl rfl rfl ?_;refine WH.one 10 (by kernel_rfl) ?_;refine aE.call (vs:=[_]) rfl rfl Tryz.call206 rfl (iu o (er.ext' T5.1 (fun q h1 h2=>hF q (.inl ⟨h1,h2⟩))) (by unfold reachBytes;omega)) rfl rfl rfl ?_ (fun _=>by kernel_rfl);rintro v6 h6 ⟨gT,aP,jg⟩;obtain ⟨A6,c6,rfl,_⟩:=gT.slice;refine ⟨fun _=>aP,?_⟩;refine WH.tk 11 rfl (fun hq hC=>aH (vs:=[_,_]) (cs:=[_,_]) (fun | [a0,a1]=>[a0,a1] | _=>[]) rfl rfl (by kernel_rfl)) rfl rfl rfl ?_;refine WH.one 12 (by kernel_rfl) ?_;refine aE.cY rfl (ij fR Tryz.underlying149 Tryz.underlying9 rfl rfl rfl (HU.ext aP aQ)) rfl rfl ?_ (fun _=>by kernel_rfl);rintro _ h7 ⟨KM,bu⟩;refine ⟨fun e=>(by cases e),?_⟩)
       aa (
        rw [show (Value.agg ⟨[St t,.slice A6 o.length c6]⟩)=uA ⟨t,.slice A6 o.length c6,o⟩ from rfl,mf] at KM
        have k6:=k5.av aP
        obtain ⟨k7,t7⟩:=k6.oh bu KM (fun q hq=>(cD hq).elim (fun e=>.inr (by subst e;exact ⟨gT.rd,kF,fun z _ hz=>⟨k6.BL gT (by decide) (by decide) (by decide) z hz,fun e=>by have:=k5.zz.s z e;have:=jg z hz;omega⟩⟩)) (fun e=>.inl e.1))
        have T7:=(T5.trans (Tn.no (A:=A) (P:=P) aP)).trans t7)
       aa (refine WH.done (by kernel_rfl) ?_;refine Gn ?_;refine Gs [] ?_;refine WC.sr ?_;refine WL.call (vs:=[_]) rfl Tryz.call207 rfl (iz 49) rfl rfl rfl ?_;rintro _ h8 ⟨q,rfl,Jk,Jl,bH⟩;refine Go ?_;refine Gt ?_)
       aa (
        first
         | exact cx.err gH (.of k3 T3)
         | exact cx.err gH (.of (k5.av aP) (T5.trans (Tn.no (A:=A) (P:=P) aP)))
         | (rw [gH];exact ⟨_,[lJ 49 0 []],(fun e=>absurd rfl e),rfl,.tag Jk (by have:=T7.1.size;omega),rfl,_,_,k7.av bH,ly _ _ _,rfl,T7.trans (Tn.no (A:=A) (P:=P) bH)⟩))
   · dsimp only at gH
     refine calls [(0,_),(1,_)] Tryz.func146 rfl Tryz.ntmps146 rfl ⟨rfl,rfl,trivial⟩ ?_
     refine WC.sr ?_;refine WL.al (aI rfl) rfl rfl rfl ?_
     rintro _ h1 ⟨b3,rfl,b0,bR,aB⟩
     have k2:Ss h1 A st sk ov aY L1 P:=hL▸k.av aB
     have T2:=Tn.no (A:=A) (P:=P) aB
     refine Go ?_;refine G3 ?_;refine WL.ld rfl (by first | exact ab bR rfl | assumption) rfl rfl rfl (Go ?_)
     refine Gs [(0,_),(3,_),(11,_)] ?_
     refine aJ 1 2 ?_ TT.mk
     aa (refine ay 2 ?_)
     refine WC.skip ?_;refine Gn ?_;refine G3 ?_;refine WL.ld rfl (by first | exact ab bR rfl | assumption) rfl rfl rfl ?_
     refine WL.call (vs:=[_,_]) rfl Tryz.call203 rfl (jB k2 t (by omega)) rfl rfl rfl ?_
     rintro _ h3 ⟨rfl,aS⟩
     rw [hr]
     dsimp only [gh]
     have k3:=k2.av aS
     have bC:=aS.obj bR aQ
     have Ep:=k3.se.bB
     have BX:=k3.se.ka
     have T3:=T2.trans (Tn.no (A:=A) (P:=P) aS)
     refine Go ?_;refine Gs [(0,_),(3,_),(6,_)] ?_;refine G2 ?_;refine WL.step (fX (by kernel_rfl) rfl rfl) rfl rfl rfl ?_
     refine Gn ?_
     refine aJ 3 4 ?_ TT.mk
     aa (refine ay 3 ?_)
     refine G2 ?_;refine Gs [(4,_),(5,_)] ?_;refine Gt ?_
     first
      | exact cx.err gH (.of k3 T3)
      | exact cx.err gH (.of (k5.av aP) (T5.trans (Tn.no (A:=A) (P:=P) aP)))
      | (rw [gH];exact ⟨_,[lJ 49 0 []],(fun e=>absurd rfl e),rfl,.tag Jk (by have:=T7.1.size;omega),rfl,_,_,k7.av bH,ly _ _ _,rfl,T7.trans (Tn.no (A:=A) (P:=P) bH)⟩)
end
section
variable {h h':aj} {A:Ad} {st:Int} {sk ov:Bool} {aY:Int} {L:List (List UInt8 × gX)} {P:List (List UInt8 × eI)}
theorem ot {n:List UInt8} (e:jX (cy st sk ov aY L P) n=none):∃ q,bQ L n=some q:=by
 have e':(match bQ (rm L) n with | none=>some (([50,54,48,48,48]:List UInt8),om n) | some t=>gJ t.1 st)=none:=e
 rw [lu] at e'
 rcases hg:bQ L n with _ | q
 · rw [hg] at e'
   cases e'
 · exact ⟨q,rfl⟩
theorem ou {n:List UInt8} (e:hG (cy st sk ov aY L P) n=none):∃ q,bQ P n=some q:=by
 have e':(match bQ (gi P) n with | none=>some (([51,52,48,48,48]:List UInt8),iM ([112,111,114,116,97,108]:List UInt8) n ([100,111,101,115,32,110,111,116,32,101,120,105,115,116]:List UInt8)) | some t=>gJ t.1 st)=none:=e
 rw [gF] at e'
 rcases hg:bQ P n with _ | q
 · rw [hg] at e'
   cases e'
 · exact ⟨q,rfl⟩
theorem HV (k:Ss h A st sk ov aY L P) (lm:jJ (cy st sk ov aY L P)) (f:Fm) (hf:f.ok h) (hF:∀ q,f.F q→¬ Mu A P q) (fl:hJ f):ai Tryz.prog 147 ⟨[.pointer (some ⟨A.bs,0,none⟩),.agg ⟨f.cells⟩]⟩ h (cx h A P (fY (cy st sk ov aY L P) f.p)):=by
 have dJ:=hf.4
 obtain ⟨⟨e1,_⟩,⟨e2,_⟩,⟨e3,_⟩,e4,_⟩:=hf
 obtain ⟨pY,oW,yM,kF,B7,_⟩:=fl
 obtain ⟨fk,w,n,p,t,vo,o,vf,fs,vs,rs,vp,ps,mx⟩:=f
 dsimp only at e1 e2 e3 e4 pY oW yM kF B7 dJ
 obtain ⟨A1,c1,rfl,_⟩:=e1
 obtain ⟨_,_,rfl,_⟩:=e2
 obtain ⟨_,_,rfl,_⟩:=e3
 obtain ⟨A4,c4,rfl,_⟩:=e4
 rcases he:jX (cy st sk ov aY L P) n with _ | ⟨ea,ec⟩
 · obtain ⟨q,hq⟩:=ot he
   have Dj:=k.jA _ (cm hq)
   have gH:fY (cy st sk ov aY L P) ⟨fk,w,n,p,t,o,ps.map bj.pl,mx⟩=if (ps.map bj.pl).length ≠ q.aU.length then (cy st sk ov aY L P,[],some (([48,56,80,48,49]:List UInt8),rl ((ps.map bj.pl).length:Int) n (q.aU.length:Int)))
     else if p ≠ []∧(bQ (gi P) p).isSome=true then (cy st sk ov aY L P,[],some (([52,50,80,48,51]:List UInt8),iM ([99,117,114,115,111,114]:List UInt8) p ([97,108,114,101,97,100,121,32,101,120,105,115,116,115]:List UInt8)))
     else ({ cy st sk ov aY L P with P:=cz (gi P) p (q.text,q.aU,ps.map bj.pl,[],false,false) },[{ kind:=50 }],none):=by
     have zD:bQ (cy st sk ov aY L P).L n=some (q.text,q.aU):=by show bQ (rm L) n=_;rw [lu,hq];rfl
     unfold fY
     dsimp only
     rw [he,zD]
     rfl
   rw [List.length_map,gF] at gH
   by_cases hlen:ps.length=q.aU.length
   · rw [if_neg (fun e=>e hlen)] at gH
     by_cases KN:p ≠ []∧(bQ P p).isSome=true
     · rw [if_pos (by simpa using KN)] at gH
       obtain ⟨i,hi⟩:=Option.isSome_iff_exists.1 KN.2
       have kp:=fun (g:aj) (k:Ss g A st sk ov aY L P) (d:PD)=>Hm p d k.se.pb k.se.pm (v:=xa i) (by rw [cW,hi];rfl) KN.1
       unfold PD.cells at kp
       dsimp only [Fm.cells,Fm.p]
       rw [gH]
       refine calls [(0,_),(1,_)] Tryz.func147 rfl Tryz.ntmps147 rfl ⟨rfl,rfl,trivial⟩ ?_
       refine WC.sr ?_;refine WL.al (aI rfl) rfl rfl rfl ?_
       rintro _ h1 ⟨b3,rfl,b0,aT,aB⟩
       refine Go ?_;refine G2 ?_;refine WL.ld rfl (by first | exact ab aT rfl | assumption) rfl rfl rfl ?_
       refine WL.call (vs:=[_,_]) rfl Tryz.call208 rfl (mm (k.av aB) lm n pY) rfl rfl rfl ?_
       rintro _ h2 ⟨⟨q',rfl,⟨B,c,gG⟩,iR⟩,aK⟩
       rw [he] at iR ⊢
       dsimp only [gh]
       obtain ⟨qt,qv,qo⟩:=q'
       dsimp only at gG
       subst gG
       unfold uA
       refine Go ?_;refine WL.al (au (fun w=>Tryz.zeroValue261 w)) rfl rfl rfl ?_
       rintro _ h3 ⟨b6,rfl,gN,bC,aS⟩
       refine WL.az (aq Tryz.sizeOf261 rfl rfl rfl bC rfl (by simp [Value.oneCell'])) rfl rfl ?_
       rintro _ h4 ⟨bN,bh⟩
       have hY:Ext No h1 h4:=aK.trans (aS.trans' bh (fun q hq e=>by omega))
       have X4:=aB.trans hY
       have bT:=hY.obj aT aQ
       have k4:=k.av X4
       have Jm:=k4.se.bB
       have FN:=Option.some.inj (hq.symm.trans (iR rfl))
       subst FN
       dsimp only at hlen
       refine Go ?_;refine Gs [(0,_),(3,_),(6,_),(7,_)] ?_;refine G3 ?_;refine WL.step (cU (by kernel_rfl) rfl rfl) rfl rfl rfl ?_
       refine Gn ?_
       refine aJ 1 2 ?_ TT.mk
       aa (refine ay 2 ?_)
       refine WC.skip ?_;refine Gn ?_;refine WC.seq ?_;refine WC.seq ?_;refine WC.gu dB (by kernel_rfl) ?_
       refine WQ.aM (ag rfl Tryz.underlying42 rfl Tryz.sizeOf40) rfl rfl rfl ?_;refine WQ.aM (aC Tryz.isAgg40 rfl (by first | exact ab bT rfl | assumption)) rfl rfl rfl ?_
       refine WQ.aM (cB rfl Tryz.underlying40 rfl) rfl rfl rfl ?_;refine WQ.aM (ag rfl Tryz.underlying261 rfl Tryz.sizeOf39) rfl rfl rfl ?_;refine WQ.aM (aC Tryz.isAgg39 rfl (by first | exact ab bN rfl | assumption)) rfl rfl rfl ?_
       refine WQ.aM (cB rfl Tryz.underlying39 rfl) rfl rfl rfl ?_;refine WQ.aM (aR rfl) rfl rfl rfl ?_;refine WQ.aM (aR rfl) rfl rfl rfl ?_;refine WQ.nil ?_;refine Gn ?_;refine Gs [(0,_),(3,_),(6,_),(8,_),(9,_)] ?_;refine G2 ?_
       refine aJ 3 4 ?_ TT.mk
       aa (refine ay 4 ?_)
       refine WC.skip ?_;refine Gn ?_;refine Gs [(0,_),(3,_),(6,_)] ?_;refine WC.seq ?_;refine WC.seq ?_;refine WC.jO 10 dB (by kernel_rfl) ?_
       show WS _ _ _ [_,_,_,_,_,_,_,_,_,_] _ _ _
       refine WS.step (an rfl) rfl rfl rfl ?_;refine WS.step (ah rfl) rfl rfl rfl ?_;refine WS.step (ag rfl Tryz.underlying153 rfl Tryz.sizeOf150) rfl rfl rfl ?_;refine WS.step (aC Tryz.isAgg150 rfl (by first | exact ab Jm rfl | assumption)) rfl rfl rfl ?_
       refine WS.step (ag rfl Tryz.underlying42 rfl Tryz.sizeOf9) rfl rfl rfl ?_;refine WS.step (aC Tryz.isAgg9 rfl (by first | exact ab bT rfl | assumption)) rfl rfl rfl ?_
       refine WS.step (aA Tryz.isAgg261 Tryz.sizeOf261 rfl rfl (by exact At.ax bN)) rfl rfl rfl ?_
       refine WS.step (ag rfl Tryz.underlying42 rfl Tryz.sizeOf40) rfl rfl rfl ?_;refine WS.step (aC Tryz.isAgg40 rfl (by first | exact ab bT rfl | assumption)) rfl rfl rfl ?_
       refine WS.step (aH (vs:=[_,_]) (cs:=[_,_,_,_,_,_]) (fun | [.agg ⟨[a0,a1]⟩,a2]=>[a0,a1,a2,(.slice none 0 0),(.bool false),(.bool false)] | _=>[]) rfl rfl (by kernel_rfl)) rfl rfl rfl ?_
       refine WS.nil ?_
       show WL _ _ _ [_,_] _ _ _
       refine WL.call (vs:=[_,_,_]) rfl Tryz.call210 rfl (kp _ k4 ⟨qt,.slice B qo.length c,qo,.slice A4 ps.length c4,ps,.slice none 0 0,[],false,false⟩) rfl rfl rfl ?_
       rintro _ h5 ⟨rfl,aO⟩
       refine WL.step (bW.kL (by omega) (jZ rfl rfl)) rfl rfl rfl ?_
       refine WL.nil ?_;refine Gn ?_;refine Gs [(3,_),(46,_)] ?_
       refine aJ 5 6 ?_ TT.mk
       aa (refine ay 5 ?_)
       refine G2 ?_;refine WL.ld rfl (by first | exact ab (aO.obj bT aQ) rfl | assumption) rfl rfl rfl ?_
       refine WL.call (vs:=[_]) rfl Tryz.call211 rfl (vC p oW) rfl rfl rfl ?_
       rintro _ h6 ⟨rfl,aP⟩
       refine WL.call (vs:=[_,_]) rfl Tryz.call204 rfl (iA _ _) rfl rfl rfl ?_
       rintro _ hq ⟨rfl,hz⟩
       replace hz:=hz.symm
       subst hz
       refine Go ?_;refine Gs [(4,_),(5,_)] ?_;refine Gt ?_
       exact cx.err rfl (.of ((k4.av aO).av aP) (Tn.no ((X4.trans aO).trans aP)))
     · rw [if_neg (by simpa using KN)] at gH
       have Hx:p=[]∨dg (fq xa P) p=none:=by
         by_cases Mr:p=[]
         · exact .inl Mr
         · refine .inr ?_
           rw [cW]
           rcases hg:bQ P p with _ | i
           · rfl
           · exact absurd ⟨Mr,by rw [hg];rfl⟩ KN
       have kp:=fun (g:aj) (k:Ss g A st sk ov aY L P) (d:PD) (ok:d.ok g)=>Ke p d k.se.pb k.se.pm ok Hx
       unfold PD.cells at kp
       dsimp only [Fm.cells,Fm.p]
       rw [gH]
       refine calls [(0,_),(1,_)] Tryz.func147 rfl Tryz.ntmps147 rfl ⟨rfl,rfl,trivial⟩ ?_
       refine WC.sr ?_;refine WL.al (aI rfl) rfl rfl rfl ?_
       rintro _ h1 ⟨b3,rfl,b0,aT,aB⟩
       refine Go ?_;refine G2 ?_;refine WL.ld rfl (by first | exact ab aT rfl | assumption) rfl rfl rfl ?_
       refine WL.call (vs:=[_,_]) rfl Tryz.call208 rfl (mm (k.av aB) lm n pY) rfl rfl rfl ?_
       rintro _ h2 ⟨⟨q',rfl,⟨B,c,gG⟩,iR⟩,aK⟩
       rw [he] at iR ⊢
       dsimp only [gh]
       obtain ⟨qt,qv,qo⟩:=q'
       dsimp only at gG
       subst gG
       unfold uA
       refine Go ?_;refine WL.al (au (fun w=>Tryz.zeroValue261 w)) rfl rfl rfl ?_
       rintro _ h3 ⟨b6,rfl,gN,bC,aS⟩
       refine WL.az (aq Tryz.sizeOf261 rfl rfl rfl bC rfl (by simp [Value.oneCell'])) rfl rfl ?_
       rintro _ h4 ⟨bN,bh⟩
       have hY:Ext No h1 h4:=aK.trans (aS.trans' bh (fun q hq e=>by omega))
       have X4:=aB.trans hY
       have bT:=hY.obj aT aQ
       have k4:=k.av X4
       have Jm:=k4.se.bB
       have FN:=Option.some.inj (hq.symm.trans (iR rfl))
       subst FN
       dsimp only at hlen Dj
       have uB:PD.ok h4 ⟨qt,.slice B qo.length c,qo,.slice A4 ps.length c4,ps,.slice none 0 0,[],false,false⟩:=⟨Dj.1.av X4,by show qo.length * 8≤reachBytes;unfold reachBytes;have:=Dj.2.1;omega,dJ.av X4,Rd.nil _ _,⟨by simp,_,_,rfl,by simp [maxLen]⟩,by simp⟩
       refine Go ?_;refine Gs [(0,_),(3,_),(6,_),(7,_)] ?_;refine G3 ?_;refine WL.step (cU (by kernel_rfl) rfl rfl) rfl rfl rfl ?_
       refine Gn ?_
       refine aJ 1 2 ?_ TT.mk
       aa (refine ay 2 ?_)
       refine WC.skip ?_;refine Gn ?_;refine WC.seq ?_;refine WC.seq ?_;refine WC.gu dB (by kernel_rfl) ?_
       refine WQ.aM (ag rfl Tryz.underlying42 rfl Tryz.sizeOf40) rfl rfl rfl ?_;refine WQ.aM (aC Tryz.isAgg40 rfl (by first | exact ab bT rfl | assumption)) rfl rfl rfl ?_
       refine WQ.aM (cB rfl Tryz.underlying40 rfl) rfl rfl rfl ?_;refine WQ.aM (ag rfl Tryz.underlying261 rfl Tryz.sizeOf39) rfl rfl rfl ?_;refine WQ.aM (aC Tryz.isAgg39 rfl (by first | exact ab bN rfl | assumption)) rfl rfl rfl ?_
       refine WQ.aM (cB rfl Tryz.underlying39 rfl) rfl rfl rfl ?_;refine WQ.aM (aR rfl) rfl rfl rfl ?_;refine WQ.aM (aR rfl) rfl rfl rfl ?_;refine WQ.nil ?_;refine Gn ?_;refine Gs [(0,_),(3,_),(6,_),(8,_),(9,_)] ?_;refine G2 ?_
       refine aJ 3 4 ?_ TT.mk
       aa (refine ay 4 ?_)
       refine WC.skip ?_;refine Gn ?_;refine Gs [(0,_),(3,_),(6,_)] ?_;refine WC.seq ?_;refine WC.seq ?_;refine WC.jO 10 dB (by kernel_rfl) ?_
       show WS _ _ _ [_,_,_,_,_,_,_,_,_,_] _ _ _
       refine WS.step (an rfl) rfl rfl rfl ?_;refine WS.step (ah rfl) rfl rfl rfl ?_;refine WS.step (ag rfl Tryz.underlying153 rfl Tryz.sizeOf150) rfl rfl rfl ?_;refine WS.step (aC Tryz.isAgg150 rfl (by first | exact ab Jm rfl | assumption)) rfl rfl rfl ?_
       refine WS.step (ag rfl Tryz.underlying42 rfl Tryz.sizeOf9) rfl rfl rfl ?_;refine WS.step (aC Tryz.isAgg9 rfl (by first | exact ab bT rfl | assumption)) rfl rfl rfl ?_
       refine WS.step (aA Tryz.isAgg261 Tryz.sizeOf261 rfl rfl (by exact At.ax bN)) rfl rfl rfl ?_
       refine WS.step (ag rfl Tryz.underlying42 rfl Tryz.sizeOf40) rfl rfl rfl ?_;refine WS.step (aC Tryz.isAgg40 rfl (by first | exact ab bT rfl | assumption)) rfl rfl rfl ?_
       refine WS.step (aH (vs:=[_,_]) (cs:=[_,_,_,_,_,_]) (fun | [.agg ⟨[a0,a1]⟩,a2]=>[a0,a1,a2,(.slice none 0 0),(.bool false),(.bool false)] | _=>[]) rfl rfl (by kernel_rfl)) rfl rfl rfl ?_
       refine WS.nil ?_
       show WL _ _ _ [_,_] _ _ _
       refine WL.call (vs:=[_,_,_]) rfl Tryz.call210 rfl (kp _ k4 _ uB) rfl rfl rfl ?_
       rintro _ h5 ⟨rfl,p5,d5,Qg,cd,R7,R8,r6,gj,aO⟩
       rw [show (Value.pointer (some ⟨p5,0,none⟩))=xa ⟨p5,d5⟩ from rfl,mf] at Qg
       obtain ⟨k5,t5⟩:=k4.mi aO Qg cd R7 r6 gj
       have T5:=(Tn.no (A:=A) (P:=P) X4).trans t5
       refine WL.step (bW.kM (by omega) (jZ rfl rfl)) rfl rfl rfl ?_
       refine WL.nil ?_;refine Gn ?_;refine Gs [(3,_),(46,_)] ?_
       refine aJ 5 6 ?_ TT.mk
       aa (refine ay 6 ?_)
       refine WC.skip ?_;refine Gn ?_;refine WC.sr ?_;refine WL.call (vs:=[_]) rfl Tryz.call207 rfl (iz 50) rfl rfl rfl ?_
       rintro _ h6 ⟨q6,rfl,Es,Jl,aP⟩
       refine Go ?_;refine Gt ?_
       exact ⟨_,[lJ 50 0 []],(fun e=>absurd rfl e),rfl,.tag Es (by have:=T5.1.size;omega),rfl,_,_,k5.av aP,rfl,(rn _ _ _).trans (by rw [show (eI.mk p5 d5).d.pl=d5.pl from rfl,R8];rfl),T5.trans (Tn.no (A:=A) aP)⟩
   · rw [if_pos hlen] at gH
     dsimp only [Fm.cells,Fm.p]
     rw [gH]
     refine calls [(0,_),(1,_)] Tryz.func147 rfl Tryz.ntmps147 rfl ⟨rfl,rfl,trivial⟩ ?_
     refine WC.sr ?_;refine WL.al (aI rfl) rfl rfl rfl ?_
     rintro _ h1 ⟨b3,rfl,b0,aT,aB⟩
     refine Go ?_;refine G2 ?_;refine WL.ld rfl (by first | exact ab aT rfl | assumption) rfl rfl rfl ?_
     refine WL.call (vs:=[_,_]) rfl Tryz.call208 rfl (mm (k.av aB) lm n pY) rfl rfl rfl ?_
     rintro _ h2 ⟨⟨q',rfl,⟨B,c,gG⟩,iR⟩,aK⟩
     rw [he] at iR ⊢
     dsimp only [gh]
     obtain ⟨qt,qv,qo⟩:=q'
     dsimp only at gG
     subst gG
     unfold uA
     refine Go ?_;refine WL.al (au (fun w=>Tryz.zeroValue261 w)) rfl rfl rfl ?_
     rintro _ h3 ⟨b6,rfl,gN,bC,aS⟩
     refine WL.az (aq Tryz.sizeOf261 rfl rfl rfl bC rfl (by simp [Value.oneCell'])) rfl rfl ?_
     rintro _ h4 ⟨bN,bh⟩
     have hY:Ext No h1 h4:=aK.trans (aS.trans' bh (fun q hq e=>by omega))
     have X4:=aB.trans hY
     have bT:=hY.obj aT aQ
     have k4:=k.av X4
     have Jm:=k4.se.bB
     have FN:=Option.some.inj (hq.symm.trans (iR rfl))
     subst FN
     dsimp only at hlen Dj
     have NS:=Dj.2.1
     refine Go ?_;refine Gs [(0,_),(3,_),(6,_),(7,_)] ?_;refine G3 ?_;refine WL.step (cU (by kernel_rfl) rfl rfl) rfl rfl rfl ?_
     refine Gn ?_
     refine aJ 1 2 ?_ TT.mk
     aa (refine ay 2 ?_)
     refine WC.skip ?_;refine Gn ?_;refine WC.seq ?_;refine WC.seq ?_;refine WC.gu dB (by kernel_rfl) ?_
     refine WQ.aM (ag rfl Tryz.underlying42 rfl Tryz.sizeOf40) rfl rfl rfl ?_;refine WQ.aM (aC Tryz.isAgg40 rfl (by first | exact ab bT rfl | assumption)) rfl rfl rfl ?_
     refine WQ.aM (cB rfl Tryz.underlying40 rfl) rfl rfl rfl ?_;refine WQ.aM (ag rfl Tryz.underlying261 rfl Tryz.sizeOf39) rfl rfl rfl ?_;refine WQ.aM (aC Tryz.isAgg39 rfl (by first | exact ab bN rfl | assumption)) rfl rfl rfl ?_
     refine WQ.aM (cB rfl Tryz.underlying39 rfl) rfl rfl rfl ?_;refine WQ.aM (aR rfl) rfl rfl rfl ?_;refine WQ.aM (aR rfl) rfl rfl rfl ?_;refine WQ.nil ?_;refine Gn ?_;refine Gs [(0,_),(3,_),(6,_),(8,_),(9,_)] ?_;refine G2 ?_
     refine aJ 3 4 ?_ TT.mk
     aa (refine ay 3 ?_)
     refine G2 ?_;refine WL.ld rfl (by first | exact ab bT rfl | assumption) rfl rfl rfl (Go ?_)
     refine WL.call (vs:=[_,_,_]) rfl Tryz.call209 rfl (yE (ps.length:Int) n (qo.length:Int) pY (by omega) (by omega)) rfl rfl rfl ?_
     rintro _ h6 ⟨rfl,aP⟩
     refine WL.call (vs:=[_,_]) rfl Tryz.call204 rfl (iA _ _) rfl rfl rfl ?_
     rintro _ hq ⟨rfl,hz⟩
     replace hz:=hz.symm
     subst hz
     refine Go ?_;refine Gs [(4,_),(5,_)] ?_;refine Gt ?_
     exact cx.err rfl (.of (k4.av aP) (Tn.no (X4.trans aP)))
 · have gH : fY (cy st sk ov aY L P) ⟨fk, w, n, p, t, o, ps.map bj.pl, mx⟩ = (cy st sk ov aY L P, [], some (ea, ec)) := by
     unfold fY
     dsimp only
     rw [he]
   dsimp only [Fm.cells,Fm.p]
   rw [gH]
   refine calls [(0,_),(1,_)] Tryz.func147 rfl Tryz.ntmps147 rfl ⟨rfl,rfl,trivial⟩ ?_
   refine WC.sr ?_;refine WL.al (aI rfl) rfl rfl rfl ?_
   rintro _ h1 ⟨b3,rfl,b0,aT,aB⟩
   refine Go ?_;refine G2 ?_;refine WL.ld rfl (by first | exact ab aT rfl | assumption) rfl rfl rfl ?_
   refine WL.call (vs:=[_,_]) rfl Tryz.call208 rfl (mm (k.av aB) lm n pY) rfl rfl rfl ?_
   rintro _ h2 ⟨⟨q',rfl,⟨B,c,gG⟩,iR⟩,aK⟩
   rw [he] at iR ⊢
   dsimp only [gh]
   obtain ⟨qt,qv,qo⟩:=q'
   dsimp only at gG
   subst gG
   unfold uA
   refine Go ?_;refine WL.al (au (fun w=>Tryz.zeroValue261 w)) rfl rfl rfl ?_
   rintro _ h3 ⟨b6,rfl,gN,bC,aS⟩
   refine WL.az (aq Tryz.sizeOf261 rfl rfl rfl bC rfl (by simp [Value.oneCell'])) rfl rfl ?_
   rintro _ h4 ⟨bN,bh⟩
   have hY:Ext No h1 h4:=aK.trans (aS.trans' bh (fun q hq e=>by omega))
   have X4:=aB.trans hY
   have k4:=k.av X4
   refine Go ?_;refine Gs [(0,_),(3,_),(6,_),(7,_)] ?_;refine G3 ?_;refine WL.step (fX (by kernel_rfl) rfl rfl) rfl rfl rfl ?_
   refine Gn ?_
   refine aJ 1 2 ?_ TT.mk
   aa (refine ay 1 ?_)
   refine G2 ?_;refine Gs [(4,_),(5,_)] ?_;refine Gt ?_
   exact cx.err rfl (.of k4 (Tn.no X4))
end
theorem vF (l:List (List UInt8)):l.flatMap yH=(l.map BV).flatMap cI.cells:=by
 rw [List.flatMap_map]
 rfl
theorem xg {h:aj} (n:Int):ai Tryz.prog 222 ⟨[In n]⟩ h fun u h'=>∃ b:Bk,u=.agg ⟨b.cells⟩∧b.ok h'∧b.p=pW n∧(∀ q,b.F q→h.size≤q)∧Ext No h h':=by
 refine calls [(0,_)] Tryz.func222 rfl Tryz.ntmps222 rfl ⟨rfl,trivial⟩ ?_
 refine WC.sr ?_;refine WL.al (au (fun w=>Tryz.zeroValue140 w)) rfl rfl rfl ?_
 rintro _ h1 ⟨b1,rfl,b0,aT,aB⟩
 refine Gn ?_;refine G2 ?_;refine WL.call (vs:=[_]) rfl Tryz.call266 rfl (yJ n) rfl rfl rfl ?_
 rintro v2 h2 ⟨dv,aK,fg⟩
 obtain ⟨A2,c2,rfl,_⟩:=dv.slice
 refine WL.step (aH (vs:=[_,_]) (cs:=[_,_,_,_,_,_,_,_,_,_,_]) (fun | [a0,a8]=>[a0,(.int .u8 0),(St []),(St []),(St []),(.int .i64 0),(.int .i64 0),(.slice none 0 0),a8,(.slice none 0 0),(.slice none 0 0)] | _=>[]) rfl rfl (by kernel_rfl)) rfl rfl rfl ?_
 refine WL.az (aq Tryz.sizeOf140 rfl rfl rfl (aK.obj aT aQ) rfl (by simp [Value.oneCell'])) rfl rfl ?_
 rintro _ h3 ⟨bC,aS⟩
 refine Gn ?_;refine Gs [(2,_)] ?_;refine WC.ret ?_
 repeat' (ae first | refine bq ?_ | refine ba ?_)
 refine cA _ ⟨⟨_,rfl,bJ Tryz.isAgg140 Tryz.sizeOf140 bC rfl⟩,trivial⟩ ?_
 have hn:=jC n
 have hl:((gZ (dh n)).map BV).length=dh n:=by rw [List.length_map,pV]
 have ee:=dv.ext aS (fun q hq e=>by have:=fg q hq;have:=ak aT;omega)
 rw [vF] at ee
 refine ⟨⟨84,0,[],[],[],0,0,nS,[],.slice A2 (dh n) c2,(gZ (dh n)).map BV,nS,[],nS,[]⟩,rfl,⟨⟨Rd.nil _ _,by simp⟩,⟨by rw [hl];exact ee.rd,by rw [hl];unfold maxLen;omega⟩,gU _ _,⟨Rd.nil _ _,by simp⟩⟩,rfl,fun q hq=>?_,(aB.trans aK).trans' aS (fun q hq e=>by omega)⟩
 rcases hq with ⟨e,_⟩ | ⟨_,e⟩ | e | ⟨e,_⟩
 · exact absurd e (Nat.lt_irrefl 0)
 · have:=fg q e;have:=aB.size;omega
 · exact (fK rfl e).elim
 · exact absurd e (Nat.lt_irrefl 0)
theorem xh {h:aj} (t:List UInt8) (A:Option Addr) (o:List Int) (c:Nat) (ht:t.length≤100000):ai Tryz.prog 212 ⟨[.agg ⟨[St t,.slice A o.length c]⟩]⟩ h fun u h'=>∃ b:Bk,u=.agg ⟨b.cells⟩∧b.ok h'∧b.p=jm (t,o)∧(∀ q,b.F q→h.size≤q)∧Ext No h h':=by
 have kp:=fun h'=>pN (h:=h') t (by omega)
 have kr:=fun h'=>ll (h:=h') (bx t)
 have kc:=fun h'=>pO (h:=h') (bx t) o.length
 unfold jm
 dsimp only
 unfold gm.cells nb at kp kr kc
 cases hr:gE (bx t)
 aa
   rw [hr] at kr
   refine calls [(0,_)] Tryz.func212 rfl Tryz.ntmps212 rfl ⟨rfl,trivial⟩ ?_
   aa (refine WC.sr ?_;refine WL.al (aI rfl) rfl rfl rfl ?_;rintro _ h1 ⟨b1,rfl,b0,aT,aB⟩;refine WL.al (au (fun w=>Tryz.zeroValue140 w)) rfl rfl rfl ?_;rintro _ h2 ⟨b2,rfl,gI,bR,aK⟩;have ca:=aK.obj aT aQ;have l2:=ak bR;refine Gn ?_;refine G2 ?_;refine WL.ld rfl (by first | exact ab ca rfl | assumption) rfl rfl rfl ?_;refine WL.call (vs:=[_]) rfl Tryz.call214 rfl (kp _) rfl rfl rfl ?_;rintro _ h3 ⟨rfl,aS⟩;refine WL.al (au (fun w=>Tryz.zeroValue278 w)) rfl rfl rfl ?_;rintro _ h4 ⟨b4,rfl,pH,bN,bh⟩;refine WL.az (aq Tryz.sizeOf278 rfl rfl rfl bN rfl (by simp [Value.oneCell'])) rfl rfl ?_;rintro _ h5 ⟨cd,aO⟩;have R9:Ext No h2 h5:=aS.trans (bh.trans' aO (fun q hq e=>by omega));refine Gn ?_;refine Gs [(1,_),(2,_),(3,_)] ?_;refine WC.seq ?_;refine WC.sr ?_;refine WL.step (aA Tryz.isAgg278 Tryz.sizeOf278 rfl rfl (by exact At.ax cd)) rfl rfl rfl ?_;refine WL.call (vs:=[_]) rfl Tryz.call215 rfl (kr _) rfl rfl rfl ?_;rintro _ h6 ⟨rfl,aP⟩;have sa:=R9.trans aP;have Hc:=aP.obj cd aQ;refine Go ?_;refine aJ 1 2 ?_ TT.mk)
   aa try (
   refine ay 1 ?_
   aa (refine WC.sr ?_;refine WL.step (aH (vs:=[_]) (cs:=[_,_,_,_,_,_,_,_,_,_,_]) (fun | [a0]=>[a0,(.int .u8 0),(St []),(St []),(St []),(.int .i64 0),(.int .i64 0),(.slice none 0 0),(.slice none 0 0),(.slice none 0 0),(.slice none 0 0)] | _=>[]) rfl rfl (by kernel_rfl)) rfl rfl rfl ?_;refine WL.az (aq Tryz.sizeOf140 rfl rfl rfl (sa.obj bR aQ) rfl (by simp [Value.oneCell'])) rfl rfl ?_;rintro _ h7 ⟨cq,bu⟩;refine Gn ?_;refine Gs [(2,_)] ?_;refine WC.ret ?_;repeat' (ae first | refine bq ?_ | refine ba ?_))
   aa (refine cA _ ⟨⟨_,rfl,bJ Tryz.isAgg140 Tryz.sizeOf140 (by first | exact cq | exact ga) rfl⟩,trivial⟩ ?_)
   aa (
    first
     | exact ⟨lJ 110 0 [],rfl,iD _ _ _ _,rfl,fun q e=>(jn e).elim,((aB.trans aK).trans sa).trans' bu (fun q hq e=>by have:=aB.size;omega)⟩
     | exact ⟨b9,rfl,Ms.ext cC (fun q hq e=>by have:=f9 q hq;have:=sa.size;have:=bH.size;omega),p9,fun q hq=>by have:=f9 q hq;have:=sa.size;have:=bH.size;have:=aB.size;have:=aK.size;omega,((aB.trans aK).trans NT).trans' cC (fun q hq e=>by have:=aB.size;omega)⟩)
   skip)
   aa (refine ay 2 ?_;refine WC.skip ?_;refine Gn ?_;refine WC.sr ?_;refine WL.step (aA Tryz.isAgg278 Tryz.sizeOf278 rfl rfl (by exact At.ax Hc)) rfl rfl rfl (Go ?_);refine WL.ld rfl (by first | exact ab (sa.obj ca aQ) rfl | assumption) rfl rfl rfl (Go ?_);refine WL.call (vs:=[_,_]) rfl Tryz.call223 rfl (kc _) rfl rfl rfl ?_;rintro _ h8 ⟨rfl,bH⟩;refine WL.call (vs:=[_]) rfl Tryz.call222 rfl (xg _) rfl rfl rfl ?_;rintro _ h9 ⟨b9,rfl,Ms,p9,f9,cl⟩;have NT:=(sa.trans bH).trans cl;refine WL.az (aq Tryz.sizeOf140 rfl rfl rfl (NT.obj bR aQ) rfl Ms.one) rfl rfl ?_;rintro _ jf ⟨ga,cC⟩;refine Gn ?_;refine Gs [(2,_)] ?_;refine WC.ret ?_;repeat' (ae first | refine bq ?_ | refine ba ?_))
   aa (refine cA _ ⟨⟨_,rfl,bJ Tryz.isAgg140 Tryz.sizeOf140 (by first | exact cq | exact ga) rfl⟩,trivial⟩ ?_)
   aa (
    first
     | exact ⟨lJ 110 0 [],rfl,iD _ _ _ _,rfl,fun q e=>(jn e).elim,((aB.trans aK).trans sa).trans' bu (fun q hq e=>by have:=aB.size;omega)⟩
     | exact ⟨b9,rfl,Ms.ext cC (fun q hq e=>by have:=f9 q hq;have:=sa.size;have:=bH.size;omega),p9,fun q hq=>by have:=f9 q hq;have:=sa.size;have:=bH.size;have:=aB.size;have:=aK.size;omega,((aB.trans aK).trans NT).trans' cC (fun q hq e=>by have:=aB.size;omega)⟩)
section
variable {h h':aj} {A:Ad} {st:Int} {sk ov:Bool} {aY:Int} {L:List (List UInt8 × gX)} {P:List (List UInt8 × eI)}
theorem cH.of {h0 h:aj} {q:Nat} {b:Bk} (ok:b.ok h) (hF:∀ q,b.F q→h0.size≤q) {h1:aj} (x:Ext No h h1) (hq:h1[q]?=some (.cells ⟨b.cells⟩ 140 (0,0))) (hg:h.size≤q) (hs:h0.size≤h.size):cH h0 h1 (.slice (some ⟨q,0,none⟩) 1 1) [b]:=.one hq (ok.ext x fun _ _=>aQ) (by omega) fun z hz=>⟨hF z hz,by have:=ok.lt hz;omega⟩
theorem cH.two {h0 h:aj} {q:Nat} {b c:Bk} (hq:h[q]?=some (.cells ⟨b.cells++c.cells⟩ 140 (0,0))) (Sa:b.ok h) (Sb:c.ok h) (hg:h0.size≤q) (fb:∀ z,b.F z→h0.size≤z∧z < q) (fc:∀ z,c.F z→h0.size≤z∧z < q):cH h0 h (.slice (some ⟨q,0,none⟩) 2 2) [b,c] :=
 ⟨by simpa using dR hq (len:=2) rfl (by simp [maxLen]),by simpa using ⟨Sa,Sb⟩,fun z hz=>by simp [Value.ownBlock] at hz;omega,fun x hx z hz=>by rcases List.mem_cons.1 hx with rfl | hx;exact (fb z hz).1;obtain rfl:=List.mem_singleton.1 hx;exact (fc z hz).1,fun x hx z hz e=>by
   simp only [Value.ownBlock,Option.some.injEq] at e
   rcases List.mem_cons.1 hx with rfl | hx
   · have:=(fb z hz).2;omega
   · obtain rfl:=List.mem_singleton.1 hx
     have:=(fc z hz).2;omega⟩
def KO (v:Value) (o:List Int):Bk:=⟨116,0,[],[],[],0,0,v,o,nS,[],nS,[],nS,[]⟩
theorem HW {h:aj} {v:Value} {o:List Int} (hr:Rd h v 1 o.length (ints o)) (hl:o.length≤20000):(KO v o).ok h:=⟨⟨hr,by show o.length≤maxLen;unfold maxLen;omega⟩,⟨Rd.nil _ _,by simp [KO]⟩,gU _ _,⟨Rd.nil _ _,by simp [KO]⟩⟩
theorem F4 {v:Value} {o:List Int} {q:Nat} (hq:(KO v o).F q):v.ownBlock=some q:=by
 rcases hq with ⟨_,e⟩ | ⟨e,_⟩ | e | ⟨e,_⟩
 · exact e
 · exact absurd e (Nat.lt_irrefl 0)
 · exact (fK rfl e).elim
 · exact absurd e (Nat.lt_irrefl 0)
theorem vG (k:Ss h A st sk ov aY L P) (lm:jJ (cy st sk ov aY L P)) (f:Fm) (hf:f.ok h) (fl:hJ f):ai Tryz.prog 148 ⟨[.pointer (some ⟨A.bs,0,none⟩),.agg ⟨f.cells⟩]⟩ h (cx h A P (cG (cy st sk ov aY L P) f.p)):=by
 have Mt:=fun (e:f.what=83)=>show cG (cy st sk ov aY L P) f.p=_ from if_pos e
 have NU:=fun (e:¬ f.what=83)=>show cG (cy st sk ov aY L P) f.p=_ from if_neg e
 obtain ⟨⟨e1,_⟩,⟨e2,_⟩,⟨e3,_⟩,e4,_⟩:=hf
 obtain ⟨pY,oW,yM,kF,B7,_⟩:=fl
 obtain ⟨fk,w,n,p,t,vo,o,vf,fs,vs,rs,vp,ps,mx⟩:=f
 dsimp only at e1 e2 e3 e4 pY oW yM kF B7
 obtain ⟨A1,c1,rfl,_⟩:=e1
 obtain ⟨_,_,rfl,_⟩:=e2
 obtain ⟨_,_,rfl,_⟩:=e3
 obtain ⟨A4,c4,rfl,_⟩:=e4
 by_cases hw:w=83
 · rw [Mt hw]
   dsimp only [Fm.cells,Fm.p]
   rcases he:jX (cy st sk ov aY L P) n with _ | ⟨ea,ec⟩
   · obtain ⟨q,hq⟩:=ot he
     have Dj:=k.jA _ (cm hq)
     have nj:=lm.tl _ (cm hq)
     have zD:bQ (cy st sk ov aY L P).L n=some (q.text,q.aU):=by show bQ (rm L) n=_;rw [lu,hq];rfl
     rw [zD]
     dsimp only at nj Dj ⊢
     have NS:=Dj.2.1
     refine calls [(0,_),(1,_)] Tryz.func148 rfl Tryz.ntmps148 rfl ⟨rfl,rfl,trivial⟩ ?_
     refine WC.sr ?_;refine WL.al (aI rfl) rfl rfl rfl ?_
     rintro _ h1 ⟨b3,rfl,b0,aT,aB⟩
     refine Go ?_;refine G3 ?_;refine WL.ld rfl (by first | exact ab aT rfl | assumption) rfl rfl rfl (Go ?_)
     refine Gs [(0,_),(3,_),(12,_)] ?_
     refine aJ 1 2 ?_ TT.mk
     aa (refine ay 1 ?_)
     refine G2 ?_;refine WL.ld rfl (by first | exact ab aT rfl | assumption) rfl rfl rfl ?_
     refine WL.call (vs:=[_,_]) rfl Tryz.call208 rfl (mm (k.av aB) lm n pY) rfl rfl rfl ?_
     rintro _ h2 ⟨⟨q',rfl,⟨B,c,gG⟩,iR⟩,aK⟩
     rw [he] at iR ⊢
     have FN:=Option.some.inj (hq.symm.trans (iR rfl))
     subst FN
     obtain ⟨qt,qv,qo⟩:=q
     dsimp only [gh] at gG Dj nj NS ⊢
     subst gG
     unfold uA
     refine Go ?_;refine WL.al (au (fun w=>Tryz.zeroValue261 w)) rfl rfl rfl ?_
     rintro _ h3 ⟨b6,rfl,gN,bC,aS⟩
     refine WL.az (aq Tryz.sizeOf261 rfl rfl rfl bC rfl (by simp [Value.oneCell'])) rfl rfl ?_
     rintro _ h4 ⟨bN,bh⟩
     have hY:Ext No h1 h4:=aK.trans (aS.trans' bh (fun q hq e=>by omega))
     have X4:=aB.trans hY
     have k4:=k.av X4
     have Jn:=Dj.1.av X4
     refine Go ?_;refine Gs [(6,_),(7,_)] ?_;refine G3 ?_;refine WL.step (cU (by kernel_rfl) rfl rfl) rfl rfl rfl ?_
     refine Gn ?_
     refine aJ 3 4 ?_ TT.mk
     aa (refine ay 4 ?_)
     refine WC.skip ?_;refine Gn ?_;refine WC.seq ?_;refine WC.cg (fun h'=>Ext No h4 h') 9 9 rfl dB ?_
     refine WH.tk 0 rfl (fun hq hC=>ag rfl Tryz.underlying261 rfl Tryz.sizeOf39) rfl rfl rfl ?_
     refine WH.tk 1 rfl (fun hq hC=>aC Tryz.isAgg39 rfl (by first | exact hC.cell (by first | exact ab bN rfl | assumption) aQ)) rfl rfl rfl ?_
     refine WH.tk 4 rfl (fun hq hC=>aA Tryz.isAgg261 Tryz.sizeOf261 rfl rfl (by exact (At.ax bN).ext hC aQ)) rfl rfl rfl ?_
     refine WH.one 2 (by kernel_rfl) ?_
     refine aE.call (vs:=[_]) rfl rfl Tryz.call206 rfl (iu qo (Jn) (by unfold reachBytes;omega)) rfl rfl rfl ?_ (fun _=>by kernel_rfl)
     rintro v5 h5 ⟨eX,aO,gj⟩
     obtain ⟨A5,c5,rfl,_⟩:=eX.slice
     refine ⟨fun _=>aO,?_⟩
     refine WH.tk 3 rfl (fun hq hC=>aH (vs:=[_,_]) (cs:=[_,_,_,_,_,_,_,_,_,_,_]) (fun | [a0,a7]=>[a0,(.int .u8 0),(St []),(St []),(St []),(.int .i64 0),(.int .i64 0),a7,(.slice none 0 0),(.slice none 0 0),(.slice none 0 0)] | _=>[]) rfl rfl (by kernel_rfl)) rfl rfl rfl ?_
     refine WH.one 5 (by kernel_rfl) ?_
     refine aE.call (vs:=[_]) rfl rfl Tryz.call212 rfl (xh qt B qo c nj) rfl rfl rfl ?_ (fun _=>by kernel_rfl)
     rintro _ h6 ⟨NV,rfl,KP,p6,f6,aP⟩
     refine ⟨fun _=>aO.trans aP,?_⟩
     refine WH.one 6 (by kernel_rfl) ?_
     refine aE.run rfl (aw (vs:=[_,_]) (cs:=[_,_,_,_,_,_,_,_,_,_,_,_,_,_,_,_,_,_,_,_,_,_]) (fun | [.agg ⟨[a0,a1,a2,a3,a4,a5,a6,a7,a8,a9,iy]⟩,.agg ⟨[Aw,a12,G5,G6,G7,JY,JZ,Nf,Ng,a20,a21]⟩]=>[a0,a1,a2,a3,a4,a5,a6,a7,a8,a9,iy,Aw,a12,G5,G6,G7,JY,JZ,Nf,Ng,a20,a21] | _=>[]) Tryz.underlying80 rfl rfl (by kernel_rfl)) rfl rfl rfl ?_ (fun _=>by kernel_rfl)
     rintro _ h7 ⟨b7,rfl,zu,cq,bu⟩
     refine ⟨fun _=>(aO.trans aP).trans bu,?_⟩
     have F0:Ext No h4 h7:=(aO.trans aP).trans bu
     refine WH.tk 7 rfl (fun hq hC=>aR rfl) rfl rfl rfl ?_
     refine WH.tk 8 rfl (fun hq hC=>aR rfl) rfl rfl rfl ?_
     refine WH.done (by kernel_rfl) ?_
     refine Gn ?_;refine Gs [(4,_),(5,_)] ?_;refine Gt ?_
     have s4:=X4.size
     have s5:=aO.size
     have s6:=aP.size
     have nT:=(eX.ext aP (fun _ _=>aQ)).ext bu (fun _ _=>aQ)
     exact ⟨_,[KO (.slice A5 qo.length c5) qo,NV],(fun e=>absurd rfl e),rfl,.two cq (HW nT.rd NS) (KP.ext bu (fun _ _=>aQ)) (by omega) (fun z hz=>by have:=gj z (F4 hz);have:=eX.lt (F4 hz);omega) (fun z hz=>by have:=f6 z hz;have:=KP.lt hz;omega),by rw [List.map_cons,List.map_singleton,p6];rfl,.of (((k4.av aO).av aP).av bu) (Tn.no (((X4.trans aO).trans aP).trans bu))⟩
   · dsimp only
     refine calls [(0,_),(1,_)] Tryz.func148 rfl Tryz.ntmps148 rfl ⟨rfl,rfl,trivial⟩ ?_
     refine WC.sr ?_;refine WL.al (aI rfl) rfl rfl rfl ?_
     rintro _ h1 ⟨b3,rfl,b0,aT,aB⟩
     refine Go ?_;refine G3 ?_;refine WL.ld rfl (by first | exact ab aT rfl | assumption) rfl rfl rfl (Go ?_)
     refine Gs [(0,_),(3,_),(12,_)] ?_
     refine aJ 1 2 ?_ TT.mk
     aa (refine ay 1 ?_)
     refine G2 ?_;refine WL.ld rfl (by first | exact ab aT rfl | assumption) rfl rfl rfl ?_
     refine WL.call (vs:=[_,_]) rfl Tryz.call208 rfl (mm (k.av aB) lm n pY) rfl rfl rfl ?_
     rintro _ h2 ⟨⟨q',rfl,⟨B,c,gG⟩,iR⟩,aK⟩
     rw [he]
     obtain ⟨qt,qv,qo⟩:=q'
     dsimp only [gh] at gG ⊢
     subst gG
     unfold uA
     refine Go ?_;refine WL.al (au (fun w=>Tryz.zeroValue261 w)) rfl rfl rfl ?_
     rintro _ h3 ⟨b6,rfl,gN,bC,aS⟩
     refine WL.az (aq Tryz.sizeOf261 rfl rfl rfl bC rfl (by simp [Value.oneCell'])) rfl rfl ?_
     rintro _ h4 ⟨bN,bh⟩
     have X4:Ext No h h4:=(aB.trans aK).trans (aS.trans' bh (fun q hq e=>by omega))
     refine Go ?_;refine Gs [(6,_),(7,_)] ?_;refine G3 ?_;refine WL.step (fX (by kernel_rfl) rfl rfl) rfl rfl rfl ?_
     refine Gn ?_
     refine aJ 3 4 ?_ TT.mk
     aa (refine ay 3 ?_)
     refine G2 ?_;refine Gs [(4,_),(5,_)] ?_;refine Gt ?_
     exact cx.err rfl (.of (k.av X4) (Tn.no X4))
 · rw [NU hw]
   dsimp only [Fm.cells,Fm.p]
   rcases he:hG (cy st sk ov aY L P) p with _ | ⟨ea,ec⟩
   · obtain ⟨i,hi⟩:=ou he
     have nj:=lm.tp _ (cm hi)
     have zD:bQ (cy st sk ov aY L P).P p=some i.d.pl:=by show bQ (gi P) p=_;rw [gF,hi];rfl
     rw [zD]
     dsimp only at nj ⊢
     refine calls [(0,_),(1,_)] Tryz.func148 rfl Tryz.ntmps148 rfl ⟨rfl,rfl,trivial⟩ ?_
     refine WC.sr ?_;refine WL.al (aI rfl) rfl rfl rfl ?_
     rintro _ h1 ⟨b3,rfl,b0,aT,aB⟩
     refine Go ?_;refine G3 ?_;refine WL.ld rfl (by first | exact ab aT rfl | assumption) rfl rfl rfl (Go ?_)
     refine Gs [(0,_),(3,_),(12,_)] ?_
     refine aJ 1 2 ?_ TT.mk
     aa (refine ay 2 ?_)
     refine WC.skip ?_;refine Gn ?_;refine G2 ?_;refine WL.ld rfl (by first | exact ab aT rfl | assumption) rfl rfl rfl ?_
     refine WL.call (vs:=[_,_]) rfl Tryz.call213 rfl (fh (k.av aB) lm p oW) rfl rfl rfl ?_
     rintro _ h2 ⟨⟨d2,rfl,jv,f2,iR⟩,aK⟩
     rw [he] at iR ⊢
     obtain ⟨i',oY,lj⟩:=iR rfl
     have B8:=Option.some.inj (hi.symm.trans oY)
     subst B8
     have pX:d2.text=i.d.text:=congrArg (·.1) lj
     have Qh:d2.aU=i.d.aU:=congrArg (·.2.1) lj
     obtain ⟨text,vo,aU,vp,UI,vr,UJ,dm,over⟩:=d2
     dsimp only [gh] at pX Qh ⊢
     subst pX
     subst Qh
     refine Go ?_;refine WL.al (au (fun w=>Tryz.zeroValue273 w)) rfl rfl rfl ?_
     rintro _ h3 ⟨b6,rfl,gN,bC,aS⟩
     refine WL.az (aq Tryz.sizeOf273 rfl rfl rfl bC rfl (fp jv)) rfl rfl ?_
     rintro _ h4 ⟨bN,bh⟩
     have hY:Ext No h1 h4:=aK.trans (aS.trans' bh (fun q hq e=>by omega))
     have X4:=aB.trans hY
     have k4:=k.av X4
     dsimp only [PD.cells] at bN
     obtain ⟨A6,c6,gG,_⟩:=id jv.aU
     dsimp only at gG
     subst gG
     refine Go ?_;refine Gs [(8,_),(9,_)] ?_;refine G3 ?_;refine WL.step (cU (by kernel_rfl) rfl rfl) rfl rfl rfl ?_
     refine Gn ?_
     refine aJ 5 6 ?_ TT.mk
     aa (refine ay 6 ?_)
     refine WC.skip ?_;refine Gn ?_;refine G2 ?_;refine WL.step (aA Tryz.isAgg261 Tryz.sizeOf261 rfl rfl (by exact At.pre (xs:=[_,_]) (ys:=[_,_,_,_]) (At.ax bN))) rfl rfl rfl ?_
     refine WL.call (vs:=[_]) rfl Tryz.call212 rfl (xh i.d.text A6 i.d.aU c6 nj.1) rfl rfl rfl ?_
     rintro _ h6 ⟨NV,rfl,KP,p6,f6,aP⟩
     refine WL.al (aw (vs:=[_]) (cs:=[_,_,_,_,_,_,_,_,_,_,_]) (fun | [.agg ⟨[a0,a1,a2,a3,a4,a5,a6,a7,a8,a9,iy]⟩]=>[a0,a1,a2,a3,a4,a5,a6,a7,a8,a9,iy] | _=>[]) Tryz.underlying80 rfl rfl (by kernel_rfl)) rfl rfl rfl ?_
     rintro _ h7 ⟨b7,rfl,zu,cq,bu⟩
     refine Go ?_;refine Gs [(4,_),(5,_)] ?_;refine Gt ?_
     have s4:=X4.size
     have s6:=aP.size
     exact ⟨_,[NV],(fun e=>absurd rfl e),rfl,.of KP (fun q hq=>by have:=f6 q hq;omega) bu cq (by omega) (by omega),by rw [List.map_singleton,p6];rfl,.of ((k4.av aP).av bu) (Tn.no ((X4.trans aP).trans bu))⟩
   · dsimp only
     refine calls [(0,_),(1,_)] Tryz.func148 rfl Tryz.ntmps148 rfl ⟨rfl,rfl,trivial⟩ ?_
     refine WC.sr ?_;refine WL.al (aI rfl) rfl rfl rfl ?_
     rintro _ h1 ⟨b3,rfl,b0,aT,aB⟩
     refine Go ?_;refine G3 ?_;refine WL.ld rfl (by first | exact ab aT rfl | assumption) rfl rfl rfl (Go ?_)
     refine Gs [(0,_),(3,_),(12,_)] ?_
     refine aJ 1 2 ?_ TT.mk
     aa (refine ay 2 ?_)
     refine WC.skip ?_;refine Gn ?_;refine G2 ?_;refine WL.ld rfl (by first | exact ab aT rfl | assumption) rfl rfl rfl ?_
     refine WL.call (vs:=[_,_]) rfl Tryz.call213 rfl (fh (k.av aB) lm p oW) rfl rfl rfl ?_
     rintro _ h2 ⟨⟨d2,rfl,jv,f2,iR⟩,aK⟩
     rw [he]
     dsimp only [gh]
     refine Go ?_;refine WL.al (au (fun w=>Tryz.zeroValue273 w)) rfl rfl rfl ?_
     rintro _ h3 ⟨b6,rfl,gN,bC,aS⟩
     refine WL.az (aq Tryz.sizeOf273 rfl rfl rfl bC rfl (fp jv)) rfl rfl ?_
     rintro _ h4 ⟨bN,bh⟩
     have X4:Ext No h h4:=(aB.trans aK).trans (aS.trans' bh (fun q hq e=>by omega))
     refine Go ?_;refine Gs [(8,_),(9,_)] ?_;refine G3 ?_;refine WL.step (fX (by kernel_rfl) rfl rfl) rfl rfl rfl ?_
     refine Gn ?_
     refine aJ 5 6 ?_ TT.mk
     aa (refine ay 5 ?_)
     refine G2 ?_;refine Gs [(4,_),(5,_)] ?_;refine Gt ?_
     exact cx.err rfl (.of (k.av X4) (Tn.no X4))
end
def tL (v:Value) (l:List bj):Bk:=⟨68,0,[],[],[],0,0,.slice none 0 0,[],.slice none 0 0,[],v,l,.slice none 0 0,[]⟩
theorem Et {h:aj} {v:Value} {l:List bj} (c:cN h v l):(tL v l).ok h:=⟨⟨Rd.nil _ _,by simp [tL]⟩,⟨Rd.nil _ _,by simp [tL]⟩,c,⟨Rd.nil _ _,by simp [tL]⟩⟩
theorem Ca {h2 h3 h4 h5 h6 h7:aj} {b2 b4 k:Nat} {n1:Bool} {v1 v6:Value} {s1:List UInt8} {l out:List bj} {rest:List Value} {T0:TypeId} (j0:out.length=k) (Dk:rest.length=(l.length - k) * 2) (hk:k≤l.length)
   (hp:out.map bj.pl=(l.take k).map bj.pl) (fH:l[k]?=some ⟨n1,v1,s1⟩) (cq:h7[b2]?=some (.cells ⟨(out.flatMap bj.cells++rest).take (0+k * 2)++[.bool n1,v6]++(out.flatMap bj.cells++rest).drop (0+k * 2+2)⟩ T0 (0,0)))
   (hq:∀ q∈out,q.ok h3∧∀ b,q.v.ownBlock=some b→b2 < b) (aS:Ext (fun b=>b=b2) h2 h3) (bh:Ext No h3 h4) (aO:Ext (fun b=>b=b4) h4 h5) (pH:h3.size≤b4) (aP:Ext No h5 h6) (bu:Ext (fun b=>b=b2) h6 h7)
   (gT:Own h6 v6 5 1 s1.length (bK s1)) (HX:v6.ownBlock=(Value.slice none 0 0).ownBlock∨v6.ownBlock=some h5.size) (eH:b2 < h3.size) (hs:s1.length≤reachBytes) :
   k+1≤l.length∧(out++[(⟨n1,v6,s1⟩:bj)]).map bj.pl=(l.take (k+1)).map bj.pl∧(∃ F5,h7[b2]?=some (.cells ⟨(out++[(⟨n1,v6,s1⟩:bj)]).flatMap bj.cells++F5⟩ T0 (0,0))∧F5.length=(l.length - (k+1)) * 2)∧(∀ q∈out++[(⟨n1,v6,s1⟩:bj)],q.ok h7∧∀ b,q.v.ownBlock=some b→b2 < b)∧Ext (fun b=>b=b2) h2 h7:=by
 have J4:k < l.length:=(List.getElem?_eq_some_iff.1 fH).1
 have oU:(out.flatMap bj.cells).length=k * 2:=by rw [cT bj.len,j0]
 have s4:=bh.size
 have s5:=aO.size
 have e1:(out.flatMap bj.cells++rest).take (0+k * 2)=out.flatMap bj.cells:=by rw [Nat.zero_add,← oU,List.take_left'];rfl
 have e2:(out.flatMap bj.cells++rest).drop (0+k * 2+2)=rest.drop 2:=by rw [Nat.zero_add,← oU,List.drop_append];simp
 have fr:∀ b,v6.ownBlock=some b→b2 < b:=fun b e=>by
   rcases HX with e6 | e6 <;> rw [e6] at e
   · cases e
   · simp at e;omega
 refine ⟨J4,?_,⟨rest.drop 2,?_,?_⟩,fun q hm=>?_,?_⟩
 · rw [List.map_append,hp,List.take_add_one,fH,List.map_append]
   rfl
 · rw [e1,e2] at cq
   rw [List.flatMap_append,List.flatMap_singleton]
   exact cq
 · rw [List.length_drop,Dk];omega
 · rcases List.mem_append.1 hm with hm | hm
   · obtain ⟨q1,q2⟩:=hq q hm
     refine ⟨⟨?_,q1.2⟩,q2⟩
     exact (((q1.1.av bh).ext' aO fun b h1 e eb=>by have:=q1.1.lt h1 e;omega).av aP).ext' bu fun b _ e eb=>by have:=q2 b e;omega
   · simp only [List.mem_singleton] at hm
     subst hm
     exact ⟨⟨gT.rd.ext' bu fun b _ e eb=>by have:=fr b e;omega,hs⟩,fr⟩
 · exact (((aS.trans' bh fun _ _ e=>e.elim).trans' aO fun b hb e=>by have:=aS.size;omega).trans' aP fun _ _ e=>e.elim).trans bu
theorem Eu {h3 h8:aj} {b1 b2 k:Nat} {l out:List bj} {rest:List Value} {T0:TypeId} (j0:out.length=k) (Dk:rest.length=(l.length - k) * 2) (hk:k=l.length) (bC:h3[b2]?=some (.cells ⟨out.flatMap bj.cells++rest⟩ T0 (0,0))) (bH:Ext (fun b=>b=b1) h3 h8)
   (hq:∀ q∈out,q.ok h3∧∀ b,q.v.ownBlock=some b→b2 < b) (r7:b1 < b2) (hl:l.length≤1000000):cN h8 (.slice (some ⟨b2,0,none⟩) l.length l.length) out:=by
 have h0:rest=[]:=List.eq_nil_of_length_eq_zero (by rw [Dk,hk];simp)
 rw [h0,List.append_nil] at bC
 have uQ:out.length=l.length:=by omega
 rw [← uQ]
 refine ⟨bG (bH.obj bC (fun e=>by omega)) (cT bj.len out),⟨by unfold reachBytes;omega,_,_,rfl,by unfold maxLen;omega⟩,fun q hm=>?_⟩
 obtain ⟨q1,q2⟩:=hq q hm
 exact ⟨q1.1.ext' bH fun b _ e eb=>by have:=q2 b e;omega,q1.2⟩
theorem Cb {h:aj} {v:Value} (l:List bj) (hc:cN h v l) (hl:l.length≤1000000):ai Tryz.prog 262 ⟨[v]⟩ h fun u h'=>∃ v' l',u=.agg ⟨(tL v' l').cells⟩∧cN h' v' l'∧l'.map bj.pl=l.map bj.pl∧Ext No h h'∧∀ b,dG v' l' b→h.size≤b:=by
 obtain ⟨hr,⟨_,A,c,rfl,_⟩,dJ⟩:=hc
 refine calls [(0,_)] Tryz.func262 rfl Tryz.ntmps262 rfl ⟨rfl,trivial⟩ ?_
 refine WC.sr ?_;refine WL.al (au (fun w=>Tryz.zeroValue140 w)) rfl rfl rfl ?_
 rintro _ h1 ⟨b1,rfl,b0,aT,aB⟩
 refine Gn ?_;refine G2 ?_;refine WL.al (oZ 32 2 Tryz.underlying40 (show Tryz.prog.info? 85=some Tryz.t85 by kernel_rfl) rfl rfl rfl rfl rfl (by omega) (by unfold maxLen;omega)) rfl rfl rfl ?_
 rintro _ h2 ⟨b2,zs,rfl,gI,bR,Sf,_,aK⟩
 have mY:=ak aT
 have eQ:=aB.trans aK
 refine Go ?_;refine G3 ?_;refine Gs [(2,_),(3,_),(9,_),(10,_),(11,_)] ?_;refine WC.block ?_;refine WC.bO (X:=Nat × List bj) (fun x=>([(11,In (x.1:Int))]:Fr)) [(2,_),(3,_),(9,_),(10,_)] (fun x h'=>x.1≤l.length∧x.2.map bj.pl=(l.take x.1).map bj.pl∧(∃ rest,h'[b2]?=some (.cells ⟨x.2.flatMap bj.cells++rest⟩ 85 (0,0))∧rest.length=(l.length - x.1) * 2)∧(∀ q∈x.2,q.ok h'∧∀ b,q.v.ownBlock=some b→b2 < b)∧Ext (fun b=>b=b2) h2 h') (fun x=>l.length - x.1) ((0,[])) ⟨rfl,rfl,rfl,rfl,rfl,trivial⟩ (by exact ⟨Nat.zero_le _,rfl,⟨zs,bR,Sf⟩,by simp,.refl _ _⟩) ?_
 rintro ⟨k,out⟩ h3 ⟨hk,hp,⟨rest,bC,Dk⟩,hq,aS⟩
 simp only at hk hp bC Dk hq
 have j0:out.length=k:=by simpa [Nat.min_eq_left hk] using congrArg List.length hp
 have E3:Ext No h h3:=eQ.trans' aS (fun b hb e=>by have:=aB.size;omega)
 refine WC.sub [(11,_),(2,_),(3,_),(9,_),(10,_)] ⟨rfl,rfl,rfl,rfl,rfl,trivial⟩ ?_
 dsimp only
 refine G2 ?_;refine WC.seq ?_
 refine aJ 1 2 (Hb.mk fun hb=>?_) (Hb.mk fun hb=>?_)
 aa try (
 refine ay 1 ?_
 refine WC.skip ?_
 skip)
 aa try (
 refine ay 2 ?_
 refine WC.exit ?_
 repeat' (ae first | refine aZ ?_ | refine aF rfl ?_ | refine aL ?_ | refine aN ?_ | refine aV ?_)
 refine Br.out (i:=1000) ?_
 skip)
 aa (refine Gn ?_;first | refine Br.ad ?_ | refine WC.seq ?_)
 aa (first | refine Br.ad ?_ | refine WC.block ?_)
 aa (first | refine Br.ad ?_ | refine WC.seq ?_)
 aa (
  first
    | (refine Br.ad ?_)
    | (obtain ⟨bL,oL,hA,gx,cX⟩:=Rd.at_ (hr.av E3) (by omega)
       obtain ⟨⟨n1,v1,s1⟩,fH⟩:∃ y,l[k]?=some y:=⟨_,List.getElem?_eq_getElem (by omega)⟩
       obtain ⟨sO,zt⟩:=dJ _ (List.mem_of_getElem? fH)
       have wL:At h3 bL (oL+k * 2) [.bool n1,v1]:=At.elem bj.len cX fH
       simp only at sO zt
       unfold reachBytes at zt
       obtain ⟨A1,k1,rfl,_⟩:=id sO))
 aa (first | refine Br.ad ?_ | refine WC.region ?_)
 aa (refine Go ?_;first | refine Br.ad ?_ | (refine WL.step (aG Tryz.underlying40 Tryz.sizeOf85 rfl rfl rfl (by omega) (by first | rfl | assumption)) rfl rfl rfl ?_))
 aa (first | refine Br.ad ?_ | (refine WL.step (aA Tryz.isAgg85 Tryz.sizeOf85 rfl rfl (by assumption)) rfl rfl rfl ?_))
 aa (
  first
    | (refine Br.ad ?_)
    | (refine WL.al (au (fun w=>Tryz.zeroValue85 w)) rfl rfl rfl ?_
       rintro _ h4 ⟨b4,rfl,pH,bN,bh⟩))
 aa (refine Go ?_)
 aa (
  first
    | (refine Br.ad ?_)
    | (refine WL.az (aq Tryz.sizeOf85 rfl rfl rfl (by assumption) rfl (by simp [Value.oneCell'])) rfl rfl ?_
       rintro _ h5 ⟨cd,aO⟩))
 aa (
  first
    | (refine Br.ad ?_)
    | (have E5:Ext No h h5:=(E3.trans bh).trans' aO (fun b hb e=>by have:=E3.size;omega)
       have NW:=ak bC
       have vm:=(bh.obj bC aQ)
       have KQ:=aO.obj vm (fun e=>by omega)))
 aa (refine Gn ?_;first | refine Br.ad ?_ | refine Gs [(2,_),(3,_),(4,_),(5,_),(9,_),(10,_),(11,_)] ?_)
 aa (first | refine Br.ad ?_ | (refine WC.cg (fun h'=>h'[b4]?=some (.cells ⟨[.bool n1,.slice A1 s1.length k1]⟩ 85 (0,0))) 9 10 rfl dB ?_))
 aa (first | refine Br.ad ?_ | (refine WH.tk 0 rfl (fun hq hC=>an rfl) rfl rfl rfl ?_))
 aa (first | refine Br.ad ?_ | (refine WH.tk 1 rfl (fun hq hC=>an rfl) rfl rfl rfl ?_))
 aa (first | refine Br.ad ?_ | (refine WH.tk 2 rfl (fun hq hC=>ag rfl Tryz.underlying85 rfl Tryz.sizeOf4) rfl rfl rfl ?_))
 aa (first | refine Br.ad ?_ | (refine WH.tk 3 rfl (fun hq hC=>aC Tryz.isAgg4 rfl (ab hC rfl)) rfl rfl rfl ?_))
 aa (first | refine Br.ad ?_ | (refine WH.tk 4 rfl (fun hq hC=>ag rfl Tryz.underlying85 rfl Tryz.sizeOf23) rfl rfl rfl ?_))
 aa (first | refine Br.ad ?_ | (refine WH.tk 5 rfl (fun hq hC=>aC Tryz.isAgg23 rfl (ab hC rfl)) rfl rfl rfl ?_))
 aa (first | refine Br.ad ?_ | (refine WH.one 6 (by kernel_rfl) ?_))
 aa (
  first
    | (refine Br.ad ?_)
    | (refine aE.run rfl (aX (sz:=1) (bytes:=1) rfl Tryz.underlying23 (show Tryz.prog.info? 5=some Tryz.t5 by kernel_rfl) rfl rfl rfl rfl (by decide) rfl rfl (Own.nil _ _ _) (sO.av E5) (wv s1) (by simp only [maxLen];omega) (by omega)) rfl rfl rfl ?_ (fun _=>by kernel_rfl)
       rintro v6 h6 ⟨gT,aP,HX⟩))
 aa (first | refine Br.ad ?_ | (refine ⟨fun _=>aP.obj cd (fun e=>by cases e),?_⟩))
 aa (
  first
    | (refine Br.ad ?_)
    | (have cj:=aP.obj cd (fun e=>by cases e)
       have NX:Ext No h5 h6:=aP.mono (fun b _ e=>by cases e)
       have PM:=aP.obj KQ (fun e=>by cases e)
       rw [Nat.zero_add,List.nil_append] at gT
       obtain ⟨A6,c6,rfl,_⟩:=gT.slice))
 aa (first | refine Br.ad ?_ | (refine WH.tk 7 rfl (fun hq hC=>aH (vs:=[_,_]) (cs:=[_,_]) (fun | [a0,a1]=>[a0,a1] | _=>[]) rfl rfl (by kernel_rfl)) rfl rfl rfl ?_))
 aa (first | refine Br.ad ?_ | (refine WH.tk 8 rfl (fun hq hC=>aG Tryz.underlying40 Tryz.sizeOf85 rfl rfl rfl (by omega) (by first | rfl | assumption)) rfl rfl rfl ?_))
 aa (first | refine Br.ad ?_ | (refine WH.one 9 (by kernel_rfl) ?_))
 aa (
  first
    | (refine Br.ad ?_)
    | (refine aE.cY rfl (nN (k:=2) Tryz.sizeOf85 rfl rfl rfl PM (by simp [cT bj.len,j0,Dk];omega) (by simp [Value.oneCell'])) rfl rfl ?_ (fun _=>by kernel_rfl)
       rintro _ h7 ⟨cq,bu⟩))
 aa (first | refine Br.ad ?_ | (refine ⟨fun e=>(by cases e),?_⟩))
 aa (first | refine Br.ad ?_ | (refine WH.done (by kernel_rfl) ?_))
 aa (refine Gn ?_;first | refine Br.ad ?_ | refine Gs [(2,_),(3,_),(9,_),(10,_),(11,_)] ?_)
 aa (first | refine Br.ad ?_ | refine WC.region ?_)
 aa (refine Go ?_;first | refine Br.ad ?_ | (exact ⟨(k+1,out++[_]),⟨rfl,rfl,rfl,rfl,rfl,trivial⟩,(by exact Ca j0 Dk hk hp fH cq hq aS bh aO pH NX bu gT HX NW (by unfold reachBytes;omega)),(by simp;omega)⟩))
 try (refine Br.mk (i:=1000) ?_)
 refine Gn ?_;refine Gs [(2,_),(3,_)] ?_;refine G2 ?_;refine WL.step (aH (vs:=[_,_]) (cs:=[_,_,_,_,_,_,_,_,_,_,_]) (fun | [a0,a9]=>[a0,(.int .u8 0),(St []),(St []),(St []),(.int .i64 0),(.int .i64 0),(.slice none 0 0),(.slice none 0 0),a9,(.slice none 0 0)] | _=>[]) rfl rfl (by kernel_rfl)) rfl rfl rfl ?_
 refine WL.az (aq Tryz.sizeOf140 rfl rfl rfl (aS.obj (aK.obj aT aQ) (fun e=>by omega)) rfl (by simp [Value.oneCell'])) rfl rfl ?_
 rintro _ h8 ⟨bP,bH⟩
 refine Gn ?_;refine WC.ret ?_
 repeat' (ae first | refine bq ?_ | refine ba ?_)
 refine cA _ ⟨⟨_,rfl,bJ Tryz.isAgg140 Tryz.sizeOf140 (by assumption) rfl⟩,trivial⟩ ?_
 exact ⟨_,out,rfl,Eu j0 Dk (by omega) bC bH hq (by omega) (by omega),by rw [hp,List.take_of_length_le (by omega)],E3.trans' bH (fun b hb e=>by omega),fun b hb=>by
  have:=aB.size
  rcases hb with ⟨_,e⟩ | ⟨q,iR,_,e⟩
  · simp [Value.ownBlock] at e;omega
  · have:=(hq q iR).2 b e;omega⟩
theorem Cc {v:Value} {l:List bj} {q:Nat} (hq:(tL v l).F q):dG v l q:=by
 rcases hq with ⟨e,_⟩ | ⟨e,_⟩ | e | ⟨e,_⟩
 · exact absurd e (Nat.lt_irrefl 0)
 · exact absurd e (Nat.lt_irrefl 0)
 · exact e
 · exact absurd e (Nat.lt_irrefl 0)
abbrev HY (r:List eT):jD:={ kind:=68,row:=r }
theorem rp {h:aj} {v:Value} (L:List Rw) (hL:kD h v L) (more:Bool) (hm:L.length≤100000) (hr:∀ r∈L,r.l.length≤1000000):ai Tryz.prog 218 ⟨[v,.bool more]⟩ h fun u h'=>∃ B,cH h h' u B∧B.map Bk.p=db (L.map Rw.pl) more∧Ext No h h':=by
 obtain ⟨xT,⟨_,A,c,rfl,_⟩,dJ⟩:=hL
 cases more
 aa
   refine calls [(0,_),(1,_)] Tryz.func218 rfl Tryz.ntmps218 rfl ⟨rfl,rfl,trivial⟩ ?_
   aa (refine G2 ?_;refine G2 ?_;refine G3 ?_;refine WC.block ?_)
   aa (refine WC.bO (X:=Nat × Value × List Bk) (fun x=>([(10,In (x.1:Int)),(5,x.2.1)]:Fr)) [(0,_),(1,_),(8,_),(9,_)] (fun x h'=>x.1≤L.length∧cH h h' x.2.1 x.2.2∧x.2.2.map Bk.p=(L.take x.1).map (fun r=>HY r.pl)∧Ext No h h') (fun x=>L.length - x.1) ((0,.slice none 0 0,[])) ⟨rfl,rfl,rfl,rfl,rfl,rfl,trivial⟩ (by exact ⟨Nat.zero_le _,cH.nil _ _,rfl,.refl _ _⟩) ?_)
   aa (
    rintro ⟨k,v1,B⟩ h1 ⟨hk,ho,hp,hx⟩
    dsimp only at hk ho hp
    have Sg:B.length=k:=by have:=congrArg List.length hp;simpa [Nat.min_eq_left hk] using this
    have Qi:=ho.own
    obtain ⟨A1,c1,rfl,_⟩:=Qi.slice)
   aa (refine WC.sub [(5,_),(10,_),(0,_),(1,_),(8,_),(9,_)] ⟨rfl,rfl,rfl,rfl,rfl,rfl,trivial⟩ ?_;dsimp only)
   aa (refine G2 ?_;refine WC.seq ?_;refine aJ 1 2 (Hb.mk fun hb=>?_) (Hb.mk fun hb=>?_))
   aa try (
   refine ay 1 ?_
   aa (refine WC.skip ?_)
   skip)
   aa try (
   refine ay 2 ?_
   aa (refine WC.exit ?_;repeat' (ae first | refine aZ ?_ | refine aF rfl ?_ | refine aL ?_ | refine aN ?_ | refine aV ?_))
   aa (refine Br.out (i:=1000) ?_)
   skip)
   aa (refine Gn ?_;first | refine Br.ad ?_ | refine WC.seq ?_)
   aa (first | refine Br.ad ?_ | refine WC.block ?_)
   aa (first | refine Br.ad ?_ | refine WC.sr ?_)
   aa (
    first
      | (refine Br.ad ?_)
      | (obtain ⟨bL,oL,hA,gx,cX⟩:=Rd.at_ (xT.av hx) (by omega)
         obtain ⟨⟨w1,l1⟩,fH⟩:∃ y,L[k]?=some y:=⟨_,List.getElem?_eq_getElem (by omega)⟩
         have wL:=cX.get (p:=oL+k * 1) (v:=w1) k (by rw [List.getElem?_map,fH];exact rfl) (by omega)
         have pD:=dJ _ (List.mem_of_getElem? fH)
         have uQ:=hr _ (List.mem_of_getElem? fH)
         dsimp only at pD uQ))
   aa (first | refine Br.ad ?_ | (refine WL.step (aG Tryz.underlying271 Tryz.sizeOf40 rfl rfl rfl (by omega) (by first | rfl | assumption)) rfl rfl rfl ?_))
   aa (first | refine Br.ad ?_ | (refine WL.ld rfl (by first | exact wL | assumption) rfl rfl rfl ?_))
   aa (refine Go ?_;first | refine Br.ad ?_ | refine WC.region ?_)
   aa (refine Go ?_)
   aa (
    first
      | (refine Br.ad ?_)
      | (refine WL.call (vs:=[_]) rfl Tryz.call262 rfl (Cb l1 (pD.av hx) uQ) rfl rfl rfl ?_
         rintro _ h2 ⟨v2,l2,rfl,lI,Ka,aK,fg⟩
         obtain ⟨_,⟨_,A2,c2,rfl,_⟩,_⟩:=id lI))
   aa (
    first
      | (refine Br.ad ?_)
      | (refine WL.al (aw (vs:=[_]) (cs:=[_,_,_,_,_,_,_,_,_,_,_]) (fun | [.agg ⟨[a0,a1,a2,a3,a4,a5,a6,a7,a8,a9,iy]⟩]=>[a0,a1,a2,a3,a4,a5,a6,a7,a8,a9,iy] | _=>[]) Tryz.underlying80 rfl rfl (by kernel_rfl)) rfl rfl rfl ?_
         rintro _ h3 ⟨b3,rfl,gN,bC,aS⟩))
   aa (
    first
      | (refine Br.ad ?_)
      | (have Qj:(tL (.slice A2 l2.length c2) l2).ok h3:=Et (lI.av aS)
         have s1:=hx.size
         have s2:=aK.size
         have ee:=(ho.av aK).av aS))
   aa (
    first
      | (refine Br.ad ?_)
      | (refine WL.al (aX (sz:=11) (bytes:=168) rfl Tryz.underlying80 (show Tryz.prog.info? 140=some Tryz.t140 by kernel_rfl) rfl rfl rfl rfl (by decide) rfl rfl ee.own (bG bC (len:=1) rfl) Qj.one (by simp only [maxLen];omega) (by omega)) rfl rfl rfl ?_
         rintro v4 h4 ⟨gk,bh,sS⟩))
   aa (refine Go ?_;first | refine Br.ad ?_ | refine Gs [(0,_),(1,_),(5,_),(8,_),(9,_),(10,_)] ?_)
   aa (first | refine Br.ad ?_ | refine WC.region ?_)
   aa (refine Go ?_;first | refine Br.ad ?_ | (exact ⟨(k+1,_,B++[_]),⟨rfl,rfl,rfl,rfl,rfl,rfl,trivial⟩,(by exact ⟨by omega,ee.snoc Qj (fun z hz=>by have:=fg z (Cc hz);omega) (fun z hz e=>by have:=fg z (Cc hz);have:=Qi.lt e;omega) (by have:=aS.size;omega) gk bh sS,by rw [List.map_append,hp,List.take_add_one,fH,List.map_append];simp [Bk.p,tL,Rw.pl,Ka],((hx.trans aK).trans aS).trans' bh (fun q hq e=>by have:=ho.vf q e;omega)⟩),(by dsimp only;omega)⟩))
   aa (try (refine Br.mk (i:=1000) ?_))
   aa (refine Gn ?_;refine Gs [(0,_),(1,_),(5,_)] ?_;refine G3 ?_;refine aJ 3 4 ?_ TT.mk)
   aa try (
   refine ay 3 ?_
   aa (refine G2 ?_;refine WL.step (aH (vs:=[_]) (cs:=[_,_,_,_,_,_,_,_,_,_,_]) (fun | [a0]=>[a0,(.int .u8 0),(St []),(St []),(St []),(.int .i64 0),(.int .i64 0),(.slice none 0 0),(.slice none 0 0),(.slice none 0 0),(.slice none 0 0)] | _=>[]) rfl rfl (by kernel_rfl)) rfl rfl rfl ?_;refine WL.al (aw (vs:=[_]) (cs:=[_,_,_,_,_,_,_,_,_,_,_]) (fun | [.agg ⟨[a0,a1,a2,a3,a4,a5,a6,a7,a8,a9,iy]⟩]=>[a0,a1,a2,a3,a4,a5,a6,a7,a8,a9,iy] | _=>[]) Tryz.underlying80 rfl rfl (by kernel_rfl)) rfl rfl rfl ?_;rintro _ h3 ⟨b3,rfl,gN,bC,aS⟩;have ee:=ho.av aS;refine WL.al (aX (sz:=11) (bytes:=168) rfl Tryz.underlying80 (show Tryz.prog.info? 140=some Tryz.t140 by kernel_rfl) rfl rfl rfl rfl (by decide) rfl rfl ee.own (bG bC (len:=1) rfl) (iD h3 115 0 []).one (by simp only [maxLen];omega) (by omega)) rfl rfl rfl ?_;rintro v4 h4 ⟨gk,bh,sS⟩;have O4:=ee.snoc (b:=lJ 115 0 []) (iD _ _ _ _) (fun z hz=>(jn hz).elim) (fun z hz=>(jn hz).elim) (by have:=hx.size;have:=aS.size;omega) gk bh sS;refine Go ?_;refine Gs [(4,_)] ?_;refine Gt ?_)
   aa (
    obtain rfl:k=L.length:=by omega
    rw [List.take_length] at hp
    refine ⟨_,O4,by rw [List.map_append,hp];simp [db,Bk.p,lJ,Function.comp_def],?_⟩
    first
     | exact (hx.trans aS).trans' bh (fun q hq e=>by have:=ho.vf q e;omega)
     | exact ((hx.trans aK).trans aS).trans' bh (fun q hq e=>by have:=ho.vf q e;omega))
   skip)
   aa (refine ay 4 ?_;refine WC.skip ?_;refine Gn ?_;refine G2 ?_;refine WL.call (vs:=[_]) rfl Tryz.call263 rfl (BU (L.length:Int) (by omega) (by omega)) rfl rfl rfl ?_;rintro _ h2 ⟨rfl,aK⟩;refine WL.step (aH (vs:=[_,_]) (cs:=[_,_,_,_,_,_,_,_,_,_,_]) (fun | [a0,a2]=>[a0,(.int .u8 0),a2,(St []),(St []),(.int .i64 0),(.int .i64 0),(.slice none 0 0),(.slice none 0 0),(.slice none 0 0),(.slice none 0 0)] | _=>[]) rfl rfl (by kernel_rfl)) rfl rfl rfl ?_;refine WL.al (aw (vs:=[_]) (cs:=[_,_,_,_,_,_,_,_,_,_,_]) (fun | [.agg ⟨[a0,a1,a2,a3,a4,a5,a6,a7,a8,a9,iy]⟩]=>[a0,a1,a2,a3,a4,a5,a6,a7,a8,a9,iy] | _=>[]) Tryz.underlying80 rfl rfl (by kernel_rfl)) rfl rfl rfl ?_;rintro _ h3 ⟨b3,rfl,gN,bC,aS⟩;have ee:=(ho.av aK).av aS;refine WL.al (aX (sz:=11) (bytes:=168) rfl Tryz.underlying80 (show Tryz.prog.info? 140=some Tryz.t140 by kernel_rfl) rfl rfl rfl rfl (by decide) rfl rfl ee.own (bG bC (len:=1) rfl) (iD h3 67 0 (yK L.length)).one (by simp only [maxLen];omega) (by omega)) rfl rfl rfl ?_;rintro v4 h4 ⟨gk,bh,sS⟩;have O4:=ee.snoc (b:=lJ 67 0 (yK L.length)) (iD _ _ _ _) (fun z hz=>(jn hz).elim) (fun z hz=>(jn hz).elim) (by have:=hx.size;have:=aK.size;have:=aS.size;omega) gk bh sS;refine Go ?_;refine Gs [(4,_)] ?_;refine Gt ?_)
   aa (
    obtain rfl:k=L.length:=by omega
    rw [List.take_length] at hp
    refine ⟨_,O4,by rw [List.map_append,hp];simp [db,Bk.p,lJ,Function.comp_def],?_⟩
    first
     | exact (hx.trans aS).trans' bh (fun q hq e=>by have:=ho.vf q e;omega)
     | exact ((hx.trans aK).trans aS).trans' bh (fun q hq e=>by have:=ho.vf q e;omega))
section
variable {h h':aj} {A:Ad} {st:Int} {sk ov:Bool} {aY:Int} {L:List (List UInt8 × gX)} {P:List (List UInt8 × eI)}
theorem rq (k:Ss h A st sk ov aY L P):ai Tryz.prog 145 ⟨[.pointer (some ⟨A.bp,0,none⟩)]⟩ h fun u h'=>u=.tuple ⟨[]⟩∧Ss h' A st sk ov aY L []∧Tn A P h h' []∧Ext (fun q=>q=A.mp) h h' :=
 (D0 k.se.pb k.se.pm).mono fun u h' ⟨e,hm,hx⟩=>⟨e,(k.cO (P':=[]) hx hm (fun q hq=>nomatch hq)).1,(k.cO (P':=[]) hx hm (fun q hq=>nomatch hq)).2,hx⟩
theorem tM {g:aj} {q:Nat} {tag:List UInt8} {P':List (List UInt8 × eI)} {od:Int} {s:SP} {h1:aj} (k1:Ss h1 A od sk ov aY L P') (T1:Tn A P h h1 P') (hx:Ext No h1 g) (hq:g[q]?=some (.cells ⟨HL 67 0 tag⟩ 140 (0,0))) (hg:h1.size≤q) (hs:s=cy od sk ov aY L P') (hP:∀ q∈P',q∈P) :
   ft h A L P (s,[{ kind:=67,tag:=tag }],none) (.tuple ⟨[.slice (some ⟨q,0,none⟩) 1 1,gh none]⟩) g:=by
 subst hs
 exact ⟨_,[lJ 67 0 tag],(fun e=>absurd rfl e),rfl,.tag hq (by have:=T1.1.size;omega),rfl,_,_,fun _ h=>h,hP,k1.av hx,rfl,rfl,T1.trans (Tn.no hx)⟩
theorem Cd (k:Ss h A st sk ov aY L P) (v:gm):ai Tryz.prog 220 ⟨[.pointer (some ⟨A.bs,0,none⟩),.agg ⟨v.cells⟩]⟩ h (ft h A L P (cO (cy st sk ov aY L P) v)):=by
 have kn:=fun h'=>BI (h:=h') k.r9 v
 have ke:=fun h'=>ns (h:=h') v
 have lb:=ak k.se.bB
 unfold gm.cells nb at *
 rcases (show v.k = 1 ∧ cO (cy st sk ov aY L P) v = (cy st sk ov aY L P, [{ kind := 73 }], none) ∨ v.k ≠ 1 ∧ v.k = 8 ∧ cO (cy st sk ov aY L P) v = (cy st sk ov aY L P, [], some (v.c, ([102, 97, 105, 108, 101, 100, 32, 111, 110, 32, 112, 117, 114, 112, 111, 115, 101] : List UInt8)))
     ∨ v.k ≠ 1∧v.k ≠ 8∧cO (cy st sk ov aY L P) v=(cy (fv st v).1 sk ov aY L (if cF v=true then [] else P),[{ kind:=67,tag:=(fv st v).2 }],none) by
   unfold cO
   by_cases e1:v.k=1
   · exact .inl ⟨e1,if_pos e1⟩
   · by_cases e2:v.k=8
     · exact .inr (.inl ⟨e1,e2,by rw [if_neg e1,if_pos e2]⟩)
     · refine .inr (.inr ⟨e1,e2,?_⟩)
       rw [if_neg e1,if_neg e2]
       simp only [cy]
       cases cF v <;> rfl) with ⟨e1,e⟩ | ⟨e1,e2,e⟩ | ⟨e1,e2,e⟩
 · rw [e]
   refine calls [(0,_),(1,_)] Tryz.func220 rfl Tryz.ntmps220 rfl ⟨rfl,rfl,trivial⟩ ?_
   refine WC.sr ?_;refine WL.al (aI rfl) rfl rfl rfl ?_
   rintro _ h1 ⟨b3,rfl,b0,aT,aB⟩
   refine Go ?_;refine G3 ?_;refine WL.ld rfl (by first | exact ab aT rfl | assumption) rfl rfl rfl ?_
   refine Gn ?_;refine Gs [(0,_),(3,_),(8,_)] ?_;refine WC.block ?_;refine G2 ?_
   refine aJ 1 2 ?_ TT.mk
   aa (refine ay 1 ?_)
   refine WC.sr ?_;refine WL.call (vs:=[_]) rfl Tryz.call207 rfl (iz 73) rfl rfl rfl ?_
   rintro _ h6 ⟨q,rfl,Es,Jl,aP⟩
   refine Go ?_;refine Gs [(4,_),(5,_)] ?_;refine Gt ?_
   exact ⟨_,[lJ 73 0 []],(fun e=>absurd rfl e),rfl,.tag Es (by have:=aB.size;omega),rfl,_,_,fun _ h=>h,fun _ h=>h,(k.av aB).av aP,rfl,rfl,Tn.no (aB.trans aP)⟩
 · rw [e]
   refine calls [(0,_),(1,_)] Tryz.func220 rfl Tryz.ntmps220 rfl ⟨rfl,rfl,trivial⟩ ?_
   refine WC.sr ?_;refine WL.al (aI rfl) rfl rfl rfl ?_
   rintro _ h1 ⟨b3,rfl,b0,aT,aB⟩
   refine Go ?_;refine G3 ?_;refine WL.ld rfl (by first | exact ab aT rfl | assumption) rfl rfl rfl ?_
   refine Gn ?_;refine Gs [(0,_),(3,_),(8,_)] ?_;refine WC.block ?_;refine G2 ?_
   refine aJ 1 2 ?_ TT.mk
   aa (refine ay 2 ?_)
   refine G2 ?_;refine Gs [(0,_),(3,_),(12,_)] ?_
   refine aJ 3 4 ?_ TT.mk
   aa (refine ay 3 ?_)
   refine G2 ?_;refine WL.ld rfl (by first | exact ab aT rfl | assumption) rfl rfl rfl ?_
   refine WL.call (vs:=[_,_]) rfl Tryz.call204 rfl (iA _ _) rfl rfl rfl ?_
   rintro _ hq ⟨rfl,hz⟩
   replace hz:=hz.symm
   subst hz
   refine Go ?_;refine Gs [(4,_),(5,_)] ?_;refine Gt ?_
   exact ⟨_,[],fun _=>rfl,rfl,cH.nil _ _,rfl,_,_,fun _ h=>h,fun _ h=>h,k.av aB,rfl,rfl,Tn.no aB⟩
 · rw [e]
   clear e
   cases hex:cF v
   aa
     rw [hex] at ke
     refine calls [(0,_),(1,_)] Tryz.func220 rfl Tryz.ntmps220 rfl ⟨rfl,rfl,trivial⟩ ?_
     aa (refine WC.sr ?_;refine WL.al (aI rfl) rfl rfl rfl ?_;rintro _ h1 ⟨b3,rfl,b0,aT,aB⟩;have k1:=k.av aB;have hb:=k1.se.bB;(have n3:¬ b3=A.bs:=by omega);refine Go ?_;refine G3 ?_;refine WL.ld rfl (by first | exact ab aT rfl | assumption) rfl rfl rfl ?_;refine Gn ?_;refine Gs [(0,_),(3,_),(8,_)] ?_;refine WC.block ?_;refine G2 ?_;refine aJ 1 2 ?_ TT.mk;refine ay 2 ?_;refine G2 ?_;refine Gs [(0,_),(3,_),(12,_)] ?_;refine aJ 3 4 ?_ TT.mk;refine ay 4 ?_;refine WC.skip ?_;refine Gn ?_;refine G2 ?_;refine WC.seq ?_;refine WC.cg (fun h'=>Ext (fun q=>q=A.bs) h1 h') 14 14 rfl dB ?_;refine WH.tk 0 rfl (fun hq hC=>an rfl) rfl rfl rfl ?_;refine WH.tk 1 rfl (fun hq hC=>an rfl) rfl rfl rfl ?_;refine WH.tk 2 rfl (fun hq hC=>ah rfl) rfl rfl rfl ?_;refine WH.tk 3 rfl (fun hq hC=>ag rfl Tryz.underlying153 rfl Tryz.sizeOf5) rfl rfl rfl ?_;refine WH.tk 5 rfl (fun hq hC=>aA Tryz.isAgg278 Tryz.sizeOf278 rfl rfl (by exact (At.ax aT).ext hC n3)) rfl rfl rfl ?_;refine WH.one 4 (by kernel_rfl) ?_;refine aE.run rfl (bW.r (aC Tryz.isAgg5 rfl (by first | exact ab hb rfl | assumption))) rfl rfl rfl ?_ (fun _=>by kernel_rfl);rintro _ hz ⟨rfl,_⟩;subst hz;refine ⟨fun _=>.refl _ _,?_⟩;refine WH.one 6 (by kernel_rfl) ?_;refine aE.call (vs:=[_,_]) rfl rfl Tryz.call264 rfl (kn _) rfl rfl rfl ?_ (fun _=>by kernel_rfl);rintro _ h2 ⟨rfl,aK⟩;refine ⟨fun _=>aK.mono fun _ _ e=>e.elim,?_⟩;(have Qk:Ext (fun q=>q=A.bs) h1 h2:=aK.mono fun _ _ e=>e.elim);have NY:=aK.obj hb aQ;refine WH.tk 7 rfl (fun hq hC=>an rfl) rfl rfl rfl ?_;refine WH.tk 8 rfl (fun hq hC=>bY rfl rfl) rfl rfl rfl ?_;refine WH.tk 9 rfl (fun hq hC=>bY rfl rfl) rfl rfl rfl ?_;refine WH.tk 10 rfl (fun hq hC=>ah rfl) rfl rfl rfl ?_;refine WH.tk 11 rfl (fun hq hC=>ag rfl Tryz.underlying153 rfl Tryz.sizeOf5) rfl rfl rfl ?_;refine WH.one 12 (by kernel_rfl) ?_;refine aE.cY rfl (aD Tryz.sizeOf5 rfl rfl NY (Nat.le_of_ble_eq_true rfl) rfl rfl) rfl rfl ?_ (fun _=>by kernel_rfl);rintro _ h3 ⟨bC,aS⟩;refine ⟨fun _=>Qk.trans aS,?_⟩;have Kv:=Qk.trans aS;obtain ⟨k3,t3⟩:=(k1.av aK).jU aS bC (tB k.r9 v);have T3:=(Tn.no (A:=A) (P:=P) (aB.trans aK)).trans t3;refine WH.tk 13 rfl (fun hq hC=>aR rfl) rfl rfl rfl ?_;refine WH.done (by kernel_rfl) ?_;refine Gn ?_;refine Gs [(0,_),(3,_),(6,_)] ?_;refine WC.seq ?_;refine WC.sr ?_;refine WL.step (aA Tryz.isAgg278 Tryz.sizeOf278 rfl rfl (by exact (At.ax aT).ext Kv n3)) rfl rfl rfl ?_;refine WL.call (vs:=[_]) rfl Tryz.call265 rfl (ke _) rfl rfl rfl ?_;rintro _ h4 ⟨rfl,bh⟩;have k4:=k3.av bh;have T4:=T3.trans (Tn.no (A:=A) (P:=P) bh))
     aa (refine Gn ?_;refine aJ 5 6 ?_ TT.mk)
     aa try (
     refine ay 5 ?_
     aa (refine WC.region (Go ?_);refine WL.step (ah rfl) rfl rfl rfl (Go ?_);refine WL.ld rfl (by first | exact ab k4.se.bB rfl | assumption) rfl rfl rfl ?_;refine WL.call (vs:=[_]) rfl Tryz.call145 rfl (rq k4) rfl rfl rfl ?_;rintro _ h5 ⟨rfl,k5,t5,aO⟩;have T5:=T4.trans t5;refine Gn ?_)
     skip)
     aa try (
     refine ay 6 ?_
     aa (refine WC.skip ?_)
     skip)
     aa (refine Gn ?_;refine Gs [(6,_)] ?_;refine G2 ?_;refine WL.step (aH (vs:=[_,_]) (cs:=[_,_,_,_,_,_,_,_,_,_,_]) (fun | [a0,a2]=>[a0,(.int .u8 0),a2,(St []),(St []),(.int .i64 0),(.int .i64 0),(.slice none 0 0),(.slice none 0 0),(.slice none 0 0),(.slice none 0 0)] | _=>[]) rfl rfl (by kernel_rfl)) rfl rfl rfl ?_;refine WL.al (aw (vs:=[_]) (cs:=[_,_,_,_,_,_,_,_,_,_,_]) (fun | [.agg ⟨[a0,a1,a2,a3,a4,a5,a6,a7,a8,a9,iy]⟩]=>[a0,a1,a2,a3,a4,a5,a6,a7,a8,a9,iy] | _=>[]) Tryz.underlying80 rfl rfl (by kernel_rfl)) rfl rfl rfl ?_;rintro _ h6 ⟨b6,rfl,r5,cj,aP⟩;refine Go ?_;refine Gs [(4,_),(5,_)] ?_;refine Gt ?_)
     aa (
      first
       | exact tM k4 T4 aP cj r5 rfl (fun _ h=>h)
       | exact tM k5 T5 aP cj r5 rfl (fun _ h=>nomatch h))
theorem HZ (k:Ss h A st sk ov aY L P) (f:Fm) (hf:f.ok h):ai Tryz.prog 150 ⟨[.pointer (some ⟨A.bs,0,none⟩),.agg ⟨f.cells⟩]⟩ h (cx h A P (hH (cy st sk ov aY L P) f.p)):=by
 have Mt:=fun (e:f.what=83)=>show hH (cy st sk ov aY L P) f.p=_ from if_pos e
 have NU:=fun (e:¬ f.what=83)=>show hH (cy st sk ov aY L P) f.p=_ from if_neg e
 obtain ⟨⟨e1,_⟩,⟨e2,_⟩,⟨e3,_⟩,e4,_⟩:=hf
 obtain ⟨fk,w,n,p,t,vo,o,vf,fs,vs,rs,vp,ps,mx⟩:=f
 dsimp only at e1 e2 e3 e4
 obtain ⟨A1,c1,rfl,_⟩:=e1
 obtain ⟨_,_,rfl,_⟩:=e2
 obtain ⟨_,_,rfl,_⟩:=e3
 obtain ⟨A4,c4,rfl,_⟩:=e4
 by_cases hw:w=83
 · rw [Mt hw]
   dsimp only [Fm.cells,Fm.p]
   refine calls [(0,_),(1,_)] Tryz.func150 rfl Tryz.ntmps150 rfl ⟨rfl,rfl,trivial⟩ ?_
   refine WC.sr ?_;refine WL.al (aI rfl) rfl rfl rfl ?_
   rintro _ h1 ⟨b3,rfl,b0,aT,aB⟩
   have k1:=k.av aB
   have hb:=k1.se.bB
   have DV:=k1.se.ka
   refine Go ?_;refine G3 ?_;refine WL.ld rfl (by first | exact ab aT rfl | assumption) rfl rfl rfl (Go ?_)
   refine Gs [(0,_),(3,_),(8,_)] ?_
   refine aJ 1 2 ?_ TT.mk
   aa (refine ay 1 ?_)
   refine WC.jO 6 dB (by kernel_rfl) ?_
   show WS _ _ _ [_,_,_,_,_,_] _ _ _
   refine WS.step (an rfl) rfl rfl rfl ?_;refine WS.step (ah rfl) rfl rfl rfl ?_;refine WS.step (ag rfl Tryz.underlying153 rfl Tryz.sizeOf149) rfl rfl rfl ?_;refine WS.step (aC Tryz.isAgg149 rfl (by first | exact ab hb rfl | assumption)) rfl rfl rfl ?_
   refine WS.step (ag rfl Tryz.underlying42 rfl Tryz.sizeOf9) rfl rfl rfl ?_;refine WS.step (aC Tryz.isAgg9 rfl (by first | exact ab aT rfl | assumption)) rfl rfl rfl ?_
   refine WS.nil ?_
   show WL _ _ _ [_] _ _ _
   refine WL.az (fG rfl fR Tryz.underlying149 Tryz.underlying9 rfl rfl DV) rfl rfl ?_
   rintro _ h2 ⟨pZ,aK⟩
   rw [eS] at pZ
   obtain ⟨k2,t2⟩:=k1.oh aK pZ (fun q hq=>.inl (cJ hq).1)
   have T2:=(Tn.no (A:=A) (P:=P) aB).trans t2
   refine WL.nil ?_;refine Gn ?_;refine WC.sr ?_;refine WL.call (vs:=[_]) rfl Tryz.call207 rfl (iz 51) rfl rfl rfl ?_
   rintro _ h6 ⟨q,rfl,Es,Jl,aP⟩
   refine Go ?_;refine Gs [(4,_),(5,_)] ?_;refine Gt ?_
   exact ⟨_,[lJ 51 0 []],(fun e=>absurd rfl e),rfl,.tag Es (by have:=T2.1.size;omega),rfl,_,_,k2.av aP,lv _ _,rfl,T2.trans (Tn.no aP)⟩
 · rw [NU hw]
   dsimp only [Fm.cells,Fm.p]
   rcases hg:bQ P p with _ | i
   · have jI:dg (fq xa P) p=none:=by rw [cW,hg];rfl
     have NZ:ct P p=P:=List.filter_eq_self.2 fun q hq=>by simpa using nu hg q hq
     have kd:=fun (g:aj) (k:Ss g A st sk ov aY L P)=>AQ p k.se.pb k.se.pm jI
     refine calls [(0,_),(1,_)] Tryz.func150 rfl Tryz.ntmps150 rfl ⟨rfl,rfl,trivial⟩ ?_
     refine WC.sr ?_;refine WL.al (aI rfl) rfl rfl rfl ?_
     rintro _ h1 ⟨b3,rfl,b0,aT,aB⟩
     have k1:=k.av aB
     have hb:=k1.se.bB
     refine Go ?_;refine G3 ?_;refine WL.ld rfl (by first | exact ab aT rfl | assumption) rfl rfl rfl (Go ?_)
     refine Gs [(0,_),(3,_),(8,_)] ?_
     refine aJ 1 2 ?_ TT.mk
     aa (refine ay 2 ?_)
     refine WC.jO 6 dB (by kernel_rfl) ?_
     show WS _ _ _ [_,_,_,_,_,_] _ _ _
     refine WS.step (an rfl) rfl rfl rfl ?_;refine WS.step (ah rfl) rfl rfl rfl ?_;refine WS.step (ag rfl Tryz.underlying153 rfl Tryz.sizeOf150) rfl rfl rfl ?_;refine WS.step (aC Tryz.isAgg150 rfl (by first | exact ab hb rfl | assumption)) rfl rfl rfl ?_
     refine WS.step (ag rfl Tryz.underlying42 rfl Tryz.sizeOf9) rfl rfl rfl ?_;refine WS.step (aC Tryz.isAgg9 rfl (by first | exact ab aT rfl | assumption)) rfl rfl rfl ?_
     refine WS.nil ?_
     show WL _ _ _ [_] _ _ _
     refine WL.call (vs:=[_,_]) rfl Tryz.call221 rfl (kd _ k1) rfl rfl rfl ?_
     rintro _ hq ⟨rfl,hz⟩
     replace hz:=hz.symm
     subst hz
     refine WL.nil ?_;refine Gn ?_;refine WC.sr ?_;refine WL.call (vs:=[_]) rfl Tryz.call207 rfl (iz 51) rfl rfl rfl ?_
     rintro _ h6 ⟨q,rfl,Es,Jl,aP⟩
     refine Go ?_;refine Gs [(4,_),(5,_)] ?_;refine Gt ?_
     exact ⟨_,[lJ 51 0 []],(fun e=>absurd rfl e),rfl,.tag Es (by have:=aB.size;omega),rfl,_,_,k1.av aP,rfl,(congrArg gi NZ).symm.trans (ny _ _),Tn.no (aB.trans aP)⟩
   · have kd:=fun (g:aj) (k:Ss g A st sk ov aY L P)=>FW (k.pe hg)
     refine calls [(0,_),(1,_)] Tryz.func150 rfl Tryz.ntmps150 rfl ⟨rfl,rfl,trivial⟩ ?_
     refine WC.sr ?_;refine WL.al (aI rfl) rfl rfl rfl ?_
     rintro _ h1 ⟨b3,rfl,b0,aT,aB⟩
     have k1:=k.av aB
     have hb:=k1.se.bB
     refine Go ?_;refine G3 ?_;refine WL.ld rfl (by first | exact ab aT rfl | assumption) rfl rfl rfl (Go ?_)
     refine Gs [(0,_),(3,_),(8,_)] ?_
     refine aJ 1 2 ?_ TT.mk
     aa (refine ay 2 ?_)
     refine WC.jO 6 dB (by kernel_rfl) ?_
     show WS _ _ _ [_,_,_,_,_,_] _ _ _
     refine WS.step (an rfl) rfl rfl rfl ?_;refine WS.step (ah rfl) rfl rfl rfl ?_;refine WS.step (ag rfl Tryz.underlying153 rfl Tryz.sizeOf150) rfl rfl rfl ?_;refine WS.step (aC Tryz.isAgg150 rfl (by first | exact ab hb rfl | assumption)) rfl rfl rfl ?_
     refine WS.step (ag rfl Tryz.underlying42 rfl Tryz.sizeOf9) rfl rfl rfl ?_;refine WS.step (aC Tryz.isAgg9 rfl (by first | exact ab aT rfl | assumption)) rfl rfl rfl ?_
     refine WS.nil ?_
     show WL _ _ _ [_] _ _ _
     refine WL.call (vs:=[_,_]) rfl Tryz.call221 rfl (kd _ k1) rfl rfl rfl ?_
     rintro _ h2 ⟨rfl,pZ,aK⟩
     rw [eS] at pZ
     obtain ⟨k2,t2⟩:=k1.cO aK pZ (fun q hq=>(cJ hq).1)
     have T2:=(Tn.no (A:=A) (P:=P) aB).trans t2
     refine WL.nil ?_;refine Gn ?_;refine WC.sr ?_;refine WL.call (vs:=[_]) rfl Tryz.call207 rfl (iz 51) rfl rfl rfl ?_
     rintro _ h6 ⟨q,rfl,Es,Jl,aP⟩
     refine Go ?_;refine Gs [(4,_),(5,_)] ?_;refine Gt ?_
     exact ⟨_,[lJ 51 0 []],(fun e=>absurd rfl e),rfl,.tag Es (by have:=T2.1.size;omega),rfl,_,_,k2.av aP,rfl,ny _ _,T2.trans (Tn.no aP)⟩
theorem tN (k:Ss h A st sk ov aY L P):ai Tryz.prog 100 ⟨[.pointer (some ⟨A.bs,0,none⟩)]⟩ h fun u h'=>u=.agg ⟨HL 90 st []⟩∧Ss h' A st sk ov aY L (if st=73 then [] else P)∧Tn A P h h' (if st=73 then [] else P)∧Ext (fun q=>q=A.mp) h h':=by
 have hb:=k.se.bB
 by_cases e:st=73
 · rw [if_pos e]
   refine calls [(0,_)] Tryz.func100 rfl Tryz.ntmps100 rfl ⟨rfl,trivial⟩ ?_
   refine WC.sr ?_;refine WL.al (au (fun w=>Tryz.zeroValue140 w)) rfl rfl rfl ?_
   rintro _ h1 ⟨b2,rfl,b0,bR,aB⟩
   have k1:=k.av aB
   have l2:=ak bR
   refine Gn ?_;refine G3 ?_;refine WL.step (ah rfl) rfl rfl rfl (Go ?_);refine WL.ld rfl (by first | exact ab k1.se.bB rfl | assumption) rfl rfl rfl (Go ?_)
   refine Gs [(0,_),(2,_),(7,_)] ?_
   refine aJ 1 2 ?_ TT.mk
   aa (refine ay 1 ?_)
   refine WC.region (Go ?_);refine WL.step (ah rfl) rfl rfl rfl (Go ?_);refine WL.ld rfl (by first | exact ab k1.se.bB rfl | assumption) rfl rfl rfl ?_
   refine WL.call (vs:=[_]) rfl Tryz.call145 rfl (rq k1) rfl rfl rfl ?_
   rintro _ h2 ⟨rfl,k2,t2,aK⟩
   have KR:=t2.1.obj bR (k1.not bR (by decide) (by decide) (by decide))
   refine Gn ?_;refine Gn ?_;refine G2 ?_;refine WL.step (ah rfl) rfl rfl rfl (Go ?_);refine WL.ld rfl (by first | exact ab k2.se.bB rfl | assumption) rfl rfl rfl ?_
   refine WL.step (aH (vs:=[_,_]) (cs:=[_,_,_,_,_,_,_,_,_,_,_]) (fun | [a0,a1]=>[a0,a1,(St []),(St []),(St []),(.int .i64 0),(.int .i64 0),(.slice none 0 0),(.slice none 0 0),(.slice none 0 0),(.slice none 0 0)] | _=>[]) rfl rfl (by kernel_rfl)) rfl rfl rfl ?_
   refine WL.az (aq Tryz.sizeOf140 rfl rfl rfl KR rfl (by simp [Value.oneCell'])) rfl rfl ?_
   rintro _ h3 ⟨bC,aS⟩
   refine Gn ?_;refine Gs [(2,_)] ?_;refine WC.ret ?_
   repeat' (ae first | refine bq ?_ | refine ba ?_)
   refine cA _ ⟨⟨_,rfl,bJ Tryz.isAgg140 Tryz.sizeOf140 bC rfl⟩,trivial⟩ ?_
   have X3:Ext (fun q=>q=A.mp) h h3:=((aB.mono fun _ _ e=>e.elim).trans aK).trans' aS (fun q hq e=>by omega)
   have kk:=k.cO (P':=[]) X3 (k2.se.pm.ext aS (fun e=>eE k2.se.pm KR e.symm)) (fun q hq=>nomatch hq)
   exact ⟨rfl,kk.1,kk.2,X3⟩
 · rw [if_neg e]
   refine calls [(0,_)] Tryz.func100 rfl Tryz.ntmps100 rfl ⟨rfl,trivial⟩ ?_
   refine WC.sr ?_;refine WL.al (au (fun w=>Tryz.zeroValue140 w)) rfl rfl rfl ?_
   rintro _ h1 ⟨b2,rfl,b0,bR,aB⟩
   have k1:=k.av aB
   refine Gn ?_;refine G3 ?_;refine WL.step (ah rfl) rfl rfl rfl (Go ?_);refine WL.ld rfl (by first | exact ab k1.se.bB rfl | assumption) rfl rfl rfl (Go ?_)
   refine Gs [(0,_),(2,_),(7,_)] ?_
   refine aJ 1 2 ?_ TT.mk
   aa (refine ay 2 ?_)
   refine WC.skip ?_;refine Gn ?_;refine G2 ?_;refine WL.step (ah rfl) rfl rfl rfl (Go ?_);refine WL.ld rfl (by first | exact ab k1.se.bB rfl | assumption) rfl rfl rfl ?_
   refine WL.step (aH (vs:=[_,_]) (cs:=[_,_,_,_,_,_,_,_,_,_,_]) (fun | [a0,a1]=>[a0,a1,(St []),(St []),(St []),(.int .i64 0),(.int .i64 0),(.slice none 0 0),(.slice none 0 0),(.slice none 0 0),(.slice none 0 0)] | _=>[]) rfl rfl (by kernel_rfl)) rfl rfl rfl ?_
   refine WL.az (aq Tryz.sizeOf140 rfl rfl rfl bR rfl (by simp [Value.oneCell'])) rfl rfl ?_
   rintro _ h3 ⟨bC,aS⟩
   refine Gn ?_;refine Gs [(2,_)] ?_;refine WC.ret ?_
   repeat' (ae first | refine bq ?_ | refine ba ?_)
   refine cA _ ⟨⟨_,rfl,bJ Tryz.isAgg140 Tryz.sizeOf140 bC rfl⟩,trivial⟩ ?_
   have X3:Ext No h h3:=aB.trans' aS (fun q hq e=>by omega)
   exact ⟨rfl,k.av X3,Tn.no X3,X3.mono fun _ _ e=>e.elim⟩
theorem Ev (k:Ss h A st sk ov aY L P):ai Tryz.prog 100 ⟨[.pointer (some ⟨A.bs,0,none⟩)]⟩ h fun u h'=>u=.agg ⟨HL 90 st []⟩∧Sv h A P h' (eF (cy st sk ov aY L P)).1∧Ext (fun q=>q=A.mp) h h' :=
 (tN k).mono fun u h' ⟨e,kk,tt,x⟩=>⟨e,⟨L,_,kk,rfl,by by_cases e:st=73 <;> simp [eF,cy,e,gi],tt⟩,x⟩
end
end Go.Proofs.YtopgddfgefnmbaaGreatDoor
namespace Go.RK
open Go
section
variable {P:Program} {f:Fr} {h:aj} {d:Option Tmp} {ty:TypeId} {pos:String} {af:Array Edge} {g:Option (Nat × Bool)}
theorem tP {k:FuncId} {x y:Operand} {a b:Value} {ts:Array TypeId} {R:Value→aj→Prop} (hc:∀ w:World,w.heap=h→∃ u w',eY w w'∧R u w'.heap∧(callFunc k #[a,b]).run P w=.ok (.value u) w') (hx:f.ev x=some a) (hy:f.ev y=some b) :
   fa P f ⟨d,.call { callee:=.value (.func k),args:=#[x,y],argTypes:=ts },ty,pos,af,g⟩ h R :=
 fun ρ w ha hw=>by
   have e:ρ (.func k)=.func (.func k) #[] #[]:=ha _ _ rfl
   obtain ⟨u,w',hs,hR,hr⟩:=hc w hw
   exact ⟨u,w',hs,hR,.inl (by simp [execOp,resolve,Deferred.ofValue,invoke,e,ha _ _ hx,ha _ _ hy,hr])⟩
theorem vH {w:World} {b o:Nat} {cs:List Value} {e:TypeId} {n m:Int} (hb:w.heap[b]?=some (.cells ⟨cs⟩ e (0,0))) (ho:cs[o]?=some (In n)) (h0 : -9223372036854775808≤n+m) (h1:n+m≤9223372036854775807) :
   ∃ w',(Extern.Atomic.update (Op.intArith .add) .i64 true #[.pointer (some ⟨b,o,Option.none⟩),In m]).run P w=.ok (In (n+m)) w'∧eY w w'∧w'.heap=w.heap.setIfInBounds b (.cells ⟨cs.set o (In (n+m))⟩ e (0,0)):=by
 have eH:o < cs.length:=(List.getElem?_eq_some_iff.1 ho).1
 obtain ⟨w',hr,hs,hh⟩:=fj (P:=P) (v:=In (n+m)) hb (o:=o) (by simpa using eH) rfl
 have hc:w.cell? ⟨b,o,Option.none⟩=some (In n):=by
   simp only [World.cell?,hb]
   simpa using ho
 have rX:(store ⟨b,o,Option.none⟩ (In (n+m)) .atomic).run P w=.ok () w':=by
   rw [run_store P w _ _ _ rfl] at hr ⊢
   simp only [hc] at hr ⊢
   exact hr
 refine ⟨w',?_,hs,by rw [hh];simp⟩
 have hl:(load ⟨b,o,Option.none⟩ .atomic).run P w=.ok (In n) w:=by
   unfold load
   simp [Sem.run,hc]
 have hw:IntKind.i64.wrap (n+m)=n+m:=by
   simp [IntKind.wrap,IntKind.bits,IntKind.signed]
   omega
 have xT:(Extern.Atomic.read (.int .i64) ⟨b,o,Option.none⟩).run P w=.ok (In n) w:=by
   simp only [Extern.Atomic.read,Sem.run_bind,hl,Result.andThen]
   rfl
 have hu:Extern.Atomic.update (Op.intArith .add) .i64 true #[.pointer (some ⟨b,o,Option.none⟩),In m]=(do
   let a ← asAddr (.pointer (some ⟨b,o,Option.none⟩))
   let Sh ← Extern.Atomic.read (.int .i64) a
   let new ← Op.intArith .add .i64 (← asInt Sh) (← asInt (In m))
   store a new .atomic
   pure new):=rfl
 rw [hu]
 have hi:∀ (q:Int) (w:World),(asIntOf (In q)).run P w=.ok (IntKind.i64,q) w:=fun _ _=>rfl
 simp [asAddr,asInt,hi,xT,Op.intArith,rX,hw,Result.andThen]
end
end Go.RK
namespace Go.Proofs.YtopgddfgefnmbaaGreatDoor
open Go Go.RK
theorem Ew {h:aj} {v:Value} (l:List bj) (hc:cN h v l) :
   ai Tryz.prog 260 ⟨[v]⟩ h fun u h'=>∃ l',cN h' u l'∧l'.map bj.pl=l.map bj.pl∧Ext No h h'∧∀ b,dG u l' b→h.size≤b:=by
 obtain ⟨hr,⟨lg,A,c,rfl,fS⟩,dJ⟩:=hc
 have AL:=lg
 unfold reachBytes at AL
 have h1:=sZ dJ
 by_cases h0:l=[]
 · subst h0
   refine calls [(0,_)] Tryz.func260 rfl Tryz.ntmps260 rfl ⟨rfl,trivial⟩ ?_
   refine G2 ?_;refine G2 ?_;refine WL.call (vs:=[_]) rfl Tryz.call294 rfl (gz hr h1 lg) rfl rfl rfl ?_
   rintro v2 h2 ⟨dv,aK,fg⟩
   obtain ⟨A2,c2,rfl,lI⟩:=dv.GS
   refine Go ?_;refine Gs [(3,_)] ?_;refine G3 ?_;refine WC.block ?_;refine WC.bO (X:=Unit) (fun x=>([(9,In (0:Int))]:Fr)) [(3,_),(8,_)] (fun _ h'=>h'=h2) (fun _=>0) (()) ⟨rfl,rfl,rfl,trivial⟩ (by exact rfl) ?_
   rintro _ h9 hz
   subst h9
   refine WC.sub [(9,_),(3,_),(8,_)] ⟨rfl,rfl,rfl,trivial⟩ ?_;refine G2 ?_;refine WC.seq ?_
   refine aJ 1 2 ?_ TT.mk
   aa (refine ay 2 ?_)
   refine WC.exit ?_
   repeat' (ae first | refine aZ ?_ | refine aF rfl ?_ | refine aL ?_ | refine aN ?_ | refine aV ?_)
   refine Br.out (i:=1000) ?_;refine Gn ?_;refine Br.ad ?_;refine Br.ad ?_;refine Br.ad ?_;refine Go ?_;refine Br.ad ?_;refine Go ?_;refine Br.ad ?_;refine Go ?_;refine Br.ad ?_;refine Br.ad ?_;refine Br.ad ?_;refine Go ?_;refine Br.ad ?_;refine Gn ?_;refine Br.ad ?_;refine Br.ad ?_;refine Go ?_;refine Br.ad ?_
   try (refine Br.mk (i:=1000) ?_)
   refine Gn ?_;refine G2 ?_;refine Gs [(2,_)] ?_;refine Gt ?_
   exact ⟨[],⟨dv.rd,⟨by simp,_,_,rfl,lI⟩,by simp⟩,rfl,aK,by rintro b (⟨e,_⟩ | ⟨_,e,_⟩);(simp at e);(simp at e)⟩
 · have si:0 < l.length:=List.length_pos_iff.2 h0
   refine calls [(0,_)] Tryz.func260 rfl Tryz.ntmps260 rfl ⟨rfl,trivial⟩ ?_
   refine G2 ?_;refine G2 ?_;refine WL.call (vs:=[_]) rfl Tryz.call294 rfl (gz hr h1 lg) rfl rfl rfl ?_
   rintro v2 h2 ⟨dv,aK,fg⟩
   obtain ⟨b1,c1,cs,rfl,aT,G9,rZ,pD,Dg⟩:=dv.block si
   have mY:=ak aT
   have b0:=fg b1 rfl
   have J5:qW h2 h2 b1 l 0 []:=⟨Nat.zero_le _,rfl,rfl,⟨cs.drop (l.length * 2),by rw [List.nil_append,List.drop_zero,← Dg,List.take_append_drop];exact aT⟩,by simp,.refl _ _⟩
   refine Go ?_;refine Gs [(3,_)] ?_;refine G3 ?_;refine WC.block ?_;refine WC.bO (X:=Nat × List bj) (fun x=>([(9,In (x.1:Int))]:Fr)) [(3,_),(8,_)] (fun x h'=>qW h2 h' b1 l x.1 x.2) (fun x=>l.length - x.1) ((0,[])) ⟨rfl,rfl,rfl,trivial⟩ (by exact J5) ?_
   rintro ⟨k,out⟩ h3 ri
   simp only at ri
   have hk:=ri.le
   refine WC.sub [(9,_),(3,_),(8,_)] ⟨rfl,rfl,rfl,trivial⟩ ?_
   dsimp only
   refine G2 ?_;refine WC.seq ?_
   refine aJ 1 2 (Hb.mk fun hb=>?_) (Hb.mk fun hb=>?_)
   aa try (
   refine ay 1 ?_
   refine WC.skip ?_
   skip)
   aa try (
   refine ay 2 ?_
   refine WC.exit ?_
   repeat' (ae first | refine aZ ?_ | refine aF rfl ?_ | refine aL ?_ | refine aN ?_ | refine aV ?_)
   refine Br.out (i:=1000) ?_
   skip)
   aa (refine Gn ?_;first | refine Br.ad ?_ | refine WC.seq ?_)
   aa (first | refine Br.ad ?_ | refine WC.block ?_)
   aa (first | refine Br.ad ?_ | refine WC.sr ?_)
   aa (refine Go ?_)
   aa (
    first
      | (refine Br.ad ?_)
      | (obtain ⟨⟨n1,v1,s1⟩,fH⟩:∃ y,l[k]?=some y:=⟨_,List.getElem?_eq_getElem (by omega)⟩
         have u0:=ri.ext
         obtain ⟨spare,j9⟩:=ri.bB
         obtain ⟨sO,zt⟩:=dJ _ (List.mem_of_getElem? fH)
         simp only at sO zt
         obtain ⟨A1,k1,rfl,_⟩:=id sO
         have E3:Ext No h h3:=aK.trans' u0 (fun b hb e=>by omega)
         have J6:At h3 b1 (0+k * 2) [.bool n1,.slice A1 s1.length k1]:=At.elem (xs:=out++l.drop k) bj.len ((At.ax j9).pre) (qV fH ri.len)))
   aa (first | refine Br.ad ?_ | refine WC.region ?_)
   aa (refine Go ?_;first | refine Br.ad ?_ | (refine WL.step (aG Tryz.underlying40 Tryz.sizeOf85 rfl rfl rfl (by omega) (by first | rfl | assumption)) rfl rfl rfl ?_))
   aa (refine Go ?_;first | refine Br.ad ?_ | (refine WL.ld rfl (by first | exact J6.get 1 rfl rfl | assumption) rfl rfl rfl ?_))
   aa (
    first
      | (refine Br.ad ?_)
      | (refine WL.call (vs:=[_]) rfl Tryz.call74 rfl (mO s1 (sO.av E3) zt) rfl rfl rfl ?_
         rintro v6 h6 ⟨gT,aP,jg⟩))
   aa (first | refine Br.ad ?_ | obtain ⟨A6,c6,rfl,_⟩:=gT.slice)
   aa (first | refine Br.ad ?_ | (refine WL.step (aG Tryz.underlying40 Tryz.sizeOf85 rfl rfl rfl (by omega) (by first | rfl | assumption)) rfl rfl rfl ?_))
   aa (refine Go ?_)
   aa (
    first
      | (refine Br.ad ?_)
      | (refine WL.az (aD Tryz.sizeOf23 rfl rfl (aP.obj j9 aQ) (by simp [cT bj.len,ri.len];omega) rfl rfl) rfl rfl ?_
         rintro _ h7 ⟨cq,bu⟩))
   aa (refine Gn ?_;first | refine Br.ad ?_ | refine Gs [(3,_),(8,_),(9,_)] ?_)
   aa (first | refine Br.ad ?_ | refine WC.region ?_)
   aa (refine Go ?_;first | refine Br.ad ?_ | (exact ⟨(k+1,out++[_]),⟨rfl,rfl,rfl,trivial⟩,(by exact ri.next fH aP gT jg (fun sp e=>by rw [aP.obj j9 aQ] at e;simp only [Option.some.injEq,Obj.cells.injEq,Array.mk.injEq] at e;obtain rfl:=List.append_cancel_left e.1;rfl) cq bu mY zt),(by simp;omega)⟩))
   try (refine Br.mk (i:=1000) ?_)
   refine Gn ?_;refine G2 ?_;refine Gs [(2,_)] ?_;refine Gt ?_
   obtain rfl:k=l.length:=by omega
   exact ri.done aK b0 mY G9 rZ lg
theorem H0 {h:aj} {b o:Nat} {cs:List Value} {e:TypeId} {n m:Int} (hb:h[b]?=some (.cells ⟨cs⟩ e (0,0))) (ho:cs[o]?=some (In n)) (h0 : -9223372036854775808≤n+m) (h1:n+m≤9223372036854775807) (w:World) (hw:w.heap=h) :
   ∃ u w',eY w w'∧(u=In (n+m)∧w'.heap[b]?=some (.cells ⟨cs.set o (In (n+m))⟩ e (0,0))∧Ext (fun q=>q=b) h w'.heap)∧(callFunc 312 #[.pointer (some ⟨b,o,none⟩),In m]).run Tryz.prog w=.ok (.value u) w':=by
 subst hw
 obtain ⟨w',hr,hs,hh⟩:=vH (P:=Tryz.prog) hb ho h0 h1
 refine ⟨_,w',hs,⟨rfl,by rw [hh];exact dQ hb,by rw [hh];exact .set _ _ _ rfl⟩,?_⟩
 rw [run_callFunc_extern (P:=Tryz.prog) (fn:=Tryz.f312) (e:=Extern.Atomic.update (Op.intArith .add) .i64 true) (by kernel_rfl) (by kernel_rfl) rfl (by kernel_rfl) (by kernel_rfl)]
 simp [hr]
theorem KS {h:aj} {b o:Nat} {cs:List Value} {e:TypeId} {n m:Int} (hb:h[b]?=some (.cells ⟨cs⟩ e (0,0))) (ho:cs[o]?=some (In n)) (h0 : -9223372036854775808≤n+m) (h1:n+m≤9223372036854775807) :
   ai Tryz.prog 295 ⟨[.pointer (some ⟨b,o,none⟩),In m]⟩ h fun u h'=>u=In (n+m)∧h'[b]?=some (.cells ⟨cs.set o (In (n+m))⟩ e (0,0))∧Ext (fun q=>q=b) h h':=by
 refine calls [(0,_),(1,_)] Tryz.func295 rfl Tryz.ntmps295 rfl ⟨rfl,rfl,trivial⟩ ?_
 refine G2 ?_;refine G2 ?_;refine WL.step (ah rfl) rfl rfl rfl (Go ?_);refine WL.al (tP (R:=fun u h'=>u=In (n+m)∧h'[b]?=some (.cells ⟨cs.set o (In (n+m))⟩ e (0,0))∧Ext (fun q=>q=b) h h') (H0 hb ho h0 h1) rfl rfl) rfl rfl rfl ?_
 rintro _ g1 ⟨rfl,aT,aB⟩
 refine Go ?_;refine Gs [(4,_)] ?_;refine Gt ?_
 exact ⟨rfl,aT,aB⟩
theorem Ce {h:aj} {be me:Nat} {aY:Int} (hb:h[be]?=some (.cells ⟨[.map (some me),In aY]⟩ 104 (0,0))) (hc:0≤aY∧aY≤1000000) :
   ai Tryz.prog 261 ⟨[.pointer (some ⟨be,0,none⟩)]⟩ h fun u h'=>u=In (aY+1)∧h'[be]?=some (.cells ⟨[.map (some me),In (aY+1)]⟩ 104 (0,0))∧Ext (fun q=>q=be) h h':=by
 refine calls [(0,_)] Tryz.func261 rfl Tryz.ntmps261 rfl ⟨rfl,trivial⟩ ?_
 refine G2 ?_;refine G3 ?_;refine WL.call (vs:=[_]) rfl Tryz.call258 rfl (mc hb) rfl rfl rfl ?_
 rintro _ hz ⟨rfl,_⟩
 subst hz
 refine Go ?_
 refine aJ 1 2 ?_ TT.mk
 aa (refine ay 2 ?_)
 refine WC.skip ?_;refine Gn ?_;refine Gs [(0,_)] ?_;refine G2 ?_;refine WL.step (ah rfl) rfl rfl rfl (Go ?_);refine WL.call (vs:=[_,_]) rfl Tryz.call295 rfl (KS hb (o:=1) (n:=aY) (m:=1) rfl (by omega) (by omega)) rfl rfl rfl ?_
 rintro _ h1 ⟨rfl,aT,aB⟩
 refine Go ?_;refine Gs [(2,_)] ?_;refine Gt ?_
 exact ⟨rfl,aT,aB⟩
theorem tQ {h:aj} {be me:Nat} {aY:Int} (hb:h[be]?=some (.cells ⟨[.map (some me),In aY]⟩ 104 (0,0))) (hc:0≤aY∧aY≤1000000) (v:gm) {vp:Value} (ps:List bj) (hp:cN h vp ps) :
   ai Tryz.prog 217 ⟨[.pointer (some ⟨be,0,none⟩),.agg ⟨v.cells⟩,vp]⟩ h fun u h'=>∃ LL,kD h' u LL∧LL.map Rw.pl=(dq v (ps.map bj.pl) aY).1∧(∀ q,dU u LL q→h.size≤q)∧h'[be]?=some (.cells ⟨[.map (some me),In (dq v (ps.map bj.pl) aY).2]⟩ 104 (0,0))∧Ext (fun q=>q=be) h h':=by
 have eH:=ak hb
 obtain ⟨_,⟨_,A,c,rfl,_⟩,_⟩:=id hp
 unfold gm.cells nb
 have I6:=dA (aY+1) (by omega)
 rcases (show v.k=5∧dq v (ps.map bj.pl) aY=(jW (dh v.n),aY)∨v.k=6∧dq v (ps.map bj.pl) aY=([ps.map bj.pl],aY)∨v.k=7∧dq v (ps.map bj.pl) aY=([[(false,dE (aY+1))]],aY+1)∨v.k ≠ 5∧v.k ≠ 6∧v.k ≠ 7∧dq v (ps.map bj.pl) aY=([],aY) by
   unfold dq
   by_cases e1:v.k=5
   · exact .inl ⟨e1,if_pos e1⟩
   · by_cases e2:v.k=6
     · exact .inr (.inl ⟨e2,by rw [if_neg e1,if_pos e2]⟩)
     · by_cases e3:v.k=7
       · exact .inr (.inr (.inl ⟨e3,by rw [if_neg e1,if_neg e2,if_pos e3]⟩))
       · exact .inr (.inr (.inr ⟨e1,e2,e3,by rw [if_neg e1,if_neg e2,if_neg e3]⟩))) with ⟨e1,e⟩ | ⟨e1,e⟩ | ⟨e1,e⟩ | ⟨e1,e2,e3,e⟩
 aa
   rw [e]
   dsimp only
   refine calls [(0,_),(1,_),(2,_)] Tryz.func217 rfl Tryz.ntmps217 rfl ⟨rfl,rfl,rfl,trivial⟩ ?_
   aa (refine WC.sr ?_;refine WL.al (aI rfl) rfl rfl rfl ?_;rintro _ h1 ⟨b1,rfl,b0,aT,aB⟩;have F6:=aB.obj hb aQ;(have n1:be ≠ b1:=by omega);refine Go ?_;refine G3 ?_;refine WL.call (vs:=[_]) rfl Tryz.call258 rfl (mc F6) rfl rfl rfl ?_;rintro _ hz ⟨rfl,_⟩;subst hz;refine Go ?_;refine Gs [(0,_),(2,_),(4,_),(9,_)] ?_;refine aJ 1 2 ?_ TT.mk;refine ay 2 ?_;refine WC.skip ?_;refine Gn ?_;refine G3 ?_;refine Ld ?_;refine Gn ?_;refine WC.block ?_;refine G2 ?_;refine aJ 3 4 ?_ TT.mk)
   aa try (
   refine ay 3 ?_
   aa (refine G2 ?_;refine Ld ?_;refine WL.call (vs:=[_]) rfl Tryz.call259 rfl (yG v.n) rfl rfl rfl ?_;rintro u2 h2 ⟨L2,r2,p2,aK,f2⟩;have X2:=aB.trans aK;refine Go ?_;refine Gs [(6,_)] ?_;refine Gt ?_)
   aa (
    first
     | exact ⟨L2,r2,p2,fun q hq=>by have:=f2 q hq;have:=aB.size;omega,X2.obj hb aQ,X2.mono fun _ _ e=>e.elim⟩
     | exact ⟨[⟨_, l2⟩], ⟨bG bC rfl, ⟨by simp [reachBytes], _, _, rfl, by simp [maxLen]⟩, by simpa using r2.av aS⟩, by simp [Rw.pl, p2], fun q hq => by
         rcases hq with ⟨_,e⟩ | ⟨r,hr,e⟩
         · simp [Value.ownBlock] at e;have:=aB.size;have:=aK.size;omega
         · simp at hr;subst hr;have:=f2 q e;have:=aB.size;omega,X3.obj hb aQ,X3.mono fun _ _ e=>e.elim⟩
     | exact ⟨[⟨_, [⟨false, .slice (some ⟨b4, 0, none⟩) (dE (aY + 1)).length c4, dE (aY + 1)⟩]⟩], ⟨bG cj rfl, ⟨by simp [reachBytes], _, _, rfl, by simp [maxLen]⟩, by simpa using lq (Jn.av (aO.trans aP)) (by omega) (aP.obj cd aQ)⟩, rfl, fun q hq => by
         have:=aB.size;have:=aK.size;have:=aS.size;have:=bh.size;have:=aO.size
         rcases hq with ⟨_,e⟩ | ⟨r,hr,e⟩
         · simp [Value.ownBlock] at e;omega
         · simp at hr;subst hr
           rcases e with ⟨_,e⟩ | ⟨r,hr,_,e⟩
           · simp [Value.ownBlock] at e;omega
           · simp at hr;subst hr;simp [Value.ownBlock] at e;omega,sa.obj bR aQ,(aB.mono fun _ _ e=>e.elim).trans (aK.trans (sa.mono fun _ _ e=>e.elim))⟩
     | exact ⟨[],⟨Rd.nil _ _,⟨by simp,_,_,rfl,by simp [maxLen]⟩,by simp⟩,rfl,fun q hq=>(jl rfl hq).elim,F6,aB.mono fun _ _ e=>e.elim⟩)
   skip)
   aa (refine ay 4 ?_;refine G2 ?_;refine Gs [(0,_),(2,_),(11,_),(17,_)] ?_;refine aJ 5 6 ?_ TT.mk)
   aa try (
   refine ay 5 ?_
   aa (refine G2 ?_;refine WL.call (vs:=[_]) rfl Tryz.call260 rfl (Ew ps (hp.av aB)) rfl rfl rfl ?_;rintro u2 h2 ⟨l2,r2,p2,aK,f2⟩;obtain ⟨A2,c2,rfl⟩:∃ A c,u2=.slice A l2.length c:=(by obtain ⟨_,⟨_,A,c,e,_⟩,_⟩:=r2;exact ⟨A,c,e⟩);refine WL.al (aw (vs:=[_]) (cs:=[_]) (fun | [a0]=>[a0] | _=>[]) Tryz.underlying271 rfl rfl (by kernel_rfl)) rfl rfl rfl ?_;rintro _ h3 ⟨b3,rfl,gN,bC,aS⟩;have X3:=(aB.trans aK).trans aS;refine Go ?_;refine Gs [(6,_)] ?_;refine Gt ?_)
   aa (
    first
     | exact ⟨L2,r2,p2,fun q hq=>by have:=f2 q hq;have:=aB.size;omega,X2.obj hb aQ,X2.mono fun _ _ e=>e.elim⟩
     | exact ⟨[⟨_, l2⟩], ⟨bG bC rfl, ⟨by simp [reachBytes], _, _, rfl, by simp [maxLen]⟩, by simpa using r2.av aS⟩, by simp [Rw.pl, p2], fun q hq => by
         rcases hq with ⟨_,e⟩ | ⟨r,hr,e⟩
         · simp [Value.ownBlock] at e;have:=aB.size;have:=aK.size;omega
         · simp at hr;subst hr;have:=f2 q e;have:=aB.size;omega,X3.obj hb aQ,X3.mono fun _ _ e=>e.elim⟩
     | exact ⟨[⟨_, [⟨false, .slice (some ⟨b4, 0, none⟩) (dE (aY + 1)).length c4, dE (aY + 1)⟩]⟩], ⟨bG cj rfl, ⟨by simp [reachBytes], _, _, rfl, by simp [maxLen]⟩, by simpa using lq (Jn.av (aO.trans aP)) (by omega) (aP.obj cd aQ)⟩, rfl, fun q hq => by
         have:=aB.size;have:=aK.size;have:=aS.size;have:=bh.size;have:=aO.size
         rcases hq with ⟨_,e⟩ | ⟨r,hr,e⟩
         · simp [Value.ownBlock] at e;omega
         · simp at hr;subst hr
           rcases e with ⟨_,e⟩ | ⟨r,hr,_,e⟩
           · simp [Value.ownBlock] at e;omega
           · simp at hr;subst hr;simp [Value.ownBlock] at e;omega,sa.obj bR aQ,(aB.mono fun _ _ e=>e.elim).trans (aK.trans (sa.mono fun _ _ e=>e.elim))⟩
     | exact ⟨[],⟨Rd.nil _ _,⟨by simp,_,_,rfl,by simp [maxLen]⟩,by simp⟩,rfl,fun q hq=>(jl rfl hq).elim,F6,aB.mono fun _ _ e=>e.elim⟩)
   skip)
   aa (refine ay 6 ?_;refine G2 ?_;refine Gs [(0,_),(22,_)] ?_;refine aJ 7 8 ?_ TT.mk)
   aa try (
   refine ay 7 ?_
   aa (refine G2 ?_;refine WL.call (vs:=[_]) rfl Tryz.call261 rfl (Ce F6 hc) rfl rfl rfl ?_;rintro _ h2 ⟨rfl,bR,aK⟩;refine WL.call (vs:=[_]) rfl Tryz.call246 rfl (gY (aY+1) (by omega) (by omega)) rfl rfl rfl ?_;rintro _ h3 ⟨rfl,aS⟩;refine WL.al (j5 Tryz.underlying9 Tryz.underlying23 Tryz.underlying5 rfl) rfl rfl rfl ?_;rintro _ h4 ⟨b4,c4,rfl,pH,Jn,bh⟩;refine WL.step (aH (vs:=[_]) (cs:=[_,_]) (fun | [a1]=>[(.bool false),a1] | _=>[]) rfl rfl (by kernel_rfl)) rfl rfl rfl ?_;refine WL.al (aw (vs:=[_]) (cs:=[_,_]) (fun | [.agg ⟨[a0,a1]⟩]=>[a0,a1] | _=>[]) Tryz.underlying40 rfl rfl (by kernel_rfl)) rfl rfl rfl ?_;rintro _ h5 ⟨b5,rfl,r6,cd,aO⟩;refine WL.al (aw (vs:=[_]) (cs:=[_]) (fun | [a0]=>[a0] | _=>[]) Tryz.underlying271 rfl rfl (by kernel_rfl)) rfl rfl rfl ?_;rintro _ h6 ⟨b6,rfl,r5,cj,aP⟩;have sa:=((aS.trans bh).trans aO).trans aP;refine Go ?_;refine Gs [(6,_)] ?_;refine Gt ?_)
   aa (
    first
     | exact ⟨L2,r2,p2,fun q hq=>by have:=f2 q hq;have:=aB.size;omega,X2.obj hb aQ,X2.mono fun _ _ e=>e.elim⟩
     | exact ⟨[⟨_, l2⟩], ⟨bG bC rfl, ⟨by simp [reachBytes], _, _, rfl, by simp [maxLen]⟩, by simpa using r2.av aS⟩, by simp [Rw.pl, p2], fun q hq => by
         rcases hq with ⟨_,e⟩ | ⟨r,hr,e⟩
         · simp [Value.ownBlock] at e;have:=aB.size;have:=aK.size;omega
         · simp at hr;subst hr;have:=f2 q e;have:=aB.size;omega,X3.obj hb aQ,X3.mono fun _ _ e=>e.elim⟩
     | exact ⟨[⟨_, [⟨false, .slice (some ⟨b4, 0, none⟩) (dE (aY + 1)).length c4, dE (aY + 1)⟩]⟩], ⟨bG cj rfl, ⟨by simp [reachBytes], _, _, rfl, by simp [maxLen]⟩, by simpa using lq (Jn.av (aO.trans aP)) (by omega) (aP.obj cd aQ)⟩, rfl, fun q hq => by
         have:=aB.size;have:=aK.size;have:=aS.size;have:=bh.size;have:=aO.size
         rcases hq with ⟨_,e⟩ | ⟨r,hr,e⟩
         · simp [Value.ownBlock] at e;omega
         · simp at hr;subst hr
           rcases e with ⟨_,e⟩ | ⟨r,hr,_,e⟩
           · simp [Value.ownBlock] at e;omega
           · simp at hr;subst hr;simp [Value.ownBlock] at e;omega,sa.obj bR aQ,(aB.mono fun _ _ e=>e.elim).trans (aK.trans (sa.mono fun _ _ e=>e.elim))⟩
     | exact ⟨[],⟨Rd.nil _ _,⟨by simp,_,_,rfl,by simp [maxLen]⟩,by simp⟩,rfl,fun q hq=>(jl rfl hq).elim,F6,aB.mono fun _ _ e=>e.elim⟩)
   skip)
   aa (refine ay 8 ?_;refine WC.skip ?_;refine Gn ?_;refine G2 ?_;refine Gt ?_)
   aa (
    first
     | exact ⟨L2,r2,p2,fun q hq=>by have:=f2 q hq;have:=aB.size;omega,X2.obj hb aQ,X2.mono fun _ _ e=>e.elim⟩
     | exact ⟨[⟨_, l2⟩], ⟨bG bC rfl, ⟨by simp [reachBytes], _, _, rfl, by simp [maxLen]⟩, by simpa using r2.av aS⟩, by simp [Rw.pl, p2], fun q hq => by
         rcases hq with ⟨_,e⟩ | ⟨r,hr,e⟩
         · simp [Value.ownBlock] at e;have:=aB.size;have:=aK.size;omega
         · simp at hr;subst hr;have:=f2 q e;have:=aB.size;omega,X3.obj hb aQ,X3.mono fun _ _ e=>e.elim⟩
     | exact ⟨[⟨_, [⟨false, .slice (some ⟨b4, 0, none⟩) (dE (aY + 1)).length c4, dE (aY + 1)⟩]⟩], ⟨bG cj rfl, ⟨by simp [reachBytes], _, _, rfl, by simp [maxLen]⟩, by simpa using lq (Jn.av (aO.trans aP)) (by omega) (aP.obj cd aQ)⟩, rfl, fun q hq => by
         have:=aB.size;have:=aK.size;have:=aS.size;have:=bh.size;have:=aO.size
         rcases hq with ⟨_,e⟩ | ⟨r,hr,e⟩
         · simp [Value.ownBlock] at e;omega
         · simp at hr;subst hr
           rcases e with ⟨_,e⟩ | ⟨r,hr,_,e⟩
           · simp [Value.ownBlock] at e;omega
           · simp at hr;subst hr;simp [Value.ownBlock] at e;omega,sa.obj bR aQ,(aB.mono fun _ _ e=>e.elim).trans (aK.trans (sa.mono fun _ _ e=>e.elim))⟩
     | exact ⟨[],⟨Rd.nil _ _,⟨by simp,_,_,rfl,by simp [maxLen]⟩,by simp⟩,rfl,fun q hq=>(jl rfl hq).elim,F6,aB.mono fun _ _ e=>e.elim⟩)
section
variable {h h':aj} {A:Ad} {st:Int} {sk ov:Bool} {aY:Int} {L:List (List UInt8 × gX)} {P:List (List UInt8 × eI)}
theorem Ss.Cf (k:Ss h A st sk ov aY L P) {og:Int} (x:Ext (fun z=>z=A.be) h h') (hb:h'[A.be]?=some (.cells ⟨[.map (some A.me),In og]⟩ 104 (0,0))) (hc:0≤og∧og≤1000000):Ss h' A st sk ov og L P∧Tn A P h h' P:=by
 have e:=k.se
 refine ⟨⟨⟨x.obj e.bB (bE e.bB e.eb (by decide)),e.ka.ext x (fun z=>eE e.ka e.eb z.symm),x.obj e.pb (bE e.pb e.eb (by decide)),e.pm.ext x (fun z=>eE e.pm e.eb z.symm),hb,e.em.ext x (fun z=>eE e.em e.eb z.symm),e.ne⟩,
   fun q hq=>⟨(k.jA q hq).1.ext' x (fun z h0 hz e=>(k.jA q hq).2.2 z h0 hz (.inr (.inr (.inr (.inl e))))),(k.jA q hq).2⟩,
   fun q hq=>⟨x.obj (k.eJ q hq).1 (bE (k.eJ q hq).1 e.eb (by decide)),(k.eJ q hq).2.1.ext x (fun z hz e=>(k.eJ q hq).2.2 z hz (.inr (.inr (.inr (.inl e))))),(k.eJ q hq).2.2⟩,k.xb,k.r9,hc,k.zz.up x.size⟩,Tn.same x (fun q e=>.inr (.inr (.inr (.inl e))))⟩
theorem F7 (k:Ss h A st sk ov aY L P) {n:List UInt8} {i:eI} (hi:bQ P n=some i) {v:Value} (R:List Rw) (hd:i.d.dm=false) (hR:kD h v R):ai Tryz.prog 216 ⟨[.pointer (some ⟨A.bp,0,none⟩),St n,v]⟩ h fun u h'=>u=.bool true∧∃ P' i',Ss h' A st sk ov aY L P'∧gi P'=cz (gi P) n (i.d.text,i.d.aU,i.d.ps.map bj.pl,R.map Rw.pl,true,i.d.over)∧bQ P' n=some i'∧i'.d.pl=(i.d.text,i.d.aU,i.d.ps.map bj.pl,R.map Rw.pl,true,i.d.over)∧Tn A P h h' P'∧Ext (fun q=>q=i.p) h h':=by
 refine (J9 (k.pe hi) R hd hR).mono fun u h' ⟨e,v',R',Jo,Dl,M4,hx⟩=>⟨e,?_⟩
 have kk:=k.KH hi hx Jo.bB Jo.ok (fun z hz=>by
   rcases hz with hz | hz | hz
   · exact .inl (.inl hz)
   · exact .inl (.inr (.inl hz))
   · exact .inr (M4 z hz))
 have GX:PD.pl { i.d with vr:=v',rs:=R',dm:=true }=(i.d.text,i.d.aU,i.d.ps.map bj.pl,R.map Rw.pl,true,i.d.over):=by simp only [PD.pl,Dl]
 have uv:(P.map (·.1)).Nodup:=by
   have:=Mp.nodup fR k.se.pm
   nE [mg] at this
 exact ⟨_,_,kk.1,by rw [rn];exact congrArg _ GX,by rw [BJ uv,if_pos rfl],GX,kk.2,hx⟩
theorem xi (k:Ss h A st sk ov aY L P) {n:List UInt8} {i:eI} (hi:bQ P n=some i) (most:Int) (hd:i.d.dm=true):ai Tryz.prog 219 ⟨[.pointer (some ⟨A.bp,0,none⟩),St n,In most]⟩ h fun u h' =>
   ∃ v R P',u=.tuple ⟨[v,.bool (!(dW (i.d.rs.map Rw.pl) i.d.over most).2.2)]⟩∧kD h' v R∧R.map Rw.pl=(dW (i.d.rs.map Rw.pl) i.d.over most).1∧Ss h' A st sk ov aY L P'∧gi P'=cz (gi P) n (i.d.text,i.d.aU,i.d.ps.map bj.pl,(dW (i.d.rs.map Rw.pl) i.d.over most).2.1,true,(dW (i.d.rs.map Rw.pl) i.d.over most).2.2)∧Tn A P h h' P'∧Ext (fun q=>q=i.p) h h':=by
 have uv:(P.map (·.1)).Nodup:=by
   have:=Mp.nodup fR k.se.pm
   nE [mg] at this
 have N0:∀ d:PD,d.pl=i.d.pl→cz (gi P) n d.pl=gi P:=fun d e=>by
   rw [e]
   have hg:bQ (gi P) n=some i.d.pl:=by rw [gF,hi];rfl
   unfold cz
   rw [if_pos (by rw [hg];rfl)]
   have N1:((gi P).map (·.1)).Nodup:=by
     rw [show (gi P).map (·.1)=P.map (·.1) by simp [gi]]
     exact uv
   refine (List.map_congr_left fun q hq=>?_).trans (List.map_id' _)
   by_cases Ej:q.1=n
   · rw [if_pos Ej]
     have:=nw N1 (show (q.1,q.2)∈gi P from hq)
     rw [Ej,hg] at this
     rw [Option.some.inj this,← Ej]
   · rw [if_neg Ej]
 by_cases Jp:i.d.over=true
 · refine (td (k.pe hi) most hd Jp).mono fun u h' ⟨e,e2⟩=>?_
   subst e2
   have ef:dW (i.d.rs.map Rw.pl) i.d.over most=([],i.d.rs.map Rw.pl,true):=by unfold dW;rw [if_pos Jp]
   rw [ef]
   refine ⟨_,[],P,e,⟨Rd.nil _ _,⟨by simp,_,_,rfl,by simp [maxLen]⟩,by simp⟩,rfl,k,?_,Tn.no (.refl _ _),.refl _ _⟩
   have:=N0 i.d rfl
   simp only [PD.pl,hd,Jp] at this
   exact this.symm
 · have KT:i.d.over=false:=by simpa using Jp
   have key : ∀ m : Nat, m ≤ i.d.rs.length → dW (i.d.rs.map Rw.pl) i.d.over most = ((i.d.rs.map Rw.pl).take m, (i.d.rs.map Rw.pl).drop m, decide (((i.d.rs.map Rw.pl).drop m).length = 0)) →
       ai Tryz.prog 219 ⟨[.pointer (some ⟨A.bp,0,none⟩),St n,In most]⟩ h (fun u h'=>∃ vo wT,u=.tuple ⟨[vo,.bool (!decide (((i.d.rs.length - m:Nat):Int)=0))]⟩∧kD h' vo (i.d.rs.take m)∧Pe h' A.bp A.mp (fq xa P) i.p n { i.d with vr:=wT,rs:=i.d.rs.drop m,over:=decide (((i.d.rs.length - m:Nat):Int)=0) }∧(∀ k,dU vo (i.d.rs.take m) k→dU i.d.vr i.d.rs k)∧(∀ k,dU wT (i.d.rs.drop m) k→dU i.d.vr i.d.rs k)∧Ext (fun k=>k=i.p) h h') →
       ai Tryz.prog 219 ⟨[.pointer (some ⟨A.bp,0,none⟩),St n,In most]⟩ h fun u h'=>∃ v R P',u=.tuple ⟨[v,.bool (!(dW (i.d.rs.map Rw.pl) i.d.over most).2.2)]⟩∧kD h' v R∧R.map Rw.pl=(dW (i.d.rs.map Rw.pl) i.d.over most).1∧Ss h' A st sk ov aY L P'∧gi P'=cz (gi P) n (i.d.text,i.d.aU,i.d.ps.map bj.pl,(dW (i.d.rs.map Rw.pl) i.d.over most).2.1,true,(dW (i.d.rs.map Rw.pl) i.d.over most).2.2)∧Tn A P h h' P'∧Ext (fun q=>q=i.p) h h':=fun m hm ef hc=>by
     have ed:decide (((i.d.rs.length - m:Nat):Int)=0)=decide (((i.d.rs.map Rw.pl).drop m).length=0):=by
       rw [List.length_drop,List.length_map]
       exact decide_eq_decide.2 ⟨fun e=>by omega,fun e=>by omega⟩
     rw [ef]
     refine hc.mono fun u h' ⟨vo,wT,e,hr,Jo,_,hf,hx⟩=>?_
     rw [ed] at e Jo
     have kk:=k.KH hi hx Jo.bB Jo.ok (fun z hz=>by
       rcases hz with hz | hz | hz
       · exact .inl (.inl hz)
       · exact .inl (.inr (.inl hz))
       · exact .inl (.inr (.inr (hf z hz))))
     refine ⟨vo,_,_,e,hr,List.map_take ..,kk.1,?_,kk.2,hx⟩
     rw [rn]
     refine congrArg _ ?_
     simp only [PD.pl,hd,List.map_drop]
   by_cases FV:0 < most
   · have ef : dW (i.d.rs.map Rw.pl) i.d.over most = ((i.d.rs.map Rw.pl).take (min i.d.rs.length most.toNat), (i.d.rs.map Rw.pl).drop (min i.d.rs.length most.toNat), decide (((i.d.rs.map Rw.pl).drop (min i.d.rs.length most.toNat)).length = 0)) := by
       unfold dW
       rw [if_neg Jp]
       simp only [if_pos FV,List.length_map]
     exact key _ (Nat.min_le_left _ _) ef (tc (n:=min i.d.rs.length most.toNat) (k.pe hi) most FV (by omega) hd KT)
   · have ef : dW (i.d.rs.map Rw.pl) i.d.over most = ((i.d.rs.map Rw.pl).take i.d.rs.length, (i.d.rs.map Rw.pl).drop i.d.rs.length, decide (((i.d.rs.map Rw.pl).drop i.d.rs.length).length = 0)) := by
       unfold dW
       rw [if_neg Jp]
       simp only [if_neg FV,List.length_map]
     exact key _ (Nat.le_refl _) ef (u7 (k.pe hi) most FV hd KT)
end
theorem mn {κ α:Type} [DecidableEq κ] {E:List (κ × α)} {n:κ} (v:α) (hs:(bQ E n).isSome=true):cz E n v=E.map (fun p=>if p.1=n then (n,v) else p):=if_pos hs
theorem p4 {κ α:Type} [DecidableEq κ] {E:List (κ × α)} {n:κ} (v:α) (hs:bQ E n=none):cz E n v=E++[(n,v)]:=if_neg (by rw [hs];simp)
theorem yN {κ α:Type} [DecidableEq κ] (E:List (κ × α)) (n:κ) (v w:α):cz (cz E n v) n w=cz E n w:=by
 have hs:(bQ (cz E n v) n).isSome=true:=by
   rw [gW,mh]
   split
   · assumption
   · simp
 rw [mn w hs]
 rcases hg:bQ E n with _ | u
 · rw [p4 v hg,p4 w hg,List.map_append]
   congr 1
   · refine (List.map_congr_left fun q hq=>?_).trans (List.map_id' _)
     rw [if_neg (nu hg q hq)]
   · simp
 · have qC:(bQ E n).isSome=true:=by rw [hg];rfl
   rw [mn v qC,mn w qC,List.map_map]
   refine List.map_congr_left fun q hq=>?_
   simp only [Function.comp]
   by_cases e:q.1=n
   · rw [if_pos e,if_pos rfl,if_pos e]
   · rw [if_neg e,if_neg e]
def jY (rs:List (List eT)):Prop:=rs.length≤100000∧∀ r∈rs,r.length≤100000
theorem hU (v:gm) {ps:List eT} (c:Int) (h:ps.length≤100000):jY (dq v ps c).1:=by
 unfold dq
 split
 · have:=jC v.n
   refine ⟨by rw [ml];omega,fun r hr=>?_⟩
   obtain ⟨i,_,rfl⟩:=List.mem_map.1 hr
   simp [Em]
 · split
   · exact ⟨by simp,by simpa using h⟩
   · split
     · exact ⟨by simp,by simp⟩
     · exact ⟨by simp,by simp⟩
theorem tR {rs:List (List eT)} (ov:Bool) (m:Int) (h:jY rs):jY (dW rs ov m).1:=by
 unfold dW
 split
 · exact ⟨by simp,by simp⟩
 · exact ⟨by dsimp only;rw [List.length_take];have:=h.1;omega,fun r hr=>h.2 r (List.mem_of_mem_take hr)⟩
theorem Cg {R:List Rw} {rs:List (List eT)} (e:R.map Rw.pl=rs) (h:jY rs):R.length≤100000∧∀ r∈R,r.l.length≤1000000:=by
 subst e
 refine ⟨by simpa using h.1,fun r hr=>?_⟩
 have:=h.2 _ (List.mem_map.2 ⟨r,hr,rfl⟩)
 simp only [Rw.pl,List.length_map] at this
 omega
section
variable {h h':aj} {A:Ad} {st:Int} {sk ov:Bool} {aY:Int} {L:List (List UInt8 × gX)} {P:List (List UInt8 × eI)}
theorem p7 {g2 g3:aj} {v:Value} {og:Int} {P':List (List UInt8 × eI)} {B:List Bk} {r:gn} (k2:Ss g2 A st sk ov og L P') (T2:Tn A P h g2 P') (O:cH g2 g3 v B) (hx:Ext No g2 g3) (hp:B.map Bk.p=r.2.1) (he:r.2.2=none)
   (h1:r.1.st=st) (h2:r.1.sk=sk) (h3:r.1.ov=ov) (h4:r.1.aY=og) (h5:r.1.L=rm L) (h6:r.1.P=gi P'):cx h A P r (.tuple ⟨[v,gh none]⟩) g3:=by
 obtain ⟨⟨pk,F8,Ch,Si,L1,P1⟩,B1,e1⟩:=r
 dsimp only at *
 subst he h1 h2 h3 h4 h5 h6
 exact ⟨v,B,(fun e=>absurd rfl e),rfl,O.mono T2.1.size,hp,L,P',k2.av hx,rfl,rfl,T2.trans (Tn.no hx)⟩
theorem vI (k:Ss h A st sk ov aY L P) (lm:jJ (cy st sk ov aY L P)) (f:Fm) (hf:f.ok h) (fl:hJ f) {i:eI} (he:hG (cy st sk ov aY L P) f.bm=none) (hi:bQ P f.bm=some i) (hr:gE (bx i.d.text)=true) :
   ai Tryz.prog 149 ⟨[.pointer (some ⟨A.bs,0,none⟩),.agg ⟨f.cells⟩]⟩ h (cx h A P (cu (cy st sk ov aY L P) f.p)):=by
 have zD:bQ (cy st sk ov aY L P).P f.bm=some i.d.pl:=by show bQ (gi P) f.bm=_;rw [gF,hi];rfl
 have nj:=lm.tp _ (cm hi)
 have pD:aY < 1000000:=lm.c
 have N2:=k.yz
 obtain ⟨⟨e1,_⟩,⟨e2,_⟩,⟨e3,_⟩,e4,_⟩:=hf
 obtain ⟨pY,oW,yM,kF,B7,_⟩:=fl
 obtain ⟨fk,w,n,p,t,vo,o,vf,fs,vs,rs,vp,ps,mx⟩:=f
 dsimp only at e1 e2 e3 e4 pY oW yM kF B7 he hi zD nj
 obtain ⟨A1,c1,rfl,_⟩:=e1
 obtain ⟨_,_,rfl,_⟩:=e2
 obtain ⟨_,_,rfl,_⟩:=e3
 obtain ⟨A4,c4,rfl,_⟩:=e4
 dsimp only [Fm.cells,Fm.p]
 have gH : cu (cy st sk ov aY L P) ⟨fk, w, n, p, t, o, ps.map bj.pl, mx⟩ =
     ({ cy st sk ov aY L P with aY:=(if i.d.dm=true then (i.d.rs.map Rw.pl,aY) else dq (bx i.d.text) (i.d.ps.map bj.pl) aY).2,P:=cz (gi P) p (i.d.text,i.d.aU,i.d.ps.map bj.pl,(dW (if i.d.dm=true then (i.d.rs.map Rw.pl,aY) else dq (bx i.d.text) (i.d.ps.map bj.pl) aY).1 i.d.over mx).2.1,true,(dW (if i.d.dm=true then (i.d.rs.map Rw.pl,aY) else dq (bx i.d.text) (i.d.ps.map bj.pl) aY).1 i.d.over mx).2.2) },
       db (dW (if i.d.dm=true then (i.d.rs.map Rw.pl,aY) else dq (bx i.d.text) (i.d.ps.map bj.pl) aY).1 i.d.over mx).1 (!(dW (if i.d.dm=true then (i.d.rs.map Rw.pl,aY) else dq (bx i.d.text) (i.d.ps.map bj.pl) aY).1 i.d.over mx).2.2),none):=by
   unfold cu
   dsimp only
   rw [he,zD]
   unfold PD.pl
   dsimp only
   rw [if_pos hr]
   rfl
 rw [gH]
 clear gH
 have kp:=fun h'=>pN (h:=h') i.d.text (by omega)
 have kr:=fun h'=>ll (h:=h') (bx i.d.text)
 have ke:=fun (g:aj) (cn:Int) (hb:g[A.be]?=some (.cells ⟨[.map (some A.me),In cn]⟩ 104 (0,0))) (hc:0≤cn∧cn≤1000000) (vp:Value) (ps:List bj) (hp:cN g vp ps)=>tQ hb hc (bx i.d.text) ps hp
 rw [hr] at kr
 unfold gm.cells nb at kp kr ke
 cases lz:i.d.dm
 · rw [if_neg (by decide)]
   refine calls [(0,_),(1,_)] Tryz.func149 rfl Tryz.ntmps149 rfl ⟨rfl,rfl,trivial⟩ ?_
   refine WC.sr ?_;refine WL.al (aI rfl) rfl rfl rfl ?_
   rintro _ h1 ⟨b3,rfl,b0,aT,aB⟩
   refine Go ?_;refine G2 ?_;refine WL.ld rfl (by first | exact ab aT rfl | assumption) rfl rfl rfl ?_
   refine WL.call (vs:=[_,_]) rfl Tryz.call213 rfl (fh (k.av aB) lm p oW) rfl rfl rfl ?_
   rintro _ h2 ⟨⟨d2,rfl,jv,f2,iR⟩,aK⟩
   rw [he] at iR ⊢
   dsimp only [gh]
   refine Go ?_;refine WL.al (au (fun w=>Tryz.zeroValue273 w)) rfl rfl rfl ?_
   rintro _ h3 ⟨b6,rfl,gN,bC,aS⟩
   refine WL.az (aq Tryz.sizeOf273 rfl rfl rfl bC rfl (fp jv)) rfl rfl ?_
   rintro _ h4 ⟨bN,bh⟩
   have hY:Ext No h1 h4:=aK.trans (aS.trans' bh (fun q hq e=>by omega))
   have X4:=aB.trans hY
   have bT:=hY.obj aT aQ
   obtain ⟨i',oY,lj⟩:=iR rfl
   have B8:=Option.some.inj (hi.symm.trans oY)
   subst B8
   have lK:=jv.ext (aS.trans' (S:=No) bh (fun q hq e=>by omega)) (fun _ _=>aQ)
   have pX:d2.text=i.d.text:=congrArg (·.1) lj
   have Dm:d2.ps.map bj.pl=i.d.ps.map bj.pl:=congrArg (·.2.2.1) lj
   have uw:d2.dm=i.d.dm:=congrArg (·.2.2.2.2.1) lj
   obtain ⟨text,vo,aU,Jq,Mv,vr,Mw,Ex,xj⟩:=d2
   dsimp only at pX Dm uw
   subst pX
   subst uw
   dsimp only [PD.cells] at bN
   obtain ⟨A6,c6,gG,_⟩:=id lK.aU
   have uB:=lK.ps
   obtain ⟨_,⟨_,A7,c7,xk,_⟩,_⟩:=id lK.ps
   obtain ⟨_,⟨_,A8,c8,xl,_⟩,_⟩:=id lK.rs
   dsimp only at gG xk xl uB
   subst gG
   subst xk
   subst xl
   refine Go ?_;refine Gs [(0,_),(3,_),(6,_),(7,_)] ?_;refine G3 ?_;refine WL.step (cU (by kernel_rfl) rfl rfl) rfl rfl rfl ?_
   refine Gn ?_
   refine aJ 1 2 ?_ TT.mk
   aa (refine ay 2 ?_)
   refine WC.skip ?_;refine Gn ?_;refine G2 ?_;refine WL.ld rfl (by first | exact ab bN rfl | assumption) rfl rfl rfl ?_
   refine WL.call (vs:=[_]) rfl Tryz.call214 rfl (kp _) rfl rfl rfl ?_
   rintro _ h5 ⟨rfl,aO⟩
   refine WL.al (au (fun w=>Tryz.zeroValue278 w)) rfl rfl rfl ?_
   rintro _ h6 ⟨b8,rfl,r5,cj,aP⟩
   refine WL.az (aq Tryz.sizeOf278 rfl rfl rfl cj rfl (by simp [Value.oneCell'])) rfl rfl ?_
   rintro _ h7 ⟨cq,bu⟩
   have ow:Ext No h4 h7:=aO.trans (aP.trans' bu (fun q hq e=>by omega))
   refine Gn ?_;refine Gs [(0,_),(3,_),(6,_),(8,_)] ?_;refine WC.seq ?_;refine WC.sr ?_;refine WL.step (aA Tryz.isAgg278 Tryz.sizeOf278 rfl rfl (by exact At.ax cq)) rfl rfl rfl ?_
   refine WL.call (vs:=[_]) rfl Tryz.call215 rfl (kr _) rfl rfl rfl ?_
   rintro _ h8 ⟨rfl,bH⟩
   have kG:=ow.trans bH
   have X8:=X4.trans kG
   have ox:=kG.obj bN aQ
   have ky:=bH.obj cq aQ
   have gl:=kG.obj bT aQ
   have Ci:=uB.av kG
   have k8:=k.av X8
   refine Gn ?_
   refine aJ 3 4 ?_ TT.mk
   aa (refine ay 3 ?_)
   refine G3 ?_;refine WL.ld rfl (by first | exact ab ox rfl | assumption) rfl rfl rfl ?_
   rw [lz]
   have yO:=(k8.eJ _ (cm hi)).1
   have n1:¬ (A.bs=A.be∨A.bs=i.p):=fun e=>e.elim (bE k8.se.bB k8.se.eb (by decide)) (bE k8.se.bB yO (by decide))
   have n2:¬ (b3=A.be∨b3=i.p):=fun e=>e.elim (bE gl k8.se.eb (by decide)) (bE gl yO (by decide))
   have n3:¬ (b6=A.be∨b6=i.p):=fun e=>e.elim (bE ox k8.se.eb (by decide)) (fun e=>by have:=aK.size;have:i.p < h.size:=ak ((k.eJ _ (cm hi)).1);have:=aB.size;omega)
   have n4:¬ (b8=A.be∨b8=i.p):=fun e=>e.elim (bE ky k8.se.eb (by decide)) (bE ky yO (by decide))
   refine WL.step (dI rfl) rfl rfl rfl ?_;refine Gn ?_;refine Gs [(0,_),(3,_),(6,_),(8,_),(28,_)] ?_
   refine aJ 5 6 ?_ TT.mk
   aa (refine ay 5 ?_)
   refine WC.cg (fun h'=>Ext (fun q=>q=A.be∨q=i.p) h8 h') 15 15 rfl dB ?_
   refine WH.tk 0 rfl (fun hq hC=>an rfl) rfl rfl rfl ?_
   refine WH.tk 1 rfl (fun hq hC=>ah rfl) rfl rfl rfl ?_
   refine WH.tk 2 rfl (fun hq hC=>ag rfl Tryz.underlying153 rfl Tryz.sizeOf150) rfl rfl rfl ?_
   refine WH.tk 3 rfl (fun hq hC=>aC Tryz.isAgg150 rfl (by first | exact hC.cell (by first | exact ab k8.se.bB rfl | assumption) (by first | exact n1 | exact n2 | exact n3))) rfl rfl rfl ?_
   refine WH.tk 4 rfl (fun hq hC=>ag rfl Tryz.underlying42 rfl Tryz.sizeOf9) rfl rfl rfl ?_
   refine WH.tk 5 rfl (fun hq hC=>aC Tryz.isAgg9 rfl (by first | exact hC.cell (by first | exact ab gl rfl | assumption) (by first | exact n1 | exact n2 | exact n3))) rfl rfl rfl ?_
   refine WH.tk 6 rfl (fun hq hC=>an rfl) rfl rfl rfl ?_
   refine WH.tk 7 rfl (fun hq hC=>ah rfl) rfl rfl rfl ?_
   refine WH.tk 8 rfl (fun hq hC=>ag rfl Tryz.underlying153 rfl Tryz.sizeOf46) rfl rfl rfl ?_
   refine WH.tk 9 rfl (fun hq hC=>aC Tryz.isAgg46 rfl (by first | exact hC.cell (by first | exact ab k8.se.bB rfl | assumption) (by first | exact n1 | exact n2 | exact n3))) rfl rfl rfl ?_
   refine WH.tk 10 rfl (fun hq hC=>aA Tryz.isAgg278 Tryz.sizeOf278 rfl rfl (by exact (At.ax ky).ext hC n4)) rfl rfl rfl ?_
   refine WH.tk 11 rfl (fun hq hC=>ag rfl Tryz.underlying273 rfl Tryz.sizeOf40) rfl rfl rfl ?_
   refine WH.tk 12 rfl (fun hq hC=>aC Tryz.isAgg40 rfl (by first | exact hC.cell (by first | exact ab ox rfl | assumption) (by first | exact n1 | exact n2 | exact n3))) rfl rfl rfl ?_
   refine WH.one 13 (by kernel_rfl) ?_
   refine aE.call (vs:=[_,_,_]) rfl rfl Tryz.call217 rfl (ke _ _ k8.se.eb N2 _ _ Ci) rfl rfl rfl ?_ (fun _=>by kernel_rfl)
   rintro uR h9 ⟨LL,rL,pL,fL,ck,cl⟩
   rw [Dm] at pL ck
   obtain ⟨k9,t9⟩:=k8.Cf cl ck (by unfold dq;split <;> (try split) <;> (try split) <;> dsimp only <;> omega)
   have T9:=(Tn.no (A:=A) (P:=P) X8).trans t9
   refine ⟨fun _=>cl.mono fun _ _ e=>.inl e,?_⟩
   refine WH.one 14 (by kernel_rfl) ?_
   refine aE.call (vs:=[_,_,_]) rfl rfl Tryz.call216 rfl (F7 k9 hi LL lz rL) rfl rfl rfl ?_ (fun _=>by kernel_rfl)
   rintro _ jf ⟨rfl,Ql,i10,tS,N3,KU,Ey,t10,cC⟩
   have Ez:=T9.trans t10
   have N4:=(t9.trans t10).1.obj gl (k8.not gl (by decide) (by decide) (by decide))
   have N5:i10.d.dm=true:=congrArg (·.2.2.2.2.1) Ey
   have nU:i10.d.over=i.d.over:=congrArg (·.2.2.2.2.2) Ey
   have Cj:i10.d.rs.map Rw.pl=LL.map Rw.pl:=congrArg (·.2.2.2.1) Ey
   have Mx:(i10.d.text,i10.d.aU,i10.d.ps.map bj.pl)=(i.d.text,i.d.aU,i.d.ps.map bj.pl):=congrArg (fun q=>(q.1,q.2.1,q.2.2.1)) Ey
   have F9:=(tS.eJ _ (cm KU)).1
   have m1:¬ A.bs=i10.p:=bE tS.se.bB F9 (by decide)
   have m2:¬ b3=i10.p:=bE N4 F9 (by decide)
   refine ⟨fun _=>(cl.mono fun _ _ e=>.inl e).trans (cC.mono fun _ _ e=>.inr e),?_⟩
   refine WH.done (by kernel_rfl) ?_
   refine Gn ?_;refine WC.seq ?_;refine WC.cg (fun h'=>Ext (fun q=>q=i10.p) jf h') 14 14 rfl dB ?_
   refine WH.tk 0 rfl (fun hq hC=>an rfl) rfl rfl rfl ?_
   refine WH.tk 1 rfl (fun hq hC=>ah rfl) rfl rfl rfl ?_
   refine WH.tk 2 rfl (fun hq hC=>ag rfl Tryz.underlying153 rfl Tryz.sizeOf150) rfl rfl rfl ?_
   refine WH.tk 3 rfl (fun hq hC=>aC Tryz.isAgg150 rfl (by first | exact hC.cell (by first | exact ab tS.se.bB rfl | assumption) (by first | exact m1 | exact m2))) rfl rfl rfl ?_
   refine WH.tk 4 rfl (fun hq hC=>ag rfl Tryz.underlying42 rfl Tryz.sizeOf9) rfl rfl rfl ?_
   refine WH.tk 5 rfl (fun hq hC=>aC Tryz.isAgg9 rfl (by first | exact hC.cell (by first | exact ab N4 rfl | assumption) (by first | exact m1 | exact m2))) rfl rfl rfl ?_
   refine WH.tk 6 rfl (fun hq hC=>ag rfl Tryz.underlying42 rfl Tryz.sizeOf3) rfl rfl rfl ?_
   refine WH.tk 7 rfl (fun hq hC=>aC Tryz.isAgg3 rfl (by first | exact hC.cell (by first | exact ab N4 rfl | assumption) (by first | exact m1 | exact m2))) rfl rfl rfl ?_
   refine WH.one 8 (by kernel_rfl) ?_
   refine aE.call (vs:=[_,_,_]) rfl rfl Tryz.call219 rfl (xi tS KU mx N5) rfl rfl rfl ?_ (fun _=>by kernel_rfl)
   rintro _ rr ⟨v11,N6,Sj,rfl,N7,Ga,Ck,H2,t11,cV⟩
   rw [Cj,pL,nU] at Ga
   have tT:=Cg Ga (tR _ _ (hU _ _ nj.2.2.1))
   refine ⟨fun _=>cV,?_⟩
   refine WH.tk 9 rfl (fun hq hC=>bY rfl rfl) rfl rfl rfl ?_
   refine WH.tk 10 rfl (fun hq hC=>bY rfl rfl) rfl rfl rfl ?_
   refine WH.one 11 (by kernel_rfl) ?_
   refine aE.call (vs:=[_,_]) rfl rfl Tryz.call218 rfl (rp N6 N7 _ tT.1 tT.2) rfl rfl rfl ?_ (fun _=>by kernel_rfl)
   rintro v12 r7 ⟨B,Jr,pB,eQ⟩
   refine ⟨fun _=>cV.trans (eQ.mono fun _ _ e=>e.elim),?_⟩
   have N8:=cV.trans (eQ.mono (S':=fun q=>q=i10.p) fun _ _ e=>e.elim)
   refine WH.tk 12 rfl (fun hq hC=>aR rfl) rfl rfl rfl ?_
   refine WH.tk 13 rfl (fun hq hC=>aR rfl) rfl rfl rfl ?_
   refine WH.done (by kernel_rfl) ?_
   refine Gn ?_;refine Gs [(4,_),(5,_)] ?_;refine Gt ?_
   refine p7 Ck (Ez.trans t11) Jr eQ (by rw [pB,Ga,Cj,pL,nU]) rfl rfl rfl rfl rfl rfl ?_
   rw [H2,N3,Cj,pL,nU]
   simp only [Prod.mk.injEq] at Mx
   rw [Mx.1,Mx.2.1,Mx.2.2,yN]
 · rw [if_pos rfl]
   refine calls [(0,_),(1,_)] Tryz.func149 rfl Tryz.ntmps149 rfl ⟨rfl,rfl,trivial⟩ ?_
   refine WC.sr ?_;refine WL.al (aI rfl) rfl rfl rfl ?_
   rintro _ h1 ⟨b3,rfl,b0,aT,aB⟩
   refine Go ?_;refine G2 ?_;refine WL.ld rfl (by first | exact ab aT rfl | assumption) rfl rfl rfl ?_
   refine WL.call (vs:=[_,_]) rfl Tryz.call213 rfl (fh (k.av aB) lm p oW) rfl rfl rfl ?_
   rintro _ h2 ⟨⟨d2,rfl,jv,f2,iR⟩,aK⟩
   rw [he] at iR ⊢
   dsimp only [gh]
   refine Go ?_;refine WL.al (au (fun w=>Tryz.zeroValue273 w)) rfl rfl rfl ?_
   rintro _ h3 ⟨b6,rfl,gN,bC,aS⟩
   refine WL.az (aq Tryz.sizeOf273 rfl rfl rfl bC rfl (fp jv)) rfl rfl ?_
   rintro _ h4 ⟨bN,bh⟩
   have hY:Ext No h1 h4:=aK.trans (aS.trans' bh (fun q hq e=>by omega))
   have X4:=aB.trans hY
   have bT:=hY.obj aT aQ
   obtain ⟨i',oY,lj⟩:=iR rfl
   have B8:=Option.some.inj (hi.symm.trans oY)
   subst B8
   have lK:=jv.ext (aS.trans' (S:=No) bh (fun q hq e=>by omega)) (fun _ _=>aQ)
   have pX:d2.text=i.d.text:=congrArg (·.1) lj
   have Dm:d2.ps.map bj.pl=i.d.ps.map bj.pl:=congrArg (·.2.2.1) lj
   have uw:d2.dm=i.d.dm:=congrArg (·.2.2.2.2.1) lj
   obtain ⟨text,vo,aU,Jq,Mv,vr,Mw,Ex,xj⟩:=d2
   dsimp only at pX Dm uw
   subst pX
   subst uw
   dsimp only [PD.cells] at bN
   obtain ⟨A6,c6,gG,_⟩:=id lK.aU
   have uB:=lK.ps
   obtain ⟨_,⟨_,A7,c7,xk,_⟩,_⟩:=id lK.ps
   obtain ⟨_,⟨_,A8,c8,xl,_⟩,_⟩:=id lK.rs
   dsimp only at gG xk xl uB
   subst gG
   subst xk
   subst xl
   refine Go ?_;refine Gs [(0,_),(3,_),(6,_),(7,_)] ?_;refine G3 ?_;refine WL.step (cU (by kernel_rfl) rfl rfl) rfl rfl rfl ?_
   refine Gn ?_
   refine aJ 1 2 ?_ TT.mk
   aa (refine ay 2 ?_)
   refine WC.skip ?_;refine Gn ?_;refine G2 ?_;refine WL.ld rfl (by first | exact ab bN rfl | assumption) rfl rfl rfl ?_
   refine WL.call (vs:=[_]) rfl Tryz.call214 rfl (kp _) rfl rfl rfl ?_
   rintro _ h5 ⟨rfl,aO⟩
   refine WL.al (au (fun w=>Tryz.zeroValue278 w)) rfl rfl rfl ?_
   rintro _ h6 ⟨b8,rfl,r5,cj,aP⟩
   refine WL.az (aq Tryz.sizeOf278 rfl rfl rfl cj rfl (by simp [Value.oneCell'])) rfl rfl ?_
   rintro _ h7 ⟨cq,bu⟩
   have ow:Ext No h4 h7:=aO.trans (aP.trans' bu (fun q hq e=>by omega))
   refine Gn ?_;refine Gs [(0,_),(3,_),(6,_),(8,_)] ?_;refine WC.seq ?_;refine WC.sr ?_;refine WL.step (aA Tryz.isAgg278 Tryz.sizeOf278 rfl rfl (by exact At.ax cq)) rfl rfl rfl ?_
   refine WL.call (vs:=[_]) rfl Tryz.call215 rfl (kr _) rfl rfl rfl ?_
   rintro _ h8 ⟨rfl,bH⟩
   have kG:=ow.trans bH
   have X8:=X4.trans kG
   have ox:=kG.obj bN aQ
   have ky:=bH.obj cq aQ
   have gl:=kG.obj bT aQ
   have Ci:=uB.av kG
   have k8:=k.av X8
   refine Gn ?_
   refine aJ 3 4 ?_ TT.mk
   aa (refine ay 3 ?_)
   refine G3 ?_;refine WL.ld rfl (by first | exact ab ox rfl | assumption) rfl rfl rfl ?_
   rw [lz]
   have yO:=(k8.eJ _ (cm hi)).1
   have m1:¬ A.bs=i.p:=bE k8.se.bB yO (by decide)
   have m2:¬ b3=i.p:=bE gl yO (by decide)
   refine WL.step (dI rfl) rfl rfl rfl ?_;refine Gn ?_;refine Gs [(0,_),(3,_),(6,_),(8,_),(28,_)] ?_
   refine aJ 5 6 ?_ TT.mk
   aa (refine ay 6 ?_)
   refine WC.skip ?_;refine Gn ?_;refine WC.seq ?_;refine WC.cg (fun h'=>Ext (fun q=>q=i.p) h8 h') 14 14 rfl dB ?_
   refine WH.tk 0 rfl (fun hq hC=>an rfl) rfl rfl rfl ?_
   refine WH.tk 1 rfl (fun hq hC=>ah rfl) rfl rfl rfl ?_
   refine WH.tk 2 rfl (fun hq hC=>ag rfl Tryz.underlying153 rfl Tryz.sizeOf150) rfl rfl rfl ?_
   refine WH.tk 3 rfl (fun hq hC=>aC Tryz.isAgg150 rfl (by first | exact hC.cell (by first | exact ab k8.se.bB rfl | assumption) (by first | exact m1 | exact m2))) rfl rfl rfl ?_
   refine WH.tk 4 rfl (fun hq hC=>ag rfl Tryz.underlying42 rfl Tryz.sizeOf9) rfl rfl rfl ?_
   refine WH.tk 5 rfl (fun hq hC=>aC Tryz.isAgg9 rfl (by first | exact hC.cell (by first | exact ab gl rfl | assumption) (by first | exact m1 | exact m2))) rfl rfl rfl ?_
   refine WH.tk 6 rfl (fun hq hC=>ag rfl Tryz.underlying42 rfl Tryz.sizeOf3) rfl rfl rfl ?_
   refine WH.tk 7 rfl (fun hq hC=>aC Tryz.isAgg3 rfl (by first | exact hC.cell (by first | exact ab gl rfl | assumption) (by first | exact m1 | exact m2))) rfl rfl rfl ?_
   refine WH.one 8 (by kernel_rfl) ?_
   refine aE.call (vs:=[_,_,_]) rfl rfl Tryz.call219 rfl (xi k8 hi mx lz) rfl rfl rfl ?_ (fun _=>by kernel_rfl)
   rintro _ rr ⟨v11,N6,Sj,rfl,N7,Ga,Ck,H2,t11,cV⟩
   have tT:=Cg Ga (tR _ _ ⟨nj.2.2.2.1,nj.2.2.2.2⟩)
   refine ⟨fun _=>cV,?_⟩
   refine WH.tk 9 rfl (fun hq hC=>bY rfl rfl) rfl rfl rfl ?_
   refine WH.tk 10 rfl (fun hq hC=>bY rfl rfl) rfl rfl rfl ?_
   refine WH.one 11 (by kernel_rfl) ?_
   refine aE.call (vs:=[_,_]) rfl rfl Tryz.call218 rfl (rp N6 N7 _ tT.1 tT.2) rfl rfl rfl ?_ (fun _=>by kernel_rfl)
   rintro v12 r7 ⟨B,Jr,pB,eQ⟩
   refine ⟨fun _=>cV.trans (eQ.mono fun _ _ e=>e.elim),?_⟩
   have N8:=cV.trans (eQ.mono (S':=fun q=>q=i.p) fun _ _ e=>e.elim)
   refine WH.tk 12 rfl (fun hq hC=>aR rfl) rfl rfl rfl ?_
   refine WH.tk 13 rfl (fun hq hC=>aR rfl) rfl rfl rfl ?_
   refine WH.done (by kernel_rfl) ?_
   refine Gn ?_;refine Gs [(4,_),(5,_)] ?_;refine Gt ?_
   refine p7 Ck ((Tn.no X8).trans t11) Jr eQ (by rw [pB,Ga]) rfl rfl rfl rfl rfl rfl ?_
   rw [H2]
end
end Go.Proofs.YtopgddfgefnmbaaGreatDoor
