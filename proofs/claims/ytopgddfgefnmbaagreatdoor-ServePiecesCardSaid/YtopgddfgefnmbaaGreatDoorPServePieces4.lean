/-
  SEVERAL TEXTS IN ONE: Dx7, Sx5, StrJ, Dig, Tell, Cols, Dx8, Dx10, Dx11, Dx12, Dx13, ColsR, Dx14, Dx15, K29, Dx9, Dx16, Dx17.
-/
import Derived.Test.YtopgddfgefnmbaaGreatDoorPServePieces3
import Derived.Below
set_option maxHeartbeats 8000000
set_option maxRecDepth 100000
namespace Go.Proofs.YtopgddfgefnmbaaGreatDoor
open Go Go.RK
def fM (o:Option (List UInt8 × List UInt8)):Value:=match o with
 | none=>.nilIface
 | some (a,c)=>.iface 169 (.agg ⟨[St a,St c]⟩)
abbrev p7:List UInt8:=([99,117,114,114,101,110,116,32,116,114,97,110,115,97,99,116,105,111,110,32,105,115,32,97,98,111,114,116,101,100,44,32,99,111,109,109,97,110,100,115,32,105,103,110,111,114,101,100,32,117,110,116,105,108,32,101,110,100,32,111,102,32,116,114,97,110,115,97,99,116,105,111,110,32,98,108,111,99,107]:List UInt8)
theorem hG {h:ah} (a c:List UInt8):ag Tryz.prog 204 ⟨[St a,St c]⟩ h fun u h'=>u=fM (some (a,c))∧h'=h:=by
 refine calls [(0,_),(1,_)] Tryz.func204 rfl Tryz.ntmps204 rfl ⟨rfl,rfl,trivial⟩ ?_
 refine G2 ?_;refine G2 ?_;refine WL.step (aF (vs:=[_,_]) (cs:=[_,_]) (fun | [a0,a1]=>[a0,a1] | _=>[]) rfl rfl (by kernel_rfl)) rfl rfl rfl ?_
 refine WL.step (fE ⟨_,Tryz.underlying169,fun _ h=>by cases h⟩ rfl) rfl rfl rfl (Go ?_)
 refine Gs [(4,_)] ?_;refine Gt ?_
 exact ⟨rfl,rfl⟩
def jF (t:List UInt8) (st:Int):Option (List UInt8 × List UInt8):=if (bh t).k=0 then some (([52,50,54,48,49]:List UInt8),([115,121,110,116,97,120,32,101,114,114,111,114]:List UInt8)) else if st=69∧cx (bh t)=false then some (([50,53,80,48,50]:List UInt8),p7) else none
def gh (t:List UInt8) (st:Int):Option (List UInt8 × List UInt8):=if st=69∧cx (bh t)=false then some (([50,53,80,48,50]:List UInt8),p7) else none
theorem ub {h:ah}:ag Tryz.prog 275 ⟨[]⟩ h fun u h'=>u=St p7∧h'=h:=by
 refine calls [] Tryz.func275 rfl Tryz.ntmps275 rfl trivial ?_
 refine G2 ?_;refine G2 ?_;refine Gt ?_
 exact ⟨rfl,rfl⟩
section
variable {h:ah} {A:Ad} {st:Int} {sk ov:Bool} {cnt:Int} {L:List (List UInt8 × gy)} {P:List (List UInt8 × ee)}
theorem wP (k:Ss h A st sk ov cnt L P) (t:List UInt8) (hm:t.length≤1000000):ag Tryz.prog 242 ⟨[.pointer (some ⟨A.be,0,none⟩),St t,.int .u8 st]⟩ h fun u h'=>u=.tuple ⟨[St ((jF t st).getD ([],[])).1,St ((jF t st).getD ([],[])).2,.bool (jF t st).isSome]⟩∧Ext No h h':=by
 have kx:=fun h'=>mw (h:=h') (bh t)
 have kr:=lj k.se.eb
 have heb:=k.se.eb
 have hem:=k.se.em
 have kp:=fun h'=>oN (h:=h') t hm
 unfold jF
 obtain ⟨v,hv⟩:∃ v,bh t=v:=⟨_,rfl⟩
 rw [hv] at kx kp ⊢
 unfold fR.cells mh at kx kp
 rcases (show v.k=0∨v.k ≠ 0∧st=69∧cx v=false∨v.k ≠ 0∧st=69∧cx v=true∨v.k ≠ 0∧st ≠ 69∧cx v=true∨v.k ≠ 0∧st ≠ 69∧cx v=false∧v.k=1∨v.k ≠ 0∧st ≠ 69∧cx v=false∧v.k ≠ 1 by
   by_cases e1:v.k=0
   · exact .inl e1
   · by_cases e2:st=69 <;> cases e3:cx v
     · exact .inr (.inl ⟨e1,e2,rfl⟩)
     · exact .inr (.inr (.inl ⟨e1,e2,rfl⟩))
     · by_cases e4:v.k=1
       · exact .inr (.inr (.inr (.inr (.inl ⟨e1,e2,rfl,e4⟩))))
       · exact .inr (.inr (.inr (.inr (.inr ⟨e1,e2,rfl,e4⟩))))
     · exact .inr (.inr (.inr (.inl ⟨e1,e2,rfl⟩)))) with e1 | ⟨e1,e2,e3⟩ | ⟨e1,e2,e3⟩ | ⟨e1,e2,e3⟩ | ⟨e1,e2,e3,e4⟩ | ⟨e1,e2,e3,e4⟩
 all_goals
   try rw [e3] at kx
   refine calls [(0,_),(1,_),(2,_)] Tryz.func242 rfl Tryz.ntmps242 rfl ⟨rfl,rfl,rfl,trivial⟩ ?_
   all_goals (refine G2 ?_;refine G3 ?_;refine WL.call (vs:=[_]) rfl Tryz.call258 rfl (kr) rfl rfl rfl ?_;rintro _ hz ⟨rfl,_⟩;subst hz;refine Go ?_;refine Gs [(0,_),(1,_),(2,_),(12,_)] ?_;refine aH 1 2 ?_ TT.mk;refine aw 2 ?_;refine WC.skip ?_;refine Gn ?_;refine G2 ?_;refine WL.call (vs:=[_]) rfl Tryz.call214 rfl (kp _) rfl rfl rfl ?_;rintro _ h1 ⟨rfl,az⟩;refine WL.aj (an (fun w=>Tryz.zeroValue278 w)) rfl rfl rfl ?_;rintro _ h2 ⟨b9,rfl,gg,bH,aI⟩;refine WL.ax (al Tryz.sizeOf278 rfl rfl rfl bH rfl (by simp [Value.oneCell'])) rfl rfl ?_;rintro _ h3 ⟨bq,aQ⟩;have X3:Ext No h h3:=az.trans (aI.trans' aQ (fun q hq e=>by omega));refine Gn ?_;refine WC.seq ?_;refine WC.block ?_;refine G2 ?_;refine WL.ld rfl (by first | exact aa bq rfl | assumption) rfl rfl rfl (Go ?_);refine Gs [(0,_),(1,_),(2,_),(9,_),(15,_)] ?_;refine aH 3 4 ?_ TT.mk)
   all_goals try (
   refine aw 3 ?_
   all_goals (refine G2 ?_;refine Gs [(6,_),(7,_),(8,_)] ?_;refine Gt ?_;refine ⟨?_,X3⟩;first | (rw [if_pos e1];rfl) | (rw [if_neg e1,if_pos ⟨e2,e3⟩];rfl) | (rw [if_neg e1,if_neg (fun y=>by rw [e3] at y;exact absurd y.2 (by decide))];rfl) | (rw [if_neg e1,if_neg (fun y=>e2 y.1)];rfl))
   skip)
   all_goals (refine aw 4 ?_;refine G2 ?_;refine bK 22 ?_ TT.mk;first | refine WL.pass rfl rfl rfl ?_ | (refine WL.step (ay Tryz.isAgg278 Tryz.sizeOf278 rfl rfl (by exact At.av bq)) rfl rfl rfl ?_))
   all_goals (
    first
      | (refine WL.pass rfl rfl rfl ?_)
      | (refine WL.call (vs:=[_]) rfl Tryz.call265 rfl (kx _) rfl rfl rfl ?_
         rintro _ h4 ⟨rfl,aW⟩
         have bq:=aW.obj bq aO
         have X3:=X3.trans aW))
   all_goals (refine Gg ?_;refine Go ?_;refine Gs [(0,_),(1,_),(9,_),(19,_)] ?_;refine aH 5 6 ?_ TT.mk)
   all_goals try (
   refine aw 5 ?_
   all_goals (refine G2 ?_;refine Gs [(6,_),(7,_),(8,_)] ?_;refine Gt ?_;refine ⟨?_,X3⟩;first | (rw [if_pos e1];rfl) | (rw [if_neg e1,if_pos ⟨e2,e3⟩];rfl) | (rw [if_neg e1,if_neg (fun y=>by rw [e3] at y;exact absurd y.2 (by decide))];rfl) | (rw [if_neg e1,if_neg (fun y=>e2 y.1)];rfl))
   skip)
   all_goals (refine aw 6 ?_;refine WC.seq ?_;refine WC.sr ?_;refine WL.step (ay Tryz.isAgg278 Tryz.sizeOf278 rfl rfl (by exact At.av bq)) rfl rfl rfl ?_;refine WL.call (vs:=[_]) rfl Tryz.call265 rfl (kx _) rfl rfl rfl ?_;rintro _ h4 ⟨rfl,aW⟩;have bq:=aW.obj bq aO;have X3:=X3.trans aW;refine Go ?_;refine aH 7 8 ?_ TT.mk)
   all_goals try (
   refine aw 7 ?_
   all_goals (refine WC.skip ?_)
   skip)
   all_goals try (
   refine aw 8 ?_
   all_goals (refine WC.region (Go ?_);refine WL.ld rfl (by first | exact aa bq rfl | assumption) rfl rfl rfl (Go ?_))
   skip)
   all_goals (refine Gn ?_;refine Gs [(0,_),(1,_),(27,_)] ?_;refine aH 9 10 ?_ TT.mk)
   all_goals try (
   refine aw 9 ?_
   all_goals (refine WC.skip ?_)
   skip)
   all_goals try (
   refine aw 10 ?_
   all_goals (refine G2 ?_;refine WL.step (ae rfl) rfl rfl rfl (Go ?_);refine WL.ld rfl (by first | exact aa (X3.obj heb aO) rfl | assumption) rfl rfl rfl (Go ?_);refine WL.step ((dq fB Tryz.underlying97 Tryz.underlying9 (fun w=>Tryz.zeroValue4 w) rfl rfl (hem.ext X3 aO) (by rfl)).2) rfl rfl rfl (Go ?_);refine Gs [(33,_)] ?_;refine aH 11 12 ?_ TT.mk;refine aw 12 ?_;refine WC.skip ?_)
   skip)
   all_goals (refine Gn ?_;refine G2 ?_;refine Gt ?_;refine ⟨?_,X3⟩;first | (rw [if_pos e1];rfl) | (rw [if_neg e1,if_pos ⟨e2,e3⟩];rfl) | (rw [if_neg e1,if_neg (fun y=>by rw [e3] at y;exact absurd y.2 (by decide))];rfl) | (rw [if_neg e1,if_neg (fun y=>e2 y.1)];rfl))
theorem iZ (k:Ss h A st sk ov cnt L P) (t:List UInt8) (hm:t.length≤1000000):ag Tryz.prog 203 ⟨[.pointer (some ⟨A.bs,0,none⟩),St t]⟩ h fun u h'=>u=fM (jF t st)∧Ext No h h':=by
 have hb:=k.se.bm
 have kv:=wP k t hm
 cases hr:jF t st
 all_goals
   rw [hr] at kv
   dsimp only [Option.getD_none,Option.getD_some,Option.isSome_none,Option.isSome_some] at kv
   refine calls [(0,_),(1,_)] Tryz.func203 rfl Tryz.ntmps203 rfl ⟨rfl,rfl,trivial⟩ ?_
   all_goals (refine G2 ?_;refine WC.seq ?_;refine WC.seq ?_;refine WC.bW (fun h'=>Ext No h h') 17 17 rfl dm ?_;refine WH.tk 0 rfl (fun hq hC=>ak rfl) rfl rfl rfl ?_;refine WH.tk 1 rfl (fun hq hC=>ae rfl) rfl rfl rfl ?_;refine WH.tk 2 rfl (fun hq hC=>ad rfl Tryz.underlying153 rfl Tryz.sizeOf46) rfl rfl rfl ?_;refine WH.tk 3 rfl (fun hq hC=>aA Tryz.isAgg46 rfl (by first | exact hC.cell (by first | exact aa hb rfl | assumption) aO)) rfl rfl rfl ?_;refine WH.tk 4 rfl (fun hq hC=>ak rfl) rfl rfl rfl ?_;refine WH.tk 5 rfl (fun hq hC=>ak rfl) rfl rfl rfl ?_;refine WH.tk 6 rfl (fun hq hC=>ae rfl) rfl rfl rfl ?_;refine WH.tk 7 rfl (fun hq hC=>ad rfl Tryz.underlying153 rfl Tryz.sizeOf5) rfl rfl rfl ?_;refine WH.tk 8 rfl (fun hq hC=>aA Tryz.isAgg5 rfl (by first | exact hC.cell (by first | exact aa hb rfl | assumption) aO)) rfl rfl rfl ?_;refine WH.one 9 (by kernel_rfl) ?_;refine aC.call (vs:=[_,_,_]) rfl rfl Tryz.call242 rfl (kv) rfl rfl rfl ?_ (fun _=>by kernel_rfl);rintro _ h1 ⟨rfl,az⟩;refine ⟨fun _=>az,?_⟩;refine WH.tk 10 rfl (fun hq hC=>ak rfl) rfl rfl rfl ?_;refine WH.tk 11 rfl (fun hq hC=>bP rfl rfl) rfl rfl rfl ?_;refine WH.tk 12 rfl (fun hq hC=>bP rfl rfl) rfl rfl rfl ?_;refine WH.tk 13 rfl (fun hq hC=>bP rfl rfl) rfl rfl rfl ?_;refine WH.tk 14 rfl (fun hq hC=>aP rfl) rfl rfl rfl ?_;refine WH.tk 15 rfl (fun hq hC=>aP rfl) rfl rfl rfl ?_;refine WH.tk 16 rfl (fun hq hC=>aP rfl) rfl rfl rfl ?_;refine WH.done (by kernel_rfl) ?_;refine Gn ?_;refine Gs [(5,_),(6,_),(7,_)] ?_;refine G2 ?_;refine aH 1 2 ?_ TT.mk)
   all_goals try (
   refine aw 1 ?_
   all_goals (refine G2 ?_;refine WL.call (vs:=[_,_]) rfl Tryz.call204 rfl (hG _ _) rfl rfl rfl ?_;rintro _ hq ⟨rfl,hz⟩;replace hz:=hz.symm;subst hz;refine Go ?_;refine Gs [(4,_)] ?_;refine Gt ?_;exact ⟨rfl,by first | exact az | exact hC⟩)
   skip)
   all_goals (refine aw 2 ?_;refine WC.skip ?_;refine Gn ?_;refine Gs [] ?_;refine G2 ?_;refine Gt ?_;exact ⟨rfl,by first | exact az | exact hC⟩)
theorem oP (k:Ss h A st sk ov cnt L P) (t:List UInt8) {v:Value} (hm:t.length≤1000000) (hv:∃ B n c,v=.slice B n c):ag Tryz.prog 245 ⟨[.pointer (some ⟨A.bs,0,none⟩),.agg ⟨[St t,v]⟩]⟩ h fun u h'=>u=fM (gh t st)∧Ext No h h':=by
 have hb:=k.se.bm
 have kx:=fun h'=>mw (h:=h') (bh t)
 have kp:=fun h'=>oN (h:=h') t hm
 obtain ⟨B,n,c,rfl⟩:=hv
 unfold gh
 obtain ⟨w,hw⟩:∃ w,bh t=w:=⟨_,rfl⟩
 rw [hw] at kx kp ⊢
 unfold fR.cells mh at kx kp
 rcases (show st=69∧cx w=false∨st=69∧cx w=true∨st ≠ 69 by
   by_cases e1:st=69 <;> cases e3:cx w
   · exact .inl ⟨e1,rfl⟩
   · exact .inr (.inl ⟨e1,rfl⟩)
   · exact .inr (.inr e1)
   · exact .inr (.inr e1)) with ⟨e1,e3⟩ | ⟨e1,e3⟩ | e1
 all_goals
   try rw [e3] at kx
   refine calls [(0,_),(1,_)] Tryz.func245 rfl Tryz.ntmps245 rfl ⟨rfl,rfl,trivial⟩ ?_
   all_goals (refine WC.sr ?_;refine WL.aj (aG rfl) rfl rfl rfl ?_;rintro _ h1 ⟨b3,rfl,bR,aR,az⟩;refine Go ?_;refine G3 ?_;refine WL.step (ae rfl) rfl rfl rfl (Go ?_);refine WL.ld rfl (by first | exact aa (az.obj hb aO) rfl | assumption) rfl rfl rfl (Go ?_);refine bK 10 ?_ TT.mk;refine Gg ?_;first | refine WL.pass rfl rfl rfl ?_ | (refine WL.ld rfl (by first | exact aa aR rfl | assumption) rfl rfl rfl ?_))
   all_goals (
    first
      | (refine WL.pass rfl rfl rfl ?_)
      | (refine WL.call (vs:=[_]) rfl Tryz.call214 rfl (kp _) rfl rfl rfl ?_
         rintro _ h2 ⟨rfl,aI⟩))
   all_goals (
    first
      | (refine WL.pass rfl rfl rfl ?_)
      | (refine WL.call (vs:=[_]) rfl Tryz.call265 rfl (kx _) rfl rfl rfl ?_
         rintro _ h3 ⟨rfl,aQ⟩
         replace az:=(az.trans aI).trans aQ))
   all_goals (refine Gg ?_;refine Go ?_;refine Gs [(16,_)] ?_;refine aH 1 2 ?_ TT.mk)
   all_goals try (
   refine aw 1 ?_
   all_goals (refine WC.sr ?_;refine WL.call (vs:=[]) rfl Tryz.call275 rfl (ub) rfl rfl rfl ?_;rintro _ hq ⟨rfl,hz⟩;replace hz:=hz.symm;subst hz;refine WL.call (vs:=[_,_]) rfl Tryz.call204 rfl (hG _ _) rfl rfl rfl ?_;rintro _ hq ⟨rfl,hz⟩;replace hz:=hz.symm;subst hz;refine Go ?_;refine Gt ?_)
   all_goals (
    refine ⟨?_,az⟩
    first
     | exact congrArg fM (if_pos (show st=69∧cx w=false from ⟨e1,e3⟩)).symm
     | exact (show Value.nilIface=fM none from rfl).trans (congrArg fM (if_neg (show ¬ (st=69∧cx w=false) from fun y=>absurd (e3.symm.trans y.2) (by decide))).symm)
     | exact (show Value.nilIface=fM none from rfl).trans (congrArg fM (if_neg (show ¬ (st=69∧cx w=false) from fun y=>e1 y.1)).symm))
   skip)
   all_goals (refine aw 2 ?_;refine WC.skip ?_;refine Gn ?_;refine G2 ?_;refine Gt ?_)
   all_goals (
    refine ⟨?_,az⟩
    first
     | exact congrArg fM (if_pos (show st=69∧cx w=false from ⟨e1,e3⟩)).symm
     | exact (show Value.nilIface=fM none from rfl).trans (congrArg fM (if_neg (show ¬ (st=69∧cx w=false) from fun y=>absurd (e3.symm.trans y.2) (by decide))).symm)
     | exact (show Value.nilIface=fM none from rfl).trans (congrArg fM (if_neg (show ¬ (st=69∧cx w=false) from fun y=>e1 y.1)).symm))
end
section
variable {h h':ah} {bs ms bp mp be me:Nat} {st st':Int} {sk ov:Bool} {cnt:Int} {L P P' R:List (List UInt8 × Value)} {S:Nat→Prop}
def Ff (k st:Int) (tag:List UInt8):List Value:=[.int .u8 k,.int .u8 st,St tag,St [],St [],In 0,In 0,.slice none 0 0,.slice none 0 0,.slice none 0 0,.slice none 0 0]
theorem fu {v:Value} {b:Nat} {l:List aX} (e:l=[]):¬ du v l b:=fun h=>by subst e;rcases h with ⟨z,_⟩ | ⟨c,hc,_⟩;simp at z;cases hc
theorem iL {v:Value} {b:Nat} {l:List Rw} (e:l=[]):¬ dH v l b:=fun h=>by subst e;rcases h with ⟨z,_⟩ | ⟨c,hc,_⟩;simp at z;cases hc
end
end Go.Proofs.YtopgddfgefnmbaaGreatDoor
namespace Go.Proofs.YtopgddfgefnmbaaGreatDoor
open Go Go.RK Go.RowKit
theorem r7 {P:Program} {k:FuncId} {args:Array Value} {h:ah} {v:Value} (hc:∀ w:World,w.heap=h→Calls P k args w fun e w'=>e=.returned v∧Below w.heap.size w w'):ag P k args h fun u h'=>u=v∧Ext No h h' :=
 fun w hw=>(hc w hw).mono fun e w' ⟨he,hb⟩=>⟨⟨hb.tape,hb.os,hb.output,trivial⟩,v,he,rfl,by subst hw;exact ⟨hb.size,fun b hlt _=>hb.block b hlt⟩⟩
theorem HF {h:ah} {b:Nat} (a c d:List UInt8) (hb:h[b]?=some (.cells ⟨[St a,St c,St d]⟩ 9 (0,0))) (hl:a.length+c.length+d.length≤1000000) :
   ag Tryz.prog 273 ⟨[.slice (some ⟨b,0,none⟩) 3 3,St [32]]⟩ h fun u h'=>u=St (a++[32]++c++[32]++d)∧Ext No h h':=by
 have e:Lib.join ([ByteArray.mk ⟨a⟩,⟨⟨c⟩⟩,⟨⟨d⟩⟩].map (·.data.toList)) (ByteArray.mk ⟨[32]⟩).data.toList=a++[32]++c++[32]++d:=by
   show Lib.join [a,c,d] [32]=_
   rw [Lib.join_cons]
   simp [Lib.joinTail]
 refine r7 fun w hw=>?_
 subst hw
 have:=Tryz.strings_Join b 0 3 [⟨⟨a⟩⟩,⟨⟨c⟩⟩,⟨⟨d⟩⟩] ⟨⟨[32]⟩⟩ w (fun j x hj=>?_) (ai hb) (by simp) (by simp) (by rw [e];simp;omega)
 · rw [e] at this
   exact this
 · rw [mn,cell_of hb,Nat.zero_add]
   rcases j with _ | _ | _ | j <;> simp at hj ⊢
   all_goals (subst hj;rfl)
end Go.Proofs.YtopgddfgefnmbaaGreatDoor
namespace Go.Proofs.YtopgddfgefnmbaaGreatDoor
open Go Go.RK
def cX (m:Nat):List UInt8:=if m < 10 then [UInt8.ofNat (48+m)] else UInt8.ofNat (48+m % 10) :: cX (m / 10)
def xK (m:Nat):List UInt8:=(cX m).reverse
def dr (n:Int):List UInt8:=if n < 0 then 45 :: xK n.natAbs else xK n.natAbs
theorem mB {m:Nat} (h:m < 10):cX m=[UInt8.ofNat (48+m)]:=by unfold cX;rw [if_pos h]
theorem p8 {m:Nat} (h:¬ m < 10):cX m=UInt8.ofNat (48+m % 10) :: cX (m / 10):=by rw [cX,if_neg h]
theorem zu (k m:Nat) (h:m < 10 ^ (k+1)):(cX m).length≤k+1:=by
 induction k generalizing m with
 | zero=>rw [mB (by omega)];simp
 | succ k ih =>
   by_cases h1:m < 10
   · rw [mB h1];simp
   · rw [p8 h1]
     have:m / 10 < 10 ^ (k+1):=by
       rw [Nat.div_lt_iff_lt_mul (by omega)]
       rw [Nat.pow_succ] at h
       exact h
     have:=ih _ this
     simp;omega
theorem hH (m:Nat) (h:m≤9223372036854775808):(cX m).length≤20:=zu 19 m (by omega)
theorem Cr (m:Nat) (h:m≤9223372036854775808):(xK m).length≤20:=by unfold xK;simpa using hH m h
theorem zw (m:Nat):0 < (cX m).length:=by unfold cX;split <;> simp
theorem dk (n:Int) (h:n.natAbs≤9223372036854775808):(dr n).length≤21:=by
 have:=Cr _ h
 unfold dr
 split <;> simp <;> omega
theorem Fg (m:Nat):By (UInt8.ofNat (48+m % 10))=.int .u8 (48+(m % 10:Nat)):=by
 have:(UInt8.ofNat (48+m % 10)).toNat=48+m % 10:=by simp;omega
 unfold By
 rw [this]
 simp
theorem uc (m:Nat):(-(m:Int)).tdiv 10 = -((m / 10:Nat):Int):=by rw [Int.neg_tdiv];rfl
theorem ud (m:Nat):(-(m:Int)).tmod 10 = -((m % 10:Nat):Int):=by rw [Int.neg_tmod];rfl
def Bl (h:ah) (b:Nat) (v:Value) (bs:List UInt8):Prop:=(∃ p,h[b]?=some (.cells ⟨[p,v]⟩ 344 (0,0))∧(p=.pointer none∨p=.pointer (some ⟨b,0,none⟩)))∧Own h v 5 1 bs.length (bA bs)∧(bs=[]→v=.slice none 0 0)
theorem zx (v:Value) (w:World):(callFunc 314 #[v]).run Tryz.prog w=.ok (.value v) w:=by
 rw [run_callFunc_extern (P:=Tryz.prog) (fn:=Tryz.f314) (e:=Extern.AbiNoEscape.same) (by kernel_rfl) (by kernel_rfl) rfl (by kernel_rfl) (by kernel_rfl)]
 rfl
theorem wQ {h:ah} {b:Nat} {v:Value} {bs:List UInt8} (r:Bl h b v bs) :
   ag Tryz.prog 303 ⟨[.pointer (some ⟨b,0,none⟩)]⟩ h fun u h'=>u=.tuple ⟨[]⟩∧h'[b]?=some (.cells ⟨[.pointer (some ⟨b,0,none⟩),v]⟩ 344 (0,0))∧Ext (fun k=>k=b) h h':=by
 obtain ⟨⟨p,hb,rfl | rfl⟩,ho,_⟩:=r
 · obtain ⟨A,c,rfl,_⟩:=ho.slice
   refine calls [(0,_)] Tryz.func303 rfl Tryz.ntmps303 rfl ⟨rfl,trivial⟩ ?_
   refine G2 ?_;refine WL.step (ae rfl) rfl rfl rfl (Go ?_);refine Ld ?_;refine WL.step (fz Tryz.underlying342 rfl rfl) rfl rfl rfl ?_;refine Gn ?_;refine Gs [(0,_),(6,_)] ?_
   refine aH 1 2 ?_ TT.mk
   all_goals (refine aw 1 ?_)
   refine WC.region (Go ?_);refine WL.step (qZ Tryz.underlying342 Tryz.underlying215 (show Tryz.prog.info? 344=some Tryz.t344 by kernel_rfl) (by decide) rfl (by assumption) (Nat.le_of_ble_eq_true rfl)) rfl rfl rfl ?_
   refine WL.step (wy (fun w=>zx _ w) rfl) rfl rfl rfl ?_
   refine WL.step (nZ Tryz.underlying215 Tryz.underlying342 (show Tryz.prog.info? 344=some Tryz.t344 by kernel_rfl) rfl (by assumption) (by kernel_rfl)) rfl rfl rfl ?_
   refine WL.step (ae rfl) rfl rfl rfl (Go ?_);refine WL.ax (aB Tryz.sizeOf342 rfl rfl (by assumption) (Nat.le_of_ble_eq_true rfl) rfl rfl) rfl rfl ?_
   rintro _ h1 ⟨aR,az⟩
   refine Gn ?_;refine Gn ?_
   refine fA [] trivial ?_
   exact ⟨rfl,aR,az⟩
 · obtain ⟨A,c,rfl,_⟩:=ho.slice
   refine calls [(0,_)] Tryz.func303 rfl Tryz.ntmps303 rfl ⟨rfl,trivial⟩ ?_
   refine G2 ?_;refine WL.step (ae rfl) rfl rfl rfl (Go ?_);refine Ld ?_;refine WL.step (fz Tryz.underlying342 rfl rfl) rfl rfl rfl ?_;refine Gn ?_;refine Gs [(0,_),(6,_)] ?_
   refine aH 1 2 ?_ TT.mk
   all_goals (refine aw 2 ?_)
   refine G2 ?_;refine WL.step (ae rfl) rfl rfl rfl (Go ?_);refine Ld ?_;refine Go ?_;refine WL.step (xX Tryz.underlying342 (show Tryz.prog.info? 344=some Tryz.t344 by kernel_rfl) rfl rfl) rfl rfl rfl ?_
   refine Gn ?_;refine Gs [(19,_)] ?_
   refine aH 3 4 ?_ TT.mk
   all_goals (refine aw 4 ?_)
   refine WC.skip ?_;refine Gn ?_
   refine fA [] trivial ?_
   exact ⟨rfl,hb,.refl _ _⟩
theorem oQ {h:ah} {b:Nat} {v:Value} {bs:List UInt8} (r:Bl h b v bs) (c:UInt8) (hm:bs.length≤1000000) :
   ag Tryz.prog 277 ⟨[.pointer (some ⟨b,0,none⟩),By c]⟩ h fun u h'=>u=.nilIface∧∃ v',Bl h' b v' (bs++[c])∧Ext (fun k=>k=b∨v.ownBlock=some k) h h'∧∀ k,v'.ownBlock=some k→v.ownBlock=some k∨h.size≤k:=by
 have r0:=r
 obtain ⟨⟨p,hb,_⟩,ho,_⟩:=r
 obtain ⟨A,c0,rfl,_⟩:=ho.slice
 have hne:(Value.slice A bs.length c0).ownBlock ≠ some b:=bQ ho hb (by decide)
 refine calls [(0,_),(1,_)] Tryz.func277 rfl Tryz.ntmps277 rfl ⟨rfl,rfl,trivial⟩ ?_
 refine G2 ?_;refine G2 ?_;refine WL.call (vs:=[_]) rfl Tryz.call303 rfl (wQ r0) rfl rfl rfl ?_
 rintro _ h1 ⟨rfl,aR,az⟩
 have jM:=ho.ext az (fun k hk e=>hne (by rw [hk,e]))
 refine Gn ?_;refine G2 ?_;refine WL.step (ae rfl) rfl rfl rfl (Go ?_);refine Ld ?_;refine Go ?_;refine WL.aj (au (vs:=[_]) (cs:=[_]) (fun | [a0]=>[a0] | _=>[]) Tryz.underlying23 rfl rfl (by kernel_rfl)) rfl rfl rfl ?_
 rintro _ h3 ⟨b3,rfl,gl,bq,aQ⟩
 have dN:=jM.ext aQ (fun _ _=>aO)
 have tU:=aQ.obj aR aO
 refine WL.aj (aT (sz:=1) (bytes:=1) rfl Tryz.underlying23 (show Tryz.prog.info? 5=some Tryz.t5 by kernel_rfl) rfl rfl rfl rfl (by decide) rfl rfl dN (bx bq rfl) (by simp [Value.oneCell']) (by simp only [maxLen];omega) (by omega)) rfl rfl rfl ?_
 rintro v4 h4 ⟨fP,aW,rD⟩
 obtain ⟨A4,c4,rfl,_⟩:=fP.slice
 have bC:=aW.obj tU (fun e=>hne e)
 refine WL.step (ae rfl) rfl rfl rfl (Go ?_);refine WL.ax (aB Tryz.sizeOf23 rfl rfl bC (Nat.le_of_ble_eq_true rfl) rfl rfl) rfl rfl ?_
 rintro _ h5 ⟨bV,aM⟩
 refine Gn ?_;refine Gs [] ?_;refine G2 ?_;refine Gt ?_
 exact ⟨rfl,_,⟨⟨_,bV,.inr rfl⟩,by simpa using fP.ext aM (fun k hk e=>bQ fP bC (by decide) (by rw [hk,e])),by simp⟩,(((az.mono (fun k _ e=>.inl e)).trans (aQ.mono (fun k _ e=>e.elim))).trans' aW (fun k _ e=>.inr e)).trans' aM (fun k _ e=>.inl e),Ej rD (Nat.le_trans az.size aQ.size)⟩
theorem jt {h:ah} {b:Nat} {v:Value} {bs:List UInt8} (r:Bl h b v bs) (hm:bs.length≤1000000) :
   ag Tryz.prog 278 ⟨[.pointer (some ⟨b,0,none⟩)]⟩ h fun u h'=>u=St bs∧Ext (fun k=>v.ownBlock=some k) h h':=by
 obtain ⟨⟨p,hb,_⟩,ho,hnn⟩:=r
 rcases ho with ⟨_,⟨rfl,h0⟩ | ⟨g,cap,cur,rfl,hg,hn,hcm,hcs,hct⟩⟩
 · obtain rfl:=List.eq_nil_of_length_eq_zero h0
   refine calls [(0,_)] Tryz.func278 rfl Tryz.ntmps278 rfl ⟨rfl,trivial⟩ ?_
   refine G2 ?_;refine WC.seq ?_;refine WC.jl 10 dm (by kernel_rfl) ?_
   show WS _ _ _ [_,_,_,_,_,_,_,_,_,_] _ _ _
   refine WS.step (ak rfl) rfl rfl rfl ?_;refine WS.step (ae rfl) rfl rfl rfl ?_;refine WS.step (ad rfl Tryz.underlying344 rfl Tryz.sizeOf23) rfl rfl rfl ?_;refine WS.step (aA Tryz.isAgg23 rfl (by first | assumption | exact aa (by assumption) rfl)) rfl rfl rfl ?_
   refine WS.step (nY rfl) rfl rfl rfl ?_;refine WS.step (ak rfl) rfl rfl rfl ?_;refine WS.step (ae rfl) rfl rfl rfl ?_;refine WS.step (ad rfl Tryz.underlying344 rfl Tryz.sizeOf23) rfl rfl rfl ?_;refine WS.step (aA Tryz.isAgg23 rfl (by first | assumption | exact aa (by assumption) rfl)) rfl rfl rfl ?_
   refine WS.step (cq rfl Tryz.underlying23 rfl) rfl rfl rfl ?_;refine WS.nil ?_
   show WL _ _ _ [_,_] _ _ _
   refine WL.aj (j5 rfl rfl rfl) rfl rfl rfl ?_
   rintro _ hz ⟨rfl,_⟩
   subst hz
   refine WL.step (aP rfl) rfl rfl rfl ?_;refine WL.nil ?_;refine Gn ?_;refine Gs [(2,_)] ?_;refine Gt ?_
   exact ⟨rfl,.refl _ _⟩
 · have hg':h[g]?=some (.cells ⟨cur.toList⟩ 5 (0,0)):=hg
   by_cases Gv:cap=0
   · have h0:bs=[]:=List.eq_nil_of_length_eq_zero (by omega)
     cases hnn h0
   ·
     refine calls [(0,_)] Tryz.func278 rfl Tryz.ntmps278 rfl ⟨rfl,trivial⟩ ?_
     refine G2 ?_;refine WC.seq ?_;refine WC.jl 10 dm (by kernel_rfl) ?_
     show WS _ _ _ [_,_,_,_,_,_,_,_,_,_] _ _ _
     refine WS.step (ak rfl) rfl rfl rfl ?_;refine WS.step (ae rfl) rfl rfl rfl ?_;refine WS.step (ad rfl Tryz.underlying344 rfl Tryz.sizeOf23) rfl rfl rfl ?_;refine WS.step (aA Tryz.isAgg23 rfl (by first | assumption | exact aa (by assumption) rfl)) rfl rfl rfl ?_
     refine WS.step (pF rfl (by omega)) rfl rfl rfl ?_
     refine WS.step (ak rfl) rfl rfl rfl ?_;refine WS.step (ae rfl) rfl rfl rfl ?_;refine WS.step (ad rfl Tryz.underlying344 rfl Tryz.sizeOf23) rfl rfl rfl ?_;refine WS.step (aA Tryz.isAgg23 rfl (by first | assumption | exact aa (by assumption) rfl)) rfl rfl rfl ?_
     refine WS.step (cq rfl Tryz.underlying23 rfl) rfl rfl rfl ?_;refine WS.nil ?_
     show WL _ _ _ [_,_] _ _ _
     refine WL.aj (kP rfl Tryz.underlying365 (by kernel_rfl) rfl rfl rfl hg' (by simpa using hct) (by unfold maxLen;omega)) rfl rfl rfl ?_
     rintro _ h1 ⟨rfl,az⟩
     refine WL.step (aP rfl) rfl rfl rfl ?_;refine WL.nil ?_;refine Gn ?_;refine Gs [(2,_)] ?_;refine Gt ?_
     exact ⟨rfl,az.mono (fun k _ e=>by rw [e];rfl)⟩
theorem oR {h:ah} (m:Nat) (hm:m≤9223372036854775808) :
   ag Tryz.prog 276 ⟨[In (-(m:Int))]⟩ h fun u h'=>Own h' u 5 1 (cX m).length (bA (cX m))∧Ext No h h'∧∀ k,u.ownBlock=some k→h.size≤k:=by
 have hlm:=hH m hm
 refine calls [(0,_)] Tryz.func276 rfl Tryz.ntmps276 rfl ⟨rfl,trivial⟩ ?_
 refine G2 ?_;refine G2 ?_;refine WC.block ?_;refine WC.bD (X:=List UInt8 × Value × Nat) (fun x=>([(3,x.2.1),(0,In (-(x.2.2:Int)))]:Fr)) [] (fun x h'=>x.2.2≤m∧x.1++cX x.2.2=cX m∧Own h' x.2.1 5 1 x.1.length (bA x.1)∧Ext No h h'∧∀ k,x.2.1.ownBlock=some k→h.size≤k) (fun x=>x.2.2) (([],.slice none 0 0,m)) ⟨rfl,rfl,trivial⟩ (by exact ⟨Nat.le_refl _,rfl,Own.nil _ _ _,.refl _ _,by simp [Value.ownBlock]⟩) ?_
 rintro ⟨out,v1,q⟩ h1 ⟨hq,hout,jM,az,ik⟩
 simp only at hq hout jM ik
 obtain ⟨A1,c1,rfl,_⟩:=jM.slice
 have hlo:=congrArg List.length hout
 rw [List.length_append] at hlo
 have hpos:=zw q
 have e1:=uc q
 have e2:=ud q
 refine WC.sub [(0,_),(3,_)] ⟨rfl,rfl,trivial⟩ ?_
 dsimp only
 refine WC.block ?_;refine G2 ?_;refine WL.step (xW rfl rfl (by decide)) rfl rfl rfl ?_
 rw [e2]
 refine WL.step (eY rfl rfl (by omega)) rfl rfl rfl ?_
 refine WL.step (oF Tryz.underlying3 Tryz.underlying5 rfl (by omega)) rfl rfl rfl ?_
 rw [show (48 - -((q % 10:Nat):Int))=48+(q % 10:Nat) by omega,← Fg]
 refine WL.aj (au (vs:=[_]) (cs:=[_]) (fun | [a0]=>[a0] | _=>[]) Tryz.underlying23 rfl rfl (by kernel_rfl)) rfl rfl rfl ?_
 rintro _ h3 ⟨b3,rfl,gl,bq,aQ⟩
 refine WL.aj (aT (sz:=1) (bytes:=1) rfl Tryz.underlying23 (show Tryz.prog.info? 5=some Tryz.t5 by kernel_rfl) rfl rfl rfl rfl (by decide) rfl rfl (jM.ext aQ (fun _ _=>aO)) (bx bq rfl) (by simp [Value.oneCell']) (by simp only [maxLen];omega) (by omega)) rfl rfl rfl ?_
 rintro v4 h4 ⟨fP,aW,rD⟩
 have r8:=bU rD ik (by have:=az.size;have:=aQ.size;omega)
 have Ls:=(az.trans aQ).trans' aW (fun q hq e=>by have:=ik q e;omega)
 refine Go ?_;refine Gs [(0,_),(3,_)] ?_;refine G2 ?_;refine WL.step (iR rfl rfl (by decide) (j3 (by omega) (by decide))) rfl rfl rfl ?_
 rw [e1]
 refine WL.step (aP rfl) rfl rfl rfl ?_;refine Gn ?_;refine G2 ?_
 refine aH 1 2 (Hb.mk fun hb=>?_) (Hb.mk fun hb=>?_)
 all_goals try (
 refine aw 1 ?_
 refine G2 ?_;refine Gs [(2,_)] ?_;refine Gt ?_
 exact ⟨by rw [← hout,mB (m:=q) (by omega)];have e9:q % 10=q:=Nat.mod_eq_of_lt (by omega);rw [e9] at fP;simpa using fP,Ls,r8⟩
 skip)
 all_goals (refine aw 2 ?_)
 refine WC.skip ?_;refine Gn ?_
 exact ⟨(out++[UInt8.ofNat (48+q % 10)],_,q / 10),⟨rfl,rfl,trivial⟩,(by exact ⟨by simp;omega,by rw [← hout,p8 (m:=q) (by omega)];simp,by simpa using fP,Ls,r8⟩),(by simp;omega)⟩
theorem zy {l:List UInt8} {j:Nat} {y:UInt8} (hy:l[j]?=some y):(bA l)[j]?=some (By y):=by simp [hy]
theorem oT {l:List UInt8} {j:Nat} {y:UInt8} (hy:l[j]?=some y):(l.drop j).reverse=(l.drop (j+1)).reverse++[y]:=by
 rw [List.drop_eq_getElem?_toList_append,hy]
 simp
theorem vB {h:ah} {b:Nat} {v:Value} {bs:List UInt8} (r:Bl h b v bs):b < h.size:=by
 obtain ⟨⟨p,hb,_⟩,_⟩:=r
 exact ai hb
theorem zA {h:ah} (m:Nat) (hm:m≤9223372036854775807) :
   ag Tryz.prog 246 ⟨[In m]⟩ h fun u h'=>u=St (dr m)∧Ext No h h':=by
 have ed:dr (m:Int)=xK m:=by unfold dr;rw [if_neg (by omega)];rfl
 have hlm:=hH m (by omega)
 refine calls [(0,_)] Tryz.func246 rfl Tryz.ntmps246 rfl ⟨rfl,trivial⟩ ?_
 refine G2 ?_;refine G2 ?_;refine G3 ?_;refine Gs [(0,_),(3,_),(10,_)] ?_
 refine aH 1 2 ?_ TT.mk
 all_goals (refine aw 1 ?_)
 refine WC.region (Go ?_);refine WL.step (pE rfl (by omega)) rfl rfl rfl (Go ?_)
 refine Gn ?_;refine G2 ?_;refine WL.call (vs:=[_]) rfl Tryz.call276 rfl (oR m (by omega)) rfl rfl rfl ?_
 rintro v4 h4 ⟨fP,aW,r8⟩
 obtain ⟨A4,c4,rfl,_⟩:=fP.slice
 refine Go ?_;refine Gs [(3,_),(4,_)] ?_;refine G3 ?_
 refine aH 3 4 ?_ TT.mk
 all_goals (refine aw 4 ?_)
 refine WC.skip ?_;refine Gn ?_;refine WC.sr ?_;refine WL.aj (an (fun w=>Tryz.zeroValue344 w)) rfl rfl rfl ?_
 rintro _ h5 ⟨b5,rfl,qR,bV,aM⟩
 have hob:=fP.ext aM (fun _ _=>aO)
 have hfb:∀ k,(Value.slice A4 (cX m).length c4).ownBlock=some k→k < b5:=fun k e=>by have:=fP.lt e;omega
 refine Gn ?_;refine G3 ?_;refine Gs [(4,_),(5,_),(6,_)] ?_;refine WC.block ?_;refine WC.bD (X:=Nat × Value) (fun x=>([(6,In ((x.1:Int) - 1))]:Fr)) [(4,_),(5,_)] (fun x h'=>x.1≤(cX m).length∧Bl h' b5 x.2 ((cX m).drop x.1).reverse∧Own h' (Value.slice A4 (cX m).length c4) 5 1 (cX m).length (bA (cX m))∧Ext No h h'∧h.size≤b5∧∀ k,x.2.ownBlock=some k→b5 < k) (fun x=>x.1) (((cX m).length,.slice none 0 0)) ⟨rfl,rfl,rfl,trivial⟩ (by exact ⟨Nat.le_refl _,by simpa [Bl] using (⟨⟨_,bV,.inl rfl⟩,Own.nil _ _ _⟩:_∧_),hob,aW.trans aM,Nat.le_trans aW.size qR,by simp [Value.ownBlock]⟩) ?_
 rintro ⟨k,v6⟩ h6 ⟨hk,hbl,gu,aN,qQ,iH⟩
 simp only at hk hbl iH
 refine WC.sub [(6,_),(4,_),(5,_)] ⟨rfl,rfl,rfl,trivial⟩ ?_
 dsimp only
 refine G3 ?_
 refine aH 5 6 (Hb.mk fun hb=>?_) (Hb.mk fun hb=>?_)
 all_goals try (
 refine aw 5 ?_
 refine WC.skip ?_
 skip)
 all_goals try (
 refine aw 6 ?_
 refine WC.exit ?_
 repeat' (with_reducible first | refine aU ?_ | refine aD rfl ?_ | refine aJ ?_ | refine aL ?_ | refine aS ?_)
 refine Br.out (i:=1000) ?_
 skip)
 all_goals (refine Gn ?_;first | refine Br.ab ?_ | refine WC.seq ?_)
 all_goals (first | refine Br.ab ?_ | refine WC.block ?_)
 all_goals (
  first
    | (refine Br.ab ?_)
    | (obtain ⟨bL,oL,hA,hbL,hat⟩:=Rd.at_ gu.rd (by omega)
       obtain ⟨j,rfl⟩:∃ j,k=j+1:=⟨k - 1,by omega⟩
       obtain ⟨y,hy⟩:∃ y,(cX m)[j]?=some y:=⟨_,List.getElem?_eq_getElem (by omega)⟩
       have hc:=hat.get (p:=oL+j * 1) (v:=By y) j (zy hy) (by omega)
       have e8:(((j+1:Nat):Int) - 1)=(j:Nat):=by omega
       rw [e8]))
 all_goals (first | refine Br.ab ?_ | refine WC.region ?_)
 all_goals (refine Go ?_;first | refine Br.ab ?_ | (refine WL.step (aE Tryz.underlying23 Tryz.sizeOf5 rfl rfl rfl (by omega) (by first | rfl | assumption)) rfl rfl rfl ?_))
 all_goals (first | refine Br.ab ?_ | refine Ld ?_)
 all_goals (
  first
    | (refine Br.ab ?_)
    | (refine WL.call (vs:=[_,_]) rfl Tryz.call277 rfl (oQ hbl y (by simp;omega)) rfl rfl rfl ?_
       rintro _ h7 ⟨rfl,v7,Fh,ba,JS⟩))
 all_goals (refine Gn ?_;first | refine Br.ab ?_ | refine Gs [(4,_),(5,_),(6,_)] ?_)
 all_goals (first | refine Br.ab ?_ | refine WC.region ?_)
 all_goals (refine Go ?_;first | refine Br.ab ?_ | (exact ⟨(j,_),⟨rfl,rfl,rfl,trivial⟩,(by exact ⟨by simp;omega,by rw [oT hy];exact Fh,gu.ext ba (fun q hq e=>e.elim (fun e=>by have:=hfb q hq;omega) (fun e=>by have:=hfb q hq;have:=iH q e;omega)),aN.trans' ba (fun q hq e=>e.elim (fun e=>by omega) (fun e=>by have:=iH q e;omega)),qQ,fun q hq=>(JS q hq).elim (iH q) (fun e=>Nat.lt_of_lt_of_le (vB hbl) e)⟩),(by simp)⟩))
 try (refine Br.mk (i:=1000) ?_)
 refine Gn ?_;refine Gs [(5,_)] ?_;refine WC.sr ?_;refine WL.call (vs:=[_]) rfl Tryz.call278 rfl (jt hbl (by simp;omega)) rfl rfl rfl ?_
 rintro _ h8 ⟨rfl,bz⟩
 refine Go ?_;refine Gt ?_
 exact ⟨by rw [show k=0 by omega,ed];simp [xK],aN.trans' bz (fun q hq e=>by have:=iH q e;omega)⟩
theorem zC {h:ah} (m:Nat) (h0:0 < m) (hm:m≤9223372036854775808) :
   ag Tryz.prog 246 ⟨[In (-(m:Int))]⟩ h fun u h'=>u=St (dr (-(m:Int)))∧Ext No h h':=by
 have ed:dr (-(m:Int))=45 :: xK m:=by unfold dr;rw [if_pos (by omega)];simp
 have hlm:=hH m (by omega)
 refine calls [(0,_)] Tryz.func246 rfl Tryz.ntmps246 rfl ⟨rfl,trivial⟩ ?_
 refine G2 ?_;refine G2 ?_;refine G3 ?_;refine Gs [(0,_),(3,_),(10,_)] ?_
 refine aH 1 2 ?_ TT.mk
 all_goals (refine aw 2 ?_)
 refine WC.skip ?_;refine Gn ?_;refine G2 ?_;refine WL.call (vs:=[_]) rfl Tryz.call276 rfl (oR m (by omega)) rfl rfl rfl ?_
 rintro v4 h4 ⟨fP,aW,r8⟩
 refine Go ?_;refine Gs [(3,_),(4,_)] ?_;refine G3 ?_
 refine aH 3 4 ?_ TT.mk
 all_goals (refine aw 3 ?_)
 refine WC.region (Go ?_);refine WL.aj (au (vs:=[_]) (cs:=[_]) (fun | [a0]=>[a0] | _=>[]) Tryz.underlying23 rfl rfl (by kernel_rfl)) rfl rfl rfl ?_
 rintro _ h3 ⟨b3,rfl,gl,bq,aQ⟩
 refine WL.aj (aT (sz:=1) (bytes:=1) rfl Tryz.underlying23 (show Tryz.prog.info? 5=some Tryz.t5 by kernel_rfl) rfl rfl rfl rfl (by decide) rfl rfl (fP.ext aQ (fun _ _=>aO)) (bx bq rfl) (by simp [Value.oneCell']) (by simp only [maxLen];omega) (by omega)) rfl rfl rfl ?_
 rintro v7 h7 ⟨mV,ba,DD⟩
 have JT:=bU DD r8 (by have:=aW.size;have:=aQ.size;omega)
 have DH:=(aW.trans aQ).trans' ba (fun q hq e=>by have:=r8 q e;omega)
 have MP:bA (cX m)++[.int .u8 45]=bA (cX m++[45]):=by simp
 have MQ:(cX m).length+1=(cX m++[45]).length:=by simp
 rw [MP,MQ] at mV
 have hlf:(cX m++[45]).length≤21:=by omega
 obtain ⟨A7,c7,rfl,_⟩:=mV.slice
 refine Go ?_;refine Gn ?_;refine WC.sr ?_;refine WL.aj (an (fun w=>Tryz.zeroValue344 w)) rfl rfl rfl ?_
 rintro _ h5 ⟨b5,rfl,qR,bV,aM⟩
 have hob:=mV.ext aM (fun _ _=>aO)
 have hfb:∀ k,(Value.slice A7 (cX m++[45]).length c7).ownBlock=some k→k < b5:=fun k e=>by have:=mV.lt e;omega
 refine Gn ?_;refine G3 ?_;refine Gs [(4,_),(5,_),(6,_)] ?_;refine WC.block ?_;refine WC.bD (X:=Nat × Value) (fun x=>([(6,In ((x.1:Int) - 1))]:Fr)) [(4,_),(5,_)] (fun x h'=>x.1≤(cX m++[45]).length∧Bl h' b5 x.2 ((cX m++[45]).drop x.1).reverse∧Own h' (Value.slice A7 (cX m++[45]).length c7) 5 1 (cX m++[45]).length (bA (cX m++[45]))∧Ext No h h'∧h.size≤b5∧∀ k,x.2.ownBlock=some k→b5 < k) (fun x=>x.1) (((cX m++[45]).length,.slice none 0 0)) ⟨rfl,rfl,rfl,trivial⟩ (by exact ⟨Nat.le_refl _,by simpa [Bl] using (⟨⟨_,bV,.inl rfl⟩,Own.nil _ _ _⟩:_∧_),hob,DH.trans aM,Nat.le_trans DH.size qR,by simp [Value.ownBlock]⟩) ?_
 rintro ⟨k,v6⟩ h6 ⟨hk,hbl,gu,aN,qQ,iH⟩
 simp only at hk hbl iH
 refine WC.sub [(6,_),(4,_),(5,_)] ⟨rfl,rfl,rfl,trivial⟩ ?_
 dsimp only
 refine G3 ?_
 refine aH 5 6 (Hb.mk fun hb=>?_) (Hb.mk fun hb=>?_)
 all_goals try (
 refine aw 5 ?_
 refine WC.skip ?_
 skip)
 all_goals try (
 refine aw 6 ?_
 refine WC.exit ?_
 repeat' (with_reducible first | refine aU ?_ | refine aD rfl ?_ | refine aJ ?_ | refine aL ?_ | refine aS ?_)
 refine Br.out (i:=1000) ?_
 skip)
 all_goals (refine Gn ?_;first | refine Br.ab ?_ | refine WC.seq ?_)
 all_goals (first | refine Br.ab ?_ | refine WC.block ?_)
 all_goals (
  first
    | (refine Br.ab ?_)
    | (obtain ⟨bL,oL,hA,hbL,hat⟩:=Rd.at_ gu.rd (by omega)
       obtain ⟨j,rfl⟩:∃ j,k=j+1:=⟨k - 1,by omega⟩
       obtain ⟨y,hy⟩:∃ y,(cX m++[45])[j]?=some y:=⟨_,List.getElem?_eq_getElem (by omega)⟩
       have hc:=hat.get (p:=oL+j * 1) (v:=By y) j (zy hy) (by omega)
       have e8:(((j+1:Nat):Int) - 1)=(j:Nat):=by omega
       rw [e8]))
 all_goals (first | refine Br.ab ?_ | refine WC.region ?_)
 all_goals (refine Go ?_;first | refine Br.ab ?_ | (refine WL.step (aE Tryz.underlying23 Tryz.sizeOf5 rfl rfl rfl (by omega) (by first | rfl | assumption)) rfl rfl rfl ?_))
 all_goals (first | refine Br.ab ?_ | refine Ld ?_)
 all_goals (
  first
    | (refine Br.ab ?_)
    | (refine WL.call (vs:=[_,_]) rfl Tryz.call277 rfl (oQ hbl y (by simp;omega)) rfl rfl rfl ?_
       rintro _ h7 ⟨rfl,v7,Fh,ba,JS⟩))
 all_goals (refine Gn ?_;first | refine Br.ab ?_ | refine Gs [(4,_),(5,_),(6,_)] ?_)
 all_goals (first | refine Br.ab ?_ | refine WC.region ?_)
 all_goals (refine Go ?_;first | refine Br.ab ?_ | (exact ⟨(j,_),⟨rfl,rfl,rfl,trivial⟩,(by exact ⟨by simp;omega,by rw [oT hy];exact Fh,gu.ext ba (fun q hq e=>e.elim (fun e=>by have:=hfb q hq;omega) (fun e=>by have:=hfb q hq;have:=iH q e;omega)),aN.trans' ba (fun q hq e=>e.elim (fun e=>by omega) (fun e=>by have:=iH q e;omega)),qQ,fun q hq=>(JS q hq).elim (iH q) (fun e=>Nat.lt_of_lt_of_le (vB hbl) e)⟩),(by simp)⟩))
 try (refine Br.mk (i:=1000) ?_)
 refine Gn ?_;refine Gs [(5,_)] ?_;refine WC.sr ?_;refine WL.call (vs:=[_]) rfl Tryz.call278 rfl (jt hbl (by simp;omega)) rfl rfl rfl ?_
 rintro _ h8 ⟨rfl,bz⟩
 refine Go ?_;refine Gt ?_
 exact ⟨by rw [show k=0 by omega,ed];simp [xK],aN.trans' bz (fun q hq e=>by have:=iH q e;omega)⟩
theorem gz {h:ah} (n:Int) (h0 : -9223372036854775808≤n) (h1:n≤9223372036854775807) :
   ag Tryz.prog 246 ⟨[In n]⟩ h fun u h'=>u=St (dr n)∧Ext No h h':=by
 by_cases hp:0≤n
 · obtain ⟨m,rfl⟩:=Int.eq_ofNat_of_zero_le hp
   exact zA m (by omega)
 · obtain ⟨m,rfl⟩:∃ m:Nat,n = -(m:Int):=⟨n.natAbs,by omega⟩
   exact zC m (by omega) (by omega)
def jG (n:List UInt8):List UInt8:=[34]++n++[34]
def ig (t n w:List UInt8):List UInt8:=t++[32]++jG n++[32]++w
def nk (n:List UInt8):List UInt8:=if n=[] then ([117,110,110,97,109,101,100,32,112,114,101,112,97,114,101,100,32,115,116,97,116,101,109,101,110,116,32,100,111,101,115,32,110,111,116,32,101,120,105,115,116]:List UInt8) else ig ([112,114,101,112,97,114,101,100,32,115,116,97,116,101,109,101,110,116]:List UInt8) n ([100,111,101,115,32,110,111,116,32,101,120,105,115,116]:List UInt8)
def vC (n:List UInt8):List UInt8:=ig ([112,114,101,112,97,114,101,100,32,115,116,97,116,101,109,101,110,116]:List UInt8) n ([97,108,114,101,97,100,121,32,101,120,105,115,116,115]:List UInt8)
def vD (n:List UInt8):List UInt8:=([44,32,98,117,116,32,112,114,101,112,97,114,101,100,32,115,116,97,116,101,109,101,110,116,32]:List UInt8)++jG n++([32,114,101,113,117,105,114,101,115,32]:List UInt8)
def qc (p:Int) (n:List UInt8) (w:Int):List UInt8:=([98,105,110,100,32,109,101,115,115,97,103,101,32,115,117,112,112,108,105,101,115,32]:List UInt8)++dr p++([32,112,97,114,97,109,101,116,101,114,115]:List UInt8)++vD n++dr w
theorem lu (n:List UInt8):(jG n).length=n.length+2:=by simp [jG]
theorem r9 (n:List UInt8):(vD n).length=n.length+37:=by simp [vD,lu]
theorem oU {h:ah} (n:List UInt8) (hn:n.length≤1000000):ag Tryz.prog 274 ⟨[St n]⟩ h fun u h'=>u=St (jG n)∧h'=h:=by
 refine calls [(0,_)] Tryz.func274 rfl Tryz.ntmps274 rfl ⟨rfl,trivial⟩ ?_
 refine G2 ?_;refine G2 ?_;refine WL.step (dn rfl rfl (by first | (simp only [List.length_append,List.length_cons,List.length_nil];omega) | (simp;omega))) rfl rfl rfl ?_;refine WL.step (dn rfl rfl (by first | (simp only [List.length_append,List.length_cons,List.length_nil];omega) | (simp;omega))) rfl rfl rfl (Go ?_);refine Gs [(2,_)] ?_;refine Gt ?_
 exact ⟨rfl,rfl⟩
theorem kq {h:ah} (t n w:List UInt8) (ht:t.length≤100) (hn:n.length≤100000) (hw:w.length≤100):ag Tryz.prog 243 ⟨[St t,St n,St w]⟩ h fun u h'=>u=St (ig t n w)∧Ext No h h':=by
 have hq:=lu n
 refine calls [(0,_),(1,_),(2,_)] Tryz.func243 rfl Tryz.ntmps243 rfl ⟨rfl,rfl,rfl,trivial⟩ ?_
 refine G2 ?_;refine G2 ?_;refine WL.call (vs:=[_]) rfl Tryz.call274 rfl (oU n (by omega)) rfl rfl rfl ?_
 rintro _ hz ⟨rfl,_⟩
 subst hz
 refine Go ?_;refine WL.aj (au (vs:=[_,_,_]) (cs:=[_,_,_]) (fun | [a0,a1,a2]=>[a0,a1,a2] | _=>[]) Tryz.underlying249 rfl rfl (by kernel_rfl)) rfl rfl rfl ?_
 rintro _ h1 ⟨b1,rfl,bR,aR,az⟩
 refine WL.call (vs:=[_,_]) rfl Tryz.call273 rfl (HF t (jG n) w aR (by omega)) rfl rfl rfl ?_
 rintro _ h2 ⟨rfl,aI⟩
 refine Go ?_;refine Gs [(6,_)] ?_;refine Gt ?_
 exact ⟨rfl,az.trans aI⟩
theorem sa {h:ah} (n:List UInt8) (hn:n.length≤100000):ag Tryz.prog 244 ⟨[St n]⟩ h fun u h'=>u=St (nk n)∧Ext No h h':=by
 by_cases h0:n=[]
 · subst h0
   refine calls [(0,_)] Tryz.func244 rfl Tryz.ntmps244 rfl ⟨rfl,trivial⟩ ?_
   refine G2 ?_;refine G3 ?_
   refine aH 1 2 ?_ TT.mk
   all_goals (refine aw 1 ?_)
   refine G2 ?_;refine Gt ?_
   exact ⟨rfl,.refl _ _⟩
 · rw [nk,if_neg h0]
   refine calls [(0,_)] Tryz.func244 rfl Tryz.ntmps244 rfl ⟨rfl,trivial⟩ ?_
   refine G2 ?_;refine G3 ?_
   refine aH 1 2 ?_ TT.mk
   all_goals (refine aw 2 ?_)
   refine WC.skip ?_;refine Gn ?_;refine G2 ?_;refine WL.call (vs:=[_,_,_]) rfl Tryz.call243 rfl (kq ([112,114,101,112,97,114,101,100,32,115,116,97,116,101,109,101,110,116]:List UInt8) n ([100,111,101,115,32,110,111,116,32,101,120,105,115,116]:List UInt8) (by simp) hn (by simp)) rfl rfl rfl ?_
   rintro _ h2 ⟨rfl,aI⟩
   refine Go ?_;refine Gs [(2,_)] ?_;refine Gt ?_
   exact ⟨rfl,aI⟩
theorem ue {h:ah} (n:List UInt8) (hn:n.length≤100000):ag Tryz.prog 205 ⟨[St n]⟩ h fun u h'=>u=St (vC n)∧Ext No h h':=by
 refine calls [(0,_)] Tryz.func205 rfl Tryz.ntmps205 rfl ⟨rfl,trivial⟩ ?_
 refine G2 ?_;refine G2 ?_;refine WL.call (vs:=[_,_,_]) rfl Tryz.call243 rfl (kq ([112,114,101,112,97,114,101,100,32,115,116,97,116,101,109,101,110,116]:List UInt8) n ([97,108,114,101,97,100,121,32,101,120,105,115,116,115]:List UInt8) (by simp) hn (by simp)) rfl rfl rfl ?_
 rintro _ h2 ⟨rfl,aI⟩
 refine Go ?_;refine Gt ?_
 exact ⟨rfl,aI⟩
theorem uf {h:ah} (n:List UInt8) (hn:n.length≤100000):ag Tryz.prog 250 ⟨[St n]⟩ h fun u h'=>u=St (ig ([112,111,114,116,97,108]:List UInt8) n ([100,111,101,115,32,110,111,116,32,101,120,105,115,116]:List UInt8))∧Ext No h h':=by
 refine calls [(0,_)] Tryz.func250 rfl Tryz.ntmps250 rfl ⟨rfl,trivial⟩ ?_
 refine G2 ?_;refine G2 ?_;refine WL.call (vs:=[_,_,_]) rfl Tryz.call243 rfl (kq ([112,111,114,116,97,108]:List UInt8) n ([100,111,101,115,32,110,111,116,32,101,120,105,115,116]:List UInt8) (by simp) hn (by simp)) rfl rfl rfl ?_
 rintro _ h2 ⟨rfl,aI⟩
 refine Go ?_;refine Gt ?_
 exact ⟨rfl,aI⟩
theorem ug {h:ah} (n:List UInt8) (hn:n.length≤100000):ag Tryz.prog 211 ⟨[St n]⟩ h fun u h'=>u=St (ig ([99,117,114,115,111,114]:List UInt8) n ([97,108,114,101,97,100,121,32,101,120,105,115,116,115]:List UInt8))∧Ext No h h':=by
 refine calls [(0,_)] Tryz.func211 rfl Tryz.ntmps211 rfl ⟨rfl,trivial⟩ ?_
 refine G2 ?_;refine G2 ?_;refine WL.call (vs:=[_,_,_]) rfl Tryz.call243 rfl (kq ([99,117,114,115,111,114]:List UInt8) n ([97,108,114,101,97,100,121,32,101,120,105,115,116,115]:List UInt8) (by simp) hn (by simp)) rfl rfl rfl ?_
 rintro _ h2 ⟨rfl,aI⟩
 refine Go ?_;refine Gt ?_
 exact ⟨rfl,aI⟩
theorem wR {h:ah} (n:List UInt8) (hn:n.length≤100000):ag Tryz.prog 247 ⟨[St n]⟩ h fun u h'=>u=St (vD n)∧h'=h:=by
 have hq:=lu n
 refine calls [(0,_)] Tryz.func247 rfl Tryz.ntmps247 rfl ⟨rfl,trivial⟩ ?_
 refine G2 ?_;refine G2 ?_;refine WL.call (vs:=[_]) rfl Tryz.call274 rfl (oU n (by omega)) rfl rfl rfl ?_
 rintro _ hz ⟨rfl,_⟩
 subst hz
 refine WL.step (dn rfl rfl (by first | (simp only [List.length_append,List.length_cons,List.length_nil];omega) | (simp;omega))) rfl rfl rfl ?_;refine WL.step (dn rfl rfl (by first | (simp only [List.length_append,List.length_cons,List.length_nil];omega) | (simp;omega))) rfl rfl rfl (Go ?_);refine Gs [(2,_)] ?_;refine Gt ?_
 exact ⟨rfl,rfl⟩
theorem wS {h:ah} (p:Int) (n:List UInt8) (w:Int) (hn:n.length≤100000) (hp : -9223372036854775808≤p∧p≤9223372036854775807) (hw : -9223372036854775808≤w∧w≤9223372036854775807) :
   ag Tryz.prog 209 ⟨[In p,St n,In w]⟩ h fun u h'=>u=St (qc p n w)∧Ext No h h':=by
 have hq:=r9 n
 have hlp:=dk p (by omega)
 have hlw:=dk w (by omega)
 refine calls [(0,_),(1,_),(2,_)] Tryz.func209 rfl Tryz.ntmps209 rfl ⟨rfl,rfl,rfl,trivial⟩ ?_
 refine G2 ?_;refine G2 ?_;refine WL.call (vs:=[_]) rfl Tryz.call246 rfl (gz p hp.1 hp.2) rfl rfl rfl ?_
 rintro _ h1 ⟨rfl,az⟩
 refine WL.step (dn rfl rfl (by first | (simp only [List.length_append,List.length_cons,List.length_nil];omega) | (simp;omega))) rfl rfl rfl ?_;refine WL.step (dn rfl rfl (by first | (simp only [List.length_append,List.length_cons,List.length_nil];omega) | (simp;omega))) rfl rfl rfl (Go ?_);refine WL.call (vs:=[_]) rfl Tryz.call247 rfl (wR n hn) rfl rfl rfl ?_
 rintro _ hz ⟨rfl,_⟩
 subst hz
 refine WL.step (dn rfl rfl (by first | (simp only [List.length_append,List.length_cons,List.length_nil];omega) | (simp;omega))) rfl rfl rfl (Go ?_);refine WL.call (vs:=[_]) rfl Tryz.call246 rfl (gz w hw.1 hw.2) rfl rfl rfl ?_
 rintro _ h2 ⟨rfl,aI⟩
 refine WL.step (dn rfl rfl (by first | (simp only [List.length_append,List.length_cons,List.length_nil];omega) | (simp;omega))) rfl rfl rfl (Go ?_);refine Gs [(6,_)] ?_;refine Gt ?_
 exact ⟨rfl,az.trans aI⟩
def cU (n:Int):Nat:=(min (max n 0) 1000).toNat
theorem ja (n:Int):cU n≤1000:=by unfold cU;omega
theorem oV {h:ah} (n:Int):ag Tryz.prog 311 ⟨[In n]⟩ h fun u h'=>u=In (cU n)∧h'=h:=by
 refine calls [(0,_)] Tryz.func311 rfl Tryz.ntmps311 rfl ⟨rfl,trivial⟩ ?_
 refine G2 ?_;refine G2 ?_;refine WL.step (pD rfl rfl) rfl rfl rfl ?_;refine WL.step (j1 rfl rfl) rfl rfl rfl (Go ?_);refine Gs [(2,_)] ?_;refine Gt ?_
 exact ⟨by unfold cU;congr 1;omega,rfl⟩
def Cs (i:Nat):List (Bool × List UInt8):=[(false,dr i)]
theorem zD {h:ah} (i:Nat) (hi:i≤100000):ag Tryz.prog 293 ⟨[In i]⟩ h fun u h'=>∃ l,cF h' u l∧l.map aX.pl=Cs i∧Ext No h h'∧∀ b,du u l b→h.size≤b:=by
 have hdl:=dk i (by omega)
 refine calls [(0,_)] Tryz.func293 rfl Tryz.ntmps293 rfl ⟨rfl,trivial⟩ ?_
 refine G2 ?_;refine G2 ?_;refine WL.call (vs:=[_]) rfl Tryz.call246 rfl (gz i (by omega) (by omega)) rfl rfl rfl ?_
 rintro _ h1 ⟨rfl,az⟩
 refine WL.aj (jA Tryz.underlying9 Tryz.underlying23 Tryz.underlying5 rfl) rfl rfl rfl ?_
 rintro _ h2 ⟨b2,c2,rfl,gg,qO,aI⟩
 refine WL.step (aF (vs:=[_]) (cs:=[_,_]) (fun | [a1]=>[(.bool false),a1] | _=>[]) rfl rfl (by kernel_rfl)) rfl rfl rfl ?_
 refine WL.aj (au (vs:=[_]) (cs:=[_,_]) (fun | [.agg ⟨[a0,a1]⟩]=>[a0,a1] | _=>[]) Tryz.underlying40 rfl rfl (by kernel_rfl)) rfl rfl rfl ?_
 rintro _ h3 ⟨b3,rfl,gl,bq,aQ⟩
 refine Go ?_;refine Gs [(2,_)] ?_;refine Gt ?_
 exact ⟨[⟨false,.slice (some ⟨b2,0,none⟩) (dr i).length c2,dr i⟩],⟨bx bq rfl,⟨by simp [reachBytes],_,_,rfl,by simp [maxLen]⟩,by simpa [aX.ok] using ⟨qO.aq aQ,by unfold reachBytes;omega⟩⟩,rfl,(az.trans aI).trans aQ,by rintro b (⟨_,e⟩ | ⟨c,hc,_,e⟩);simp [Value.ownBlock] at e;have:=az.size;have:=aI.size;omega;simp at hc;subst hc;simp [Value.ownBlock] at e;have:=az.size;omega⟩
structure Mk (h0 h:ah) (v:Value) (L:List Rw):Prop where
 own:Own h v 40 1 L.length (L.map Rw.v)
 rows:∀ r∈L,cF h r.v r.l
 ext:Ext No h0 h
 fresh:∀ k,v.ownBlock=some k→h0.size≤k
 apart:∀ r∈L,∀ b,du r.v r.l b→v.ownBlock ≠ some b
theorem Mk.done {h0 h:ah} {v:Value} {L:List Rw} (m:Mk h0 h v L) (hl:L.length≤100000) (hc:∃ A c,v=.slice A L.length c∧c≤maxLen):jL h v L:=⟨m.own.rd,⟨by unfold reachBytes;omega,hc⟩,m.rows⟩
theorem Mk.next {h0 h h1 h3 h4:ah} {v v4 u:Value} {L:List Rw} {l:List aX} (m:Mk h0 h v L) (x1:Ext No h h1) (c1:cF h1 u l) (f1:∀ b,du u l b→h.size≤b) (x3:Ext No h1 h3)
   (o4:Own h4 v4 40 1 (L.length+1) (L.map Rw.v++[u])) (x4:Ext (fun k=>v.ownBlock=some k) h3 h4) (hl:v4.ownBlock=v.ownBlock∨v4.ownBlock=some h3.size):Mk h0 h4 v4 (L++[⟨u,l⟩]):=by
 have s0:=m.ext.size
 have s1:=x1.size
 have s3:=x3.size
 have Lt:=x1.trans x3
 refine ⟨by simpa using o4,fun r hr=>?_,(m.ext.trans Lt).trans' x4 fun k hk e=>?_,bU hl m.fresh (by omega),fun r hr b hb e=>?_⟩
 · rcases List.mem_append.1 hr with hr | hr
   · exact ((m.rows r hr).aq Lt).ext x4 fun b hb e=>m.apart r hr b hb e
   · simp at hr
     subst hr
     refine (c1.aq x3).ext x4 fun b hb e=>?_
     have:=f1 b hb
     have:=m.own.lt e
     omega
 · have:=m.fresh k e;omega
 · rcases List.mem_append.1 hr with hr | hr
   · have h1:=m.apart r hr b hb
     have h2:=(m.rows r hr).lt hb
     rcases hl with hl | hl
     · exact h1 (hl▸e)
     · rw [hl] at e;simp at e;omega
   · simp at hr
     subst hr
     have h1:=f1 b hb
     have h2:=c1.lt hb
     rcases hl with hl | hl
     · rw [hl] at e
       have:=m.own.lt e
       omega
     · rw [hl] at e;simp at e;omega
theorem Mk.nil (h:ah):Mk h h (.slice none 0 0) []:=⟨Own.nil _ _ _,by simp,.refl _ _,by simp [Value.ownBlock],by simp⟩
def ju (n:Nat):List (List (Bool × List UInt8)):=(List.range n).map fun i=>Cs (i+1)
theorem uh (n:Nat):ju (n+1)=ju n++[Cs (n+1)]:=by unfold ju;rw [List.range_succ];simp
theorem lv (n:Nat):(ju n).length=n:=by simp [ju]
theorem wT {h:ah} (n:Int):ag Tryz.prog 292 ⟨[In n,.func (.func 293) #[] #[]]⟩ h fun u h'=>∃ L,jL h' u L∧L.map Rw.pl=ju (cU n)∧Ext No h h'∧∀ b,dH u L b→h.size≤b:=by
 have hh:=ja n
 refine calls [(0,_),(1,_)] Tryz.func292 rfl Tryz.ntmps292 rfl ⟨rfl,rfl,trivial⟩ ?_
 refine G2 ?_;refine G2 ?_;refine G3 ?_;refine WL.call (vs:=[_]) rfl Tryz.call311 rfl (oV n) rfl rfl rfl ?_
 rintro _ hz ⟨rfl,_⟩
 subst hz
 refine Go ?_;refine WC.block ?_;refine WC.bD (X:=Nat × Value × List Rw) (fun x=>([(5,x.2.1),(9,In (x.1:Int))]:Fr)) [(1,_),(8,_)] (fun x h'=>x.1≤cU n∧Mk h h' x.2.1 x.2.2∧x.2.2.map Rw.pl=ju x.1∧∀ r∈x.2.2,∀ b,du r.v r.l b→h.size≤b) (fun x=>cU n - x.1) ((0,.slice none 0 0,[])) ⟨rfl,rfl,rfl,rfl,trivial⟩ (by exact ⟨Nat.zero_le _,Mk.nil h,rfl,by simp⟩) ?_
 rintro ⟨k,v1,L⟩ h1 ⟨hk,mk,hp,hf⟩
 simp only at hk mk hp hf
 have hL:L.length=k:=by simpa [lv] using congrArg List.length hp
 obtain ⟨A1,c1,rfl,_⟩:=mk.own.slice
 refine WC.sub [(5,_),(9,_),(1,_),(8,_)] ⟨rfl,rfl,rfl,rfl,trivial⟩ ?_
 dsimp only
 refine G2 ?_;refine WC.seq ?_
 refine aH 1 2 (Hb.mk fun hb=>?_) (Hb.mk fun hb=>?_)
 all_goals try (
 refine aw 1 ?_
 refine WC.skip ?_
 skip)
 all_goals try (
 refine aw 2 ?_
 refine WC.exit ?_
 repeat' (with_reducible first | refine aU ?_ | refine aD rfl ?_ | refine aJ ?_ | refine aL ?_ | refine aS ?_)
 refine Br.out (i:=1000) ?_
 skip)
 all_goals (refine Gn ?_;first | refine Br.ab ?_ | refine WC.seq ?_)
 all_goals (first | refine Br.ab ?_ | refine WC.block ?_)
 all_goals (first | refine Br.ab ?_ | refine WC.sr ?_)
 all_goals (refine Go ?_;first | refine Br.ab ?_ | refine WC.region ?_)
 all_goals (refine Go ?_)
 all_goals (
  first
    | (refine Br.ab ?_)
    | (have e1:((k:Int)+1)=((k+1:Nat):Int):=by omega
       rw [e1]))
 all_goals (
  first
    | (refine Br.ab ?_)
    | (refine WL.fC (vs:=[_]) rfl rfl Tryz.call293 rfl (zD (k+1) (by omega)) rfl rfl rfl ?_
       rintro u2 h2 ⟨l2,kJ,Hg,aI,eI⟩))
 all_goals (first | refine Br.ab ?_ | (obtain ⟨A2,c2,rfl⟩:∃ A c,u2=.slice A l2.length c:=(by obtain ⟨_,⟨_,A,c,e,_⟩,_⟩:=kJ;exact ⟨A,c,e⟩)))
 all_goals (
  first
    | (refine Br.ab ?_)
    | (refine WL.aj (au (vs:=[_]) (cs:=[_]) (fun | [a0]=>[a0] | _=>[]) Tryz.underlying271 rfl rfl (by kernel_rfl)) rfl rfl rfl ?_
       rintro _ h3 ⟨b3,rfl,gl,bq,aQ⟩))
 all_goals (
  first
    | (refine Br.ab ?_)
    | (refine WL.aj (aT (sz:=1) (bytes:=24) rfl Tryz.underlying271 (show Tryz.prog.info? 40=some Tryz.t40 by kernel_rfl) rfl rfl rfl rfl (by decide) rfl rfl (mk.own.ext (aI.trans aQ) (fun _ _=>aO)) (bx bq rfl) (by simp [Value.oneCell']) (by simp only [maxLen];omega) (by omega)) rfl rfl rfl ?_
       rintro v4 h4 ⟨fP,aW,rD⟩))
 all_goals (first | refine Br.ab ?_ | have MR:=mk.next aI kJ eI aQ fP aW rD)
 all_goals (refine Go ?_;first | refine Br.ab ?_ | refine Gs [(1,_),(5,_),(8,_),(9,_)] ?_)
 all_goals (first | refine Br.ab ?_ | refine WC.region ?_)
 all_goals (refine Go ?_;first | refine Br.ab ?_ | (exact ⟨(k+1,_,L++[_]),⟨rfl,rfl,rfl,rfl,trivial⟩,(by exact ⟨by simp;omega,MR,by rw [List.map_append,hp,uh];simp [Rw.pl,Hg],fun r hr b hb=>(List.mem_append.1 hr).elim (fun hr=>hf r hr b hb) (fun hr=>by simp at hr;subst hr;have:=eI b hb;have:=mk.ext.size;omega)⟩),(by simp;omega)⟩))
 try (refine Br.mk (i:=1000) ?_)
 refine Gn ?_;refine Gs [(5,_)] ?_;refine G2 ?_;refine Gt ?_
 exact ⟨L,mk.done (by omega) mk.own.cap,by rw [hp,show k=cU n by omega],mk.ext,fun b hb=>hb.elim (fun e=>mk.fresh b e.2) (fun ⟨r,hr,e⟩=>hf r hr b e)⟩
theorem ku {h:ah} {A:Option Addr} {c b:Nat} {D:List UInt8} {e:TypeId} {z:Nat × Nat} (hr:Rd h (.slice A D.length c) 1 D.length (bA D)) (hD:D.length≤1000) (hb:h[b]?=some (.cells ⟨[.bool false,.slice A D.length c]⟩ e z)) :
   cF h (.slice (some ⟨b,0,none⟩) 1 1) [⟨false,.slice A D.length c,D⟩] :=
 ⟨bx hb rfl,⟨by simp [reachBytes],_,_,rfl,by simp [maxLen]⟩,fun x hx=>by
   simp only [List.mem_singleton] at hx
   subst hx
   exact ⟨hr,by show D.length≤reachBytes;unfold reachBytes;omega⟩⟩
theorem wU {h:ah} (n:Int):ag Tryz.prog 259 ⟨[In n]⟩ h fun u h'=>∃ L,jL h' u L∧L.map Rw.pl=ju (cU n)∧Ext No h h'∧∀ b,dH u L b→h.size≤b:=by
 refine calls [(0,_)] Tryz.func259 rfl Tryz.ntmps259 rfl ⟨rfl,trivial⟩ ?_
 refine G2 ?_;refine G2 ?_;refine WL.call (vs:=[_,_]) rfl Tryz.call292 rfl (wT n) rfl rfl rfl ?_
 rintro u1 h1 h2
 refine Go ?_;refine Gt ?_
 exact h2
theorem zE {h:ah} (n:Int) (h0 : -9223372036854775808≤n) (h1:n≤9223372036854775807) :
   ag Tryz.prog 263 ⟨[In n]⟩ h fun u h'=>u=St ([83,69,76,69,67,84,32]++dr n)∧Ext No h h':=by
 have hdl:=dk n (by omega)
 refine calls [(0,_)] Tryz.func263 rfl Tryz.ntmps263 rfl ⟨rfl,trivial⟩ ?_
 refine G2 ?_;refine G2 ?_;refine WL.call (vs:=[_]) rfl Tryz.call246 rfl (gz n h0 h1) rfl rfl rfl ?_
 rintro _ h2 ⟨rfl,aI⟩
 refine WL.step (dn rfl rfl (by first | (simp only [List.length_append,List.length_cons,List.length_nil];omega) | (simp;omega))) rfl rfl rfl (Go ?_);refine Gs [(2,_)] ?_;refine Gt ?_
 exact ⟨rfl,aI⟩
def wV (n:List UInt8):List Value:=[St n,In 0,In 0,In 25,In (-1),In (-1),In 0]
def gD (n:Nat):List (List UInt8):=(List.range n).map fun i=>99 :: dr ((i+1:Nat):Int)
theorem ui (n:Nat):gD (n+1)=gD n++[99 :: dr ((n+1:Nat):Int)]:=by unfold gD;rw [List.range_succ];simp
theorem oW (n:Nat):(gD n).length=n:=by simp [gD]
theorem sf {h:ah} (i:Nat) (hi:i≤100000):ag Tryz.prog 298 ⟨[In i]⟩ h fun u h'=>u=.agg ⟨wV (99 :: dr i)⟩∧Ext No h h':=by
 have hdl:=dk i (by omega)
 refine calls [(0,_)] Tryz.func298 rfl Tryz.ntmps298 rfl ⟨rfl,trivial⟩ ?_
 refine WC.sr ?_;refine WL.aj (an (fun w=>Tryz.zeroValue212 w)) rfl rfl rfl ?_
 rintro _ h1 ⟨b1,rfl,bR,aR,az⟩
 refine Gn ?_;refine G2 ?_;refine WL.call (vs:=[_]) rfl Tryz.call246 rfl (gz i (by omega) (by omega)) rfl rfl rfl ?_
 rintro _ h2 ⟨rfl,aI⟩
 refine WL.step (dn rfl rfl (by first | (simp only [List.length_append,List.length_cons,List.length_nil];omega) | (simp;omega))) rfl rfl rfl ?_;refine WL.step (aF (vs:=[_,_,_,_]) (cs:=[_,_,_,_,_,_,_]) (fun | [a0,a3,a4,a5]=>[a0,(.int .i64 0),(.int .i64 0),a3,a4,a5,(.int .i64 0)] | _=>[]) rfl rfl (by kernel_rfl)) rfl rfl rfl ?_
 refine WL.ax (al Tryz.sizeOf212 rfl rfl rfl (aI.obj aR aO) rfl (by simp [Value.oneCell'])) rfl rfl ?_
 rintro _ h3 ⟨bq,aQ⟩
 refine Gn ?_;refine Gs [(2,_)] ?_;refine WC.ret ?_
 repeat' (with_reducible first | refine aZ ?_ | refine aV ?_)
 refine cm _ ⟨⟨_,rfl,bB Tryz.isAgg212 Tryz.sizeOf212 (by assumption) rfl⟩,trivial⟩ ?_
 exact ⟨rfl,(az.trans aI).trans' aQ (fun k hk e=>by omega)⟩
theorem wW {h:ah} (n:Int):ag Tryz.prog 297 ⟨[In n,.func (.func 298) #[] #[]]⟩ h fun u h'=>Own h' u 212 7 (cU n) ((gD (cU n)).flatMap wV)∧Ext No h h'∧∀ k,u.ownBlock=some k→h.size≤k:=by
 have hh:=ja n
 refine calls [(0,_),(1,_)] Tryz.func297 rfl Tryz.ntmps297 rfl ⟨rfl,rfl,trivial⟩ ?_
 refine G2 ?_;refine G2 ?_;refine G3 ?_;refine WL.call (vs:=[_]) rfl Tryz.call311 rfl (oV n) rfl rfl rfl ?_
 rintro _ hz ⟨rfl,_⟩
 subst hz
 refine Go ?_;refine WC.block ?_;refine WC.bD (X:=Nat × Value) (fun x=>([(5,x.2),(9,In (x.1:Int))]:Fr)) [(1,_),(8,_)] (fun x h'=>x.1≤cU n∧Own h' x.2 212 7 x.1 ((gD x.1).flatMap wV)∧Ext No h h'∧∀ k,x.2.ownBlock=some k→h.size≤k) (fun x=>cU n - x.1) ((0,.slice none 0 0)) ⟨rfl,rfl,rfl,rfl,trivial⟩ (by exact ⟨Nat.zero_le _,Own.nil _ _ _,.refl _ _,by simp [Value.ownBlock]⟩) ?_
 rintro ⟨k,v1⟩ h1 ⟨hk,ho,hx,hf⟩
 simp only at hk ho hf
 obtain ⟨A1,c1,rfl,_⟩:=ho.slice
 refine WC.sub [(5,_),(9,_),(1,_),(8,_)] ⟨rfl,rfl,rfl,rfl,trivial⟩ ?_
 dsimp only
 refine G2 ?_;refine WC.seq ?_
 refine aH 1 2 (Hb.mk fun hb=>?_) (Hb.mk fun hb=>?_)
 all_goals try (
 refine aw 1 ?_
 refine WC.skip ?_
 skip)
 all_goals try (
 refine aw 2 ?_
 refine WC.exit ?_
 repeat' (with_reducible first | refine aU ?_ | refine aD rfl ?_ | refine aJ ?_ | refine aL ?_ | refine aS ?_)
 refine Br.out (i:=1000) ?_
 skip)
 all_goals (refine Gn ?_;first | refine Br.ab ?_ | refine WC.seq ?_)
 all_goals (first | refine Br.ab ?_ | refine WC.block ?_)
 all_goals (first | refine Br.ab ?_ | refine WC.sr ?_)
 all_goals (refine Go ?_;first | refine Br.ab ?_ | refine WC.region ?_)
 all_goals (refine Go ?_)
 all_goals (
  first
    | (refine Br.ab ?_)
    | (have e1:((k:Int)+1)=((k+1:Nat):Int):=by omega
       rw [e1]))
 all_goals (
  first
    | (refine Br.ab ?_)
    | (refine WL.fC (vs:=[_]) rfl rfl Tryz.call298 rfl (sf (k+1) (by omega)) rfl rfl rfl ?_
       rintro _ h2 ⟨rfl,aI⟩))
 all_goals (first | refine Br.ab ?_ | unfold wV)
 all_goals (
  first
    | (refine Br.ab ?_)
    | (refine WL.aj (au (vs:=[_]) (cs:=[_,_,_,_,_,_,_]) (fun | [.agg ⟨[a0,a1,a2,a3,a4,a5,a6]⟩]=>[a0,a1,a2,a3,a4,a5,a6] | _=>[]) Tryz.underlying137 rfl rfl (by kernel_rfl)) rfl rfl rfl ?_
       rintro _ h3 ⟨b3,rfl,gl,bq,aQ⟩))
 all_goals (
  first
    | (refine Br.ab ?_)
    | (refine WL.aj (aT (sz:=7) (bytes:=64) rfl Tryz.underlying137 (show Tryz.prog.info? 212=some Tryz.t212 by kernel_rfl) rfl rfl rfl rfl (by decide) rfl rfl (ho.ext (aI.trans aQ) (fun _ _=>aO)) (bx bq rfl) (by simp [Value.oneCell']) (by simp only [maxLen];omega) (by omega)) rfl rfl rfl ?_
       rintro v4 h4 ⟨fP,aW,rD⟩))
 all_goals (refine Go ?_;first | refine Br.ab ?_ | refine Gs [(1,_),(5,_),(8,_),(9,_)] ?_)
 all_goals (first | refine Br.ab ?_ | refine WC.region ?_)
 all_goals (refine Go ?_;first | refine Br.ab ?_ | (exact ⟨(k+1,_),⟨rfl,rfl,rfl,rfl,trivial⟩,(by exact ⟨by simp;omega,by rw [ui,List.flatMap_append,List.flatMap_singleton];exact fP,((hx.trans aI).trans aQ).trans' aW (fun q hq e=>by have:=hf q e;omega),bU rD hf (by have:=hx.size;have:=aI.size;have:=aQ.size;omega)⟩),(by simp;omega)⟩))
 try (refine Br.mk (i:=1000) ?_)
 refine Gn ?_;refine Gs [(5,_)] ?_;refine G2 ?_;refine Gt ?_
 exact ⟨by rw [show cU n=k by omega];exact ho,hx,hf⟩
theorem wX {h:ah} (n:Int):ag Tryz.prog 266 ⟨[In n]⟩ h fun u h'=>Own h' u 212 7 (cU n) ((gD (cU n)).flatMap wV)∧Ext No h h'∧∀ k,u.ownBlock=some k→h.size≤k:=by
 refine calls [(0,_)] Tryz.func266 rfl Tryz.ntmps266 rfl ⟨rfl,trivial⟩ ?_
 refine G2 ?_;refine G2 ?_;refine WL.call (vs:=[_,_]) rfl Tryz.call297 rfl (wW n) rfl rfl rfl ?_
 rintro u1 h1 h2
 refine Go ?_;refine Gt ?_
 exact h2
abbrev eC:=Bool × List UInt8
abbrev Fi:=List UInt8 × List Int
abbrev Fj:=List UInt8 × List Int × List eC × List (List eC) × Bool × Bool
abbrev HG:=Option (List UInt8 × List UInt8)
structure SP where
 st:Int
 sk:Bool
 ov:Bool
 cnt:Int
 L:List (List UInt8 × Fi)
 P:List (List UInt8 × Fj)
structure gi where
 kind:Int
 what:Int
 name:List UInt8
 portal:List UInt8
 text:List UInt8
 oids:List Int
 params:List eC
 max:Int
structure jb where
 kind:Int
 status:Int:=0
 tag:List UInt8:=[]
 name:List UInt8:=[]
 value:List UInt8:=[]
 n:Int:=0
 m:Int:=0
 oids:List Int:=[]
 cols:List cA:=[]
 row:List eC:=[]
 fields:List bj:=[]
def Fm.p (f:Fm):gi:=⟨f.kind,f.what,f.name,f.portal,f.text,f.oids,f.params.map aX.pl,f.max⟩
def Bk.p (b:Bk):jb:=⟨b.kind,b.status,b.tag,b.name,b.value,b.n,b.m,b.oids,b.cols,b.row.map aX.pl,b.fields⟩
def qd (L:List (List UInt8 × gy)):List (List UInt8 × Fi):=L.map fun q=>(q.1,q.2.text,q.2.oids)
def fN (P:List (List UInt8 × ee)):List (List UInt8 × Fj):=P.map fun q=>(q.1,q.2.d.pl)
abbrev fS:=SP × List jb × HG
def jv (s:SP) (n:List UInt8):HG:=match bG s.L n with
 | none=>some (([50,54,48,48,48]:List UInt8),nk n)
 | some t=>gh t.1 s.st
def gE (s:SP) (n:List UInt8):HG:=match bG s.P n with
 | none=>some (([51,52,48,48,48]:List UInt8),ig ([112,111,114,116,97,108]:List UInt8) n ([100,111,101,115,32,110,111,116,32,101,120,105,115,116]:List UInt8))
 | some p=>gh p.1 s.st
def eD (s:SP) (f:gi):fS :=
 let s1:SP:=if f.name=[] then { s with L:=cb s.L [] } else s
 match jF f.text s.st with
 | some e=>(s1,[],some e)
 | none=>if (bG s1.L f.name).isSome=true then (s1,[],some (([52,50,80,48,53]:List UInt8),vC f.name)) else ({ s1 with L:=cl s1.L f.name (f.text,f.oids) },[{ kind:=49 }],none)
def fG (s:SP) (f:gi):fS:=match jv s f.name with
 | some e=>(s,[],some e)
 | none=>match bG s.L f.name with
   | none=>(s,[],none)
   | some t=>if f.params.length ≠ t.2.length then (s,[],some (([48,56,80,48,49]:List UInt8),qc (f.params.length:Int) f.name (t.2.length:Int)))
     else if f.portal ≠ []∧(bG s.P f.portal).isSome=true then (s,[],some (([52,50,80,48,51]:List UInt8),ig ([99,117,114,115,111,114]:List UInt8) f.portal ([97,108,114,101,97,100,121,32,101,120,105,115,116,115]:List UInt8)))
     else ({ s with P:=cl s.P f.portal (t.1,t.2,f.params,[],false,false) },[{ kind:=50 }],none)
def zG (nm:List UInt8):cA:=⟨nm,0,0,25,-1,-1,0⟩
def oX (n:Int):jb:={ kind:=84,cols:=(gD (cU n)).map zG }
def iM (t:Fi):jb:=if gb (bh t.1)=true then oX (om (bh t.1) t.2.length) else { kind:=110 }
def cy (s:SP) (f:gi):fS:=if f.what=83 then (match jv s f.name with
   | some e=>(s,[],some e)
   | none=>match bG s.L f.name with
     | none=>(s,[],none)
     | some t=>(s,[{ kind:=116,oids:=t.2 },iM t],none))
 else match gE s f.portal with
   | some e=>(s,[],some e)
   | none=>match bG s.P f.portal with
     | none=>(s,[],none)
     | some p=>(s,[iM (p.1,p.2.1)],none)
def wY (n:Nat):List UInt8:=([83,69,76,69,67,84,32]:List UInt8)++dr (n:Int)
def cQ (l:List (List eC)) (more:Bool):List jb:=l.map (fun r=>({ kind:=68,row:=r }:jb))++[if more=true then { kind:=115 } else { kind:=67,tag:=wY l.length }]
def cG (s:SP) (v:fR):fS:=if v.k=1 then (s,[{ kind:=73 }],none) else if v.k=8 then (s,[],some (v.c,([102,97,105,108,101,100,32,111,110,32,112,117,114,112,111,115,101]:List UInt8)))
 else ({ s with st:=(eV s.st v).1,P:=if cx v=true then [] else s.P },[{ kind:=67,tag:=(eV s.st v).2 }],none)
def cY (v:fR) (ps:List eC) (cnt:Int):List (List eC) × Int:=if v.k=5 then (ju (cU v.n),cnt) else if v.k=6 then ([ps],cnt) else if v.k=7 then ([[(false,dr (cnt+1))]],cnt+1) else ([],cnt)
def dJ (rs:List (List eC)) (ov:Bool) (most:Int):List (List eC) × List (List eC) × Bool :=
 if ov=true then ([],rs,true) else
   let n:=if 0 < most then min rs.length most.toNat else rs.length
   (rs.take n,rs.drop n,decide ((rs.drop n).length=0))
def cd (s:SP) (f:gi):fS:=match gE s f.portal with
 | some e=>(s,[],some e)
 | none=>match bG s.P f.portal with
   | none=>(s,[],none)
   | some (t,o,ps,rs,ran,ov) =>
     if gb (bh t)=true then
       let rc:=if ran=true then (rs,s.cnt) else cY (bh t) ps s.cnt
       let q:=dJ rc.1 ov f.max
       ({ s with cnt:=rc.2,P:=cl s.P f.portal (t,o,ps,q.2.1,true,q.2.2) },cQ q.1 (!q.2.2),none)
     else if ran=true∧(bh t).k ≠ 1 then (s,[],some (([53,53,48,48,48]:List UInt8),([112,111,114,116,97,108,32,99,97,110,110,111,116,32,98,101,32,114,117,110]:List UInt8)))
     else match cG s (bh t) with
       | (s1,out,none)=>({ s1 with P:=if cx (bh t)=true∨ran=true then s1.P else cl s1.P f.portal (t,o,ps,[],true,ov) },out,none)
       | r=>r
def gF (s:SP) (f:gi):fS:=if f.what=83 then ({ s with L:=cb s.L f.name },[{ kind:=51 }],none) else ({ s with P:=cb s.P f.portal },[{ kind:=51 }],none)
def dy (s:SP) (f:gi):fS :=
 let s1:SP:={ s with L:=cb s.L [],P:=cb s.P [] }
 match jF f.text s.st with
 | some e=>(s1,[],some e)
 | none => if gb (bh f.text) = true then
     let rc:=cY (bh f.text) [] s.cnt
     ({ s1 with cnt:=rc.2 },oX (om (bh f.text) 0) :: cQ rc.1 false,none)
   else cG s1 (bh f.text)
def dY (s:SP):SP × jb:=({ s with P:=if s.st=73 then [] else s.P },{ kind:=90,status:=s.st })
def ei (s:SP) (f:gi):fS :=
 if f.kind=80 then eD s f else if f.kind=66 then fG s f else if f.kind=68 then cy s f else if f.kind=69 then cd s f
 else if f.kind=67 then gF s f else if f.kind=81 then dy s f else (s,[],none)
def oo (c t:List UInt8):jb:={ kind:=69,fields:=jN ([69,82,82,79,82]:List UInt8) c t }
def hJ (s:SP) (c t:List UInt8):SP × jb:=({ s with st:=eU s.st,P:=if eU s.st=69 then [] else s.P },oo c t)
def fH (f:gi) (r:fS):SP × List jb :=
 let a:SP × List jb:=match r.2.2 with
   | some (c,t)=>((hJ { r.1 with sk:=decide (f.kind ≠ 81) } c t).1,r.2.1++[(hJ r.1 c t).2])
   | none=>(r.1,r.2.1)
 if f.kind=81 then ((dY a.1).1,a.2++[(dY a.1).2]) else a
def iw (s:SP) (f:gi):SP × List jb :=
 if s.ov=true then (s,[])
 else if f.kind=88 then ({ s with ov:=true },[])
 else if f.kind=83 then ((dY { s with sk:=false }).1,[(dY s).2])
 else if s.sk=true then (s,[])
 else fH f (ei s f)
section
variable {κ α β:Type} [DecidableEq κ]
theorem nn (F:α→β) (E:List (κ × α)) (n:κ):bG (E.map fun q=>(q.1,F q.2)) n=(bG E n).map F:=by
 induction E with
 | nil=>rfl
 | cons a E ih=>rw [List.map_cons,ft,ft,ih];split <;> rfl
theorem si (F:α→β) (E:List (κ × α)) (n:κ):cb (E.map fun q=>(q.1,F q.2)) n=(cb E n).map fun q=>(q.1,F q.2):=by
 unfold cb
 rw [List.filter_map]
 rfl
theorem sj (F:α→β) (E:List (κ × α)) (n:κ) (v:α):cl (E.map fun q=>(q.1,F q.2)) n (F v)=(cl E n v).map fun q=>(q.1,F q.2):=by
 unfold cl
 rw [nn]
 rcases bG E n with _ | w
 · simp
 · simp only [Option.map_some,Option.isSome_some,if_true,List.map_map]
   refine List.map_congr_left fun p _=>?_
   simp only [Function.comp]
   split <;> rfl
end
theorem ky (L:List (List UInt8 × gy)) (n:List UInt8):bG (qd L) n=(bG L n).map fun q=>(q.text,q.oids):=nn (fun q:gy=>(q.text,q.oids)) L n
theorem gd (P:List (List UInt8 × ee)) (n:List UInt8):bG (fN P) n=(bG P n).map fun q=>q.d.pl:=nn (fun q:ee=>q.d.pl) P n
theorem kA (L:List (List UInt8 × gy)) (n:List UInt8):qd (cb L n)=cb (qd L) n:=(si (fun q:gy=>(q.text,q.oids)) L n).symm
theorem mC (P:List (List UInt8 × ee)) (n:List UInt8):fN (cb P n)=cb (fN P) n:=(si (fun q:ee=>q.d.pl) P n).symm
theorem kB (L:List (List UInt8 × gy)) (n:List UInt8) (v:gy):qd (cl L n v)=cl (qd L) n (v.text,v.oids):=(sj (fun q:gy=>(q.text,q.oids)) L n v).symm
theorem qe (P:List (List UInt8 × ee)) (n:List UInt8) (v:ee):fN (cl P n v)=cl (fN P) n v.d.pl:=(sj (fun q:ee=>q.d.pl) P n v).symm
def Bk.F (b:Bk) (q:Nat):Prop:=(0 < b.oids.length∧b.vo.ownBlock=some q)∨(0 < b.cols.length∧b.vc.ownBlock=some q)∨du b.vr b.row q∨(0 < b.fields.length∧b.vf.ownBlock=some q)
theorem Bk.ok.ext {h h':ah} {S:Nat→Prop} {b:Bk} (k:b.ok h) (a:Ext S h h') (hS:∀ q,b.F q→¬ S q):b.ok h':=by
 refine ⟨⟨k.oids.1.ext' a fun q h1 h2=>hS q (.inl ⟨?_,h2⟩),k.oids.2⟩,⟨k.cols.1.ext' a fun q h1 h2=>hS q (.inr (.inl ⟨?_,h2⟩)),k.cols.2⟩,k.row.ext a fun q hq=>hS q (.inr (.inr (.inl hq))),⟨k.fields.1.ext' a fun q h1 h2=>hS q (.inr (.inr (.inr ⟨?_,h2⟩))),k.fields.2⟩⟩
 · exact h1
 · exact h1
 · exact h1
theorem Bk.ok.lt {h:ah} {b:Bk} {q:Nat} (k:b.ok h) (hq:b.F q):q < h.size:=by
 rcases hq with ⟨h1,h2⟩ | ⟨h1,h2⟩ | hq | ⟨h1,h2⟩
 · exact k.oids.1.lt h1 h2
 · exact k.cols.1.lt h1 h2
 · exact k.row.lt hq
 · exact k.fields.1.lt h1 h2
theorem Bk.ok.one {h:ah} {b:Bk} (k:b.ok h):∀ v∈b.cells,v.oneCell'=true:=by
 obtain ⟨_,_,e1,_⟩:=k.oids.1
 obtain ⟨_,_,e2,_⟩:=k.cols.1
 obtain ⟨_,⟨_,_,_,e3,_⟩,_⟩:=k.row
 obtain ⟨_,_,e4,_⟩:=k.fields.1
 simp [Bk.cells,Value.oneCell',e1,e2,e3,e4]
structure cz (h0 h:ah) (v:Value) (B:List Bk):Prop where
 own:Own h v 140 11 B.length (B.flatMap Bk.cells)
 ok:∀ b∈B,b.ok h
 vf:∀ q,v.ownBlock=some q→h0.size≤q
 bf:∀ b∈B,∀ q,b.F q→h0.size≤q
 dj:∀ b∈B,∀ q,b.F q→v.ownBlock ≠ some q
theorem cz.nil (h0 h:ah):cz h0 h (.slice none 0 0) []:=⟨Own.nil _ _ _,(fun _ h=>nomatch h),by simp [Value.ownBlock],(fun _ h=>nomatch h),(fun _ h=>nomatch h)⟩
theorem cz.ext {h0 h h':ah} {S:Nat→Prop} {v:Value} {B:List Bk} (k:cz h0 h v B) (x:Ext S h h') (hS:∀ q,S q→q < h0.size):cz h0 h' v B :=
 ⟨k.own.ext x fun q hq e=>by have:=k.vf q hq;have:=hS q e;omega,fun b hb=>(k.ok b hb).ext x fun q hq e=>by have:=k.bf b hb q hq;have:=hS q e;omega,k.vf,k.bf,k.dj⟩
theorem cz.aq {h0 h h':ah} {v:Value} {B:List Bk} (k:cz h0 h v B) (x:Ext No h h'):cz h0 h' v B:=k.ext x fun _ e=>e.elim
theorem cz.mono {h0 h1 h:ah} {v:Value} {B:List Bk} (k:cz h1 h v B) (e:h0.size≤h1.size):cz h0 h v B :=
 ⟨k.own,k.ok,fun q hq=>Nat.le_trans e (k.vf q hq),fun b hb q hq=>Nat.le_trans e (k.bf b hb q hq),k.dj⟩
theorem cz.snoc {h0 h h':ah} {v v':Value} {B:List Bk} {b:Bk} (k:cz h0 h v B) (ok:b.ok h) (fb:∀ z,b.F z→h0.size≤z) (hd:∀ z,b.F z→v.ownBlock ≠ some z) (hs:h0.size≤h.size)
   (ho:Own h' v' 140 11 (B.length+1) (B.flatMap Bk.cells++b.cells)) (hx:Ext (fun z=>v.ownBlock=some z) h h') (hl:v'.ownBlock=v.ownBlock∨v'.ownBlock=some h.size):cz h0 h' v' (B++[b]):=by
 have okB:∀ c∈B++[b],c.ok h∧(∀ z,c.F z→h0.size≤z)∧∀ z,c.F z→v.ownBlock ≠ some z:=fun c hc=>by
   rcases List.mem_append.1 hc with hc | hc
   · exact ⟨k.ok c hc,k.bf c hc,k.dj c hc⟩
   · obtain rfl:=List.mem_singleton.1 hc
     exact ⟨ok,fb,hd⟩
 refine ⟨by simpa using ho,fun c hc=>(okB c hc).1.ext hx fun z hz e=>(okB c hc).2.2 z hz e,fun q hq=>?_,fun c hc=>(okB c hc).2.1,fun c hc z hz e=>?_⟩
 · rcases hl with e | e
   · exact k.vf q (e▸hq)
   · rw [e] at hq
     simp only [Option.some.injEq] at hq
     omega
 · rcases hl with e2 | e2
   · exact (okB c hc).2.2 z hz (e2▸e)
   · rw [e2] at e
     simp only [Option.some.injEq] at e
     have:=(okB c hc).1.lt hz
     omega
def kL (k st:Int) (tag:List UInt8):Bk:=⟨k,st,tag,[],[],0,0,nS,[],nS,[],nS,[],nS,[]⟩
theorem hU (h:ah) (k st:Int) (tag:List UInt8):(kL k st tag).ok h:=⟨⟨Rd.nil _ _,by simp [kL]⟩,⟨Rd.nil _ _,by simp [kL]⟩,gv h _,⟨Rd.nil _ _,by simp [kL]⟩⟩
theorem iN {k st:Int} {tag:List UInt8} {q:Nat}:¬ (kL k st tag).F q:=fun e=>by
 rcases e with ⟨e,_⟩ | ⟨e,_⟩ | e | ⟨e,_⟩
 · exact absurd e (Nat.lt_irrefl 0)
 · exact absurd e (Nat.lt_irrefl 0)
 · exact (fu rfl e).elim
 · exact absurd e (Nat.lt_irrefl 0)
theorem cz.one {h0 h:ah} {q:Nat} {b:Bk} (hq:h[q]?=some (.cells ⟨b.cells⟩ 140 (0,0))) (ok:b.ok h) (hg:h0.size≤q) (hF:∀ z,b.F z→h0.size≤z∧z ≠ q):cz h0 h (.slice (some ⟨q,0,none⟩) 1 1) [b] :=
 ⟨by simpa using dE hq (len:=1) rfl (by simp [maxLen]),by simpa using ok,fun z hz=>by simp [Value.ownBlock] at hz;omega,by simpa using fun z hz=>(hF z hz).1,by simpa [Value.ownBlock] using fun z hz e=>(hF z hz).2 e.symm⟩
theorem cz.tag {h0 h:ah} {q:Nat} {k st:Int} {tag:List UInt8} (hq:h[q]?=some (.cells ⟨Ff k st tag⟩ 140 (0,0))) (hg:h0.size≤q):cz h0 h (.slice (some ⟨q,0,none⟩) 1 1) [kL k st tag] :=
 .one hq (hU _ _ _ _) hg fun _ e=>(iN e).elim
theorem cz.append {h0 h h':ah} {v w v':Value} {B C:List Bk} (k:cz h0 h v B) (j:cz h0 h w C) (hd:∀ c∈C,∀ z,c.F z→v.ownBlock ≠ some z) (hs:h0.size≤h.size)
   (ho:Own h' v' 140 11 (B.length+C.length) (B.flatMap Bk.cells++C.flatMap Bk.cells)) (hx:Ext (fun z=>v.ownBlock=some z) h h') (hl:v'.ownBlock=v.ownBlock∨v'.ownBlock=some h.size):cz h0 h' v' (B++C):=by
 have okB:∀ c∈B++C,c.ok h∧(∀ z,c.F z→h0.size≤z)∧∀ z,c.F z→v.ownBlock ≠ some z:=fun c hc=>by
   rcases List.mem_append.1 hc with hc | hc
   · exact ⟨k.ok c hc,k.bf c hc,k.dj c hc⟩
   · exact ⟨j.ok c hc,j.bf c hc,hd c hc⟩
 refine ⟨by simpa using ho,fun c hc=>(okB c hc).1.ext hx fun z hz e=>(okB c hc).2.2 z hz e,fun q hq=>?_,fun c hc=>(okB c hc).2.1,fun c hc z hz e=>?_⟩
 · rcases hl with e | e
   · exact k.vf q (e▸hq)
   · rw [e] at hq
     simp only [Option.some.injEq] at hq
     omega
 · rcases hl with e2 | e2
   · exact (okB c hc).2.2 z hz (e2▸e)
   · rw [e2] at e
     simp only [Option.some.injEq] at e
     have:=(okB c hc).1.lt hz
     omega
theorem cz.ext' {h0 h h':ah} {S:Nat→Prop} {v:Value} {B:List Bk} (k:cz h0 h v B) (x:Ext S h h') (h1:∀ q,v.ownBlock=some q→¬ S q) (h2:∀ b∈B,∀ q,b.F q→¬ S q):cz h0 h' v B :=
 ⟨k.own.ext x h1,fun b hb=>(k.ok b hb).ext x (h2 b hb),k.vf,k.bf,k.dj⟩
theorem Bk.MS {b:Bk} (h1:b.oids=[]) (h2:b.cols=[]) (h3:b.row=[]) (h4:b.fields=[]) (q:Nat):¬ b.F q:=fun e=>by
 rcases e with ⟨e,_⟩ | ⟨e,_⟩ | e | ⟨e,_⟩
 · rw [h1] at e;exact absurd e (Nat.lt_irrefl 0)
 · rw [h2] at e;exact absurd e (Nat.lt_irrefl 0)
 · exact (fu h3 e).elim
 · rw [h4] at e;exact absurd e (Nat.lt_irrefl 0)
def Fm.F (f:Fm) (q:Nat):Prop:=(0 < f.oids.length∧f.vo.ownBlock=some q)∨du f.vp f.params q
structure gG (f:Fm):Prop where
 n:f.name.length≤100000
 p:f.portal.length≤100000
 t:f.text.length≤100000
 o:f.oids.length≤20000
 m:f.params.length≤100000
 x : -9223372036854775808≤f.max∧f.max≤9223372036854775807
def ck (st:Int) (sk ov:Bool) (cnt:Int) (L:List (List UInt8 × gy)) (P:List (List UInt8 × ee)):SP:=⟨st,sk,ov,cnt,qd L,fN P⟩
def Sv (g:ah) (A:Ad) (P0:List (List UInt8 × ee)) (h:ah) (s:SP):Prop:=∃ L P,Ss h A s.st s.sk s.ov s.cnt L P∧qd L=s.L∧fN P=s.P∧Tn A P0 g h P
structure jg (s:SP):Prop where
 l:∀ q∈s.L,q.2.1.length≤100000
 p:∀ q∈s.P,q.2.1.length≤100000∧q.2.2.1.length≤20000∧q.2.2.2.1.length≤100000∧q.2.2.2.2.1.length≤100000∧∀ r∈q.2.2.2.2.1,r.length≤100000
 c:s.cnt < 1000000
def cj (h:ah) (A:Ad) (P:List (List UInt8 × ee)) (r:fS) (u:Value) (h':ah):Prop:=∃ v B,(r.2.2 ≠ none→v=nS)∧u=.tuple ⟨[v,fM r.2.2]⟩∧cz h h' v B∧B.map Bk.p=r.2.1∧Sv h A P h' r.1
def eT (h:ah) (A:Ad) (L:List (List UInt8 × gy)) (P:List (List UInt8 × ee)) (r:fS) (u:Value) (h':ah):Prop:=∃ v B,(r.2.2 ≠ none→v=nS)∧u=.tuple ⟨[v,fM r.2.2]⟩∧cz h h' v B∧B.map Bk.p=r.2.1∧∃ L' P',(∀ q∈L',q∈L)∧(∀ q∈P',q∈P)∧Ss h' A r.1.st r.1.sk r.1.ov r.1.cnt L' P'∧qd L'=r.1.L∧fN P'=r.1.P∧Tn A P h h' P'
theorem eT.Lu {h h':ah} {A:Ad} {L:List (List UInt8 × gy)} {P:List (List UInt8 × ee)} {r:fS} {u:Value} (d:eT h A L P r u h'):cj h A P r u h':=by
 obtain ⟨v,B,c,e,O,p,L',P',_,_,k⟩:=d
 exact ⟨v,B,c,e,O,p,L',P',k⟩
section
variable {h h':ah} {A:Ad} {st:Int} {sk ov:Bool} {cnt:Int} {L:List (List UInt8 × gy)} {P:List (List UInt8 × ee)}
theorem jg.tl (lm:jg (ck st sk ov cnt L P)):∀ q∈L,q.2.text.length≤100000:=fun q hq=>lm.l _ (List.mem_map.2 ⟨q,hq,rfl⟩)
theorem jg.tp (lm:jg (ck st sk ov cnt L P)):∀ q∈P,q.2.d.text.length≤100000∧q.2.d.oids.length≤20000∧(q.2.d.ps.map aX.pl).length≤100000∧(q.2.d.rs.map Rw.pl).length≤100000∧∀ r∈q.2.d.rs.map Rw.pl,r.length≤100000:=fun q hq=>lm.p _ (List.mem_map.2 ⟨q,hq,rfl⟩)
theorem ly (k:Ss h A st sk ov cnt L P) (lm:jg (ck st sk ov cnt L P)) (n:List UInt8) (hn:n.length≤100000):ag Tryz.prog 208 ⟨[.pointer (some ⟨A.bs,0,none⟩),St n]⟩ h fun u h' =>
   (∃ q:gy,u=.tuple ⟨[sZ q,fM (jv (ck st sk ov cnt L P) n)]⟩∧(∃ B c,q.vo=.slice B q.oids.length c)∧(jv (ck st sk ov cnt L P) n=none→bG L n=some q))∧Ext No h h':=by
 have hlk:=cN sZ L n
 have hsp:jv (ck st sk ov cnt L P) n=match (bG L n).map fun q=>(q.text,q.oids) with
   | none=>some (([50,54,48,48,48]:List UInt8),nk n)
   | some t=>gh t.1 st:=by rw [← ky];rfl
 rcases hg:bG L n with _ | ⟨text,vo,oids⟩
 · rw [hg] at hlk hsp
   dsimp only [Option.map_none] at hlk hsp
   rw [hsp]
   refine calls [(0,_),(1,_)] Tryz.func208 rfl Tryz.ntmps208 rfl ⟨rfl,rfl,trivial⟩ ?_
   refine WC.sr ?_;refine WL.aj (an (fun w=>Tryz.zeroValue261 w)) rfl rfl rfl ?_
   rintro _ h1 ⟨b4,rfl,bR,bC,az⟩
   refine Go ?_;refine WC.sr ?_
   have k1:=k.aq az
   have hb:=k1.se.bm
   have hms:=k1.se.stm
   have l4:=ai bC
   refine WL.step (ak rfl) rfl rfl rfl ?_;refine WL.step (ae rfl) rfl rfl rfl (Go ?_);refine WL.ld rfl (by first | exact aa hb rfl | assumption) rfl rfl rfl (Go ?_)
   refine WL.step ((dq fB Tryz.underlying149 Tryz.underlying9 (fun w=>Tryz.zeroValue261 w) rfl rfl hms hlk).1) rfl rfl rfl (Go ?_)
   refine WL.aj (an (fun w=>Tryz.zeroValue261 w)) rfl rfl rfl ?_
   rintro _ h2 ⟨b6,rfl,gg,bX,aI⟩
   refine WL.ax (al Tryz.sizeOf261 rfl rfl rfl bX rfl (by simp [Value.oneCell'])) rfl rfl ?_
   rintro _ h3 ⟨Fk,aQ⟩
   have X3:Ext No h1 h3:=aI.trans' aQ (fun q hq e=>by omega)
   have sl:=X3.obj bC aO
   refine Go ?_;refine Gs [(0,_),(1,_),(4,_),(6,_),(7,_)] ?_;refine G3 ?_
   refine aH 1 2 ?_ TT.mk
   all_goals (refine aw 1 ?_)
   refine WC.sr ?_;refine WL.step (aF (vs:=[]) (cs:=[_,_]) (fun | []=>[(St []),(.slice none 0 0)] | _=>[]) rfl rfl (by kernel_rfl)) rfl rfl rfl (Go ?_)
   refine WL.call (vs:=[_]) rfl Tryz.call244 rfl (sa n hn) rfl rfl rfl ?_
   rintro _ h4 ⟨rfl,aW⟩
   refine WL.call (vs:=[_,_]) rfl Tryz.call204 rfl (hG _ _) rfl rfl rfl ?_
   rintro _ hq ⟨rfl,hz⟩
   replace hz:=hz.symm
   subst hz
   refine WL.ax (al Tryz.sizeOf261 rfl rfl rfl (aW.obj sl aO) rfl (by simp [Value.oneCell'])) rfl rfl ?_
   rintro _ h5 ⟨bV,aM⟩
   refine Go ?_;refine Gs [(4,_),(5,_)] ?_;refine WC.ret ?_
   repeat' (with_reducible first | refine aZ ?_ | refine aV ?_)
   refine cV _ _ ⟨⟨_,rfl,bB Tryz.isAgg261 Tryz.sizeOf261 bV rfl⟩,rfl,trivial⟩ ?_
   exact ⟨⟨⟨[],.slice none 0 0,[]⟩,rfl,⟨_,_,rfl⟩,fun e=>by cases e⟩,((az.trans X3).trans aW).trans' aM (fun q hq e=>by omega)⟩
 · have hm:=b0 hg
   have htl:=lm.tl _ hm
   obtain ⟨B,c,hvo,_⟩:=(k.sok _ hm).1
   dsimp only at htl hvo
   subst hvo
   rw [hg] at hlk hsp
   dsimp only [Option.map_some,sZ] at hlk hsp
   rw [hsp]
   unfold sZ
   refine calls [(0,_),(1,_)] Tryz.func208 rfl Tryz.ntmps208 rfl ⟨rfl,rfl,trivial⟩ ?_
   refine WC.sr ?_;refine WL.aj (an (fun w=>Tryz.zeroValue261 w)) rfl rfl rfl ?_
   rintro _ h1 ⟨b4,rfl,bR,bC,az⟩
   refine Go ?_;refine WC.sr ?_
   have k1:=k.aq az
   have hb:=k1.se.bm
   have hms:=k1.se.stm
   have l4:=ai bC
   refine WL.step (ak rfl) rfl rfl rfl ?_;refine WL.step (ae rfl) rfl rfl rfl (Go ?_);refine WL.ld rfl (by first | exact aa hb rfl | assumption) rfl rfl rfl (Go ?_)
   refine WL.step ((gn fB Tryz.underlying149 Tryz.underlying9 rfl rfl hms hlk).1) rfl rfl rfl (Go ?_);refine WL.aj (an (fun w=>Tryz.zeroValue261 w)) rfl rfl rfl ?_
   rintro _ h2 ⟨b6,rfl,gg,bX,aI⟩
   refine WL.ax (al Tryz.sizeOf261 rfl rfl rfl bX rfl (by simp [Value.oneCell'])) rfl rfl ?_
   rintro _ h3 ⟨Fk,aQ⟩
   have X3:Ext No h1 h3:=aI.trans' aQ (fun q hq e=>by omega)
   have k3:=k1.aq X3
   have sl:=X3.obj bC aO
   have HH:¬ b6=b4:=by omega
   refine Go ?_;refine Gs [(0,_),(1,_),(4,_),(6,_),(7,_)] ?_;refine G3 ?_
   refine aH 1 2 ?_ TT.mk
   all_goals (refine aw 2 ?_)
   refine WC.skip ?_;refine Gn ?_;refine Gs [(0,_),(4,_),(6,_)] ?_;refine WC.seq ?_;refine WC.bW (fun h'=>Ext (fun q=>q=b4) h3 h') 6 6 rfl dm ?_
   refine WH.tk 0 rfl (fun hq hC=>ay Tryz.isAgg261 Tryz.sizeOf261 rfl rfl (by exact (At.av Fk).ext hC HH)) rfl rfl rfl ?_
   refine WH.tk 1 rfl (fun hq hC=>ak rfl) rfl rfl rfl ?_
   refine WH.tk 2 rfl (fun hq hC=>ay Tryz.isAgg261 Tryz.sizeOf261 rfl rfl (by exact (At.av Fk).ext hC HH)) rfl rfl rfl ?_
   refine WH.one 3 (by kernel_rfl) ?_
   refine aC.call (vs:=[_,_]) rfl rfl Tryz.call245 rfl (oP k3 text (by omega) ⟨_,_,_,rfl⟩) rfl rfl rfl ?_ (fun _=>by kernel_rfl)
   rintro _ h4 ⟨rfl,aW⟩
   refine ⟨fun _=>aW.mono fun _ _ e=>e.elim,?_⟩
   have Lv:Ext (fun q=>q=b4) h3 h4:=aW.mono fun _ _ e=>e.elim
   refine WH.one 4 (by kernel_rfl) ?_
   refine aC.cO rfl (al Tryz.sizeOf261 rfl rfl rfl (aW.obj sl aO) rfl (by simp [Value.oneCell'])) rfl rfl ?_ (fun _=>by kernel_rfl)
   rintro _ h5 ⟨bV,aM⟩
   refine ⟨fun _=>Lv.trans aM,?_⟩
   have DF:=Lv.trans aM
   refine WH.tk 5 rfl (fun hq hC=>aP rfl) rfl rfl rfl ?_
   refine WH.done (by kernel_rfl) ?_
   refine Gn ?_;refine Gs [(4,_),(5,_)] ?_;refine WC.ret ?_
   repeat' (with_reducible first | refine aZ ?_ | refine aV ?_)
   refine cV _ _ ⟨⟨_,rfl,bB Tryz.isAgg261 Tryz.sizeOf261 bV rfl⟩,rfl,trivial⟩ ?_
   exact ⟨⟨⟨text,_,oids⟩,rfl,⟨_,_,rfl⟩,fun _=>rfl⟩,(az.trans X3).trans' DF (fun q hq e=>by omega)⟩
theorem Ss.pe (k:Ss h A st sk ov cnt L P) {n:List UInt8} {i:ee} (hi:bG P n=some i):Pe h A.bp A.mp (eS vA P) i.p n i.d :=
 have hm:=b0 hi
 ⟨k.se.pb,k.se.pm,by rw [cN,hi];rfl,(k.pok _ hm).1,(k.pok _ hm).2.1,fun q hq e=>(k.pok _ hm).2.2 q hq (e▸.inr (.inr (.inr (.inr ⟨_,hm,rfl⟩))))⟩
theorem eJ (k:Ss h A st sk ov cnt L P) (lm:jg (ck st sk ov cnt L P)) (n:List UInt8) (hn:n.length≤100000):ag Tryz.prog 213 ⟨[.pointer (some ⟨A.bs,0,none⟩),St n]⟩ h fun u h' =>
   (∃ d:PD,u=.tuple ⟨[.agg ⟨d.cells⟩,fM (gE (ck st sk ov cnt L P) n)]⟩∧d.ok h'∧(∀ q,d.F q→h.size≤q)∧(gE (ck st sk ov cnt L P) n=none→∃ i,bG P n=some i∧d.pl=i.d.pl))∧Ext No h h':=by
 have hlk:=cN vA P n
 have hsp:gE (ck st sk ov cnt L P) n=match (bG P n).map fun q=>q.d.pl with
   | none=>some (([51,52,48,48,48]:List UInt8),ig ([112,111,114,116,97,108]:List UInt8) n ([100,111,101,115,32,110,111,116,32,101,120,105,115,116]:List UInt8))
   | some t=>gh t.1 st:=by rw [← gd];rfl
 rcases hg:bG P n with _ | i
 · rw [hg] at hlk hsp
   dsimp only [Option.map_none] at hlk hsp
   rw [hsp]
   have kg:=fun (g:ah) (k:Ss g A st sk ov cnt L P)=>EO n k.se.pb k.se.pm hlk
   unfold EJ PD.cells at kg
   refine calls [(0,_),(1,_)] Tryz.func213 rfl Tryz.ntmps213 rfl ⟨rfl,rfl,trivial⟩ ?_
   refine WC.sr ?_;refine WL.aj (an (fun w=>Tryz.zeroValue273 w)) rfl rfl rfl ?_
   rintro _ h1 ⟨b4,rfl,bR,bC,az⟩
   refine Go ?_;refine WC.sr ?_
   have k1:=k.aq az
   have hb:=k1.se.bm
   have l4:=ai bC
   refine WL.step (ak rfl) rfl rfl rfl ?_;refine WL.step (ae rfl) rfl rfl rfl (Go ?_);refine WL.ld rfl (by first | exact aa hb rfl | assumption) rfl rfl rfl (Go ?_)
   refine WL.call (vs:=[_,_]) rfl Tryz.call249 rfl (kg _ k1) rfl rfl rfl ?_
   rintro _ h2 ⟨rfl,aI⟩
   refine Go ?_;refine WL.aj (an (fun w=>Tryz.zeroValue273 w)) rfl rfl rfl ?_
   rintro _ h3 ⟨b6,rfl,gl,bX,aQ⟩
   refine WL.ax (al Tryz.sizeOf273 rfl rfl rfl bX rfl (by simp [Value.oneCell'])) rfl rfl ?_
   rintro _ h4 ⟨Ct,aW⟩
   have gJ:Ext No h1 h4:=aI.trans (aQ.trans' aW (fun q hq e=>by omega))
   have gj:=gJ.obj bC aO
   refine Go ?_;refine Gs [(0,_),(1,_),(4,_),(6,_),(7,_)] ?_;refine G3 ?_
   refine aH 1 2 ?_ TT.mk
   all_goals (refine aw 1 ?_)
   refine WC.sr ?_;refine WL.step (aF (vs:=[]) (cs:=[_,_,_,_,_,_]) (fun | []=>[(St []),(.slice none 0 0),(.slice none 0 0),(.slice none 0 0),(.bool false),(.bool false)] | _=>[]) rfl rfl (by kernel_rfl)) rfl rfl rfl (Go ?_)
   refine WL.call (vs:=[_]) rfl Tryz.call250 rfl (uf n hn) rfl rfl rfl ?_
   rintro _ h5 ⟨rfl,aM⟩
   refine WL.call (vs:=[_,_]) rfl Tryz.call204 rfl (hG _ _) rfl rfl rfl ?_
   rintro _ hq ⟨rfl,hz⟩
   replace hz:=hz.symm
   subst hz
   refine WL.ax (al Tryz.sizeOf273 rfl rfl rfl (aM.obj gj aO) rfl (by simp [Value.oneCell'])) rfl rfl ?_
   rintro _ h6 ⟨Fl,aN⟩
   refine Go ?_;refine Gs [(4,_),(5,_)] ?_;refine WC.ret ?_
   repeat' (with_reducible first | refine aZ ?_ | refine aV ?_)
   refine cV _ _ ⟨⟨_,rfl,bB Tryz.isAgg273 Tryz.sizeOf273 Fl rfl⟩,rfl,trivial⟩ ?_
   exact ⟨⟨EJ,rfl,EK _,fun q hq=>by
    rcases hq with ⟨h0,_⟩ | hq | hq
    · exact absurd h0 (by decide)
    · exact (fu rfl hq).elim
    · exact (iL rfl hq).elim,fun e=>by cases e⟩,((az.trans gJ).trans aM).trans' aN (fun q hq e=>by omega)⟩
 · have hpe:=k.pe hg
   have htl:=(lm.tp _ (b0 hg)).1
   dsimp only at htl
   rw [hg] at hsp
   dsimp only [Option.map_some] at hsp
   rw [hsp]
   have kg:=fun (g:ah) (k:Ss g A st sk ov cnt L P)=>HD (k.pe hg)
   refine calls [(0,_),(1,_)] Tryz.func213 rfl Tryz.ntmps213 rfl ⟨rfl,rfl,trivial⟩ ?_
   refine WC.sr ?_;refine WL.aj (an (fun w=>Tryz.zeroValue273 w)) rfl rfl rfl ?_
   rintro _ h1 ⟨b4,rfl,bR,bC,az⟩
   refine Go ?_;refine WC.sr ?_
   have k1:=k.aq az
   have hb:=k1.se.bm
   have l4:=ai bC
   refine WL.step (ak rfl) rfl rfl rfl ?_;refine WL.step (ae rfl) rfl rfl rfl (Go ?_);refine WL.ld rfl (by first | exact aa hb rfl | assumption) rfl rfl rfl (Go ?_)
   refine WL.call (vs:=[_,_]) rfl Tryz.call249 rfl (kg _ k1) rfl rfl rfl ?_
   rintro _ h2 ⟨⟨d2,rfl,iU,j9,eI⟩,aI⟩
   refine Go ?_;refine WL.aj (an (fun w=>Tryz.zeroValue273 w)) rfl rfl rfl ?_
   rintro _ h3 ⟨b6,rfl,gl,bX,aQ⟩
   refine WL.ax (al Tryz.sizeOf273 rfl rfl rfl bX rfl (eQ iU)) rfl rfl ?_
   rintro _ h4 ⟨Ct,aW⟩
   have gJ:Ext No h1 h4:=aI.trans (aQ.trans' aW (fun q hq e=>by omega))
   have k4:=k1.aq gJ
   have kM:=iU.ext (aQ.trans' (S:=No) aW (fun q hq e=>by omega)) (fun _ _=>aO)
   have gj:=gJ.obj bC aO
   have HH:¬ b6=b4:=by have:=aI.size;omega
   have hti:d2.text=i.d.text:=congrArg (·.1) j9
   obtain ⟨text,vo,oids,vp,ps,vr,rs,ran,over⟩:=d2
   dsimp only at hti
   subst hti
   dsimp only [PD.cells] at Ct
   obtain ⟨A3,c3,hvo,_⟩:=id kM.oids
   dsimp only at hvo
   subst hvo
   refine Go ?_;refine Gs [(0,_),(1,_),(4,_),(6,_),(7,_)] ?_;refine G3 ?_
   refine aH 1 2 ?_ TT.mk
   all_goals (refine aw 2 ?_)
   refine WC.skip ?_;refine Gn ?_;refine Gs [(0,_),(4,_),(6,_)] ?_;refine WC.seq ?_;refine WC.bW (fun h'=>Ext (fun q=>q=b4) h4 h') 7 7 rfl dm ?_
   refine WH.tk 0 rfl (fun hq hC=>ay Tryz.isAgg273 Tryz.sizeOf273 rfl rfl (by exact (At.av Ct).ext hC HH)) rfl rfl rfl ?_
   refine WH.tk 1 rfl (fun hq hC=>ak rfl) rfl rfl rfl ?_
   refine WH.tk 2 rfl (fun hq hC=>ad rfl Tryz.underlying273 rfl Tryz.sizeOf261) rfl rfl rfl ?_
   refine WH.tk 3 rfl (fun hq hC=>ay Tryz.isAgg261 Tryz.sizeOf261 rfl rfl (by exact At.pre (xs:=[_,_]) (ys:=[_,_,_,_]) ((At.av Ct).ext hC HH))) rfl rfl rfl ?_
   refine WH.one 4 (by kernel_rfl) ?_
   refine aC.call (vs:=[_,_]) rfl rfl Tryz.call245 rfl (oP k4 i.d.text (by omega) ⟨_,_,_,rfl⟩) rfl rfl rfl ?_ (fun _=>by kernel_rfl)
   rintro _ h5 ⟨rfl,aM⟩
   refine ⟨fun _=>aM.mono fun _ _ e=>e.elim,?_⟩
   have DF:Ext (fun q=>q=b4) h4 h5:=aM.mono fun _ _ e=>e.elim
   refine WH.one 5 (by kernel_rfl) ?_
   refine aC.cO rfl (al Tryz.sizeOf273 rfl rfl rfl (aM.obj gj aO) rfl (eQ kM)) rfl rfl ?_ (fun _=>by kernel_rfl)
   rintro _ h6 ⟨Fl,aN⟩
   refine ⟨fun _=>DF.trans aN,?_⟩
   have Gx:=DF.trans aN
   refine WH.tk 6 rfl (fun hq hC=>aP rfl) rfl rfl rfl ?_
   refine WH.done (by kernel_rfl) ?_
   refine Gn ?_;refine Gs [(4,_),(5,_)] ?_;refine WC.ret ?_
   repeat' (with_reducible first | refine aZ ?_ | refine aV ?_)
   refine cV _ _ ⟨⟨_,rfl,bB Tryz.isAgg273 Tryz.sizeOf273 Fl rfl⟩,rfl,trivial⟩ ?_
   exact ⟨⟨⟨i.d.text,_,oids,vp,ps,vr,rs,ran,over⟩,rfl,(kM.ext aM (fun _ _=>aO)).ext aN (fun q hq e=>by subst e;have:=eI _ hq;omega),fun q hq=>by have:=eI q hq;have:=az.size;omega,fun _=>⟨i,rfl,j9⟩⟩,(az.trans gJ).trans' Gx (fun q hq e=>by omega)⟩
end
section
variable {h h':ah} {A:Ad} {st:Int} {sk ov:Bool} {cnt:Int} {L:List (List UInt8 × gy)} {P:List (List UInt8 × ee)}
def np (L:List (List UInt8 × gy)) (n:List UInt8):List (List UInt8 × gy):=if n=[] then cb L [] else L
theorem zH (f:gi):eD (ck st sk ov cnt L P) f=match jF f.text st with
   | some e=>(ck st sk ov cnt (np L f.name) P,[],some e)
   | none=>match bG (np L f.name) f.name with
     | some _=>(ck st sk ov cnt (np L f.name) P,[],some (([52,50,80,48,53]:List UInt8),vC f.name))
     | none=>({ ck st sk ov cnt (np L f.name) P with L:=cl (qd (np L f.name)) f.name (f.text,f.oids) },[{ kind:=49 }],none):=by
 have e1:(if f.name=[] then { ck st sk ov cnt L P with L:=cb (ck st sk ov cnt L P).L [] } else ck st sk ov cnt L P)=ck st sk ov cnt (np L f.name) P:=by
   unfold np
   split
   · simp only [ck,kA]
   · rfl
 unfold eD
 dsimp only
 rw [e1]
 have hg:=ky (np L f.name) f.name
 rcases hr:jF f.text st with _ | e
 · simp only [ck,hr,hg]
   cases bG (np L f.name) f.name <;> simp
 · simp only [ck,hr]
theorem cj.err {r:fS} {a c:List UInt8} {s:SP} (hr:r=(s,[],some (a,c))) (k:Sv h A P h' s):cj h A P r (.tuple ⟨[.slice none 0 0,fM (some (a,c))]⟩) h':=by
 subst hr
 exact ⟨_,[],fun _=>rfl,rfl,cz.nil _ _,rfl,k⟩
theorem Sv.of {P0:List (List UInt8 × ee)} {g:ah} (k:Ss h A st sk ov cnt L P) (t:Tn A P0 g h P):Sv g A P0 h (ck st sk ov cnt L P):=⟨L,P,k,rfl,rfl,t⟩
theorem Cu (k:Ss h A st sk ov cnt L P) (f:Fm) (hf:f.ok h) (hF:∀ q,f.F q→¬ Mu A P q) (fl:gG f):ag Tryz.prog 146 ⟨[.pointer (some ⟨A.bs,0,none⟩),.agg ⟨f.cells⟩]⟩ h (cj h A P (eD (ck st sk ov cnt L P) f.p)):=by
 have hpe:=zH (st:=st) (sk:=sk) (ov:=ov) (cnt:=cnt) (L:=L) (P:=P) f.p
 obtain ⟨⟨e1,_⟩,⟨e2,_⟩,⟨e3,_⟩,e4,_⟩:=hf
 obtain ⟨oY,nT,wZ,jN,_⟩:=fl
 obtain ⟨fk,w,n,p,t,vo,o,vf,fs,vs,rs,vp,ps,mx⟩:=f
 dsimp only [Fm.p] at e1 e2 e3 e4 hpe oY nT wZ jN
 have er:=e1
 obtain ⟨A1,c1,rfl,_⟩:=e1
 obtain ⟨_,_,rfl,_⟩:=e2
 obtain ⟨_,_,rfl,_⟩:=e3
 obtain ⟨_,_,rfl,_⟩:=e4
 dsimp only [Fm.cells,Fm.p]
 obtain ⟨L1,Fo⟩:∃ L1,np L n=L1:=⟨_,rfl⟩
 rw [Fo] at hpe
 obtain ⟨r,hr⟩:∃ r,jF t st=r:=⟨_,rfl⟩
 obtain ⟨g,hg⟩:∃ g,bG L1 n=g:=⟨_,rfl⟩
 have hlk:=cN sZ L1 n
 rw [hg] at hlk
 rw [hr,hg] at hpe
 rcases (show (n=[]∧L1=cb L []∧g=none)∨(n ≠ []∧L1=L) by
   unfold np at Fo
   by_cases hn:n=[]
   · rw [if_pos hn] at Fo
     exact .inl ⟨hn,Fo.symm,by rw [← hg,← Fo,hn,zr,if_pos rfl]⟩
   · rw [if_neg hn] at Fo
     exact .inr ⟨hn,Fo.symm⟩) with ⟨hn,hL,Js⟩ | ⟨hn,hL⟩
 · subst Js
   rcases r with _ | ⟨ra,rb⟩
   all_goals
     dsimp only [Option.map_none] at hlk hpe
     refine calls [(0,_),(1,_)] Tryz.func146 rfl Tryz.ntmps146 rfl ⟨rfl,rfl,trivial⟩ ?_
     all_goals (refine WC.sr ?_;refine WL.aj (aG rfl) rfl rfl rfl ?_;rintro _ h1 ⟨b3,rfl,bR,aR,az⟩;have k1:=k.aq az;have JU:=k1.se.bm;have JV:=k1.se.stm;refine Go ?_;refine G3 ?_;refine WL.ld rfl (by first | exact aa aR rfl | assumption) rfl rfl rfl (Go ?_);refine Gs [(0,_),(3,_),(11,_)] ?_;refine aH 1 2 ?_ TT.mk;refine aw 1 ?_;refine WC.region (Go ?_);refine WL.step (ae rfl) rfl rfl rfl (Go ?_);refine WL.ld rfl (by first | exact aa JU rfl | assumption) rfl rfl rfl ?_;refine WL.ax (fo rfl fB Tryz.underlying149 Tryz.underlying9 rfl rfl JV) rfl rfl ?_;rintro _ h2 ⟨oZ,aI⟩)
     all_goals (
      rw [ez,← hL] at oZ
      obtain ⟨k2,t2⟩:=k1.nj aI oZ (fun q hq=>.inl (cB (hL▸hq)).1)
      have bH:=t2.1.obj aR (k1.not aR (by decide) (by decide) (by decide))
      have T2:=(Tn.no (A:=A) (P:=P) az).trans t2)
     all_goals (refine Gn ?_;refine Gn ?_;refine G3 ?_;refine WL.ld rfl (by first | exact aa bH rfl | assumption) rfl rfl rfl ?_)
     all_goals (
      refine WL.call (vs:=[_,_]) rfl Tryz.call203 rfl (iZ k2 t (by omega)) rfl rfl rfl ?_
      rintro _ h3 ⟨rfl,aQ⟩
      rw [hr]
      dsimp only [fM]
      have k3:=k2.aq aQ
      have bq:=aQ.obj bH aO
      have Cv:=k3.se.bm
      have zI:=k3.se.stm
      have T3:=T2.trans (Tn.no (A:=A) (P:=P) aQ))
     all_goals (refine Go ?_;refine Gs [(0,_),(3,_),(6,_)] ?_;refine G2 ?_;first | (refine WL.step (fF (by kernel_rfl) rfl rfl) rfl rfl rfl ?_) | (refine WL.step (cL (by kernel_rfl) rfl rfl) rfl rfl rfl ?_))
     all_goals (refine Gn ?_;refine aH 3 4 ?_ TT.mk)
     all_goals try (
     refine aw 3 ?_
     all_goals (refine G2 ?_;refine Gs [(4,_),(5,_)] ?_;refine Gt ?_)
     all_goals (
      first
       | exact cj.err hpe (.of k3 T3)
       | exact cj.err hpe (.of (k5.aq aN) (T5.trans (Tn.no (A:=A) (P:=P) aN)))
       | (rw [hpe];exact ⟨_,[kL 49 0 []],(fun e=>absurd rfl e),rfl,.tag GD (by have:=T7.1.size;omega),rfl,_,_,k7.aq bz,kB _ _ _,rfl,T7.trans (Tn.no (A:=A) (P:=P) bz)⟩))
     skip)
     all_goals (refine aw 4 ?_;refine WC.skip ?_;refine Gn ?_;refine WC.seq ?_;refine WC.seq ?_;refine WC.bW (fun h'=>Ext No h3 h') 13 13 rfl dm ?_;refine WH.tk 0 rfl (fun hq hC=>ak rfl) rfl rfl rfl ?_;refine WH.tk 1 rfl (fun hq hC=>ae rfl) rfl rfl rfl ?_;refine WH.tk 2 rfl (fun hq hC=>ad rfl Tryz.underlying153 rfl Tryz.sizeOf149) rfl rfl rfl ?_;refine WH.tk 3 rfl (fun hq hC=>aA Tryz.isAgg149 rfl (by first | exact hC.cell (by first | exact aa Cv rfl | assumption) aO)) rfl rfl rfl ?_;refine WH.tk 4 rfl (fun hq hC=>ad rfl Tryz.underlying42 rfl Tryz.sizeOf9) rfl rfl rfl ?_;refine WH.tk 5 rfl (fun hq hC=>aA Tryz.isAgg9 rfl (by first | exact hC.cell (by first | exact aa bq rfl | assumption) aO)) rfl rfl rfl ?_;refine WH.tk 6 rfl (fun hq hC=>(dq fB Tryz.underlying149 Tryz.underlying9 (fun w=>Tryz.zeroValue261 w) rfl rfl (zI.ext hC aO) hlk).1) rfl rfl rfl ?_;refine WH.tk 7 rfl (fun hq hC=>ak rfl) rfl rfl rfl ?_;refine WH.tk 8 rfl (fun hq hC=>bP rfl rfl) rfl rfl rfl ?_;refine WH.tk 9 rfl (fun hq hC=>bP rfl rfl) rfl rfl rfl ?_;refine WH.one 10 (by kernel_rfl) ?_;refine aC.run rfl (an (fun w=>Tryz.zeroValue261 w)) rfl rfl rfl ?_ (fun _=>by kernel_rfl);rintro _ h4 ⟨b7,rfl,oG,bC,aW⟩;refine ⟨fun _=>aW,?_⟩;refine WH.one 11 (by kernel_rfl) ?_;refine aC.cO rfl (al Tryz.sizeOf261 rfl rfl rfl bC rfl (by first | (simp [Value.oneCell'];done) | (simp [Value.oneCell'];exact hone _ hg))) rfl rfl ?_ (fun _=>by kernel_rfl);rintro _ h5 ⟨bV,aM⟩;refine ⟨fun _=>aW.trans' aM (fun q hq e=>by omega),?_⟩;have X5:Ext No h3 h5:=aW.trans' aM (fun q hq e=>by omega);have k5:=k3.aq X5;have Fp:=k5.se.bm;have Fq:=k5.se.stm;have im:=X5.obj bq aO;have T5:=T3.trans (Tn.no (A:=A) (P:=P) X5);refine WH.tk 12 rfl (fun hq hC=>aP rfl) rfl rfl rfl ?_;refine WH.done (by kernel_rfl) ?_;refine Gn ?_;refine Gs [(0,_),(3,_),(8,_)] ?_;refine G2 ?_;refine aH 5 6 ?_ TT.mk;refine aw 6 ?_;refine WC.skip ?_;refine Gn ?_;refine WC.seq ?_;refine WC.bW (fun h'=>Ext No h5 h') 12 13 rfl dm ?_;refine WH.tk 0 rfl (fun hq hC=>ak rfl) rfl rfl rfl ?_;refine WH.tk 1 rfl (fun hq hC=>ae rfl) rfl rfl rfl ?_;refine WH.tk 2 rfl (fun hq hC=>ad rfl Tryz.underlying153 rfl Tryz.sizeOf149) rfl rfl rfl ?_;refine WH.tk 3 rfl (fun hq hC=>aA Tryz.isAgg149 rfl (by first | exact hC.cell (by first | exact aa Fp rfl | assumption) aO)) rfl rfl rfl ?_;refine WH.tk 4 rfl (fun hq hC=>ad rfl Tryz.underlying42 rfl Tryz.sizeOf9) rfl rfl rfl ?_;refine WH.tk 5 rfl (fun hq hC=>aA Tryz.isAgg9 rfl (by first | exact hC.cell (by first | exact aa im rfl | assumption) aO)) rfl rfl rfl ?_)
     all_goals (refine WH.tk 6 rfl (fun hq hC=>ad rfl Tryz.underlying42 rfl Tryz.sizeOf9) rfl rfl rfl ?_;refine WH.tk 7 rfl (fun hq hC=>aA Tryz.isAgg9 rfl (by first | exact hC.cell (by first | exact aa im rfl | assumption) aO)) rfl rfl rfl ?_;refine WH.tk 8 rfl (fun hq hC=>ad rfl Tryz.underlying42 rfl Tryz.sizeOf39) rfl rfl rfl ?_;refine WH.tk 9 rfl (fun hq hC=>aA Tryz.isAgg39 rfl (by first | exact hC.cell (by first | exact aa im rfl | assumption) aO)) rfl rfl rfl ?_;refine WH.one 10 (by kernel_rfl) ?_;refine aC.call (vs:=[_]) rfl rfl Tryz.call206 rfl (gU o (er.ext' T5.1 (fun q h1 h2=>hF q (.inl ⟨h1,h2⟩))) (by unfold reachBytes;omega)) rfl rfl rfl ?_ (fun _=>by kernel_rfl);rintro v6 h6 ⟨gu,aN,iH⟩;obtain ⟨A6,c6,rfl,_⟩:=gu.slice;refine ⟨fun _=>aN,?_⟩;refine WH.tk 11 rfl (fun hq hC=>aF (vs:=[_,_]) (cs:=[_,_]) (fun | [a0,a1]=>[a0,a1] | _=>[]) rfl rfl (by kernel_rfl)) rfl rfl rfl ?_;refine WH.one 12 (by kernel_rfl) ?_;refine aC.cO rfl (gN fB Tryz.underlying149 Tryz.underlying9 rfl rfl rfl (Fq.ext aN aO)) rfl rfl ?_ (fun _=>by kernel_rfl);rintro _ h7 ⟨HI,ba⟩;refine ⟨fun e=>(by cases e),?_⟩)
     all_goals (
      rw [show (Value.agg ⟨[St t,.slice A6 o.length c6]⟩)=sZ ⟨t,.slice A6 o.length c6,o⟩ from rfl,lk] at HI
      have k6:=k5.aq aN
      obtain ⟨k7,t7⟩:=k6.nj ba HI (fun q hq=>(cu hq).elim (fun e=>.inr (by subst e;exact ⟨gu.rd,jN,fun z _ hz=>⟨k6.zt gu (by decide) (by decide) (by decide) z hz,fun e=>by have:=k5.zz.s z e;have:=iH z hz;omega⟩⟩)) (fun e=>.inl e.1))
      have T7:=(T5.trans (Tn.no (A:=A) (P:=P) aN)).trans t7)
     all_goals (refine WH.done (by kernel_rfl) ?_;refine Gn ?_;refine Gs [] ?_;refine WC.sr ?_;refine WL.call (vs:=[_]) rfl Tryz.call207 rfl (gZ 49) rfl rfl rfl ?_;rintro _ h8 ⟨q,rfl,GD,hgq,bz⟩;refine Go ?_;refine Gt ?_)
     all_goals (
      first
       | exact cj.err hpe (.of k3 T3)
       | exact cj.err hpe (.of (k5.aq aN) (T5.trans (Tn.no (A:=A) (P:=P) aN)))
       | (rw [hpe];exact ⟨_,[kL 49 0 []],(fun e=>absurd rfl e),rfl,.tag GD (by have:=T7.1.size;omega),rfl,_,_,k7.aq bz,kB _ _ _,rfl,T7.trans (Tn.no (A:=A) (P:=P) bz)⟩))
 · rcases r with _ | ⟨ra,rb⟩
   · rcases g with _ | gq
     all_goals
       have hone:∀ q,bG L1 n=some q→q.vo.oneCell'=true:=fun q hq=>by
         obtain ⟨_,_,e,_⟩:=(k.sok _ (b0 (hL▸hq))).1
         rw [e];rfl
       dsimp only [Option.map_none,Option.map_some,sZ] at hlk hpe
       refine calls [(0,_),(1,_)] Tryz.func146 rfl Tryz.ntmps146 rfl ⟨rfl,rfl,trivial⟩ ?_
       all_goals (refine WC.sr ?_;refine WL.aj (aG rfl) rfl rfl rfl ?_;rintro _ h1 ⟨b3,rfl,bR,bH,az⟩;have k2:Ss h1 A st sk ov cnt L1 P:=hL▸k.aq az;have T2:=Tn.no (A:=A) (P:=P) az;refine Go ?_;refine G3 ?_;refine WL.ld rfl (by first | exact aa bH rfl | assumption) rfl rfl rfl (Go ?_);refine Gs [(0,_),(3,_),(11,_)] ?_;refine aH 1 2 ?_ TT.mk;refine aw 2 ?_;refine WC.skip ?_;refine Gn ?_;refine G3 ?_;refine WL.ld rfl (by first | exact aa bH rfl | assumption) rfl rfl rfl ?_)
       all_goals (
        refine WL.call (vs:=[_,_]) rfl Tryz.call203 rfl (iZ k2 t (by omega)) rfl rfl rfl ?_
        rintro _ h3 ⟨rfl,aQ⟩
        rw [hr]
        dsimp only [fM]
        have k3:=k2.aq aQ
        have bq:=aQ.obj bH aO
        have Cv:=k3.se.bm
        have zI:=k3.se.stm
        have T3:=T2.trans (Tn.no (A:=A) (P:=P) aQ))
       all_goals (refine Go ?_;refine Gs [(0,_),(3,_),(6,_)] ?_;refine G2 ?_;refine WL.step (cL (by kernel_rfl) rfl rfl) rfl rfl rfl ?_;refine Gn ?_;refine aH 3 4 ?_ TT.mk;refine aw 4 ?_;refine WC.skip ?_;refine Gn ?_;refine WC.seq ?_;refine WC.seq ?_;refine WC.bW (fun h'=>Ext No h3 h') 13 13 rfl dm ?_;refine WH.tk 0 rfl (fun hq hC=>ak rfl) rfl rfl rfl ?_;refine WH.tk 1 rfl (fun hq hC=>ae rfl) rfl rfl rfl ?_;refine WH.tk 2 rfl (fun hq hC=>ad rfl Tryz.underlying153 rfl Tryz.sizeOf149) rfl rfl rfl ?_;refine WH.tk 3 rfl (fun hq hC=>aA Tryz.isAgg149 rfl (by first | exact hC.cell (by first | exact aa Cv rfl | assumption) aO)) rfl rfl rfl ?_;refine WH.tk 4 rfl (fun hq hC=>ad rfl Tryz.underlying42 rfl Tryz.sizeOf9) rfl rfl rfl ?_;refine WH.tk 5 rfl (fun hq hC=>aA Tryz.isAgg9 rfl (by first | exact hC.cell (by first | exact aa bq rfl | assumption) aO)) rfl rfl rfl ?_;first | (refine WH.tk 6 rfl (fun hq hC=>(gn fB Tryz.underlying149 Tryz.underlying9 rfl rfl (zI.ext hC aO) hlk).1) rfl rfl rfl ?_) | (refine WH.tk 6 rfl (fun hq hC=>(dq fB Tryz.underlying149 Tryz.underlying9 (fun w=>Tryz.zeroValue261 w) rfl rfl (zI.ext hC aO) hlk).1) rfl rfl rfl ?_))
       all_goals (refine WH.tk 7 rfl (fun hq hC=>ak rfl) rfl rfl rfl ?_;refine WH.tk 8 rfl (fun hq hC=>bP rfl rfl) rfl rfl rfl ?_;refine WH.tk 9 rfl (fun hq hC=>bP rfl rfl) rfl rfl rfl ?_;refine WH.one 10 (by kernel_rfl) ?_;refine aC.run rfl (an (fun w=>Tryz.zeroValue261 w)) rfl rfl rfl ?_ (fun _=>by kernel_rfl);rintro _ h4 ⟨b7,rfl,oG,bC,aW⟩;refine ⟨fun _=>aW,?_⟩;refine WH.one 11 (by kernel_rfl) ?_;refine aC.cO rfl (al Tryz.sizeOf261 rfl rfl rfl bC rfl (by first | (simp [Value.oneCell'];done) | (simp [Value.oneCell'];exact hone _ hg))) rfl rfl ?_ (fun _=>by kernel_rfl);rintro _ h5 ⟨bV,aM⟩;refine ⟨fun _=>aW.trans' aM (fun q hq e=>by omega),?_⟩;have X5:Ext No h3 h5:=aW.trans' aM (fun q hq e=>by omega);have k5:=k3.aq X5;have Fp:=k5.se.bm;have Fq:=k5.se.stm;have im:=X5.obj bq aO;have T5:=T3.trans (Tn.no (A:=A) (P:=P) X5);refine WH.tk 12 rfl (fun hq hC=>aP rfl) rfl rfl rfl ?_;refine WH.done (by kernel_rfl) ?_;refine Gn ?_;refine Gs [(0,_),(3,_),(8,_)] ?_;refine G2 ?_;refine aH 5 6 ?_ TT.mk)
       all_goals try (
       refine aw 5 ?_
       all_goals (refine G2 ?_;refine WL.ld rfl (by first | exact aa im rfl | assumption) rfl rfl rfl ?_;refine WL.call (vs:=[_]) rfl Tryz.call205 rfl (ue n (by omega)) rfl rfl rfl ?_;rintro _ h6 ⟨rfl,aN⟩;refine WL.call (vs:=[_,_]) rfl Tryz.call204 rfl (hG _ _) rfl rfl rfl ?_;rintro _ hq ⟨rfl,hz⟩;replace hz:=hz.symm;subst hz;refine Go ?_;refine Gs [(4,_),(5,_)] ?_;refine Gt ?_)
       all_goals (
        first
         | exact cj.err hpe (.of k3 T3)
         | exact cj.err hpe (.of (k5.aq aN) (T5.trans (Tn.no (A:=A) (P:=P) aN)))
         | (rw [hpe];exact ⟨_,[kL 49 0 []],(fun e=>absurd rfl e),rfl,.tag GD (by have:=T7.1.size;omega),rfl,_,_,k7.aq bz,kB _ _ _,rfl,T7.trans (Tn.no (A:=A) (P:=P) bz)⟩))
       skip)
       all_goals (refine aw 6 ?_;refine WC.skip ?_;refine Gn ?_;refine WC.seq ?_;refine WC.bW (fun h'=>Ext No h5 h') 12 13 rfl dm ?_;refine WH.tk 0 rfl (fun hq hC=>ak rfl) rfl rfl rfl ?_;refine WH.tk 1 rfl (fun hq hC=>ae rfl) rfl rfl rfl ?_;refine WH.tk 2 rfl (fun hq hC=>ad rfl Tryz.underlying153 rfl Tryz.sizeOf149) rfl rfl rfl ?_;refine WH.tk 3 rfl (fun hq hC=>aA Tryz.isAgg149 rfl (by first | exact hC.cell (by first | exact aa Fp rfl | assumption) aO)) rfl rfl rfl ?_;refine WH.tk 4 rfl (fun hq hC=>ad rfl Tryz.underlying42 rfl Tryz.sizeOf9) rfl rfl rfl ?_;refine WH.tk 5 rfl (fun hq hC=>aA Tryz.isAgg9 rfl (by first | exact hC.cell (by first | exact aa im rfl | assumption) aO)) rfl rfl rfl ?_;refine WH.tk 6 rfl (fun hq hC=>ad rfl Tryz.underlying42 rfl Tryz.sizeOf9) rfl rfl rfl ?_;refine WH.tk 7 rfl (fun hq hC=>aA Tryz.isAgg9 rfl (by first | exact hC.cell (by first | exact aa im rfl | assumption) aO)) rfl rfl rfl ?_;refine WH.tk 8 rfl (fun hq hC=>ad rfl Tryz.underlying42 rfl Tryz.sizeOf39) rfl rfl rfl ?_;refine WH.tk 9 rfl (fun hq hC=>aA Tryz.isAgg39 rfl (by first | exact hC.cell (by first | exact aa im rfl | assumption) aO)) rfl rfl rfl ?_;refine WH.one 10 (by kernel_rfl) ?_;refine aC.call (vs:=[_]) rfl rfl Tryz.call206 rfl (gU o (er.ext' T5.1 (fun q h1 h2=>hF q (.inl ⟨h1,h2⟩))) (by unfold reachBytes;omega)) rfl rfl rfl ?_ (fun _=>by kernel_rfl);rintro v6 h6 ⟨gu,aN,iH⟩;obtain ⟨A6,c6,rfl,_⟩:=gu.slice;refine ⟨fun _=>aN,?_⟩;refine WH.tk 11 rfl (fun hq hC=>aF (vs:=[_,_]) (cs:=[_,_]) (fun | [a0,a1]=>[a0,a1] | _=>[]) rfl rfl (by kernel_rfl)) rfl rfl rfl ?_;refine WH.one 12 (by kernel_rfl) ?_;refine aC.cO rfl (gN fB Tryz.underlying149 Tryz.underlying9 rfl rfl rfl (Fq.ext aN aO)) rfl rfl ?_ (fun _=>by kernel_rfl);rintro _ h7 ⟨HI,ba⟩;refine ⟨fun e=>(by cases e),?_⟩)
       all_goals (
        rw [show (Value.agg ⟨[St t,.slice A6 o.length c6]⟩)=sZ ⟨t,.slice A6 o.length c6,o⟩ from rfl,lk] at HI
        have k6:=k5.aq aN
        obtain ⟨k7,t7⟩:=k6.nj ba HI (fun q hq=>(cu hq).elim (fun e=>.inr (by subst e;exact ⟨gu.rd,jN,fun z _ hz=>⟨k6.zt gu (by decide) (by decide) (by decide) z hz,fun e=>by have:=k5.zz.s z e;have:=iH z hz;omega⟩⟩)) (fun e=>.inl e.1))
        have T7:=(T5.trans (Tn.no (A:=A) (P:=P) aN)).trans t7)
       all_goals (refine WH.done (by kernel_rfl) ?_;refine Gn ?_;refine Gs [] ?_;refine WC.sr ?_;refine WL.call (vs:=[_]) rfl Tryz.call207 rfl (gZ 49) rfl rfl rfl ?_;rintro _ h8 ⟨q,rfl,GD,hgq,bz⟩;refine Go ?_;refine Gt ?_)
       all_goals (
        first
         | exact cj.err hpe (.of k3 T3)
         | exact cj.err hpe (.of (k5.aq aN) (T5.trans (Tn.no (A:=A) (P:=P) aN)))
         | (rw [hpe];exact ⟨_,[kL 49 0 []],(fun e=>absurd rfl e),rfl,.tag GD (by have:=T7.1.size;omega),rfl,_,_,k7.aq bz,kB _ _ _,rfl,T7.trans (Tn.no (A:=A) (P:=P) bz)⟩))
   · dsimp only at hpe
     refine calls [(0,_),(1,_)] Tryz.func146 rfl Tryz.ntmps146 rfl ⟨rfl,rfl,trivial⟩ ?_
     refine WC.sr ?_;refine WL.aj (aG rfl) rfl rfl rfl ?_
     rintro _ h1 ⟨b3,rfl,bR,bH,az⟩
     have k2:Ss h1 A st sk ov cnt L1 P:=hL▸k.aq az
     have T2:=Tn.no (A:=A) (P:=P) az
     refine Go ?_;refine G3 ?_;refine WL.ld rfl (by first | exact aa bH rfl | assumption) rfl rfl rfl (Go ?_)
     refine Gs [(0,_),(3,_),(11,_)] ?_
     refine aH 1 2 ?_ TT.mk
     all_goals (refine aw 2 ?_)
     refine WC.skip ?_;refine Gn ?_;refine G3 ?_;refine WL.ld rfl (by first | exact aa bH rfl | assumption) rfl rfl rfl ?_
     refine WL.call (vs:=[_,_]) rfl Tryz.call203 rfl (iZ k2 t (by omega)) rfl rfl rfl ?_
     rintro _ h3 ⟨rfl,aQ⟩
     rw [hr]
     dsimp only [fM]
     have k3:=k2.aq aQ
     have bq:=aQ.obj bH aO
     have Cv:=k3.se.bm
     have zI:=k3.se.stm
     have T3:=T2.trans (Tn.no (A:=A) (P:=P) aQ)
     refine Go ?_;refine Gs [(0,_),(3,_),(6,_)] ?_;refine G2 ?_;refine WL.step (fF (by kernel_rfl) rfl rfl) rfl rfl rfl ?_
     refine Gn ?_
     refine aH 3 4 ?_ TT.mk
     all_goals (refine aw 3 ?_)
     refine G2 ?_;refine Gs [(4,_),(5,_)] ?_;refine Gt ?_
     first
      | exact cj.err hpe (.of k3 T3)
      | exact cj.err hpe (.of (k5.aq aN) (T5.trans (Tn.no (A:=A) (P:=P) aN)))
      | (rw [hpe];exact ⟨_,[kL 49 0 []],(fun e=>absurd rfl e),rfl,.tag GD (by have:=T7.1.size;omega),rfl,_,_,k7.aq bz,kB _ _ _,rfl,T7.trans (Tn.no (A:=A) (P:=P) bz)⟩)
end
section
variable {h h':ah} {A:Ad} {st:Int} {sk ov:Bool} {cnt:Int} {L:List (List UInt8 × gy)} {P:List (List UInt8 × ee)}
theorem nq {n:List UInt8} (e:jv (ck st sk ov cnt L P) n=none):∃ q,bG L n=some q:=by
 have e':(match bG (qd L) n with | none=>some (([50,54,48,48,48]:List UInt8),nk n) | some t=>gh t.1 st)=none:=e
 rw [ky] at e'
 rcases hg:bG L n with _ | q
 · rw [hg] at e'
   cases e'
 · exact ⟨q,rfl⟩
theorem nr {n:List UInt8} (e:gE (ck st sk ov cnt L P) n=none):∃ q,bG P n=some q:=by
 have e':(match bG (fN P) n with | none=>some (([51,52,48,48,48]:List UInt8),ig ([112,111,114,116,97,108]:List UInt8) n ([100,111,101,115,32,110,111,116,32,101,120,105,115,116]:List UInt8)) | some t=>gh t.1 st)=none:=e
 rw [gd] at e'
 rcases hg:bG P n with _ | q
 · rw [hg] at e'
   cases e'
 · exact ⟨q,rfl⟩
theorem Fs (k:Ss h A st sk ov cnt L P) (lm:jg (ck st sk ov cnt L P)) (f:Fm) (hf:f.ok h) (hF:∀ q,f.F q→¬ Mu A P q) (fl:gG f):ag Tryz.prog 147 ⟨[.pointer (some ⟨A.bs,0,none⟩),.agg ⟨f.cells⟩]⟩ h (cj h A P (fG (ck st sk ov cnt L P) f.p)):=by
 have hok:=hf.4
 obtain ⟨⟨e1,_⟩,⟨e2,_⟩,⟨e3,_⟩,e4,_⟩:=hf
 obtain ⟨oY,nT,wZ,jN,zJ,_⟩:=fl
 obtain ⟨fk,w,n,p,t,vo,o,vf,fs,vs,rs,vp,ps,mx⟩:=f
 dsimp only at e1 e2 e3 e4 oY nT wZ jN zJ hok
 obtain ⟨A1,c1,rfl,_⟩:=e1
 obtain ⟨_,_,rfl,_⟩:=e2
 obtain ⟨_,_,rfl,_⟩:=e3
 obtain ⟨A4,c4,rfl,_⟩:=e4
 rcases he:jv (ck st sk ov cnt L P) n with _ | ⟨ea,ec⟩
 · obtain ⟨q,hq⟩:=nq he
   have hqL:=k.sok _ (b0 hq)
   have hpe:fG (ck st sk ov cnt L P) ⟨fk,w,n,p,t,o,ps.map aX.pl,mx⟩=if (ps.map aX.pl).length ≠ q.oids.length then (ck st sk ov cnt L P,[],some (([48,56,80,48,49]:List UInt8),qc ((ps.map aX.pl).length:Int) n (q.oids.length:Int)))
     else if p ≠ []∧(bG (fN P) p).isSome=true then (ck st sk ov cnt L P,[],some (([52,50,80,48,51]:List UInt8),ig ([99,117,114,115,111,114]:List UInt8) p ([97,108,114,101,97,100,121,32,101,120,105,115,116,115]:List UInt8)))
     else ({ ck st sk ov cnt L P with P:=cl (fN P) p (q.text,q.oids,ps.map aX.pl,[],false,false) },[{ kind:=50 }],none):=by
     have hgl:bG (ck st sk ov cnt L P).L n=some (q.text,q.oids):=by show bG (qd L) n=_;rw [ky,hq];rfl
     unfold fG
     dsimp only
     rw [he,hgl]
     rfl
   rw [List.length_map,gd] at hpe
   by_cases hlen:ps.length=q.oids.length
   · rw [if_neg (fun e=>e hlen)] at hpe
     by_cases htw:p ≠ []∧(bG P p).isSome=true
     · rw [if_pos (by simpa using htw)] at hpe
       obtain ⟨i,hi⟩:=Option.isSome_iff_exists.1 htw.2
       have kp:=fun (g:ah) (k:Ss g A st sk ov cnt L P) (d:PD)=>EN p d k.se.pb k.se.pm (v:=vA i) (by rw [cN,hi];rfl) htw.1
       unfold PD.cells at kp
       dsimp only [Fm.cells,Fm.p]
       rw [hpe]
       refine calls [(0,_),(1,_)] Tryz.func147 rfl Tryz.ntmps147 rfl ⟨rfl,rfl,trivial⟩ ?_
       refine WC.sr ?_;refine WL.aj (aG rfl) rfl rfl rfl ?_
       rintro _ h1 ⟨b3,rfl,bR,aR,az⟩
       refine Go ?_;refine G2 ?_;refine WL.ld rfl (by first | exact aa aR rfl | assumption) rfl rfl rfl ?_
       refine WL.call (vs:=[_,_]) rfl Tryz.call208 rfl (ly (k.aq az) lm n oY) rfl rfl rfl ?_
       rintro _ h2 ⟨⟨q',rfl,⟨B,c,hvo⟩,hq'⟩,aI⟩
       rw [he] at hq' ⊢
       dsimp only [fM]
       obtain ⟨qt,qv,qo⟩:=q'
       dsimp only at hvo
       subst hvo
       unfold sZ
       refine Go ?_;refine WL.aj (an (fun w=>Tryz.zeroValue261 w)) rfl rfl rfl ?_
       rintro _ h3 ⟨b6,rfl,gl,bq,aQ⟩
       refine WL.ax (al Tryz.sizeOf261 rfl rfl rfl bq rfl (by simp [Value.oneCell'])) rfl rfl ?_
       rintro _ h4 ⟨bC,aW⟩
       have gJ:Ext No h1 h4:=aI.trans (aQ.trans' aW (fun q hq e=>by omega))
       have X4:=az.trans gJ
       have bJ:=gJ.obj aR aO
       have k4:=k.aq X4
       have hbs:=k4.se.bm
       have hqq:=Option.some.inj (hq.symm.trans (hq' rfl))
       subst hqq
       dsimp only at hlen
       refine Go ?_;refine Gs [(0,_),(3,_),(6,_),(7,_)] ?_;refine G3 ?_;refine WL.step (cL (by kernel_rfl) rfl rfl) rfl rfl rfl ?_
       refine Gn ?_
       refine aH 1 2 ?_ TT.mk
       all_goals (refine aw 2 ?_)
       refine WC.skip ?_;refine Gn ?_;refine WC.seq ?_;refine WC.seq ?_;refine WC.fU dm (by kernel_rfl) ?_
       refine WQ.aK (ad rfl Tryz.underlying42 rfl Tryz.sizeOf40) rfl rfl rfl ?_;refine WQ.aK (aA Tryz.isAgg40 rfl (by first | exact aa bJ rfl | assumption)) rfl rfl rfl ?_
       refine WQ.aK (cq rfl Tryz.underlying40 rfl) rfl rfl rfl ?_;refine WQ.aK (ad rfl Tryz.underlying261 rfl Tryz.sizeOf39) rfl rfl rfl ?_;refine WQ.aK (aA Tryz.isAgg39 rfl (by first | exact aa bC rfl | assumption)) rfl rfl rfl ?_
       refine WQ.aK (cq rfl Tryz.underlying39 rfl) rfl rfl rfl ?_;refine WQ.aK (aP rfl) rfl rfl rfl ?_;refine WQ.aK (aP rfl) rfl rfl rfl ?_;refine WQ.nil ?_;refine Gn ?_;refine Gs [(0,_),(3,_),(6,_),(8,_),(9,_)] ?_;refine G2 ?_
       refine aH 3 4 ?_ TT.mk
       all_goals (refine aw 4 ?_)
       refine WC.skip ?_;refine Gn ?_;refine Gs [(0,_),(3,_),(6,_)] ?_;refine WC.seq ?_;refine WC.seq ?_;refine WC.jl 10 dm (by kernel_rfl) ?_
       show WS _ _ _ [_,_,_,_,_,_,_,_,_,_] _ _ _
       refine WS.step (ak rfl) rfl rfl rfl ?_;refine WS.step (ae rfl) rfl rfl rfl ?_;refine WS.step (ad rfl Tryz.underlying153 rfl Tryz.sizeOf150) rfl rfl rfl ?_;refine WS.step (aA Tryz.isAgg150 rfl (by first | exact aa hbs rfl | assumption)) rfl rfl rfl ?_
       refine WS.step (ad rfl Tryz.underlying42 rfl Tryz.sizeOf9) rfl rfl rfl ?_;refine WS.step (aA Tryz.isAgg9 rfl (by first | exact aa bJ rfl | assumption)) rfl rfl rfl ?_
       refine WS.step (ay Tryz.isAgg261 Tryz.sizeOf261 rfl rfl (by exact At.av bC)) rfl rfl rfl ?_
       refine WS.step (ad rfl Tryz.underlying42 rfl Tryz.sizeOf40) rfl rfl rfl ?_;refine WS.step (aA Tryz.isAgg40 rfl (by first | exact aa bJ rfl | assumption)) rfl rfl rfl ?_
       refine WS.step (aF (vs:=[_,_]) (cs:=[_,_,_,_,_,_]) (fun | [.agg ⟨[a0,a1]⟩,a2]=>[a0,a1,a2,(.slice none 0 0),(.bool false),(.bool false)] | _=>[]) rfl rfl (by kernel_rfl)) rfl rfl rfl ?_
       refine WS.nil ?_
       show WL _ _ _ [_,_] _ _ _
       refine WL.call (vs:=[_,_,_]) rfl Tryz.call210 rfl (kp _ k4 ⟨qt,.slice B qo.length c,qo,.slice A4 ps.length c4,ps,.slice none 0 0,[],false,false⟩) rfl rfl rfl ?_
       rintro _ h5 ⟨rfl,aM⟩
       refine WL.step (bN.jS (by omega) (jx rfl rfl)) rfl rfl rfl ?_
       refine WL.nil ?_;refine Gn ?_;refine Gs [(3,_),(46,_)] ?_
       refine aH 5 6 ?_ TT.mk
       all_goals (refine aw 5 ?_)
       refine G2 ?_;refine WL.ld rfl (by first | exact aa (aM.obj bJ aO) rfl | assumption) rfl rfl rfl ?_
       refine WL.call (vs:=[_]) rfl Tryz.call211 rfl (ug p nT) rfl rfl rfl ?_
       rintro _ h6 ⟨rfl,aN⟩
       refine WL.call (vs:=[_,_]) rfl Tryz.call204 rfl (hG _ _) rfl rfl rfl ?_
       rintro _ hq ⟨rfl,hz⟩
       replace hz:=hz.symm
       subst hz
       refine Go ?_;refine Gs [(4,_),(5,_)] ?_;refine Gt ?_
       exact cj.err rfl (.of ((k4.aq aM).aq aN) (Tn.no ((X4.trans aM).trans aN)))
     · rw [if_neg (by simpa using htw)] at hpe
       have EX:p=[]∨cT (eS vA P) p=none:=by
         by_cases I5:p=[]
         · exact .inl I5
         · refine .inr ?_
           rw [cN]
           rcases hg:bG P p with _ | i
           · rfl
           · exact absurd ⟨I5,by rw [hg];rfl⟩ htw
       have kp:=fun (g:ah) (k:Ss g A st sk ov cnt L P) (d:PD) (ok:d.ok g)=>Hi p d k.se.pb k.se.pm ok EX
       unfold PD.cells at kp
       dsimp only [Fm.cells,Fm.p]
       rw [hpe]
       refine calls [(0,_),(1,_)] Tryz.func147 rfl Tryz.ntmps147 rfl ⟨rfl,rfl,trivial⟩ ?_
       refine WC.sr ?_;refine WL.aj (aG rfl) rfl rfl rfl ?_
       rintro _ h1 ⟨b3,rfl,bR,aR,az⟩
       refine Go ?_;refine G2 ?_;refine WL.ld rfl (by first | exact aa aR rfl | assumption) rfl rfl rfl ?_
       refine WL.call (vs:=[_,_]) rfl Tryz.call208 rfl (ly (k.aq az) lm n oY) rfl rfl rfl ?_
       rintro _ h2 ⟨⟨q',rfl,⟨B,c,hvo⟩,hq'⟩,aI⟩
       rw [he] at hq' ⊢
       dsimp only [fM]
       obtain ⟨qt,qv,qo⟩:=q'
       dsimp only at hvo
       subst hvo
       unfold sZ
       refine Go ?_;refine WL.aj (an (fun w=>Tryz.zeroValue261 w)) rfl rfl rfl ?_
       rintro _ h3 ⟨b6,rfl,gl,bq,aQ⟩
       refine WL.ax (al Tryz.sizeOf261 rfl rfl rfl bq rfl (by simp [Value.oneCell'])) rfl rfl ?_
       rintro _ h4 ⟨bC,aW⟩
       have gJ:Ext No h1 h4:=aI.trans (aQ.trans' aW (fun q hq e=>by omega))
       have X4:=az.trans gJ
       have bJ:=gJ.obj aR aO
       have k4:=k.aq X4
       have hbs:=k4.se.bm
       have hqq:=Option.some.inj (hq.symm.trans (hq' rfl))
       subst hqq
       dsimp only at hlen hqL
       have okp:PD.ok h4 ⟨qt,.slice B qo.length c,qo,.slice A4 ps.length c4,ps,.slice none 0 0,[],false,false⟩:=⟨hqL.1.aq X4,by show qo.length * 8≤reachBytes;unfold reachBytes;have:=hqL.2.1;omega,hok.aq X4,Rd.nil _ _,⟨by simp,_,_,rfl,by simp [maxLen]⟩,by simp⟩
       refine Go ?_;refine Gs [(0,_),(3,_),(6,_),(7,_)] ?_;refine G3 ?_;refine WL.step (cL (by kernel_rfl) rfl rfl) rfl rfl rfl ?_
       refine Gn ?_
       refine aH 1 2 ?_ TT.mk
       all_goals (refine aw 2 ?_)
       refine WC.skip ?_;refine Gn ?_;refine WC.seq ?_;refine WC.seq ?_;refine WC.fU dm (by kernel_rfl) ?_
       refine WQ.aK (ad rfl Tryz.underlying42 rfl Tryz.sizeOf40) rfl rfl rfl ?_;refine WQ.aK (aA Tryz.isAgg40 rfl (by first | exact aa bJ rfl | assumption)) rfl rfl rfl ?_
       refine WQ.aK (cq rfl Tryz.underlying40 rfl) rfl rfl rfl ?_;refine WQ.aK (ad rfl Tryz.underlying261 rfl Tryz.sizeOf39) rfl rfl rfl ?_;refine WQ.aK (aA Tryz.isAgg39 rfl (by first | exact aa bC rfl | assumption)) rfl rfl rfl ?_
       refine WQ.aK (cq rfl Tryz.underlying39 rfl) rfl rfl rfl ?_;refine WQ.aK (aP rfl) rfl rfl rfl ?_;refine WQ.aK (aP rfl) rfl rfl rfl ?_;refine WQ.nil ?_;refine Gn ?_;refine Gs [(0,_),(3,_),(6,_),(8,_),(9,_)] ?_;refine G2 ?_
       refine aH 3 4 ?_ TT.mk
       all_goals (refine aw 4 ?_)
       refine WC.skip ?_;refine Gn ?_;refine Gs [(0,_),(3,_),(6,_)] ?_;refine WC.seq ?_;refine WC.seq ?_;refine WC.jl 10 dm (by kernel_rfl) ?_
       show WS _ _ _ [_,_,_,_,_,_,_,_,_,_] _ _ _
       refine WS.step (ak rfl) rfl rfl rfl ?_;refine WS.step (ae rfl) rfl rfl rfl ?_;refine WS.step (ad rfl Tryz.underlying153 rfl Tryz.sizeOf150) rfl rfl rfl ?_;refine WS.step (aA Tryz.isAgg150 rfl (by first | exact aa hbs rfl | assumption)) rfl rfl rfl ?_
       refine WS.step (ad rfl Tryz.underlying42 rfl Tryz.sizeOf9) rfl rfl rfl ?_;refine WS.step (aA Tryz.isAgg9 rfl (by first | exact aa bJ rfl | assumption)) rfl rfl rfl ?_
       refine WS.step (ay Tryz.isAgg261 Tryz.sizeOf261 rfl rfl (by exact At.av bC)) rfl rfl rfl ?_
       refine WS.step (ad rfl Tryz.underlying42 rfl Tryz.sizeOf40) rfl rfl rfl ?_;refine WS.step (aA Tryz.isAgg40 rfl (by first | exact aa bJ rfl | assumption)) rfl rfl rfl ?_
       refine WS.step (aF (vs:=[_,_]) (cs:=[_,_,_,_,_,_]) (fun | [.agg ⟨[a0,a1]⟩,a2]=>[a0,a1,a2,(.slice none 0 0),(.bool false),(.bool false)] | _=>[]) rfl rfl (by kernel_rfl)) rfl rfl rfl ?_
       refine WS.nil ?_
       show WL _ _ _ [_,_] _ _ _
       refine WL.call (vs:=[_,_,_]) rfl Tryz.call210 rfl (kp _ k4 _ okp) rfl rfl rfl ?_
       rintro _ h5 ⟨rfl,p5,d5,Lw,bV,MT,MU,qR,fO,aM⟩
       rw [show (Value.pointer (some ⟨p5,0,none⟩))=vA ⟨p5,d5⟩ from rfl,lk] at Lw
       obtain ⟨k5,t5⟩:=k4.lq aM Lw bV MT qR fO
       have T5:=(Tn.no (A:=A) (P:=P) X4).trans t5
       refine WL.step (bN.jT (by omega) (jx rfl rfl)) rfl rfl rfl ?_
       refine WL.nil ?_;refine Gn ?_;refine Gs [(3,_),(46,_)] ?_
       refine aH 5 6 ?_ TT.mk
       all_goals (refine aw 6 ?_)
       refine WC.skip ?_;refine Gn ?_;refine WC.sr ?_;refine WL.call (vs:=[_]) rfl Tryz.call207 rfl (gZ 50) rfl rfl rfl ?_
       rintro _ h6 ⟨q6,rfl,Cw,hgq,aN⟩
       refine Go ?_;refine Gt ?_
       exact ⟨_,[kL 50 0 []],(fun e=>absurd rfl e),rfl,.tag Cw (by have:=T5.1.size;omega),rfl,_,_,k5.aq aN,rfl,(qe _ _ _).trans (by rw [show (ee.mk p5 d5).d.pl=d5.pl from rfl,MU];rfl),T5.trans (Tn.no (A:=A) aN)⟩
   · rw [if_pos hlen] at hpe
     dsimp only [Fm.cells,Fm.p]
     rw [hpe]
     refine calls [(0,_),(1,_)] Tryz.func147 rfl Tryz.ntmps147 rfl ⟨rfl,rfl,trivial⟩ ?_
     refine WC.sr ?_;refine WL.aj (aG rfl) rfl rfl rfl ?_
     rintro _ h1 ⟨b3,rfl,bR,aR,az⟩
     refine Go ?_;refine G2 ?_;refine WL.ld rfl (by first | exact aa aR rfl | assumption) rfl rfl rfl ?_
     refine WL.call (vs:=[_,_]) rfl Tryz.call208 rfl (ly (k.aq az) lm n oY) rfl rfl rfl ?_
     rintro _ h2 ⟨⟨q',rfl,⟨B,c,hvo⟩,hq'⟩,aI⟩
     rw [he] at hq' ⊢
     dsimp only [fM]
     obtain ⟨qt,qv,qo⟩:=q'
     dsimp only at hvo
     subst hvo
     unfold sZ
     refine Go ?_;refine WL.aj (an (fun w=>Tryz.zeroValue261 w)) rfl rfl rfl ?_
     rintro _ h3 ⟨b6,rfl,gl,bq,aQ⟩
     refine WL.ax (al Tryz.sizeOf261 rfl rfl rfl bq rfl (by simp [Value.oneCell'])) rfl rfl ?_
     rintro _ h4 ⟨bC,aW⟩
     have gJ:Ext No h1 h4:=aI.trans (aQ.trans' aW (fun q hq e=>by omega))
     have X4:=az.trans gJ
     have bJ:=gJ.obj aR aO
     have k4:=k.aq X4
     have hbs:=k4.se.bm
     have hqq:=Option.some.inj (hq.symm.trans (hq' rfl))
     subst hqq
     dsimp only at hlen hqL
     have hql:=hqL.2.1
     refine Go ?_;refine Gs [(0,_),(3,_),(6,_),(7,_)] ?_;refine G3 ?_;refine WL.step (cL (by kernel_rfl) rfl rfl) rfl rfl rfl ?_
     refine Gn ?_
     refine aH 1 2 ?_ TT.mk
     all_goals (refine aw 2 ?_)
     refine WC.skip ?_;refine Gn ?_;refine WC.seq ?_;refine WC.seq ?_;refine WC.fU dm (by kernel_rfl) ?_
     refine WQ.aK (ad rfl Tryz.underlying42 rfl Tryz.sizeOf40) rfl rfl rfl ?_;refine WQ.aK (aA Tryz.isAgg40 rfl (by first | exact aa bJ rfl | assumption)) rfl rfl rfl ?_
     refine WQ.aK (cq rfl Tryz.underlying40 rfl) rfl rfl rfl ?_;refine WQ.aK (ad rfl Tryz.underlying261 rfl Tryz.sizeOf39) rfl rfl rfl ?_;refine WQ.aK (aA Tryz.isAgg39 rfl (by first | exact aa bC rfl | assumption)) rfl rfl rfl ?_
     refine WQ.aK (cq rfl Tryz.underlying39 rfl) rfl rfl rfl ?_;refine WQ.aK (aP rfl) rfl rfl rfl ?_;refine WQ.aK (aP rfl) rfl rfl rfl ?_;refine WQ.nil ?_;refine Gn ?_;refine Gs [(0,_),(3,_),(6,_),(8,_),(9,_)] ?_;refine G2 ?_
     refine aH 3 4 ?_ TT.mk
     all_goals (refine aw 3 ?_)
     refine G2 ?_;refine WL.ld rfl (by first | exact aa bJ rfl | assumption) rfl rfl rfl (Go ?_)
     refine WL.call (vs:=[_,_,_]) rfl Tryz.call209 rfl (wS (ps.length:Int) n (qo.length:Int) oY (by omega) (by omega)) rfl rfl rfl ?_
     rintro _ h6 ⟨rfl,aN⟩
     refine WL.call (vs:=[_,_]) rfl Tryz.call204 rfl (hG _ _) rfl rfl rfl ?_
     rintro _ hq ⟨rfl,hz⟩
     replace hz:=hz.symm
     subst hz
     refine Go ?_;refine Gs [(4,_),(5,_)] ?_;refine Gt ?_
     exact cj.err rfl (.of (k4.aq aN) (Tn.no (X4.trans aN)))
 · have hpe : fG (ck st sk ov cnt L P) ⟨fk, w, n, p, t, o, ps.map aX.pl, mx⟩ = (ck st sk ov cnt L P, [], some (ea, ec)) := by
     unfold fG
     dsimp only
     rw [he]
   dsimp only [Fm.cells,Fm.p]
   rw [hpe]
   refine calls [(0,_),(1,_)] Tryz.func147 rfl Tryz.ntmps147 rfl ⟨rfl,rfl,trivial⟩ ?_
   refine WC.sr ?_;refine WL.aj (aG rfl) rfl rfl rfl ?_
   rintro _ h1 ⟨b3,rfl,bR,aR,az⟩
   refine Go ?_;refine G2 ?_;refine WL.ld rfl (by first | exact aa aR rfl | assumption) rfl rfl rfl ?_
   refine WL.call (vs:=[_,_]) rfl Tryz.call208 rfl (ly (k.aq az) lm n oY) rfl rfl rfl ?_
   rintro _ h2 ⟨⟨q',rfl,⟨B,c,hvo⟩,hq'⟩,aI⟩
   rw [he] at hq' ⊢
   dsimp only [fM]
   obtain ⟨qt,qv,qo⟩:=q'
   dsimp only at hvo
   subst hvo
   unfold sZ
   refine Go ?_;refine WL.aj (an (fun w=>Tryz.zeroValue261 w)) rfl rfl rfl ?_
   rintro _ h3 ⟨b6,rfl,gl,bq,aQ⟩
   refine WL.ax (al Tryz.sizeOf261 rfl rfl rfl bq rfl (by simp [Value.oneCell'])) rfl rfl ?_
   rintro _ h4 ⟨bC,aW⟩
   have gJ:Ext No h1 h4:=aI.trans (aQ.trans' aW (fun q hq e=>by omega))
   have X4:=az.trans gJ
   have k4:=k.aq X4
   refine Go ?_;refine Gs [(0,_),(3,_),(6,_),(7,_)] ?_;refine G3 ?_;refine WL.step (fF (by kernel_rfl) rfl rfl) rfl rfl rfl ?_
   refine Gn ?_
   refine aH 1 2 ?_ TT.mk
   all_goals (refine aw 1 ?_)
   refine G2 ?_;refine Gs [(4,_),(5,_)] ?_;refine Gt ?_
   exact cj.err rfl (.of k4 (Tn.no X4))
end
theorem uj (l:List (List UInt8)):l.flatMap wV=(l.map zG).flatMap cA.cells:=by
 rw [List.flatMap_map]
 rfl
theorem vE {h:ah} (n:Int):ag Tryz.prog 222 ⟨[In n]⟩ h fun u h'=>∃ b:Bk,u=.agg ⟨b.cells⟩∧b.ok h'∧b.p=oX n∧(∀ q,b.F q→h.size≤q)∧Ext No h h':=by
 refine calls [(0,_)] Tryz.func222 rfl Tryz.ntmps222 rfl ⟨rfl,trivial⟩ ?_
 refine WC.sr ?_;refine WL.aj (an (fun w=>Tryz.zeroValue140 w)) rfl rfl rfl ?_
 rintro _ h1 ⟨b1,rfl,bR,aR,az⟩
 refine Gn ?_;refine G2 ?_;refine WL.call (vs:=[_]) rfl Tryz.call266 rfl (wX n) rfl rfl rfl ?_
 rintro v2 h2 ⟨dc,aI,eI⟩
 obtain ⟨A2,c2,rfl,_⟩:=dc.slice
 refine WL.step (aF (vs:=[_,_]) (cs:=[_,_,_,_,_,_,_,_,_,_,_]) (fun | [a0,a8]=>[a0,(.int .u8 0),(St []),(St []),(St []),(.int .i64 0),(.int .i64 0),(.slice none 0 0),a8,(.slice none 0 0),(.slice none 0 0)] | _=>[]) rfl rfl (by kernel_rfl)) rfl rfl rfl ?_
 refine WL.ax (al Tryz.sizeOf140 rfl rfl rfl (aI.obj aR aO) rfl (by simp [Value.oneCell'])) rfl rfl ?_
 rintro _ h3 ⟨bq,aQ⟩
 refine Gn ?_;refine Gs [(2,_)] ?_;refine WC.ret ?_
 repeat' (with_reducible first | refine aZ ?_ | refine aV ?_)
 refine cm _ ⟨⟨_,rfl,bB Tryz.isAgg140 Tryz.sizeOf140 bq rfl⟩,trivial⟩ ?_
 have hn:=ja n
 have hl:((gD (cU n)).map zG).length=cU n:=by rw [List.length_map,oW]
 have dN:=dc.ext aQ (fun q hq e=>by have:=eI q hq;have:=ai aR;omega)
 rw [uj] at dN
 refine ⟨⟨84,0,[],[],[],0,0,nS,[],.slice A2 (cU n) c2,(gD (cU n)).map zG,nS,[],nS,[]⟩,rfl,⟨⟨Rd.nil _ _,by simp⟩,⟨by rw [hl];exact dN.rd,by rw [hl];unfold maxLen;omega⟩,gv _ _,⟨Rd.nil _ _,by simp⟩⟩,rfl,fun q hq=>?_,(az.trans aI).trans' aQ (fun q hq e=>by omega)⟩
 rcases hq with ⟨e,_⟩ | ⟨_,e⟩ | e | ⟨e,_⟩
 · exact absurd e (Nat.lt_irrefl 0)
 · have:=eI q e;have:=az.size;omega
 · exact (fu rfl e).elim
 · exact absurd e (Nat.lt_irrefl 0)
theorem vF {h:ah} (t:List UInt8) (A:Option Addr) (o:List Int) (c:Nat) (ht:t.length≤100000):ag Tryz.prog 212 ⟨[.agg ⟨[St t,.slice A o.length c]⟩]⟩ h fun u h'=>∃ b:Bk,u=.agg ⟨b.cells⟩∧b.ok h'∧b.p=iM (t,o)∧(∀ q,b.F q→h.size≤q)∧Ext No h h':=by
 have kp:=fun h'=>oN (h:=h') t (by omega)
 have kr:=fun h'=>kj (h:=h') (bh t)
 have kc:=fun h'=>oO (h:=h') (bh t) o.length
 unfold iM
 dsimp only
 unfold fR.cells mh at kp kr kc
 cases hr:gb (bh t)
 all_goals
   rw [hr] at kr
   refine calls [(0,_)] Tryz.func212 rfl Tryz.ntmps212 rfl ⟨rfl,trivial⟩ ?_
   all_goals (refine WC.sr ?_;refine WL.aj (aG rfl) rfl rfl rfl ?_;rintro _ h1 ⟨b1,rfl,bR,aR,az⟩;refine WL.aj (an (fun w=>Tryz.zeroValue140 w)) rfl rfl rfl ?_;rintro _ h2 ⟨b2,rfl,gg,bH,aI⟩;have bT:=aI.obj aR aO;have l2:=ai bH;refine Gn ?_;refine G2 ?_;refine WL.ld rfl (by first | exact aa bT rfl | assumption) rfl rfl rfl ?_;refine WL.call (vs:=[_]) rfl Tryz.call214 rfl (kp _) rfl rfl rfl ?_;rintro _ h3 ⟨rfl,aQ⟩;refine WL.aj (an (fun w=>Tryz.zeroValue278 w)) rfl rfl rfl ?_;rintro _ h4 ⟨b4,rfl,oG,bC,aW⟩;refine WL.ax (al Tryz.sizeOf278 rfl rfl rfl bC rfl (by simp [Value.oneCell'])) rfl rfl ?_;rintro _ h5 ⟨bV,aM⟩;have MV:Ext No h2 h5:=aQ.trans (aW.trans' aM (fun q hq e=>by omega));refine Gn ?_;refine Gs [(1,_),(2,_),(3,_)] ?_;refine WC.seq ?_;refine WC.sr ?_;refine WL.step (ay Tryz.isAgg278 Tryz.sizeOf278 rfl rfl (by exact At.av bV)) rfl rfl rfl ?_;refine WL.call (vs:=[_]) rfl Tryz.call215 rfl (kr _) rfl rfl rfl ?_;rintro _ h6 ⟨rfl,aN⟩;have qT:=MV.trans aN;have EC:=aN.obj bV aO;refine Go ?_;refine aH 1 2 ?_ TT.mk)
   all_goals try (
   refine aw 1 ?_
   all_goals (refine WC.sr ?_;refine WL.step (aF (vs:=[_]) (cs:=[_,_,_,_,_,_,_,_,_,_,_]) (fun | [a0]=>[a0,(.int .u8 0),(St []),(St []),(St []),(.int .i64 0),(.int .i64 0),(.slice none 0 0),(.slice none 0 0),(.slice none 0 0),(.slice none 0 0)] | _=>[]) rfl rfl (by kernel_rfl)) rfl rfl rfl ?_;refine WL.ax (al Tryz.sizeOf140 rfl rfl rfl (qT.obj bH aO) rfl (by simp [Value.oneCell'])) rfl rfl ?_;rintro _ h7 ⟨ca,ba⟩;refine Gn ?_;refine Gs [(2,_)] ?_;refine WC.ret ?_;repeat' (with_reducible first | refine aZ ?_ | refine aV ?_))
   all_goals (refine cm _ ⟨⟨_,rfl,bB Tryz.isAgg140 Tryz.sizeOf140 (by first | exact ca | exact fI) rfl⟩,trivial⟩ ?_)
   all_goals (
    first
     | exact ⟨kL 110 0 [],rfl,hU _ _ _ _,rfl,fun q e=>(iN e).elim,((az.trans aI).trans qT).trans' ba (fun q hq e=>by have:=az.size;omega)⟩
     | exact ⟨b9,rfl,I6.ext ct (fun q hq e=>by have:=f9 q hq;have:=qT.size;have:=bz.size;omega),p9,fun q hq=>by have:=f9 q hq;have:=qT.size;have:=bz.size;have:=az.size;have:=aI.size;omega,((az.trans aI).trans JW).trans' ct (fun q hq e=>by have:=az.size;omega)⟩)
   skip)
   all_goals (refine aw 2 ?_;refine WC.skip ?_;refine Gn ?_;refine WC.sr ?_;refine WL.step (ay Tryz.isAgg278 Tryz.sizeOf278 rfl rfl (by exact At.av EC)) rfl rfl rfl (Go ?_);refine WL.ld rfl (by first | exact aa (qT.obj bT aO) rfl | assumption) rfl rfl rfl (Go ?_);refine WL.call (vs:=[_,_]) rfl Tryz.call223 rfl (kc _) rfl rfl rfl ?_;rintro _ h8 ⟨rfl,bz⟩;refine WL.call (vs:=[_]) rfl Tryz.call222 rfl (vE _) rfl rfl rfl ?_;rintro _ h9 ⟨b9,rfl,I6,p9,f9,bZ⟩;have JW:=(qT.trans bz).trans bZ;refine WL.ax (al Tryz.sizeOf140 rfl rfl rfl (JW.obj bH aO) rfl I6.one) rfl rfl ?_;rintro _ iG ⟨fI,ct⟩;refine Gn ?_;refine Gs [(2,_)] ?_;refine WC.ret ?_;repeat' (with_reducible first | refine aZ ?_ | refine aV ?_))
   all_goals (refine cm _ ⟨⟨_,rfl,bB Tryz.isAgg140 Tryz.sizeOf140 (by first | exact ca | exact fI) rfl⟩,trivial⟩ ?_)
   all_goals (
    first
     | exact ⟨kL 110 0 [],rfl,hU _ _ _ _,rfl,fun q e=>(iN e).elim,((az.trans aI).trans qT).trans' ba (fun q hq e=>by have:=az.size;omega)⟩
     | exact ⟨b9,rfl,I6.ext ct (fun q hq e=>by have:=f9 q hq;have:=qT.size;have:=bz.size;omega),p9,fun q hq=>by have:=f9 q hq;have:=qT.size;have:=bz.size;have:=az.size;have:=aI.size;omega,((az.trans aI).trans JW).trans' ct (fun q hq e=>by have:=az.size;omega)⟩)
section
variable {h h':ah} {A:Ad} {st:Int} {sk ov:Bool} {cnt:Int} {L:List (List UInt8 × gy)} {P:List (List UInt8 × ee)}
theorem cz.of {h0 h:ah} {q:Nat} {b:Bk} (ok:b.ok h) (hF:∀ q,b.F q→h0.size≤q) {h1:ah} (x:Ext No h h1) (hq:h1[q]?=some (.cells ⟨b.cells⟩ 140 (0,0))) (hg:h.size≤q) (hs:h0.size≤h.size):cz h0 h1 (.slice (some ⟨q,0,none⟩) 1 1) [b]:=.one hq (ok.ext x fun _ _=>aO) (by omega) fun z hz=>⟨hF z hz,by have:=ok.lt hz;omega⟩
theorem cz.two {h0 h:ah} {q:Nat} {b c:Bk} (hq:h[q]?=some (.cells ⟨b.cells++c.cells⟩ 140 (0,0))) (okb:b.ok h) (okc:c.ok h) (hg:h0.size≤q) (fb:∀ z,b.F z→h0.size≤z∧z < q) (fc:∀ z,c.F z→h0.size≤z∧z < q):cz h0 h (.slice (some ⟨q,0,none⟩) 2 2) [b,c] :=
 ⟨by simpa using dE hq (len:=2) rfl (by simp [maxLen]),by simpa using ⟨okb,okc⟩,fun z hz=>by simp [Value.ownBlock] at hz;omega,fun x hx z hz=>by rcases List.mem_cons.1 hx with rfl | hx;exact (fb z hz).1;obtain rfl:=List.mem_singleton.1 hx;exact (fc z hz).1,fun x hx z hz e=>by
   simp only [Value.ownBlock,Option.some.injEq] at e
   rcases List.mem_cons.1 hx with rfl | hx
   · have:=(fb z hz).2;omega
   · obtain rfl:=List.mem_singleton.1 hx
     have:=(fc z hz).2;omega⟩
def HJ (v:Value) (o:List Int):Bk:=⟨116,0,[],[],[],0,0,v,o,nS,[],nS,[],nS,[]⟩
theorem Ft {h:ah} {v:Value} {o:List Int} (hr:Rd h v 1 o.length (ints o)) (hl:o.length≤20000):(HJ v o).ok h:=⟨⟨hr,by show o.length≤maxLen;unfold maxLen;omega⟩,⟨Rd.nil _ _,by simp [HJ]⟩,gv _ _,⟨Rd.nil _ _,by simp [HJ]⟩⟩
theorem DN {v:Value} {o:List Int} {q:Nat} (hq:(HJ v o).F q):v.ownBlock=some q:=by
 rcases hq with ⟨_,e⟩ | ⟨e,_⟩ | e | ⟨e,_⟩
 · exact e
 · exact absurd e (Nat.lt_irrefl 0)
 · exact (fu rfl e).elim
 · exact absurd e (Nat.lt_irrefl 0)
theorem uk (k:Ss h A st sk ov cnt L P) (lm:jg (ck st sk ov cnt L P)) (f:Fm) (hf:f.ok h) (fl:gG f):ag Tryz.prog 148 ⟨[.pointer (some ⟨A.bs,0,none⟩),.agg ⟨f.cells⟩]⟩ h (cj h A P (cy (ck st sk ov cnt L P) f.p)):=by
 have I7:=fun (e:f.what=83)=>show cy (ck st sk ov cnt L P) f.p=_ from if_pos e
 have JX:=fun (e:¬ f.what=83)=>show cy (ck st sk ov cnt L P) f.p=_ from if_neg e
 obtain ⟨⟨e1,_⟩,⟨e2,_⟩,⟨e3,_⟩,e4,_⟩:=hf
 obtain ⟨oY,nT,wZ,jN,zJ,_⟩:=fl
 obtain ⟨fk,w,n,p,t,vo,o,vf,fs,vs,rs,vp,ps,mx⟩:=f
 dsimp only at e1 e2 e3 e4 oY nT wZ jN zJ
 obtain ⟨A1,c1,rfl,_⟩:=e1
 obtain ⟨_,_,rfl,_⟩:=e2
 obtain ⟨_,_,rfl,_⟩:=e3
 obtain ⟨A4,c4,rfl,_⟩:=e4
 by_cases hw:w=83
 · rw [I7 hw]
   dsimp only [Fm.cells,Fm.p]
   rcases he:jv (ck st sk ov cnt L P) n with _ | ⟨ea,ec⟩
   · obtain ⟨q,hq⟩:=nq he
     have hqL:=k.sok _ (b0 hq)
     have htl:=lm.tl _ (b0 hq)
     have hgl:bG (ck st sk ov cnt L P).L n=some (q.text,q.oids):=by show bG (qd L) n=_;rw [ky,hq];rfl
     rw [hgl]
     dsimp only at htl hqL ⊢
     have hql:=hqL.2.1
     refine calls [(0,_),(1,_)] Tryz.func148 rfl Tryz.ntmps148 rfl ⟨rfl,rfl,trivial⟩ ?_
     refine WC.sr ?_;refine WL.aj (aG rfl) rfl rfl rfl ?_
     rintro _ h1 ⟨b3,rfl,bR,aR,az⟩
     refine Go ?_;refine G3 ?_;refine WL.ld rfl (by first | exact aa aR rfl | assumption) rfl rfl rfl (Go ?_)
     refine Gs [(0,_),(3,_),(12,_)] ?_
     refine aH 1 2 ?_ TT.mk
     all_goals (refine aw 1 ?_)
     refine G2 ?_;refine WL.ld rfl (by first | exact aa aR rfl | assumption) rfl rfl rfl ?_
     refine WL.call (vs:=[_,_]) rfl Tryz.call208 rfl (ly (k.aq az) lm n oY) rfl rfl rfl ?_
     rintro _ h2 ⟨⟨q',rfl,⟨B,c,hvo⟩,hq'⟩,aI⟩
     rw [he] at hq' ⊢
     have hqq:=Option.some.inj (hq.symm.trans (hq' rfl))
     subst hqq
     obtain ⟨qt,qv,qo⟩:=q
     dsimp only [fM] at hvo hqL htl hql ⊢
     subst hvo
     unfold sZ
     refine Go ?_;refine WL.aj (an (fun w=>Tryz.zeroValue261 w)) rfl rfl rfl ?_
     rintro _ h3 ⟨b6,rfl,gl,bq,aQ⟩
     refine WL.ax (al Tryz.sizeOf261 rfl rfl rfl bq rfl (by simp [Value.oneCell'])) rfl rfl ?_
     rintro _ h4 ⟨bC,aW⟩
     have gJ:Ext No h1 h4:=aI.trans (aQ.trans' aW (fun q hq e=>by omega))
     have X4:=az.trans gJ
     have k4:=k.aq X4
     have GF:=hqL.1.aq X4
     refine Go ?_;refine Gs [(6,_),(7,_)] ?_;refine G3 ?_;refine WL.step (cL (by kernel_rfl) rfl rfl) rfl rfl rfl ?_
     refine Gn ?_
     refine aH 3 4 ?_ TT.mk
     all_goals (refine aw 4 ?_)
     refine WC.skip ?_;refine Gn ?_;refine WC.seq ?_;refine WC.bW (fun h'=>Ext No h4 h') 9 9 rfl dm ?_
     refine WH.tk 0 rfl (fun hq hC=>ad rfl Tryz.underlying261 rfl Tryz.sizeOf39) rfl rfl rfl ?_
     refine WH.tk 1 rfl (fun hq hC=>aA Tryz.isAgg39 rfl (by first | exact hC.cell (by first | exact aa bC rfl | assumption) aO)) rfl rfl rfl ?_
     refine WH.tk 4 rfl (fun hq hC=>ay Tryz.isAgg261 Tryz.sizeOf261 rfl rfl (by exact (At.av bC).ext hC aO)) rfl rfl rfl ?_
     refine WH.one 2 (by kernel_rfl) ?_
     refine aC.call (vs:=[_]) rfl rfl Tryz.call206 rfl (gU qo (GF) (by unfold reachBytes;omega)) rfl rfl rfl ?_ (fun _=>by kernel_rfl)
     rintro v5 h5 ⟨eF,aM,fO⟩
     obtain ⟨A5,c5,rfl,_⟩:=eF.slice
     refine ⟨fun _=>aM,?_⟩
     refine WH.tk 3 rfl (fun hq hC=>aF (vs:=[_,_]) (cs:=[_,_,_,_,_,_,_,_,_,_,_]) (fun | [a0,a7]=>[a0,(.int .u8 0),(St []),(St []),(St []),(.int .i64 0),(.int .i64 0),a7,(.slice none 0 0),(.slice none 0 0),(.slice none 0 0)] | _=>[]) rfl rfl (by kernel_rfl)) rfl rfl rfl ?_
     refine WH.one 5 (by kernel_rfl) ?_
     refine aC.call (vs:=[_]) rfl rfl Tryz.call212 rfl (vF qt B qo c htl) rfl rfl rfl ?_ (fun _=>by kernel_rfl)
     rintro _ h6 ⟨JY,rfl,HK,p6,f6,aN⟩
     refine ⟨fun _=>aM.trans aN,?_⟩
     refine WH.one 6 (by kernel_rfl) ?_
     refine aC.run rfl (au (vs:=[_,_]) (cs:=[_,_,_,_,_,_,_,_,_,_,_,_,_,_,_,_,_,_,_,_,_,_]) (fun | [.agg ⟨[a0,a1,a2,a3,a4,a5,a6,a7,a8,a9,gY]⟩,.agg ⟨[yq,a12,Ex,Ey,Ez,G5,G6,Jv,Jw,a20,a21]⟩]=>[a0,a1,a2,a3,a4,a5,a6,a7,a8,a9,gY,yq,a12,Ex,Ey,Ez,G5,G6,Jv,Jw,a20,a21] | _=>[]) Tryz.underlying80 rfl rfl (by kernel_rfl)) rfl rfl rfl ?_ (fun _=>by kernel_rfl)
     rintro _ h7 ⟨b7,rfl,xG,ca,ba⟩
     refine ⟨fun _=>(aM.trans aN).trans ba,?_⟩
     have DJ:Ext No h4 h7:=(aM.trans aN).trans ba
     refine WH.tk 7 rfl (fun hq hC=>aP rfl) rfl rfl rfl ?_
     refine WH.tk 8 rfl (fun hq hC=>aP rfl) rfl rfl rfl ?_
     refine WH.done (by kernel_rfl) ?_
     refine Gn ?_;refine Gs [(4,_),(5,_)] ?_;refine Gt ?_
     have s4:=X4.size
     have s5:=aM.size
     have s6:=aN.size
     have mV:=(eF.ext aN (fun _ _=>aO)).ext ba (fun _ _=>aO)
     exact ⟨_,[HJ (.slice A5 qo.length c5) qo,JY],(fun e=>absurd rfl e),rfl,.two ca (Ft mV.rd hql) (HK.ext ba (fun _ _=>aO)) (by omega) (fun z hz=>by have:=fO z (DN hz);have:=eF.lt (DN hz);omega) (fun z hz=>by have:=f6 z hz;have:=HK.lt hz;omega),by rw [List.map_cons,List.map_singleton,p6];rfl,.of (((k4.aq aM).aq aN).aq ba) (Tn.no (((X4.trans aM).trans aN).trans ba))⟩
   · dsimp only
     refine calls [(0,_),(1,_)] Tryz.func148 rfl Tryz.ntmps148 rfl ⟨rfl,rfl,trivial⟩ ?_
     refine WC.sr ?_;refine WL.aj (aG rfl) rfl rfl rfl ?_
     rintro _ h1 ⟨b3,rfl,bR,aR,az⟩
     refine Go ?_;refine G3 ?_;refine WL.ld rfl (by first | exact aa aR rfl | assumption) rfl rfl rfl (Go ?_)
     refine Gs [(0,_),(3,_),(12,_)] ?_
     refine aH 1 2 ?_ TT.mk
     all_goals (refine aw 1 ?_)
     refine G2 ?_;refine WL.ld rfl (by first | exact aa aR rfl | assumption) rfl rfl rfl ?_
     refine WL.call (vs:=[_,_]) rfl Tryz.call208 rfl (ly (k.aq az) lm n oY) rfl rfl rfl ?_
     rintro _ h2 ⟨⟨q',rfl,⟨B,c,hvo⟩,hq'⟩,aI⟩
     rw [he]
     obtain ⟨qt,qv,qo⟩:=q'
     dsimp only [fM] at hvo ⊢
     subst hvo
     unfold sZ
     refine Go ?_;refine WL.aj (an (fun w=>Tryz.zeroValue261 w)) rfl rfl rfl ?_
     rintro _ h3 ⟨b6,rfl,gl,bq,aQ⟩
     refine WL.ax (al Tryz.sizeOf261 rfl rfl rfl bq rfl (by simp [Value.oneCell'])) rfl rfl ?_
     rintro _ h4 ⟨bC,aW⟩
     have X4:Ext No h h4:=(az.trans aI).trans (aQ.trans' aW (fun q hq e=>by omega))
     refine Go ?_;refine Gs [(6,_),(7,_)] ?_;refine G3 ?_;refine WL.step (fF (by kernel_rfl) rfl rfl) rfl rfl rfl ?_
     refine Gn ?_
     refine aH 3 4 ?_ TT.mk
     all_goals (refine aw 3 ?_)
     refine G2 ?_;refine Gs [(4,_),(5,_)] ?_;refine Gt ?_
     exact cj.err rfl (.of (k.aq X4) (Tn.no X4))
 · rw [JX hw]
   dsimp only [Fm.cells,Fm.p]
   rcases he:gE (ck st sk ov cnt L P) p with _ | ⟨ea,ec⟩
   · obtain ⟨i,hi⟩:=nr he
     have htl:=lm.tp _ (b0 hi)
     have hgl:bG (ck st sk ov cnt L P).P p=some i.d.pl:=by show bG (fN P) p=_;rw [gd,hi];rfl
     rw [hgl]
     dsimp only at htl ⊢
     refine calls [(0,_),(1,_)] Tryz.func148 rfl Tryz.ntmps148 rfl ⟨rfl,rfl,trivial⟩ ?_
     refine WC.sr ?_;refine WL.aj (aG rfl) rfl rfl rfl ?_
     rintro _ h1 ⟨b3,rfl,bR,aR,az⟩
     refine Go ?_;refine G3 ?_;refine WL.ld rfl (by first | exact aa aR rfl | assumption) rfl rfl rfl (Go ?_)
     refine Gs [(0,_),(3,_),(12,_)] ?_
     refine aH 1 2 ?_ TT.mk
     all_goals (refine aw 2 ?_)
     refine WC.skip ?_;refine Gn ?_;refine G2 ?_;refine WL.ld rfl (by first | exact aa aR rfl | assumption) rfl rfl rfl ?_
     refine WL.call (vs:=[_,_]) rfl Tryz.call213 rfl (eJ (k.aq az) lm p nT) rfl rfl rfl ?_
     rintro _ h2 ⟨⟨d2,rfl,iU,f2,hq'⟩,aI⟩
     rw [he] at hq' ⊢
     obtain ⟨i',hi',j9⟩:=hq' rfl
     have hii:=Option.some.inj (hi.symm.trans hi')
     subst hii
     have hti:d2.text=i.d.text:=congrArg (·.1) j9
     have hto:d2.oids=i.d.oids:=congrArg (·.2.1) j9
     obtain ⟨text,vo,oids,vp,ps',vr,rs',ran,over⟩:=d2
     dsimp only [fM] at hti hto ⊢
     subst hti
     subst hto
     refine Go ?_;refine WL.aj (an (fun w=>Tryz.zeroValue273 w)) rfl rfl rfl ?_
     rintro _ h3 ⟨b6,rfl,gl,bq,aQ⟩
     refine WL.ax (al Tryz.sizeOf273 rfl rfl rfl bq rfl (eQ iU)) rfl rfl ?_
     rintro _ h4 ⟨bC,aW⟩
     have gJ:Ext No h1 h4:=aI.trans (aQ.trans' aW (fun q hq e=>by omega))
     have X4:=az.trans gJ
     have k4:=k.aq X4
     dsimp only [PD.cells] at bC
     obtain ⟨A6,c6,hvo,_⟩:=id iU.oids
     dsimp only at hvo
     subst hvo
     refine Go ?_;refine Gs [(8,_),(9,_)] ?_;refine G3 ?_;refine WL.step (cL (by kernel_rfl) rfl rfl) rfl rfl rfl ?_
     refine Gn ?_
     refine aH 5 6 ?_ TT.mk
     all_goals (refine aw 6 ?_)
     refine WC.skip ?_;refine Gn ?_;refine G2 ?_;refine WL.step (ay Tryz.isAgg261 Tryz.sizeOf261 rfl rfl (by exact At.pre (xs:=[_,_]) (ys:=[_,_,_,_]) (At.av bC))) rfl rfl rfl ?_
     refine WL.call (vs:=[_]) rfl Tryz.call212 rfl (vF i.d.text A6 i.d.oids c6 htl.1) rfl rfl rfl ?_
     rintro _ h6 ⟨JY,rfl,HK,p6,f6,aN⟩
     refine WL.aj (au (vs:=[_]) (cs:=[_,_,_,_,_,_,_,_,_,_,_]) (fun | [.agg ⟨[a0,a1,a2,a3,a4,a5,a6,a7,a8,a9,gY]⟩]=>[a0,a1,a2,a3,a4,a5,a6,a7,a8,a9,gY] | _=>[]) Tryz.underlying80 rfl rfl (by kernel_rfl)) rfl rfl rfl ?_
     rintro _ h7 ⟨b7,rfl,xG,ca,ba⟩
     refine Go ?_;refine Gs [(4,_),(5,_)] ?_;refine Gt ?_
     have s4:=X4.size
     have s6:=aN.size
     exact ⟨_,[JY],(fun e=>absurd rfl e),rfl,.of HK (fun q hq=>by have:=f6 q hq;omega) ba ca (by omega) (by omega),by rw [List.map_singleton,p6];rfl,.of ((k4.aq aN).aq ba) (Tn.no ((X4.trans aN).trans ba))⟩
   · dsimp only
     refine calls [(0,_),(1,_)] Tryz.func148 rfl Tryz.ntmps148 rfl ⟨rfl,rfl,trivial⟩ ?_
     refine WC.sr ?_;refine WL.aj (aG rfl) rfl rfl rfl ?_
     rintro _ h1 ⟨b3,rfl,bR,aR,az⟩
     refine Go ?_;refine G3 ?_;refine WL.ld rfl (by first | exact aa aR rfl | assumption) rfl rfl rfl (Go ?_)
     refine Gs [(0,_),(3,_),(12,_)] ?_
     refine aH 1 2 ?_ TT.mk
     all_goals (refine aw 2 ?_)
     refine WC.skip ?_;refine Gn ?_;refine G2 ?_;refine WL.ld rfl (by first | exact aa aR rfl | assumption) rfl rfl rfl ?_
     refine WL.call (vs:=[_,_]) rfl Tryz.call213 rfl (eJ (k.aq az) lm p nT) rfl rfl rfl ?_
     rintro _ h2 ⟨⟨d2,rfl,iU,f2,hq'⟩,aI⟩
     rw [he]
     dsimp only [fM]
     refine Go ?_;refine WL.aj (an (fun w=>Tryz.zeroValue273 w)) rfl rfl rfl ?_
     rintro _ h3 ⟨b6,rfl,gl,bq,aQ⟩
     refine WL.ax (al Tryz.sizeOf273 rfl rfl rfl bq rfl (eQ iU)) rfl rfl ?_
     rintro _ h4 ⟨bC,aW⟩
     have X4:Ext No h h4:=(az.trans aI).trans (aQ.trans' aW (fun q hq e=>by omega))
     refine Go ?_;refine Gs [(8,_),(9,_)] ?_;refine G3 ?_;refine WL.step (fF (by kernel_rfl) rfl rfl) rfl rfl rfl ?_
     refine Gn ?_
     refine aH 5 6 ?_ TT.mk
     all_goals (refine aw 5 ?_)
     refine G2 ?_;refine Gs [(4,_),(5,_)] ?_;refine Gt ?_
     exact cj.err rfl (.of (k.aq X4) (Tn.no X4))
end
def sm (v:Value) (l:List aX):Bk:=⟨68,0,[],[],[],0,0,.slice none 0 0,[],.slice none 0 0,[],v,l,.slice none 0 0,[]⟩
theorem Cx {h:ah} {v:Value} {l:List aX} (c:cF h v l):(sm v l).ok h:=⟨⟨Rd.nil _ _,by simp [sm]⟩,⟨Rd.nil _ _,by simp [sm]⟩,c,⟨Rd.nil _ _,by simp [sm]⟩⟩
theorem zK {h2 h3 h4 h5 h6 h7:ah} {b2 b4 k:Nat} {n1:Bool} {v1 v6:Value} {s1:List UInt8} {l out:List aX} {rest:List Value} {T0:TypeId} (hlo:out.length=k) (hrl:rest.length=(l.length - k) * 2) (hk:k≤l.length)
   (hp:out.map aX.pl=(l.take k).map aX.pl) (fp:l[k]?=some ⟨n1,v1,s1⟩) (ca:h7[b2]?=some (.cells ⟨(out.flatMap aX.cells++rest).take (0+k * 2)++[.bool n1,v6]++(out.flatMap aX.cells++rest).drop (0+k * 2+2)⟩ T0 (0,0)))
   (hq:∀ q∈out,q.ok h3∧∀ b,q.v.ownBlock=some b→b2 < b) (aQ:Ext (fun b=>b=b2) h2 h3) (aW:Ext No h3 h4) (aM:Ext (fun b=>b=b4) h4 h5) (oG:h3.size≤b4) (aN:Ext No h5 h6) (ba:Ext (fun b=>b=b2) h6 h7)
   (gu:Own h6 v6 5 1 s1.length (bA s1)) (Fu:v6.ownBlock=(Value.slice none 0 0).ownBlock∨v6.ownBlock=some h5.size) (hlt:b2 < h3.size) (hs:s1.length≤reachBytes) :
   k+1≤l.length∧(out++[(⟨n1,v6,s1⟩:aX)]).map aX.pl=(l.take (k+1)).map aX.pl∧(∃ rest',h7[b2]?=some (.cells ⟨(out++[(⟨n1,v6,s1⟩:aX)]).flatMap aX.cells++rest'⟩ T0 (0,0))∧rest'.length=(l.length - (k+1)) * 2)∧(∀ q∈out++[(⟨n1,v6,s1⟩:aX)],q.ok h7∧∀ b,q.v.ownBlock=some b→b2 < b)∧Ext (fun b=>b=b2) h2 h7:=by
 have hkl:k < l.length:=(List.getElem?_eq_some_iff.1 fp).1
 have hfl:(out.flatMap aX.cells).length=k * 2:=by rw [cK aX.len,hlo]
 have s4:=aW.size
 have s5:=aM.size
 have e1:(out.flatMap aX.cells++rest).take (0+k * 2)=out.flatMap aX.cells:=by rw [Nat.zero_add,← hfl,List.take_left'];rfl
 have e2:(out.flatMap aX.cells++rest).drop (0+k * 2+2)=rest.drop 2:=by rw [Nat.zero_add,← hfl,List.drop_append];simp
 have fr:∀ b,v6.ownBlock=some b→b2 < b:=fun b e=>by
   rcases Fu with e6 | e6 <;> rw [e6] at e
   · cases e
   · simp at e;omega
 refine ⟨hkl,?_,⟨rest.drop 2,?_,?_⟩,fun q hm=>?_,?_⟩
 · rw [List.map_append,hp,List.take_add_one,fp,List.map_append]
   rfl
 · rw [e1,e2] at ca
   rw [List.flatMap_append,List.flatMap_singleton]
   exact ca
 · rw [List.length_drop,hrl];omega
 · rcases List.mem_append.1 hm with hm | hm
   · obtain ⟨q1,q2⟩:=hq q hm
     refine ⟨⟨?_,q1.2⟩,q2⟩
     exact (((q1.1.aq aW).ext' aM fun b h1 e eb=>by have:=q1.1.lt h1 e;omega).aq aN).ext' ba fun b _ e eb=>by have:=q2 b e;omega
   · simp only [List.mem_singleton] at hm
     subst hm
     exact ⟨⟨gu.rd.ext' ba fun b _ e eb=>by have:=fr b e;omega,hs⟩,fr⟩
 · exact (((aQ.trans' aW fun _ _ e=>e.elim).trans' aM fun b hb e=>by have:=aQ.size;omega).trans' aN fun _ _ e=>e.elim).trans ba
theorem Cy {h3 h8:ah} {b1 b2 k:Nat} {l out:List aX} {rest:List Value} {T0:TypeId} (hlo:out.length=k) (hrl:rest.length=(l.length - k) * 2) (hk:k=l.length) (bq:h3[b2]?=some (.cells ⟨out.flatMap aX.cells++rest⟩ T0 (0,0))) (bz:Ext (fun b=>b=b1) h3 h8)
   (hq:∀ q∈out,q.ok h3∧∀ b,q.v.ownBlock=some b→b2 < b) (qS:b1 < b2) (hl:l.length≤1000000):cF h8 (.slice (some ⟨b2,0,none⟩) l.length l.length) out:=by
 have h0:rest=[]:=List.eq_nil_of_length_eq_zero (by rw [hrl,hk];simp)
 rw [h0,List.append_nil] at bq
 have hll:out.length=l.length:=by omega
 rw [← hll]
 refine ⟨bx (bz.obj bq (fun e=>by omega)) (cK aX.len out),⟨by unfold reachBytes;omega,_,_,rfl,by unfold maxLen;omega⟩,fun q hm=>?_⟩
 obtain ⟨q1,q2⟩:=hq q hm
 exact ⟨q1.1.ext' bz fun b _ e eb=>by have:=q2 b e;omega,q1.2⟩
theorem zL {h:ah} {v:Value} (l:List aX) (hc:cF h v l) (hl:l.length≤1000000):ag Tryz.prog 262 ⟨[v]⟩ h fun u h'=>∃ v' l',u=.agg ⟨(sm v' l').cells⟩∧cF h' v' l'∧l'.map aX.pl=l.map aX.pl∧Ext No h h'∧∀ b,du v' l' b→h.size≤b:=by
 obtain ⟨hr,⟨_,A,c,rfl,_⟩,hok⟩:=hc
 refine calls [(0,_)] Tryz.func262 rfl Tryz.ntmps262 rfl ⟨rfl,trivial⟩ ?_
 refine WC.sr ?_;refine WL.aj (an (fun w=>Tryz.zeroValue140 w)) rfl rfl rfl ?_
 rintro _ h1 ⟨b1,rfl,bR,aR,az⟩
 refine Gn ?_;refine G2 ?_;refine WL.aj (nX 32 2 Tryz.underlying40 (show Tryz.prog.info? 85=some Tryz.t85 by kernel_rfl) rfl rfl rfl rfl rfl (by omega) (by unfold maxLen;omega)) rfl rfl rfl ?_
 rintro _ h2 ⟨b2,zs,rfl,gg,bH,hzl,_,aI⟩
 have mf:=ai aR
 have ey:=az.trans aI
 refine Go ?_;refine G3 ?_;refine Gs [(2,_),(3,_),(9,_),(10,_),(11,_)] ?_;refine WC.block ?_;refine WC.bD (X:=Nat × List aX) (fun x=>([(11,In (x.1:Int))]:Fr)) [(2,_),(3,_),(9,_),(10,_)] (fun x h'=>x.1≤l.length∧x.2.map aX.pl=(l.take x.1).map aX.pl∧(∃ rest,h'[b2]?=some (.cells ⟨x.2.flatMap aX.cells++rest⟩ 85 (0,0))∧rest.length=(l.length - x.1) * 2)∧(∀ q∈x.2,q.ok h'∧∀ b,q.v.ownBlock=some b→b2 < b)∧Ext (fun b=>b=b2) h2 h') (fun x=>l.length - x.1) ((0,[])) ⟨rfl,rfl,rfl,rfl,rfl,trivial⟩ (by exact ⟨Nat.zero_le _,rfl,⟨zs,bH,hzl⟩,by simp,.refl _ _⟩) ?_
 rintro ⟨k,out⟩ h3 ⟨hk,hp,⟨rest,bq,hrl⟩,hq,aQ⟩
 simp only at hk hp bq hrl hq
 have hlo:out.length=k:=by simpa [Nat.min_eq_left hk] using congrArg List.length hp
 have E3:Ext No h h3:=ey.trans' aQ (fun b hb e=>by have:=az.size;omega)
 refine WC.sub [(11,_),(2,_),(3,_),(9,_),(10,_)] ⟨rfl,rfl,rfl,rfl,rfl,trivial⟩ ?_
 dsimp only
 refine G2 ?_;refine WC.seq ?_
 refine aH 1 2 (Hb.mk fun hb=>?_) (Hb.mk fun hb=>?_)
 all_goals try (
 refine aw 1 ?_
 refine WC.skip ?_
 skip)
 all_goals try (
 refine aw 2 ?_
 refine WC.exit ?_
 repeat' (with_reducible first | refine aU ?_ | refine aD rfl ?_ | refine aJ ?_ | refine aL ?_ | refine aS ?_)
 refine Br.out (i:=1000) ?_
 skip)
 all_goals (refine Gn ?_;first | refine Br.ab ?_ | refine WC.seq ?_)
 all_goals (first | refine Br.ab ?_ | refine WC.block ?_)
 all_goals (first | refine Br.ab ?_ | refine WC.seq ?_)
 all_goals (
  first
    | (refine Br.ab ?_)
    | (obtain ⟨bL,oL,hA,hbL,hat⟩:=Rd.at_ (hr.aq E3) (by omega)
       obtain ⟨⟨n1,v1,s1⟩,fp⟩:∃ y,l[k]?=some y:=⟨_,List.getElem?_eq_getElem (by omega)⟩
       obtain ⟨rA,hsl⟩:=hok _ (List.mem_of_getElem? fp)
       have vi:At h3 bL (oL+k * 2) [.bool n1,v1]:=At.elem aX.len hat fp
       simp only at rA hsl
       unfold reachBytes at hsl
       obtain ⟨A1,k1,rfl,_⟩:=id rA))
 all_goals (first | refine Br.ab ?_ | refine WC.region ?_)
 all_goals (refine Go ?_;first | refine Br.ab ?_ | (refine WL.step (aE Tryz.underlying40 Tryz.sizeOf85 rfl rfl rfl (by omega) (by first | rfl | assumption)) rfl rfl rfl ?_))
 all_goals (first | refine Br.ab ?_ | (refine WL.step (ay Tryz.isAgg85 Tryz.sizeOf85 rfl rfl (by assumption)) rfl rfl rfl ?_))
 all_goals (
  first
    | (refine Br.ab ?_)
    | (refine WL.aj (an (fun w=>Tryz.zeroValue85 w)) rfl rfl rfl ?_
       rintro _ h4 ⟨b4,rfl,oG,bC,aW⟩))
 all_goals (refine Go ?_)
 all_goals (
  first
    | (refine Br.ab ?_)
    | (refine WL.ax (al Tryz.sizeOf85 rfl rfl rfl (by assumption) rfl (by simp [Value.oneCell'])) rfl rfl ?_
       rintro _ h5 ⟨bV,aM⟩))
 all_goals (
  first
    | (refine Br.ab ?_)
    | (have E5:Ext No h h5:=(E3.trans aW).trans' aM (fun b hb e=>by have:=E3.size;omega)
       have JZ:=ai bq
       have tU:=(aW.obj bq aO)
       have HL:=aM.obj tU (fun e=>by omega)))
 all_goals (refine Gn ?_;first | refine Br.ab ?_ | refine Gs [(2,_),(3,_),(4,_),(5,_),(9,_),(10,_),(11,_)] ?_)
 all_goals (first | refine Br.ab ?_ | (refine WC.bW (fun h'=>h'[b4]?=some (.cells ⟨[.bool n1,.slice A1 s1.length k1]⟩ 85 (0,0))) 9 10 rfl dm ?_))
 all_goals (first | refine Br.ab ?_ | (refine WH.tk 0 rfl (fun hq hC=>ak rfl) rfl rfl rfl ?_))
 all_goals (first | refine Br.ab ?_ | (refine WH.tk 1 rfl (fun hq hC=>ak rfl) rfl rfl rfl ?_))
 all_goals (first | refine Br.ab ?_ | (refine WH.tk 2 rfl (fun hq hC=>ad rfl Tryz.underlying85 rfl Tryz.sizeOf4) rfl rfl rfl ?_))
 all_goals (first | refine Br.ab ?_ | (refine WH.tk 3 rfl (fun hq hC=>aA Tryz.isAgg4 rfl (aa hC rfl)) rfl rfl rfl ?_))
 all_goals (first | refine Br.ab ?_ | (refine WH.tk 4 rfl (fun hq hC=>ad rfl Tryz.underlying85 rfl Tryz.sizeOf23) rfl rfl rfl ?_))
 all_goals (first | refine Br.ab ?_ | (refine WH.tk 5 rfl (fun hq hC=>aA Tryz.isAgg23 rfl (aa hC rfl)) rfl rfl rfl ?_))
 all_goals (first | refine Br.ab ?_ | (refine WH.one 6 (by kernel_rfl) ?_))
 all_goals (
  first
    | (refine Br.ab ?_)
    | (refine aC.run rfl (aT (sz:=1) (bytes:=1) rfl Tryz.underlying23 (show Tryz.prog.info? 5=some Tryz.t5 by kernel_rfl) rfl rfl rfl rfl (by decide) rfl rfl (Own.nil _ _ _) (rA.aq E5) (uW s1) (by simp only [maxLen];omega) (by omega)) rfl rfl rfl ?_ (fun _=>by kernel_rfl)
       rintro v6 h6 ⟨gu,aN,Fu⟩))
 all_goals (first | refine Br.ab ?_ | (refine ⟨fun _=>aN.obj bV (fun e=>by cases e),?_⟩))
 all_goals (
  first
    | (refine Br.ab ?_)
    | (have bX:=aN.obj bV (fun e=>by cases e)
       have J0:Ext No h5 h6:=aN.mono (fun b _ e=>by cases e)
       have hbb:=aN.obj HL (fun e=>by cases e)
       rw [Nat.zero_add,List.nil_append] at gu
       obtain ⟨A6,c6,rfl,_⟩:=gu.slice))
 all_goals (first | refine Br.ab ?_ | (refine WH.tk 7 rfl (fun hq hC=>aF (vs:=[_,_]) (cs:=[_,_]) (fun | [a0,a1]=>[a0,a1] | _=>[]) rfl rfl (by kernel_rfl)) rfl rfl rfl ?_))
 all_goals (first | refine Br.ab ?_ | (refine WH.tk 8 rfl (fun hq hC=>aE Tryz.underlying40 Tryz.sizeOf85 rfl rfl rfl (by omega) (by first | rfl | assumption)) rfl rfl rfl ?_))
 all_goals (first | refine Br.ab ?_ | (refine WH.one 9 (by kernel_rfl) ?_))
 all_goals (
  first
    | (refine Br.ab ?_)
    | (refine aC.cO rfl (mQ (k:=2) Tryz.sizeOf85 rfl rfl rfl hbb (by simp [cK aX.len,hlo,hrl];omega) (by simp [Value.oneCell'])) rfl rfl ?_ (fun _=>by kernel_rfl)
       rintro _ h7 ⟨ca,ba⟩))
 all_goals (first | refine Br.ab ?_ | (refine ⟨fun e=>(by cases e),?_⟩))
 all_goals (first | refine Br.ab ?_ | (refine WH.done (by kernel_rfl) ?_))
 all_goals (refine Gn ?_;first | refine Br.ab ?_ | refine Gs [(2,_),(3,_),(9,_),(10,_),(11,_)] ?_)
 all_goals (first | refine Br.ab ?_ | refine WC.region ?_)
 all_goals (refine Go ?_;first | refine Br.ab ?_ | (exact ⟨(k+1,out++[_]),⟨rfl,rfl,rfl,rfl,rfl,trivial⟩,(by exact zK hlo hrl hk hp fp ca hq aQ aW aM oG J0 ba gu Fu JZ (by unfold reachBytes;omega)),(by simp;omega)⟩))
 try (refine Br.mk (i:=1000) ?_)
 refine Gn ?_;refine Gs [(2,_),(3,_)] ?_;refine G2 ?_;refine WL.step (aF (vs:=[_,_]) (cs:=[_,_,_,_,_,_,_,_,_,_,_]) (fun | [a0,a9]=>[a0,(.int .u8 0),(St []),(St []),(St []),(.int .i64 0),(.int .i64 0),(.slice none 0 0),(.slice none 0 0),a9,(.slice none 0 0)] | _=>[]) rfl rfl (by kernel_rfl)) rfl rfl rfl ?_
 refine WL.ax (al Tryz.sizeOf140 rfl rfl rfl (aQ.obj (aI.obj aR aO) (fun e=>by omega)) rfl (by simp [Value.oneCell'])) rfl rfl ?_
 rintro _ h8 ⟨bE,bz⟩
 refine Gn ?_;refine WC.ret ?_
 repeat' (with_reducible first | refine aZ ?_ | refine aV ?_)
 refine cm _ ⟨⟨_,rfl,bB Tryz.isAgg140 Tryz.sizeOf140 (by assumption) rfl⟩,trivial⟩ ?_
 exact ⟨_,out,rfl,Cy hlo hrl (by omega) bq bz hq (by omega) (by omega),by rw [hp,List.take_of_length_le (by omega)],E3.trans' bz (fun b hb e=>by omega),fun b hb=>by
  have:=az.size
  rcases hb with ⟨_,e⟩ | ⟨q,hq',_,e⟩
  · simp [Value.ownBlock] at e;omega
  · have:=(hq q hq').2 b e;omega⟩
theorem zM {v:Value} {l:List aX} {q:Nat} (hq:(sm v l).F q):du v l q:=by
 rcases hq with ⟨e,_⟩ | ⟨e,_⟩ | e | ⟨e,_⟩
 · exact absurd e (Nat.lt_irrefl 0)
 · exact absurd e (Nat.lt_irrefl 0)
 · exact e
 · exact absurd e (Nat.lt_irrefl 0)
abbrev Fv (r:List eC):jb:={ kind:=68,row:=r }
theorem qf {h:ah} {v:Value} (L:List Rw) (hL:jL h v L) (more:Bool) (hm:L.length≤100000) (hr:∀ r∈L,r.l.length≤1000000):ag Tryz.prog 218 ⟨[v,.bool more]⟩ h fun u h'=>∃ B,cz h h' u B∧B.map Bk.p=cQ (L.map Rw.pl) more∧Ext No h h':=by
 obtain ⟨hrd,⟨_,A,c,rfl,_⟩,hok⟩:=hL
 cases more
 all_goals
   refine calls [(0,_),(1,_)] Tryz.func218 rfl Tryz.ntmps218 rfl ⟨rfl,rfl,trivial⟩ ?_
   all_goals (refine G2 ?_;refine G2 ?_;refine G3 ?_;refine WC.block ?_)
   all_goals (refine WC.bD (X:=Nat × Value × List Bk) (fun x=>([(10,In (x.1:Int)),(5,x.2.1)]:Fr)) [(0,_),(1,_),(8,_),(9,_)] (fun x h'=>x.1≤L.length∧cz h h' x.2.1 x.2.2∧x.2.2.map Bk.p=(L.take x.1).map (fun r=>Fv r.pl)∧Ext No h h') (fun x=>L.length - x.1) ((0,.slice none 0 0,[])) ⟨rfl,rfl,rfl,rfl,rfl,rfl,trivial⟩ (by exact ⟨Nat.zero_le _,cz.nil _ _,rfl,.refl _ _⟩) ?_)
   all_goals (
    rintro ⟨k,v1,B⟩ h1 ⟨hk,ho,hp,hx⟩
    dsimp only at hk ho hp
    have hBl:B.length=k:=by have:=congrArg List.length hp;simpa [Nat.min_eq_left hk] using this
    have hoo:=ho.own
    obtain ⟨A1,c1,rfl,_⟩:=hoo.slice)
   all_goals (refine WC.sub [(5,_),(10,_),(0,_),(1,_),(8,_),(9,_)] ⟨rfl,rfl,rfl,rfl,rfl,rfl,trivial⟩ ?_;dsimp only)
   all_goals (refine G2 ?_;refine WC.seq ?_;refine aH 1 2 (Hb.mk fun hb=>?_) (Hb.mk fun hb=>?_))
   all_goals try (
   refine aw 1 ?_
   all_goals (refine WC.skip ?_)
   skip)
   all_goals try (
   refine aw 2 ?_
   all_goals (refine WC.exit ?_;repeat' (with_reducible first | refine aU ?_ | refine aD rfl ?_ | refine aJ ?_ | refine aL ?_ | refine aS ?_))
   all_goals (refine Br.out (i:=1000) ?_)
   skip)
   all_goals (refine Gn ?_;first | refine Br.ab ?_ | refine WC.seq ?_)
   all_goals (first | refine Br.ab ?_ | refine WC.block ?_)
   all_goals (first | refine Br.ab ?_ | refine WC.sr ?_)
   all_goals (
    first
      | (refine Br.ab ?_)
      | (obtain ⟨bL,oL,hA,hbL,hat⟩:=Rd.at_ (hrd.aq hx) (by omega)
         obtain ⟨⟨w1,l1⟩,fp⟩:∃ y,L[k]?=some y:=⟨_,List.getElem?_eq_getElem (by omega)⟩
         have vi:=hat.get (p:=oL+k * 1) (v:=w1) k (by rw [List.getElem?_map,fp];exact rfl) (by omega)
         have hcl:=hok _ (List.mem_of_getElem? fp)
         have hll:=hr _ (List.mem_of_getElem? fp)
         dsimp only at hcl hll))
   all_goals (first | refine Br.ab ?_ | (refine WL.step (aE Tryz.underlying271 Tryz.sizeOf40 rfl rfl rfl (by omega) (by first | rfl | assumption)) rfl rfl rfl ?_))
   all_goals (first | refine Br.ab ?_ | (refine WL.ld rfl (by first | exact vi | assumption) rfl rfl rfl ?_))
   all_goals (refine Go ?_;first | refine Br.ab ?_ | refine WC.region ?_)
   all_goals (refine Go ?_)
   all_goals (
    first
      | (refine Br.ab ?_)
      | (refine WL.call (vs:=[_]) rfl Tryz.call262 rfl (zL l1 (hcl.aq hx) hll) rfl rfl rfl ?_
         rintro _ h2 ⟨v2,l2,rfl,kJ,Hg,aI,eI⟩
         obtain ⟨_,⟨_,A2,c2,rfl,_⟩,_⟩:=id kJ))
   all_goals (
    first
      | (refine Br.ab ?_)
      | (refine WL.aj (au (vs:=[_]) (cs:=[_,_,_,_,_,_,_,_,_,_,_]) (fun | [.agg ⟨[a0,a1,a2,a3,a4,a5,a6,a7,a8,a9,gY]⟩]=>[a0,a1,a2,a3,a4,a5,a6,a7,a8,a9,gY] | _=>[]) Tryz.underlying80 rfl rfl (by kernel_rfl)) rfl rfl rfl ?_
         rintro _ h3 ⟨b3,rfl,gl,bq,aQ⟩))
   all_goals (
    first
      | (refine Br.ab ?_)
      | (have Lx:(sm (.slice A2 l2.length c2) l2).ok h3:=Cx (kJ.aq aQ)
         have s1:=hx.size
         have s2:=aI.size
         have dN:=(ho.aq aI).aq aQ))
   all_goals (
    first
      | (refine Br.ab ?_)
      | (refine WL.aj (aT (sz:=11) (bytes:=168) rfl Tryz.underlying80 (show Tryz.prog.info? 140=some Tryz.t140 by kernel_rfl) rfl rfl rfl rfl (by decide) rfl rfl dN.own (bx bq (len:=1) rfl) Lx.one (by simp only [maxLen];omega) (by omega)) rfl rfl rfl ?_
         rintro v4 h4 ⟨fP,aW,rD⟩))
   all_goals (refine Go ?_;first | refine Br.ab ?_ | refine Gs [(0,_),(1,_),(5,_),(8,_),(9,_),(10,_)] ?_)
   all_goals (first | refine Br.ab ?_ | refine WC.region ?_)
   all_goals (refine Go ?_;first | refine Br.ab ?_ | (exact ⟨(k+1,_,B++[_]),⟨rfl,rfl,rfl,rfl,rfl,rfl,trivial⟩,(by exact ⟨by omega,dN.snoc Lx (fun z hz=>by have:=eI z (zM hz);omega) (fun z hz e=>by have:=eI z (zM hz);have:=hoo.lt e;omega) (by have:=aQ.size;omega) fP aW rD,by rw [List.map_append,hp,List.take_add_one,fp,List.map_append];simp [Bk.p,sm,Rw.pl,Hg],((hx.trans aI).trans aQ).trans' aW (fun q hq e=>by have:=ho.vf q e;omega)⟩),(by dsimp only;omega)⟩))
   all_goals (try (refine Br.mk (i:=1000) ?_))
   all_goals (refine Gn ?_;refine Gs [(0,_),(1,_),(5,_)] ?_;refine G3 ?_;refine aH 3 4 ?_ TT.mk)
   all_goals try (
   refine aw 3 ?_
   all_goals (refine G2 ?_;refine WL.step (aF (vs:=[_]) (cs:=[_,_,_,_,_,_,_,_,_,_,_]) (fun | [a0]=>[a0,(.int .u8 0),(St []),(St []),(St []),(.int .i64 0),(.int .i64 0),(.slice none 0 0),(.slice none 0 0),(.slice none 0 0),(.slice none 0 0)] | _=>[]) rfl rfl (by kernel_rfl)) rfl rfl rfl ?_;refine WL.aj (au (vs:=[_]) (cs:=[_,_,_,_,_,_,_,_,_,_,_]) (fun | [.agg ⟨[a0,a1,a2,a3,a4,a5,a6,a7,a8,a9,gY]⟩]=>[a0,a1,a2,a3,a4,a5,a6,a7,a8,a9,gY] | _=>[]) Tryz.underlying80 rfl rfl (by kernel_rfl)) rfl rfl rfl ?_;rintro _ h3 ⟨b3,rfl,gl,bq,aQ⟩;have dN:=ho.aq aQ;refine WL.aj (aT (sz:=11) (bytes:=168) rfl Tryz.underlying80 (show Tryz.prog.info? 140=some Tryz.t140 by kernel_rfl) rfl rfl rfl rfl (by decide) rfl rfl dN.own (bx bq (len:=1) rfl) (hU h3 115 0 []).one (by simp only [maxLen];omega) (by omega)) rfl rfl rfl ?_;rintro v4 h4 ⟨fP,aW,rD⟩;have O4:=dN.snoc (b:=kL 115 0 []) (hU _ _ _ _) (fun z hz=>(iN hz).elim) (fun z hz=>(iN hz).elim) (by have:=hx.size;have:=aQ.size;omega) fP aW rD;refine Go ?_;refine Gs [(4,_)] ?_;refine Gt ?_)
   all_goals (
    obtain rfl:k=L.length:=by omega
    rw [List.take_length] at hp
    refine ⟨_,O4,by rw [List.map_append,hp];simp [cQ,Bk.p,kL,Function.comp_def],?_⟩
    first
     | exact (hx.trans aQ).trans' aW (fun q hq e=>by have:=ho.vf q e;omega)
     | exact ((hx.trans aI).trans aQ).trans' aW (fun q hq e=>by have:=ho.vf q e;omega))
   skip)
   all_goals (refine aw 4 ?_;refine WC.skip ?_;refine Gn ?_;refine G2 ?_;refine WL.call (vs:=[_]) rfl Tryz.call263 rfl (zE (L.length:Int) (by omega) (by omega)) rfl rfl rfl ?_;rintro _ h2 ⟨rfl,aI⟩;refine WL.step (aF (vs:=[_,_]) (cs:=[_,_,_,_,_,_,_,_,_,_,_]) (fun | [a0,a2]=>[a0,(.int .u8 0),a2,(St []),(St []),(.int .i64 0),(.int .i64 0),(.slice none 0 0),(.slice none 0 0),(.slice none 0 0),(.slice none 0 0)] | _=>[]) rfl rfl (by kernel_rfl)) rfl rfl rfl ?_;refine WL.aj (au (vs:=[_]) (cs:=[_,_,_,_,_,_,_,_,_,_,_]) (fun | [.agg ⟨[a0,a1,a2,a3,a4,a5,a6,a7,a8,a9,gY]⟩]=>[a0,a1,a2,a3,a4,a5,a6,a7,a8,a9,gY] | _=>[]) Tryz.underlying80 rfl rfl (by kernel_rfl)) rfl rfl rfl ?_;rintro _ h3 ⟨b3,rfl,gl,bq,aQ⟩;have dN:=(ho.aq aI).aq aQ;refine WL.aj (aT (sz:=11) (bytes:=168) rfl Tryz.underlying80 (show Tryz.prog.info? 140=some Tryz.t140 by kernel_rfl) rfl rfl rfl rfl (by decide) rfl rfl dN.own (bx bq (len:=1) rfl) (hU h3 67 0 (wY L.length)).one (by simp only [maxLen];omega) (by omega)) rfl rfl rfl ?_;rintro v4 h4 ⟨fP,aW,rD⟩;have O4:=dN.snoc (b:=kL 67 0 (wY L.length)) (hU _ _ _ _) (fun z hz=>(iN hz).elim) (fun z hz=>(iN hz).elim) (by have:=hx.size;have:=aI.size;have:=aQ.size;omega) fP aW rD;refine Go ?_;refine Gs [(4,_)] ?_;refine Gt ?_)
   all_goals (
    obtain rfl:k=L.length:=by omega
    rw [List.take_length] at hp
    refine ⟨_,O4,by rw [List.map_append,hp];simp [cQ,Bk.p,kL,Function.comp_def],?_⟩
    first
     | exact (hx.trans aQ).trans' aW (fun q hq e=>by have:=ho.vf q e;omega)
     | exact ((hx.trans aI).trans aQ).trans' aW (fun q hq e=>by have:=ho.vf q e;omega))
section
variable {h h':ah} {A:Ad} {st:Int} {sk ov:Bool} {cnt:Int} {L:List (List UInt8 × gy)} {P:List (List UInt8 × ee)}
theorem qg (k:Ss h A st sk ov cnt L P):ag Tryz.prog 145 ⟨[.pointer (some ⟨A.bp,0,none⟩)]⟩ h fun u h'=>u=.tuple ⟨[]⟩∧Ss h' A st sk ov cnt L []∧Tn A P h h' []∧Ext (fun q=>q=A.mp) h h' :=
 (B7 k.se.pb k.se.pm).mono fun u h' ⟨e,hm,hx⟩=>⟨e,(k.cG (P':=[]) hx hm (fun q hq=>nomatch hq)).1,(k.cG (P':=[]) hx hm (fun q hq=>nomatch hq)).2,hx⟩
theorem sn {g:ah} {q:Nat} {tag:List UInt8} {P':List (List UInt8 × ee)} {st':Int} {s:SP} {h1:ah} (k1:Ss h1 A st' sk ov cnt L P') (T1:Tn A P h h1 P') (hx:Ext No h1 g) (hq:g[q]?=some (.cells ⟨Ff 67 0 tag⟩ 140 (0,0))) (hg:h1.size≤q) (hs:s=ck st' sk ov cnt L P') (hP:∀ q∈P',q∈P) :
   eT h A L P (s,[{ kind:=67,tag:=tag }],none) (.tuple ⟨[.slice (some ⟨q,0,none⟩) 1 1,fM none]⟩) g:=by
 subst hs
 exact ⟨_,[kL 67 0 tag],(fun e=>absurd rfl e),rfl,.tag hq (by have:=T1.1.size;omega),rfl,_,_,fun _ h=>h,hP,k1.aq hx,rfl,rfl,T1.trans (Tn.no hx)⟩
theorem zN (k:Ss h A st sk ov cnt L P) (v:fR):ag Tryz.prog 220 ⟨[.pointer (some ⟨A.bs,0,none⟩),.agg ⟨v.cells⟩]⟩ h (eT h A L P (cG (ck st sk ov cnt L P) v)):=by
 have kn:=fun h'=>zp (h:=h') k.sto v
 have ke:=fun h'=>mw (h:=h') v
 have lb:=ai k.se.bm
 unfold fR.cells mh at *
 rcases (show v.k = 1 ∧ cG (ck st sk ov cnt L P) v = (ck st sk ov cnt L P, [{ kind := 73 }], none) ∨ v.k ≠ 1 ∧ v.k = 8 ∧ cG (ck st sk ov cnt L P) v = (ck st sk ov cnt L P, [], some (v.c, ([102, 97, 105, 108, 101, 100, 32, 111, 110, 32, 112, 117, 114, 112, 111, 115, 101] : List UInt8)))
     ∨ v.k ≠ 1∧v.k ≠ 8∧cG (ck st sk ov cnt L P) v=(ck (eV st v).1 sk ov cnt L (if cx v=true then [] else P),[{ kind:=67,tag:=(eV st v).2 }],none) by
   unfold cG
   by_cases e1:v.k=1
   · exact .inl ⟨e1,if_pos e1⟩
   · by_cases e2:v.k=8
     · exact .inr (.inl ⟨e1,e2,by rw [if_neg e1,if_pos e2]⟩)
     · refine .inr (.inr ⟨e1,e2,?_⟩)
       rw [if_neg e1,if_neg e2]
       simp only [ck]
       cases cx v <;> rfl) with ⟨e1,e⟩ | ⟨e1,e2,e⟩ | ⟨e1,e2,e⟩
 · rw [e]
   refine calls [(0,_),(1,_)] Tryz.func220 rfl Tryz.ntmps220 rfl ⟨rfl,rfl,trivial⟩ ?_
   refine WC.sr ?_;refine WL.aj (aG rfl) rfl rfl rfl ?_
   rintro _ h1 ⟨b3,rfl,bR,aR,az⟩
   refine Go ?_;refine G3 ?_;refine WL.ld rfl (by first | exact aa aR rfl | assumption) rfl rfl rfl ?_
   refine Gn ?_;refine Gs [(0,_),(3,_),(8,_)] ?_;refine WC.block ?_;refine G2 ?_
   refine aH 1 2 ?_ TT.mk
   all_goals (refine aw 1 ?_)
   refine WC.sr ?_;refine WL.call (vs:=[_]) rfl Tryz.call207 rfl (gZ 73) rfl rfl rfl ?_
   rintro _ h6 ⟨q,rfl,Cw,hgq,aN⟩
   refine Go ?_;refine Gs [(4,_),(5,_)] ?_;refine Gt ?_
   exact ⟨_,[kL 73 0 []],(fun e=>absurd rfl e),rfl,.tag Cw (by have:=az.size;omega),rfl,_,_,fun _ h=>h,fun _ h=>h,(k.aq az).aq aN,rfl,rfl,Tn.no (az.trans aN)⟩
 · rw [e]
   refine calls [(0,_),(1,_)] Tryz.func220 rfl Tryz.ntmps220 rfl ⟨rfl,rfl,trivial⟩ ?_
   refine WC.sr ?_;refine WL.aj (aG rfl) rfl rfl rfl ?_
   rintro _ h1 ⟨b3,rfl,bR,aR,az⟩
   refine Go ?_;refine G3 ?_;refine WL.ld rfl (by first | exact aa aR rfl | assumption) rfl rfl rfl ?_
   refine Gn ?_;refine Gs [(0,_),(3,_),(8,_)] ?_;refine WC.block ?_;refine G2 ?_
   refine aH 1 2 ?_ TT.mk
   all_goals (refine aw 2 ?_)
   refine G2 ?_;refine Gs [(0,_),(3,_),(12,_)] ?_
   refine aH 3 4 ?_ TT.mk
   all_goals (refine aw 3 ?_)
   refine G2 ?_;refine WL.ld rfl (by first | exact aa aR rfl | assumption) rfl rfl rfl ?_
   refine WL.call (vs:=[_,_]) rfl Tryz.call204 rfl (hG _ _) rfl rfl rfl ?_
   rintro _ hq ⟨rfl,hz⟩
   replace hz:=hz.symm
   subst hz
   refine Go ?_;refine Gs [(4,_),(5,_)] ?_;refine Gt ?_
   exact ⟨_,[],fun _=>rfl,rfl,cz.nil _ _,rfl,_,_,fun _ h=>h,fun _ h=>h,k.aq az,rfl,rfl,Tn.no az⟩
 · rw [e]
   clear e
   cases hex:cx v
   all_goals
     rw [hex] at ke
     refine calls [(0,_),(1,_)] Tryz.func220 rfl Tryz.ntmps220 rfl ⟨rfl,rfl,trivial⟩ ?_
     all_goals (refine WC.sr ?_;refine WL.aj (aG rfl) rfl rfl rfl ?_;rintro _ h1 ⟨b3,rfl,bR,aR,az⟩;have k1:=k.aq az;have hb:=k1.se.bm;(have n3:¬ b3=A.bs:=by omega);refine Go ?_;refine G3 ?_;refine WL.ld rfl (by first | exact aa aR rfl | assumption) rfl rfl rfl ?_;refine Gn ?_;refine Gs [(0,_),(3,_),(8,_)] ?_;refine WC.block ?_;refine G2 ?_;refine aH 1 2 ?_ TT.mk;refine aw 2 ?_;refine G2 ?_;refine Gs [(0,_),(3,_),(12,_)] ?_;refine aH 3 4 ?_ TT.mk;refine aw 4 ?_;refine WC.skip ?_;refine Gn ?_;refine G2 ?_;refine WC.seq ?_;refine WC.bW (fun h'=>Ext (fun q=>q=A.bs) h1 h') 14 14 rfl dm ?_;refine WH.tk 0 rfl (fun hq hC=>ak rfl) rfl rfl rfl ?_;refine WH.tk 1 rfl (fun hq hC=>ak rfl) rfl rfl rfl ?_;refine WH.tk 2 rfl (fun hq hC=>ae rfl) rfl rfl rfl ?_;refine WH.tk 3 rfl (fun hq hC=>ad rfl Tryz.underlying153 rfl Tryz.sizeOf5) rfl rfl rfl ?_;refine WH.tk 5 rfl (fun hq hC=>ay Tryz.isAgg278 Tryz.sizeOf278 rfl rfl (by exact (At.av aR).ext hC n3)) rfl rfl rfl ?_;refine WH.one 4 (by kernel_rfl) ?_;refine aC.run rfl (bN.r (aA Tryz.isAgg5 rfl (by first | exact aa hb rfl | assumption))) rfl rfl rfl ?_ (fun _=>by kernel_rfl);rintro _ hz ⟨rfl,_⟩;subst hz;refine ⟨fun _=>.refl _ _,?_⟩;refine WH.one 6 (by kernel_rfl) ?_;refine aC.call (vs:=[_,_]) rfl rfl Tryz.call264 rfl (kn _) rfl rfl rfl ?_ (fun _=>by kernel_rfl);rintro _ h2 ⟨rfl,aI⟩;refine ⟨fun _=>aI.mono fun _ _ e=>e.elim,?_⟩;(have Ly:Ext (fun q=>q=A.bs) h1 h2:=aI.mono fun _ _ e=>e.elim);have J1:=aI.obj hb aO;refine WH.tk 7 rfl (fun hq hC=>ak rfl) rfl rfl rfl ?_;refine WH.tk 8 rfl (fun hq hC=>bP rfl rfl) rfl rfl rfl ?_;refine WH.tk 9 rfl (fun hq hC=>bP rfl rfl) rfl rfl rfl ?_;refine WH.tk 10 rfl (fun hq hC=>ae rfl) rfl rfl rfl ?_;refine WH.tk 11 rfl (fun hq hC=>ad rfl Tryz.underlying153 rfl Tryz.sizeOf5) rfl rfl rfl ?_;refine WH.one 12 (by kernel_rfl) ?_;refine aC.cO rfl (aB Tryz.sizeOf5 rfl rfl J1 (Nat.le_of_ble_eq_true rfl) rfl rfl) rfl rfl ?_ (fun _=>by kernel_rfl);rintro _ h3 ⟨bq,aQ⟩;refine ⟨fun _=>Ly.trans aQ,?_⟩;have Hu:=Ly.trans aQ;obtain ⟨k3,t3⟩:=(k1.aq aI).js aQ bq (r6 k.sto v);have T3:=(Tn.no (A:=A) (P:=P) (az.trans aI)).trans t3;refine WH.tk 13 rfl (fun hq hC=>aP rfl) rfl rfl rfl ?_;refine WH.done (by kernel_rfl) ?_;refine Gn ?_;refine Gs [(0,_),(3,_),(6,_)] ?_;refine WC.seq ?_;refine WC.sr ?_;refine WL.step (ay Tryz.isAgg278 Tryz.sizeOf278 rfl rfl (by exact (At.av aR).ext Hu n3)) rfl rfl rfl ?_;refine WL.call (vs:=[_]) rfl Tryz.call265 rfl (ke _) rfl rfl rfl ?_;rintro _ h4 ⟨rfl,aW⟩;have k4:=k3.aq aW;have T4:=T3.trans (Tn.no (A:=A) (P:=P) aW))
     all_goals (refine Gn ?_;refine aH 5 6 ?_ TT.mk)
     all_goals try (
     refine aw 5 ?_
     all_goals (refine WC.region (Go ?_);refine WL.step (ae rfl) rfl rfl rfl (Go ?_);refine WL.ld rfl (by first | exact aa k4.se.bm rfl | assumption) rfl rfl rfl ?_;refine WL.call (vs:=[_]) rfl Tryz.call145 rfl (qg k4) rfl rfl rfl ?_;rintro _ h5 ⟨rfl,k5,t5,aM⟩;have T5:=T4.trans t5;refine Gn ?_)
     skip)
     all_goals try (
     refine aw 6 ?_
     all_goals (refine WC.skip ?_)
     skip)
     all_goals (refine Gn ?_;refine Gs [(6,_)] ?_;refine G2 ?_;refine WL.step (aF (vs:=[_,_]) (cs:=[_,_,_,_,_,_,_,_,_,_,_]) (fun | [a0,a2]=>[a0,(.int .u8 0),a2,(St []),(St []),(.int .i64 0),(.int .i64 0),(.slice none 0 0),(.slice none 0 0),(.slice none 0 0),(.slice none 0 0)] | _=>[]) rfl rfl (by kernel_rfl)) rfl rfl rfl ?_;refine WL.aj (au (vs:=[_]) (cs:=[_,_,_,_,_,_,_,_,_,_,_]) (fun | [.agg ⟨[a0,a1,a2,a3,a4,a5,a6,a7,a8,a9,gY]⟩]=>[a0,a1,a2,a3,a4,a5,a6,a7,a8,a9,gY] | _=>[]) Tryz.underlying80 rfl rfl (by kernel_rfl)) rfl rfl rfl ?_;rintro _ h6 ⟨b6,rfl,qQ,bX,aN⟩;refine Go ?_;refine Gs [(4,_),(5,_)] ?_;refine Gt ?_)
     all_goals (
      first
       | exact sn k4 T4 aN bX qQ rfl (fun _ h=>h)
       | exact sn k5 T5 aN bX qQ rfl (fun _ h=>nomatch h))
theorem Fx (k:Ss h A st sk ov cnt L P) (f:Fm) (hf:f.ok h):ag Tryz.prog 150 ⟨[.pointer (some ⟨A.bs,0,none⟩),.agg ⟨f.cells⟩]⟩ h (cj h A P (gF (ck st sk ov cnt L P) f.p)):=by
 have I7:=fun (e:f.what=83)=>show gF (ck st sk ov cnt L P) f.p=_ from if_pos e
 have JX:=fun (e:¬ f.what=83)=>show gF (ck st sk ov cnt L P) f.p=_ from if_neg e
 obtain ⟨⟨e1,_⟩,⟨e2,_⟩,⟨e3,_⟩,e4,_⟩:=hf
 obtain ⟨fk,w,n,p,t,vo,o,vf,fs,vs,rs,vp,ps,mx⟩:=f
 dsimp only at e1 e2 e3 e4
 obtain ⟨A1,c1,rfl,_⟩:=e1
 obtain ⟨_,_,rfl,_⟩:=e2
 obtain ⟨_,_,rfl,_⟩:=e3
 obtain ⟨A4,c4,rfl,_⟩:=e4
 by_cases hw:w=83
 · rw [I7 hw]
   dsimp only [Fm.cells,Fm.p]
   refine calls [(0,_),(1,_)] Tryz.func150 rfl Tryz.ntmps150 rfl ⟨rfl,rfl,trivial⟩ ?_
   refine WC.sr ?_;refine WL.aj (aG rfl) rfl rfl rfl ?_
   rintro _ h1 ⟨b3,rfl,bR,aR,az⟩
   have k1:=k.aq az
   have hb:=k1.se.bm
   have hms:=k1.se.stm
   refine Go ?_;refine G3 ?_;refine WL.ld rfl (by first | exact aa aR rfl | assumption) rfl rfl rfl (Go ?_)
   refine Gs [(0,_),(3,_),(8,_)] ?_
   refine aH 1 2 ?_ TT.mk
   all_goals (refine aw 1 ?_)
   refine WC.jl 6 dm (by kernel_rfl) ?_
   show WS _ _ _ [_,_,_,_,_,_] _ _ _
   refine WS.step (ak rfl) rfl rfl rfl ?_;refine WS.step (ae rfl) rfl rfl rfl ?_;refine WS.step (ad rfl Tryz.underlying153 rfl Tryz.sizeOf149) rfl rfl rfl ?_;refine WS.step (aA Tryz.isAgg149 rfl (by first | exact aa hb rfl | assumption)) rfl rfl rfl ?_
   refine WS.step (ad rfl Tryz.underlying42 rfl Tryz.sizeOf9) rfl rfl rfl ?_;refine WS.step (aA Tryz.isAgg9 rfl (by first | exact aa aR rfl | assumption)) rfl rfl rfl ?_
   refine WS.nil ?_
   show WL _ _ _ [_] _ _ _
   refine WL.ax (fo rfl fB Tryz.underlying149 Tryz.underlying9 rfl rfl hms) rfl rfl ?_
   rintro _ h2 ⟨oZ,aI⟩
   rw [ez] at oZ
   obtain ⟨k2,t2⟩:=k1.nj aI oZ (fun q hq=>.inl (cB hq).1)
   have T2:=(Tn.no (A:=A) (P:=P) az).trans t2
   refine WL.nil ?_;refine Gn ?_;refine WC.sr ?_;refine WL.call (vs:=[_]) rfl Tryz.call207 rfl (gZ 51) rfl rfl rfl ?_
   rintro _ h6 ⟨q,rfl,Cw,hgq,aN⟩
   refine Go ?_;refine Gs [(4,_),(5,_)] ?_;refine Gt ?_
   exact ⟨_,[kL 51 0 []],(fun e=>absurd rfl e),rfl,.tag Cw (by have:=T2.1.size;omega),rfl,_,_,k2.aq aN,kA _ _,rfl,T2.trans (Tn.no aN)⟩
 · rw [JX hw]
   dsimp only [Fm.cells,Fm.p]
   rcases hg:bG P p with _ | i
   · have hlk:cT (eS vA P) p=none:=by rw [cN,hg];rfl
     have hde:cb P p=P:=List.filter_eq_self.2 fun q hq=>by simpa using my hg q hq
     have kd:=fun (g:ah) (k:Ss g A st sk ov cnt L P)=>yM p k.se.pb k.se.pm hlk
     refine calls [(0,_),(1,_)] Tryz.func150 rfl Tryz.ntmps150 rfl ⟨rfl,rfl,trivial⟩ ?_
     refine WC.sr ?_;refine WL.aj (aG rfl) rfl rfl rfl ?_
     rintro _ h1 ⟨b3,rfl,bR,aR,az⟩
     have k1:=k.aq az
     have hb:=k1.se.bm
     refine Go ?_;refine G3 ?_;refine WL.ld rfl (by first | exact aa aR rfl | assumption) rfl rfl rfl (Go ?_)
     refine Gs [(0,_),(3,_),(8,_)] ?_
     refine aH 1 2 ?_ TT.mk
     all_goals (refine aw 2 ?_)
     refine WC.jl 6 dm (by kernel_rfl) ?_
     show WS _ _ _ [_,_,_,_,_,_] _ _ _
     refine WS.step (ak rfl) rfl rfl rfl ?_;refine WS.step (ae rfl) rfl rfl rfl ?_;refine WS.step (ad rfl Tryz.underlying153 rfl Tryz.sizeOf150) rfl rfl rfl ?_;refine WS.step (aA Tryz.isAgg150 rfl (by first | exact aa hb rfl | assumption)) rfl rfl rfl ?_
     refine WS.step (ad rfl Tryz.underlying42 rfl Tryz.sizeOf9) rfl rfl rfl ?_;refine WS.step (aA Tryz.isAgg9 rfl (by first | exact aa aR rfl | assumption)) rfl rfl rfl ?_
     refine WS.nil ?_
     show WL _ _ _ [_] _ _ _
     refine WL.call (vs:=[_,_]) rfl Tryz.call221 rfl (kd _ k1) rfl rfl rfl ?_
     rintro _ hq ⟨rfl,hz⟩
     replace hz:=hz.symm
     subst hz
     refine WL.nil ?_;refine Gn ?_;refine WC.sr ?_;refine WL.call (vs:=[_]) rfl Tryz.call207 rfl (gZ 51) rfl rfl rfl ?_
     rintro _ h6 ⟨q,rfl,Cw,hgq,aN⟩
     refine Go ?_;refine Gs [(4,_),(5,_)] ?_;refine Gt ?_
     exact ⟨_,[kL 51 0 []],(fun e=>absurd rfl e),rfl,.tag Cw (by have:=az.size;omega),rfl,_,_,k1.aq aN,rfl,(congrArg fN hde).symm.trans (mC _ _),Tn.no (az.trans aN)⟩
   · have kd:=fun (g:ah) (k:Ss g A st sk ov cnt L P)=>DG (k.pe hg)
     refine calls [(0,_),(1,_)] Tryz.func150 rfl Tryz.ntmps150 rfl ⟨rfl,rfl,trivial⟩ ?_
     refine WC.sr ?_;refine WL.aj (aG rfl) rfl rfl rfl ?_
     rintro _ h1 ⟨b3,rfl,bR,aR,az⟩
     have k1:=k.aq az
     have hb:=k1.se.bm
     refine Go ?_;refine G3 ?_;refine WL.ld rfl (by first | exact aa aR rfl | assumption) rfl rfl rfl (Go ?_)
     refine Gs [(0,_),(3,_),(8,_)] ?_
     refine aH 1 2 ?_ TT.mk
     all_goals (refine aw 2 ?_)
     refine WC.jl 6 dm (by kernel_rfl) ?_
     show WS _ _ _ [_,_,_,_,_,_] _ _ _
     refine WS.step (ak rfl) rfl rfl rfl ?_;refine WS.step (ae rfl) rfl rfl rfl ?_;refine WS.step (ad rfl Tryz.underlying153 rfl Tryz.sizeOf150) rfl rfl rfl ?_;refine WS.step (aA Tryz.isAgg150 rfl (by first | exact aa hb rfl | assumption)) rfl rfl rfl ?_
     refine WS.step (ad rfl Tryz.underlying42 rfl Tryz.sizeOf9) rfl rfl rfl ?_;refine WS.step (aA Tryz.isAgg9 rfl (by first | exact aa aR rfl | assumption)) rfl rfl rfl ?_
     refine WS.nil ?_
     show WL _ _ _ [_] _ _ _
     refine WL.call (vs:=[_,_]) rfl Tryz.call221 rfl (kd _ k1) rfl rfl rfl ?_
     rintro _ h2 ⟨rfl,oZ,aI⟩
     rw [ez] at oZ
     obtain ⟨k2,t2⟩:=k1.cG aI oZ (fun q hq=>(cB hq).1)
     have T2:=(Tn.no (A:=A) (P:=P) az).trans t2
     refine WL.nil ?_;refine Gn ?_;refine WC.sr ?_;refine WL.call (vs:=[_]) rfl Tryz.call207 rfl (gZ 51) rfl rfl rfl ?_
     rintro _ h6 ⟨q,rfl,Cw,hgq,aN⟩
     refine Go ?_;refine Gs [(4,_),(5,_)] ?_;refine Gt ?_
     exact ⟨_,[kL 51 0 []],(fun e=>absurd rfl e),rfl,.tag Cw (by have:=T2.1.size;omega),rfl,_,_,k2.aq aN,rfl,mC _ _,T2.trans (Tn.no aN)⟩
theorem so (k:Ss h A st sk ov cnt L P):ag Tryz.prog 100 ⟨[.pointer (some ⟨A.bs,0,none⟩)]⟩ h fun u h'=>u=.agg ⟨Ff 90 st []⟩∧Ss h' A st sk ov cnt L (if st=73 then [] else P)∧Tn A P h h' (if st=73 then [] else P)∧Ext (fun q=>q=A.mp) h h':=by
 have hb:=k.se.bm
 by_cases e:st=73
 · rw [if_pos e]
   refine calls [(0,_)] Tryz.func100 rfl Tryz.ntmps100 rfl ⟨rfl,trivial⟩ ?_
   refine WC.sr ?_;refine WL.aj (an (fun w=>Tryz.zeroValue140 w)) rfl rfl rfl ?_
   rintro _ h1 ⟨b2,rfl,bR,bH,az⟩
   have k1:=k.aq az
   have l2:=ai bH
   refine Gn ?_;refine G3 ?_;refine WL.step (ae rfl) rfl rfl rfl (Go ?_);refine WL.ld rfl (by first | exact aa k1.se.bm rfl | assumption) rfl rfl rfl (Go ?_)
   refine Gs [(0,_),(2,_),(7,_)] ?_
   refine aH 1 2 ?_ TT.mk
   all_goals (refine aw 1 ?_)
   refine WC.region (Go ?_);refine WL.step (ae rfl) rfl rfl rfl (Go ?_);refine WL.ld rfl (by first | exact aa k1.se.bm rfl | assumption) rfl rfl rfl ?_
   refine WL.call (vs:=[_]) rfl Tryz.call145 rfl (qg k1) rfl rfl rfl ?_
   rintro _ h2 ⟨rfl,k2,t2,aI⟩
   have HM:=t2.1.obj bH (k1.not bH (by decide) (by decide) (by decide))
   refine Gn ?_;refine Gn ?_;refine G2 ?_;refine WL.step (ae rfl) rfl rfl rfl (Go ?_);refine WL.ld rfl (by first | exact aa k2.se.bm rfl | assumption) rfl rfl rfl ?_
   refine WL.step (aF (vs:=[_,_]) (cs:=[_,_,_,_,_,_,_,_,_,_,_]) (fun | [a0,a1]=>[a0,a1,(St []),(St []),(St []),(.int .i64 0),(.int .i64 0),(.slice none 0 0),(.slice none 0 0),(.slice none 0 0),(.slice none 0 0)] | _=>[]) rfl rfl (by kernel_rfl)) rfl rfl rfl ?_
   refine WL.ax (al Tryz.sizeOf140 rfl rfl rfl HM rfl (by simp [Value.oneCell'])) rfl rfl ?_
   rintro _ h3 ⟨bq,aQ⟩
   refine Gn ?_;refine Gs [(2,_)] ?_;refine WC.ret ?_
   repeat' (with_reducible first | refine aZ ?_ | refine aV ?_)
   refine cm _ ⟨⟨_,rfl,bB Tryz.isAgg140 Tryz.sizeOf140 bq rfl⟩,trivial⟩ ?_
   have X3:Ext (fun q=>q=A.mp) h h3:=((az.mono fun _ _ e=>e.elim).trans aI).trans' aQ (fun q hq e=>by omega)
   have kk:=k.cG (P':=[]) X3 (k2.se.pm.ext aQ (fun e=>dX k2.se.pm HM e.symm)) (fun q hq=>nomatch hq)
   exact ⟨rfl,kk.1,kk.2,X3⟩
 · rw [if_neg e]
   refine calls [(0,_)] Tryz.func100 rfl Tryz.ntmps100 rfl ⟨rfl,trivial⟩ ?_
   refine WC.sr ?_;refine WL.aj (an (fun w=>Tryz.zeroValue140 w)) rfl rfl rfl ?_
   rintro _ h1 ⟨b2,rfl,bR,bH,az⟩
   have k1:=k.aq az
   refine Gn ?_;refine G3 ?_;refine WL.step (ae rfl) rfl rfl rfl (Go ?_);refine WL.ld rfl (by first | exact aa k1.se.bm rfl | assumption) rfl rfl rfl (Go ?_)
   refine Gs [(0,_),(2,_),(7,_)] ?_
   refine aH 1 2 ?_ TT.mk
   all_goals (refine aw 2 ?_)
   refine WC.skip ?_;refine Gn ?_;refine G2 ?_;refine WL.step (ae rfl) rfl rfl rfl (Go ?_);refine WL.ld rfl (by first | exact aa k1.se.bm rfl | assumption) rfl rfl rfl ?_
   refine WL.step (aF (vs:=[_,_]) (cs:=[_,_,_,_,_,_,_,_,_,_,_]) (fun | [a0,a1]=>[a0,a1,(St []),(St []),(St []),(.int .i64 0),(.int .i64 0),(.slice none 0 0),(.slice none 0 0),(.slice none 0 0),(.slice none 0 0)] | _=>[]) rfl rfl (by kernel_rfl)) rfl rfl rfl ?_
   refine WL.ax (al Tryz.sizeOf140 rfl rfl rfl bH rfl (by simp [Value.oneCell'])) rfl rfl ?_
   rintro _ h3 ⟨bq,aQ⟩
   refine Gn ?_;refine Gs [(2,_)] ?_;refine WC.ret ?_
   repeat' (with_reducible first | refine aZ ?_ | refine aV ?_)
   refine cm _ ⟨⟨_,rfl,bB Tryz.isAgg140 Tryz.sizeOf140 bq rfl⟩,trivial⟩ ?_
   have X3:Ext No h h3:=az.trans' aQ (fun q hq e=>by omega)
   exact ⟨rfl,k.aq X3,Tn.no X3,X3.mono fun _ _ e=>e.elim⟩
theorem Cz (k:Ss h A st sk ov cnt L P):ag Tryz.prog 100 ⟨[.pointer (some ⟨A.bs,0,none⟩)]⟩ h fun u h'=>u=.agg ⟨Ff 90 st []⟩∧Sv h A P h' (dY (ck st sk ov cnt L P)).1∧Ext (fun q=>q=A.mp) h h' :=
 (so k).mono fun u h' ⟨e,kk,tt,x⟩=>⟨e,⟨L,_,kk,rfl,by by_cases e:st=73 <;> simp [dY,ck,e,fN],tt⟩,x⟩
end
end Go.Proofs.YtopgddfgefnmbaaGreatDoor
namespace Go.RK
open Go
section
variable {P:Program} {f:Fr} {h:ah} {d:Option Tmp} {ty:TypeId} {pos:String} {af:Array Edge} {g:Option (Nat × Bool)}
theorem sq {k:FuncId} {x y:Operand} {a b:Value} {ts:Array TypeId} {R:Value→ah→Prop} (hc:∀ w:World,w.heap=h→∃ u w',eo w w'∧R u w'.heap∧(callFunc k #[a,b]).run P w=.ok (.value u) w') (hx:f.ev x=some a) (hy:f.ev y=some b) :
   eG P f ⟨d,.call { callee:=.value (.func k),args:=#[x,y],argTypes:=ts },ty,pos,af,g⟩ h R :=
 fun ρ w ha hw=>by
   have e:ρ (.func k)=.func (.func k) #[] #[]:=ha _ _ rfl
   obtain ⟨u,w',hs,hR,hr⟩:=hc w hw
   exact ⟨u,w',hs,hR,.inl (by simp [execOp,resolve,Deferred.ofValue,invoke,e,ha _ _ hx,ha _ _ hy,hr])⟩
theorem um {w:World} {b o:Nat} {cs:List Value} {e:TypeId} {n m:Int} (hb:w.heap[b]?=some (.cells ⟨cs⟩ e (0,0))) (ho:cs[o]?=some (In n)) (h0 : -9223372036854775808≤n+m) (h1:n+m≤9223372036854775807) :
   ∃ w',(Extern.Atomic.update (Op.intArith .add) .i64 true #[.pointer (some ⟨b,o,Option.none⟩),In m]).run P w=.ok (In (n+m)) w'∧eo w w'∧w'.heap=w.heap.setIfInBounds b (.cells ⟨cs.set o (In (n+m))⟩ e (0,0)):=by
 have hlt:o < cs.length:=(List.getElem?_eq_some_iff.1 ho).1
 obtain ⟨w',hr,hs,hh⟩:=eN (P:=P) (v:=In (n+m)) hb (o:=o) (by simpa using hlt) rfl
 have hc:w.cell? ⟨b,o,Option.none⟩=some (In n):=by
   simp only [World.cell?,hb]
   simpa using ho
 have qO:(store ⟨b,o,Option.none⟩ (In (n+m)) .atomic).run P w=.ok () w':=by
   rw [run_store P w _ _ _ rfl] at hr ⊢
   simp only [hc] at hr ⊢
   exact hr
 refine ⟨w',?_,hs,by rw [hh];simp⟩
 have hl:(load ⟨b,o,Option.none⟩ .atomic).run P w=.ok (In n) w:=by
   unfold load
   simp [Sem.run,hc]
 have hw:IntKind.i64.wrap (n+m)=n+m:=by
   simp [IntKind.wrap,IntKind.bits,IntKind.signed]
   omega
 have hrd:(Extern.Atomic.read (.int .i64) ⟨b,o,Option.none⟩).run P w=.ok (In n) w:=by
   simp only [Extern.Atomic.read,Sem.run_bind,hl,Result.andThen]
   rfl
 have hu:Extern.Atomic.update (Op.intArith .add) .i64 true #[.pointer (some ⟨b,o,Option.none⟩),In m]=(do
   let a ← asAddr (.pointer (some ⟨b,o,Option.none⟩))
   let old ← Extern.Atomic.read (.int .i64) a
   let new ← Op.intArith .add .i64 (← asInt old) (← asInt (In m))
   store a new .atomic
   pure new):=rfl
 rw [hu]
 have hi:∀ (q:Int) (w:World),(asIntOf (In q)).run P w=.ok (IntKind.i64,q) w:=fun _ _=>rfl
 simp [asAddr,asInt,hi,hrd,Op.intArith,qO,hw,Result.andThen]
end
end Go.RK
namespace Go.Proofs.YtopgddfgefnmbaaGreatDoor
open Go Go.RK
theorem CA {h:ah} {v:Value} (l:List aX) (hc:cF h v l) :
   ag Tryz.prog 260 ⟨[v]⟩ h fun u h'=>∃ l',cF h' u l'∧l'.map aX.pl=l.map aX.pl∧Ext No h h'∧∀ b,du u l' b→h.size≤b:=by
 obtain ⟨hr,⟨hlm,A,c,rfl,hcap⟩,hok⟩:=hc
 have hlm':=hlm
 unfold reachBytes at hlm'
 have h1:=rK hok
 by_cases h0:l=[]
 · subst h0
   refine calls [(0,_)] Tryz.func260 rfl Tryz.ntmps260 rfl ⟨rfl,trivial⟩ ?_
   refine G2 ?_;refine G2 ?_;refine WL.call (vs:=[_]) rfl Tryz.call294 rfl (fY hr h1 hlm) rfl rfl rfl ?_
   rintro v2 h2 ⟨dc,aI,eI⟩
   obtain ⟨A2,c2,rfl,kJ⟩:=dc.Ek
   refine Go ?_;refine Gs [(3,_)] ?_;refine G3 ?_;refine WC.block ?_;refine WC.bD (X:=Unit) (fun x=>([(9,In (0:Int))]:Fr)) [(3,_),(8,_)] (fun _ h'=>h'=h2) (fun _=>0) (()) ⟨rfl,rfl,rfl,trivial⟩ (by exact rfl) ?_
   rintro _ h9 hz
   subst h9
   refine WC.sub [(9,_),(3,_),(8,_)] ⟨rfl,rfl,rfl,trivial⟩ ?_;refine G2 ?_;refine WC.seq ?_
   refine aH 1 2 ?_ TT.mk
   all_goals (refine aw 2 ?_)
   refine WC.exit ?_
   repeat' (with_reducible first | refine aU ?_ | refine aD rfl ?_ | refine aJ ?_ | refine aL ?_ | refine aS ?_)
   refine Br.out (i:=1000) ?_;refine Gn ?_;refine Br.ab ?_;refine Br.ab ?_;refine Br.ab ?_;refine Go ?_;refine Br.ab ?_;refine Go ?_;refine Br.ab ?_;refine Go ?_;refine Br.ab ?_;refine Br.ab ?_;refine Br.ab ?_;refine Go ?_;refine Br.ab ?_;refine Gn ?_;refine Br.ab ?_;refine Br.ab ?_;refine Go ?_;refine Br.ab ?_
   try (refine Br.mk (i:=1000) ?_)
   refine Gn ?_;refine G2 ?_;refine Gs [(2,_)] ?_;refine Gt ?_
   exact ⟨[],⟨dc.rd,⟨by simp,_,_,rfl,kJ⟩,by simp⟩,rfl,aI,by rintro b (⟨e,_⟩ | ⟨_,e,_⟩);(simp at e);(simp at e)⟩
 · have hpos:0 < l.length:=List.length_pos_iff.2 h0
   refine calls [(0,_)] Tryz.func260 rfl Tryz.ntmps260 rfl ⟨rfl,trivial⟩ ?_
   refine G2 ?_;refine G2 ?_;refine WL.call (vs:=[_]) rfl Tryz.call294 rfl (fY hr h1 hlm) rfl rfl rfl ?_
   rintro v2 h2 ⟨dc,aI,eI⟩
   obtain ⟨b1,c1,cs,rfl,aR,hnc,hcm,hcl,hct⟩:=dc.block hpos
   have mf:=ai aR
   have bR:=eI b1 rfl
   have Hc:pV h2 h2 b1 l 0 []:=⟨Nat.zero_le _,rfl,rfl,⟨cs.drop (l.length * 2),by rw [List.nil_append,List.drop_zero,← hct,List.take_append_drop];exact aR⟩,by simp,.refl _ _⟩
   refine Go ?_;refine Gs [(3,_)] ?_;refine G3 ?_;refine WC.block ?_;refine WC.bD (X:=Nat × List aX) (fun x=>([(9,In (x.1:Int))]:Fr)) [(3,_),(8,_)] (fun x h'=>pV h2 h' b1 l x.1 x.2) (fun x=>l.length - x.1) ((0,[])) ⟨rfl,rfl,rfl,trivial⟩ (by exact Hc) ?_
   rintro ⟨k,out⟩ h3 ri
   simp only at ri
   have hk:=ri.le
   refine WC.sub [(9,_),(3,_),(8,_)] ⟨rfl,rfl,rfl,trivial⟩ ?_
   dsimp only
   refine G2 ?_;refine WC.seq ?_
   refine aH 1 2 (Hb.mk fun hb=>?_) (Hb.mk fun hb=>?_)
   all_goals try (
   refine aw 1 ?_
   refine WC.skip ?_
   skip)
   all_goals try (
   refine aw 2 ?_
   refine WC.exit ?_
   repeat' (with_reducible first | refine aU ?_ | refine aD rfl ?_ | refine aJ ?_ | refine aL ?_ | refine aS ?_)
   refine Br.out (i:=1000) ?_
   skip)
   all_goals (refine Gn ?_;first | refine Br.ab ?_ | refine WC.seq ?_)
   all_goals (first | refine Br.ab ?_ | refine WC.block ?_)
   all_goals (first | refine Br.ab ?_ | refine WC.sr ?_)
   all_goals (refine Go ?_)
   all_goals (
    first
      | (refine Br.ab ?_)
      | (obtain ⟨⟨n1,v1,s1⟩,fp⟩:∃ y,l[k]?=some y:=⟨_,List.getElem?_eq_getElem (by omega)⟩
         have tG:=ri.ext
         obtain ⟨spare,hblk⟩:=ri.bm
         obtain ⟨rA,hsl⟩:=hok _ (List.mem_of_getElem? fp)
         simp only at rA hsl
         obtain ⟨A1,k1,rfl,_⟩:=id rA
         have E3:Ext No h h3:=aI.trans' tG (fun b hb e=>by omega)
         have atb:At h3 b1 (0+k * 2) [.bool n1,.slice A1 s1.length k1]:=At.elem (xs:=out++l.drop k) aX.len ((At.av hblk).pre) (pU fp ri.len)))
   all_goals (first | refine Br.ab ?_ | refine WC.region ?_)
   all_goals (refine Go ?_;first | refine Br.ab ?_ | (refine WL.step (aE Tryz.underlying40 Tryz.sizeOf85 rfl rfl rfl (by omega) (by first | rfl | assumption)) rfl rfl rfl ?_))
   all_goals (refine Go ?_;first | refine Br.ab ?_ | (refine WL.ld rfl (by first | exact atb.get 1 rfl rfl | assumption) rfl rfl rfl ?_))
   all_goals (
    first
      | (refine Br.ab ?_)
      | (refine WL.call (vs:=[_]) rfl Tryz.call74 rfl (lS s1 (rA.aq E3) hsl) rfl rfl rfl ?_
         rintro v6 h6 ⟨gu,aN,iH⟩))
   all_goals (first | refine Br.ab ?_ | obtain ⟨A6,c6,rfl,_⟩:=gu.slice)
   all_goals (first | refine Br.ab ?_ | (refine WL.step (aE Tryz.underlying40 Tryz.sizeOf85 rfl rfl rfl (by omega) (by first | rfl | assumption)) rfl rfl rfl ?_))
   all_goals (refine Go ?_)
   all_goals (
    first
      | (refine Br.ab ?_)
      | (refine WL.ax (aB Tryz.sizeOf23 rfl rfl (aN.obj hblk aO) (by simp [cK aX.len,ri.len];omega) rfl rfl) rfl rfl ?_
         rintro _ h7 ⟨ca,ba⟩))
   all_goals (refine Gn ?_;first | refine Br.ab ?_ | refine Gs [(3,_),(8,_),(9,_)] ?_)
   all_goals (first | refine Br.ab ?_ | refine WC.region ?_)
   all_goals (refine Go ?_;first | refine Br.ab ?_ | (exact ⟨(k+1,out++[_]),⟨rfl,rfl,rfl,trivial⟩,(by exact ri.next fp aN gu iH (fun sp e=>by rw [aN.obj hblk aO] at e;simp only [Option.some.injEq,Obj.cells.injEq,Array.mk.injEq] at e;obtain rfl:=List.append_cancel_left e.1;rfl) ca ba mf hsl),(by simp;omega)⟩))
   try (refine Br.mk (i:=1000) ?_)
   refine Gn ?_;refine G2 ?_;refine Gs [(2,_)] ?_;refine Gt ?_
   obtain rfl:k=l.length:=by omega
   exact ri.done aI bR mf hnc hcm hlm
theorem Fy {h:ah} {b o:Nat} {cs:List Value} {e:TypeId} {n m:Int} (hb:h[b]?=some (.cells ⟨cs⟩ e (0,0))) (ho:cs[o]?=some (In n)) (h0 : -9223372036854775808≤n+m) (h1:n+m≤9223372036854775807) (w:World) (hw:w.heap=h) :
   ∃ u w',eo w w'∧(u=In (n+m)∧w'.heap[b]?=some (.cells ⟨cs.set o (In (n+m))⟩ e (0,0))∧Ext (fun q=>q=b) h w'.heap)∧(callFunc 312 #[.pointer (some ⟨b,o,none⟩),In m]).run Tryz.prog w=.ok (.value u) w':=by
 subst hw
 obtain ⟨w',hr,hs,hh⟩:=um (P:=Tryz.prog) hb ho h0 h1
 refine ⟨_,w',hs,⟨rfl,by rw [hh];exact dD hb,by rw [hh];exact .set _ _ _ rfl⟩,?_⟩
 rw [run_callFunc_extern (P:=Tryz.prog) (fn:=Tryz.f312) (e:=Extern.Atomic.update (Op.intArith .add) .i64 true) (by kernel_rfl) (by kernel_rfl) rfl (by kernel_rfl) (by kernel_rfl)]
 simp [hr]
theorem HN {h:ah} {b o:Nat} {cs:List Value} {e:TypeId} {n m:Int} (hb:h[b]?=some (.cells ⟨cs⟩ e (0,0))) (ho:cs[o]?=some (In n)) (h0 : -9223372036854775808≤n+m) (h1:n+m≤9223372036854775807) :
   ag Tryz.prog 295 ⟨[.pointer (some ⟨b,o,none⟩),In m]⟩ h fun u h'=>u=In (n+m)∧h'[b]?=some (.cells ⟨cs.set o (In (n+m))⟩ e (0,0))∧Ext (fun q=>q=b) h h':=by
 refine calls [(0,_),(1,_)] Tryz.func295 rfl Tryz.ntmps295 rfl ⟨rfl,rfl,trivial⟩ ?_
 refine G2 ?_;refine G2 ?_;refine WL.step (ae rfl) rfl rfl rfl (Go ?_);refine WL.aj (sq (R:=fun u h'=>u=In (n+m)∧h'[b]?=some (.cells ⟨cs.set o (In (n+m))⟩ e (0,0))∧Ext (fun q=>q=b) h h') (Fy hb ho h0 h1) rfl rfl) rfl rfl rfl ?_
 rintro _ g1 ⟨rfl,aR,az⟩
 refine Go ?_;refine Gs [(4,_)] ?_;refine Gt ?_
 exact ⟨rfl,aR,az⟩
theorem zO {h:ah} {be me:Nat} {cnt:Int} (hb:h[be]?=some (.cells ⟨[.map (some me),In cnt]⟩ 104 (0,0))) (hc:0≤cnt∧cnt≤1000000) :
   ag Tryz.prog 261 ⟨[.pointer (some ⟨be,0,none⟩)]⟩ h fun u h'=>u=In (cnt+1)∧h'[be]?=some (.cells ⟨[.map (some me),In (cnt+1)]⟩ 104 (0,0))∧Ext (fun q=>q=be) h h':=by
 refine calls [(0,_)] Tryz.func261 rfl Tryz.ntmps261 rfl ⟨rfl,trivial⟩ ?_
 refine G2 ?_;refine G3 ?_;refine WL.call (vs:=[_]) rfl Tryz.call258 rfl (lj hb) rfl rfl rfl ?_
 rintro _ hz ⟨rfl,_⟩
 subst hz
 refine Go ?_
 refine aH 1 2 ?_ TT.mk
 all_goals (refine aw 2 ?_)
 refine WC.skip ?_;refine Gn ?_;refine Gs [(0,_)] ?_;refine G2 ?_;refine WL.step (ae rfl) rfl rfl rfl (Go ?_);refine WL.call (vs:=[_,_]) rfl Tryz.call295 rfl (HN hb (o:=1) (n:=cnt) (m:=1) rfl (by omega) (by omega)) rfl rfl rfl ?_
 rintro _ h1 ⟨rfl,aR,az⟩
 refine Go ?_;refine Gs [(2,_)] ?_;refine Gt ?_
 exact ⟨rfl,aR,az⟩
theorem su {h:ah} {be me:Nat} {cnt:Int} (hb:h[be]?=some (.cells ⟨[.map (some me),In cnt]⟩ 104 (0,0))) (hc:0≤cnt∧cnt≤1000000) (v:fR) {vp:Value} (ps:List aX) (hp:cF h vp ps) :
   ag Tryz.prog 217 ⟨[.pointer (some ⟨be,0,none⟩),.agg ⟨v.cells⟩,vp]⟩ h fun u h'=>∃ LL,jL h' u LL∧LL.map Rw.pl=(cY v (ps.map aX.pl) cnt).1∧(∀ q,dH u LL q→h.size≤q)∧h'[be]?=some (.cells ⟨[.map (some me),In (cY v (ps.map aX.pl) cnt).2]⟩ 104 (0,0))∧Ext (fun q=>q=be) h h':=by
 have hlt:=ai hb
 obtain ⟨_,⟨_,A,c,rfl,_⟩,_⟩:=id hp
 unfold fR.cells mh
 have hdl:=dk (cnt+1) (by omega)
 rcases (show v.k=5∧cY v (ps.map aX.pl) cnt=(ju (cU v.n),cnt)∨v.k=6∧cY v (ps.map aX.pl) cnt=([ps.map aX.pl],cnt)∨v.k=7∧cY v (ps.map aX.pl) cnt=([[(false,dr (cnt+1))]],cnt+1)∨v.k ≠ 5∧v.k ≠ 6∧v.k ≠ 7∧cY v (ps.map aX.pl) cnt=([],cnt) by
   unfold cY
   by_cases e1:v.k=5
   · exact .inl ⟨e1,if_pos e1⟩
   · by_cases e2:v.k=6
     · exact .inr (.inl ⟨e2,by rw [if_neg e1,if_pos e2]⟩)
     · by_cases e3:v.k=7
       · exact .inr (.inr (.inl ⟨e3,by rw [if_neg e1,if_neg e2,if_pos e3]⟩))
       · exact .inr (.inr (.inr ⟨e1,e2,e3,by rw [if_neg e1,if_neg e2,if_neg e3]⟩))) with ⟨e1,e⟩ | ⟨e1,e⟩ | ⟨e1,e⟩ | ⟨e1,e2,e3,e⟩
 all_goals
   rw [e]
   dsimp only
   refine calls [(0,_),(1,_),(2,_)] Tryz.func217 rfl Tryz.ntmps217 rfl ⟨rfl,rfl,rfl,trivial⟩ ?_
   all_goals (refine WC.sr ?_;refine WL.aj (aG rfl) rfl rfl rfl ?_;rintro _ h1 ⟨b1,rfl,bR,aR,az⟩;have hbe:=az.obj hb aO;(have n1:be ≠ b1:=by omega);refine Go ?_;refine G3 ?_;refine WL.call (vs:=[_]) rfl Tryz.call258 rfl (lj hbe) rfl rfl rfl ?_;rintro _ hz ⟨rfl,_⟩;subst hz;refine Go ?_;refine Gs [(0,_),(2,_),(4,_),(9,_)] ?_;refine aH 1 2 ?_ TT.mk;refine aw 2 ?_;refine WC.skip ?_;refine Gn ?_;refine G3 ?_;refine Ld ?_;refine Gn ?_;refine WC.block ?_;refine G2 ?_;refine aH 3 4 ?_ TT.mk)
   all_goals try (
   refine aw 3 ?_
   all_goals (refine G2 ?_;refine Ld ?_;refine WL.call (vs:=[_]) rfl Tryz.call259 rfl (wU v.n) rfl rfl rfl ?_;rintro u2 h2 ⟨L2,r2,p2,aI,f2⟩;have X2:=az.trans aI;refine Go ?_;refine Gs [(6,_)] ?_;refine Gt ?_)
   all_goals (
    first
     | exact ⟨L2,r2,p2,fun q hq=>by have:=f2 q hq;have:=az.size;omega,X2.obj hb aO,X2.mono fun _ _ e=>e.elim⟩
     | exact ⟨[⟨_, l2⟩], ⟨bx bq rfl, ⟨by simp [reachBytes], _, _, rfl, by simp [maxLen]⟩, by simpa using r2.aq aQ⟩, by simp [Rw.pl, p2], fun q hq => by
         rcases hq with ⟨_,e⟩ | ⟨r,hr,e⟩
         · simp [Value.ownBlock] at e;have:=az.size;have:=aI.size;omega
         · simp at hr;subst hr;have:=f2 q e;have:=az.size;omega,X3.obj hb aO,X3.mono fun _ _ e=>e.elim⟩
     | exact ⟨[⟨_, [⟨false, .slice (some ⟨b4, 0, none⟩) (dr (cnt + 1)).length c4, dr (cnt + 1)⟩]⟩], ⟨bx bX rfl, ⟨by simp [reachBytes], _, _, rfl, by simp [maxLen]⟩, by simpa using ku (GF.aq (aM.trans aN)) (by omega) (aN.obj bV aO)⟩, rfl, fun q hq => by
         have:=az.size;have:=aI.size;have:=aQ.size;have:=aW.size;have:=aM.size
         rcases hq with ⟨_,e⟩ | ⟨r,hr,e⟩
         · simp [Value.ownBlock] at e;omega
         · simp at hr;subst hr
           rcases e with ⟨_,e⟩ | ⟨r,hr,_,e⟩
           · simp [Value.ownBlock] at e;omega
           · simp at hr;subst hr;simp [Value.ownBlock] at e;omega,qT.obj bH aO,(az.mono fun _ _ e=>e.elim).trans (aI.trans (qT.mono fun _ _ e=>e.elim))⟩
     | exact ⟨[],⟨Rd.nil _ _,⟨by simp,_,_,rfl,by simp [maxLen]⟩,by simp⟩,rfl,fun q hq=>(iL rfl hq).elim,hbe,az.mono fun _ _ e=>e.elim⟩)
   skip)
   all_goals (refine aw 4 ?_;refine G2 ?_;refine Gs [(0,_),(2,_),(11,_),(17,_)] ?_;refine aH 5 6 ?_ TT.mk)
   all_goals try (
   refine aw 5 ?_
   all_goals (refine G2 ?_;refine WL.call (vs:=[_]) rfl Tryz.call260 rfl (CA ps (hp.aq az)) rfl rfl rfl ?_;rintro u2 h2 ⟨l2,r2,p2,aI,f2⟩;obtain ⟨A2,c2,rfl⟩:∃ A c,u2=.slice A l2.length c:=(by obtain ⟨_,⟨_,A,c,e,_⟩,_⟩:=r2;exact ⟨A,c,e⟩);refine WL.aj (au (vs:=[_]) (cs:=[_]) (fun | [a0]=>[a0] | _=>[]) Tryz.underlying271 rfl rfl (by kernel_rfl)) rfl rfl rfl ?_;rintro _ h3 ⟨b3,rfl,gl,bq,aQ⟩;have X3:=(az.trans aI).trans aQ;refine Go ?_;refine Gs [(6,_)] ?_;refine Gt ?_)
   all_goals (
    first
     | exact ⟨L2,r2,p2,fun q hq=>by have:=f2 q hq;have:=az.size;omega,X2.obj hb aO,X2.mono fun _ _ e=>e.elim⟩
     | exact ⟨[⟨_, l2⟩], ⟨bx bq rfl, ⟨by simp [reachBytes], _, _, rfl, by simp [maxLen]⟩, by simpa using r2.aq aQ⟩, by simp [Rw.pl, p2], fun q hq => by
         rcases hq with ⟨_,e⟩ | ⟨r,hr,e⟩
         · simp [Value.ownBlock] at e;have:=az.size;have:=aI.size;omega
         · simp at hr;subst hr;have:=f2 q e;have:=az.size;omega,X3.obj hb aO,X3.mono fun _ _ e=>e.elim⟩
     | exact ⟨[⟨_, [⟨false, .slice (some ⟨b4, 0, none⟩) (dr (cnt + 1)).length c4, dr (cnt + 1)⟩]⟩], ⟨bx bX rfl, ⟨by simp [reachBytes], _, _, rfl, by simp [maxLen]⟩, by simpa using ku (GF.aq (aM.trans aN)) (by omega) (aN.obj bV aO)⟩, rfl, fun q hq => by
         have:=az.size;have:=aI.size;have:=aQ.size;have:=aW.size;have:=aM.size
         rcases hq with ⟨_,e⟩ | ⟨r,hr,e⟩
         · simp [Value.ownBlock] at e;omega
         · simp at hr;subst hr
           rcases e with ⟨_,e⟩ | ⟨r,hr,_,e⟩
           · simp [Value.ownBlock] at e;omega
           · simp at hr;subst hr;simp [Value.ownBlock] at e;omega,qT.obj bH aO,(az.mono fun _ _ e=>e.elim).trans (aI.trans (qT.mono fun _ _ e=>e.elim))⟩
     | exact ⟨[],⟨Rd.nil _ _,⟨by simp,_,_,rfl,by simp [maxLen]⟩,by simp⟩,rfl,fun q hq=>(iL rfl hq).elim,hbe,az.mono fun _ _ e=>e.elim⟩)
   skip)
   all_goals (refine aw 6 ?_;refine G2 ?_;refine Gs [(0,_),(22,_)] ?_;refine aH 7 8 ?_ TT.mk)
   all_goals try (
   refine aw 7 ?_
   all_goals (refine G2 ?_;refine WL.call (vs:=[_]) rfl Tryz.call261 rfl (zO hbe hc) rfl rfl rfl ?_;rintro _ h2 ⟨rfl,bH,aI⟩;refine WL.call (vs:=[_]) rfl Tryz.call246 rfl (gz (cnt+1) (by omega) (by omega)) rfl rfl rfl ?_;rintro _ h3 ⟨rfl,aQ⟩;refine WL.aj (jA Tryz.underlying9 Tryz.underlying23 Tryz.underlying5 rfl) rfl rfl rfl ?_;rintro _ h4 ⟨b4,c4,rfl,oG,GF,aW⟩;refine WL.step (aF (vs:=[_]) (cs:=[_,_]) (fun | [a1]=>[(.bool false),a1] | _=>[]) rfl rfl (by kernel_rfl)) rfl rfl rfl ?_;refine WL.aj (au (vs:=[_]) (cs:=[_,_]) (fun | [.agg ⟨[a0,a1]⟩]=>[a0,a1] | _=>[]) Tryz.underlying40 rfl rfl (by kernel_rfl)) rfl rfl rfl ?_;rintro _ h5 ⟨b5,rfl,qR,bV,aM⟩;refine WL.aj (au (vs:=[_]) (cs:=[_]) (fun | [a0]=>[a0] | _=>[]) Tryz.underlying271 rfl rfl (by kernel_rfl)) rfl rfl rfl ?_;rintro _ h6 ⟨b6,rfl,qQ,bX,aN⟩;have qT:=((aQ.trans aW).trans aM).trans aN;refine Go ?_;refine Gs [(6,_)] ?_;refine Gt ?_)
   all_goals (
    first
     | exact ⟨L2,r2,p2,fun q hq=>by have:=f2 q hq;have:=az.size;omega,X2.obj hb aO,X2.mono fun _ _ e=>e.elim⟩
     | exact ⟨[⟨_, l2⟩], ⟨bx bq rfl, ⟨by simp [reachBytes], _, _, rfl, by simp [maxLen]⟩, by simpa using r2.aq aQ⟩, by simp [Rw.pl, p2], fun q hq => by
         rcases hq with ⟨_,e⟩ | ⟨r,hr,e⟩
         · simp [Value.ownBlock] at e;have:=az.size;have:=aI.size;omega
         · simp at hr;subst hr;have:=f2 q e;have:=az.size;omega,X3.obj hb aO,X3.mono fun _ _ e=>e.elim⟩
     | exact ⟨[⟨_, [⟨false, .slice (some ⟨b4, 0, none⟩) (dr (cnt + 1)).length c4, dr (cnt + 1)⟩]⟩], ⟨bx bX rfl, ⟨by simp [reachBytes], _, _, rfl, by simp [maxLen]⟩, by simpa using ku (GF.aq (aM.trans aN)) (by omega) (aN.obj bV aO)⟩, rfl, fun q hq => by
         have:=az.size;have:=aI.size;have:=aQ.size;have:=aW.size;have:=aM.size
         rcases hq with ⟨_,e⟩ | ⟨r,hr,e⟩
         · simp [Value.ownBlock] at e;omega
         · simp at hr;subst hr
           rcases e with ⟨_,e⟩ | ⟨r,hr,_,e⟩
           · simp [Value.ownBlock] at e;omega
           · simp at hr;subst hr;simp [Value.ownBlock] at e;omega,qT.obj bH aO,(az.mono fun _ _ e=>e.elim).trans (aI.trans (qT.mono fun _ _ e=>e.elim))⟩
     | exact ⟨[],⟨Rd.nil _ _,⟨by simp,_,_,rfl,by simp [maxLen]⟩,by simp⟩,rfl,fun q hq=>(iL rfl hq).elim,hbe,az.mono fun _ _ e=>e.elim⟩)
   skip)
   all_goals (refine aw 8 ?_;refine WC.skip ?_;refine Gn ?_;refine G2 ?_;refine Gt ?_)
   all_goals (
    first
     | exact ⟨L2,r2,p2,fun q hq=>by have:=f2 q hq;have:=az.size;omega,X2.obj hb aO,X2.mono fun _ _ e=>e.elim⟩
     | exact ⟨[⟨_, l2⟩], ⟨bx bq rfl, ⟨by simp [reachBytes], _, _, rfl, by simp [maxLen]⟩, by simpa using r2.aq aQ⟩, by simp [Rw.pl, p2], fun q hq => by
         rcases hq with ⟨_,e⟩ | ⟨r,hr,e⟩
         · simp [Value.ownBlock] at e;have:=az.size;have:=aI.size;omega
         · simp at hr;subst hr;have:=f2 q e;have:=az.size;omega,X3.obj hb aO,X3.mono fun _ _ e=>e.elim⟩
     | exact ⟨[⟨_, [⟨false, .slice (some ⟨b4, 0, none⟩) (dr (cnt + 1)).length c4, dr (cnt + 1)⟩]⟩], ⟨bx bX rfl, ⟨by simp [reachBytes], _, _, rfl, by simp [maxLen]⟩, by simpa using ku (GF.aq (aM.trans aN)) (by omega) (aN.obj bV aO)⟩, rfl, fun q hq => by
         have:=az.size;have:=aI.size;have:=aQ.size;have:=aW.size;have:=aM.size
         rcases hq with ⟨_,e⟩ | ⟨r,hr,e⟩
         · simp [Value.ownBlock] at e;omega
         · simp at hr;subst hr
           rcases e with ⟨_,e⟩ | ⟨r,hr,_,e⟩
           · simp [Value.ownBlock] at e;omega
           · simp at hr;subst hr;simp [Value.ownBlock] at e;omega,qT.obj bH aO,(az.mono fun _ _ e=>e.elim).trans (aI.trans (qT.mono fun _ _ e=>e.elim))⟩
     | exact ⟨[],⟨Rd.nil _ _,⟨by simp,_,_,rfl,by simp [maxLen]⟩,by simp⟩,rfl,fun q hq=>(iL rfl hq).elim,hbe,az.mono fun _ _ e=>e.elim⟩)
section
variable {h h':ah} {A:Ad} {st:Int} {sk ov:Bool} {cnt:Int} {L:List (List UInt8 × gy)} {P:List (List UInt8 × ee)}
theorem Ss.zP (k:Ss h A st sk ov cnt L P) {cnt':Int} (x:Ext (fun z=>z=A.be) h h') (hb:h'[A.be]?=some (.cells ⟨[.map (some A.me),In cnt']⟩ 104 (0,0))) (hc:0≤cnt'∧cnt'≤1000000):Ss h' A st sk ov cnt' L P∧Tn A P h h' P:=by
 have e:=k.se
 refine ⟨⟨⟨x.obj e.bm (bw e.bm e.eb (by decide)),e.stm.ext x (fun z=>dX e.stm e.eb z.symm),x.obj e.pb (bw e.pb e.eb (by decide)),e.pm.ext x (fun z=>dX e.pm e.eb z.symm),hb,e.em.ext x (fun z=>dX e.em e.eb z.symm),e.ne⟩,
   fun q hq=>⟨(k.sok q hq).1.ext' x (fun z h0 hz e=>(k.sok q hq).2.2 z h0 hz (.inr (.inr (.inr (.inl e))))),(k.sok q hq).2⟩,
   fun q hq=>⟨x.obj (k.pok q hq).1 (bw (k.pok q hq).1 e.eb (by decide)),(k.pok q hq).2.1.ext x (fun z hz e=>(k.pok q hq).2.2 z hz (.inr (.inr (.inr (.inl e))))),(k.pok q hq).2.2⟩,k.dis,k.sto,hc,k.zz.up x.size⟩,Tn.same x (fun q e=>.inr (.inr (.inr (.inl e))))⟩
theorem DO (k:Ss h A st sk ov cnt L P) {n:List UInt8} {i:ee} (hi:bG P n=some i) {v:Value} (R:List Rw) (hd:i.d.ran=false) (hR:jL h v R):ag Tryz.prog 216 ⟨[.pointer (some ⟨A.bp,0,none⟩),St n,v]⟩ h fun u h'=>u=.bool true∧∃ P' i',Ss h' A st sk ov cnt L P'∧fN P'=cl (fN P) n (i.d.text,i.d.oids,i.d.ps.map aX.pl,R.map Rw.pl,true,i.d.over)∧bG P' n=some i'∧i'.d.pl=(i.d.text,i.d.oids,i.d.ps.map aX.pl,R.map Rw.pl,true,i.d.over)∧Tn A P h h' P'∧Ext (fun q=>q=i.p) h h':=by
 refine (Hf (k.pe hi) R hd hR).mono fun u h' ⟨e,v',R',pe',hp',hf',hx⟩=>⟨e,?_⟩
 have kk:=k.HE hi hx pe'.bm pe'.ok (fun z hz=>by
   rcases hz with hz | hz | hz
   · exact .inl (.inl hz)
   · exact .inl (.inr (.inl hz))
   · exact .inr (hf' z hz))
 have hpl:PD.pl { i.d with vr:=v',rs:=R',ran:=true }=(i.d.text,i.d.oids,i.d.ps.map aX.pl,R.map Rw.pl,true,i.d.over):=by simp only [PD.pl,hp']
 have hnd:(P.map (·.1)).Nodup:=by
   have:=Mp.nodup fB k.se.pm
   rwa [ll] at this
 exact ⟨_,_,kk.1,by rw [qe];exact congrArg _ hpl,by rw [zq hnd,if_pos rfl],hpl,kk.2,hx⟩
theorem vG (k:Ss h A st sk ov cnt L P) {n:List UInt8} {i:ee} (hi:bG P n=some i) (most:Int) (hd:i.d.ran=true):ag Tryz.prog 219 ⟨[.pointer (some ⟨A.bp,0,none⟩),St n,In most]⟩ h fun u h' =>
   ∃ v R P',u=.tuple ⟨[v,.bool (!(dJ (i.d.rs.map Rw.pl) i.d.over most).2.2)]⟩∧jL h' v R∧R.map Rw.pl=(dJ (i.d.rs.map Rw.pl) i.d.over most).1∧Ss h' A st sk ov cnt L P'∧fN P'=cl (fN P) n (i.d.text,i.d.oids,i.d.ps.map aX.pl,(dJ (i.d.rs.map Rw.pl) i.d.over most).2.1,true,(dJ (i.d.rs.map Rw.pl) i.d.over most).2.2)∧Tn A P h h' P'∧Ext (fun q=>q=i.p) h h':=by
 have hnd:(P.map (·.1)).Nodup:=by
   have:=Mp.nodup fB k.se.pm
   rwa [ll] at this
 have hput:∀ d:PD,d.pl=i.d.pl→cl (fN P) n d.pl=fN P:=fun d e=>by
   rw [e]
   have hg:bG (fN P) n=some i.d.pl:=by rw [gd,hi];rfl
   unfold cl
   rw [if_pos (by rw [hg];rfl)]
   have hnd':((fN P).map (·.1)).Nodup:=by
     rw [show (fN P).map (·.1)=P.map (·.1) by simp [fN]]
     exact hnd
   refine (List.map_congr_left fun q hq=>?_).trans (List.map_id' _)
   by_cases hqn:q.1=n
   · rw [if_pos hqn]
     have:=mz hnd' (show (q.1,q.2)∈fN P from hq)
     rw [hqn,hg] at this
     rw [Option.some.inj this,← hqn]
   · rw [if_neg hqn]
 by_cases hov:i.d.over=true
 · refine (rP (k.pe hi) most hd hov).mono fun u h' ⟨e,e2⟩=>?_
   subst e2
   have ef:dJ (i.d.rs.map Rw.pl) i.d.over most=([],i.d.rs.map Rw.pl,true):=by unfold dJ;rw [if_pos hov]
   rw [ef]
   refine ⟨_,[],P,e,⟨Rd.nil _ _,⟨by simp,_,_,rfl,by simp [maxLen]⟩,by simp⟩,rfl,k,?_,Tn.no (.refl _ _),.refl _ _⟩
   have:=hput i.d rfl
   simp only [PD.pl,hd,hov] at this
   exact this.symm
 · have hov':i.d.over=false:=by simpa using hov
   have key : ∀ m : Nat, m ≤ i.d.rs.length → dJ (i.d.rs.map Rw.pl) i.d.over most = ((i.d.rs.map Rw.pl).take m, (i.d.rs.map Rw.pl).drop m, decide (((i.d.rs.map Rw.pl).drop m).length = 0)) →
       ag Tryz.prog 219 ⟨[.pointer (some ⟨A.bp,0,none⟩),St n,In most]⟩ h (fun u h'=>∃ vo vr',u=.tuple ⟨[vo,.bool (!decide (((i.d.rs.length - m:Nat):Int)=0))]⟩∧jL h' vo (i.d.rs.take m)∧Pe h' A.bp A.mp (eS vA P) i.p n { i.d with vr:=vr',rs:=i.d.rs.drop m,over:=decide (((i.d.rs.length - m:Nat):Int)=0) }∧(∀ k,dH vo (i.d.rs.take m) k→dH i.d.vr i.d.rs k)∧(∀ k,dH vr' (i.d.rs.drop m) k→dH i.d.vr i.d.rs k)∧Ext (fun k=>k=i.p) h h') →
       ag Tryz.prog 219 ⟨[.pointer (some ⟨A.bp,0,none⟩),St n,In most]⟩ h fun u h'=>∃ v R P',u=.tuple ⟨[v,.bool (!(dJ (i.d.rs.map Rw.pl) i.d.over most).2.2)]⟩∧jL h' v R∧R.map Rw.pl=(dJ (i.d.rs.map Rw.pl) i.d.over most).1∧Ss h' A st sk ov cnt L P'∧fN P'=cl (fN P) n (i.d.text,i.d.oids,i.d.ps.map aX.pl,(dJ (i.d.rs.map Rw.pl) i.d.over most).2.1,true,(dJ (i.d.rs.map Rw.pl) i.d.over most).2.2)∧Tn A P h h' P'∧Ext (fun q=>q=i.p) h h':=fun m hm ef hc=>by
     have ed:decide (((i.d.rs.length - m:Nat):Int)=0)=decide (((i.d.rs.map Rw.pl).drop m).length=0):=by
       rw [List.length_drop,List.length_map]
       exact decide_eq_decide.2 ⟨fun e=>by omega,fun e=>by omega⟩
     rw [ef]
     refine hc.mono fun u h' ⟨vo,vr',e,hr,pe',_,hf,hx⟩=>?_
     rw [ed] at e pe'
     have kk:=k.HE hi hx pe'.bm pe'.ok (fun z hz=>by
       rcases hz with hz | hz | hz
       · exact .inl (.inl hz)
       · exact .inl (.inr (.inl hz))
       · exact .inl (.inr (.inr (hf z hz))))
     refine ⟨vo,_,_,e,hr,List.map_take ..,kk.1,?_,kk.2,hx⟩
     rw [qe]
     refine congrArg _ ?_
     simp only [PD.pl,hd,List.map_drop]
   by_cases hmo:0 < most
   · have ef : dJ (i.d.rs.map Rw.pl) i.d.over most = ((i.d.rs.map Rw.pl).take (min i.d.rs.length most.toNat), (i.d.rs.map Rw.pl).drop (min i.d.rs.length most.toNat), decide (((i.d.rs.map Rw.pl).drop (min i.d.rs.length most.toNat)).length = 0)) := by
       unfold dJ
       rw [if_neg hov]
       simp only [if_pos hmo,List.length_map]
     exact key _ (Nat.min_le_left _ _) ef (rO (n:=min i.d.rs.length most.toNat) (k.pe hi) most hmo (by omega) hd hov')
   · have ef : dJ (i.d.rs.map Rw.pl) i.d.over most = ((i.d.rs.map Rw.pl).take i.d.rs.length, (i.d.rs.map Rw.pl).drop i.d.rs.length, decide (((i.d.rs.map Rw.pl).drop i.d.rs.length).length = 0)) := by
       unfold dJ
       rw [if_neg hov]
       simp only [if_neg hmo,List.length_map]
     exact key _ (Nat.le_refl _) ef (tL (k.pe hi) most hmo hd hov')
end
theorem lz {κ α:Type} [DecidableEq κ] {E:List (κ × α)} {n:κ} (v:α) (hs:(bG E n).isSome=true):cl E n v=E.map (fun p=>if p.1=n then (n,v) else p):=if_pos hs
theorem o0 {κ α:Type} [DecidableEq κ] {E:List (κ × α)} {n:κ} (v:α) (hs:bG E n=none):cl E n v=E++[(n,v)]:=if_neg (by rw [hs];simp)
theorem xa {κ α:Type} [DecidableEq κ] (E:List (κ × α)) (n:κ) (v w:α):cl (cl E n v) n w=cl E n w:=by
 have hs:(bG (cl E n v) n).isSome=true:=by
   rw [gx,ln]
   split
   · assumption
   · simp
 rw [lz w hs]
 rcases hg:bG E n with _ | u
 · rw [o0 v hg,o0 w hg,List.map_append]
   congr 1
   · refine (List.map_congr_left fun q hq=>?_).trans (List.map_id' _)
     rw [if_neg (my hg q hq)]
   · simp
 · have pz:(bG E n).isSome=true:=by rw [hg];rfl
   rw [lz v pz,lz w pz,List.map_map]
   refine List.map_congr_left fun q hq=>?_
   simp only [Function.comp]
   by_cases e:q.1=n
   · rw [if_pos e,if_pos rfl,if_pos e]
   · rw [if_neg e,if_neg e]
def jw (rs:List (List eC)):Prop:=rs.length≤100000∧∀ r∈rs,r.length≤100000
theorem gH (v:fR) {ps:List eC} (c:Int) (h:ps.length≤100000):jw (cY v ps c).1:=by
 unfold cY
 split
 · have:=ja v.n
   refine ⟨by rw [lv];omega,fun r hr=>?_⟩
   obtain ⟨i,_,rfl⟩:=List.mem_map.1 hr
   simp [Cs]
 · split
   · exact ⟨by simp,by simpa using h⟩
   · split
     · exact ⟨by simp,by simp⟩
     · exact ⟨by simp,by simp⟩
theorem sw {rs:List (List eC)} (ov:Bool) (m:Int) (h:jw rs):jw (dJ rs ov m).1:=by
 unfold dJ
 split
 · exact ⟨by simp,by simp⟩
 · exact ⟨by dsimp only;rw [List.length_take];have:=h.1;omega,fun r hr=>h.2 r (List.mem_of_mem_take hr)⟩
theorem zQ {R:List Rw} {rs:List (List eC)} (e:R.map Rw.pl=rs) (h:jw rs):R.length≤100000∧∀ r∈R,r.l.length≤1000000:=by
 subst e
 refine ⟨by simpa using h.1,fun r hr=>?_⟩
 have:=h.2 _ (List.mem_map.2 ⟨r,hr,rfl⟩)
 simp only [Rw.pl,List.length_map] at this
 omega
section
variable {h h':ah} {A:Ad} {st:Int} {sk ov:Bool} {cnt:Int} {L:List (List UInt8 × gy)} {P:List (List UInt8 × ee)}
theorem o5 {g2 g3:ah} {v:Value} {cnt':Int} {P':List (List UInt8 × ee)} {B:List Bk} {r:fS} (k2:Ss g2 A st sk ov cnt' L P') (T2:Tn A P h g2 P') (O:cz g2 g3 v B) (hx:Ext No g2 g3) (hp:B.map Bk.p=r.2.1) (he:r.2.2=none)
   (h1:r.1.st=st) (h2:r.1.sk=sk) (h3:r.1.ov=ov) (h4:r.1.cnt=cnt') (h5:r.1.L=qd L) (h6:r.1.P=fN P'):cj h A P r (.tuple ⟨[v,fM none]⟩) g3:=by
 obtain ⟨⟨oq,DP,zR,MW,L1,P1⟩,B1,e1⟩:=r
 dsimp only at *
 subst he h1 h2 h3 h4 h5 h6
 exact ⟨v,B,(fun e=>absurd rfl e),rfl,O.mono T2.1.size,hp,L,P',k2.aq hx,rfl,rfl,T2.trans (Tn.no hx)⟩
theorem uo (k:Ss h A st sk ov cnt L P) (lm:jg (ck st sk ov cnt L P)) (f:Fm) (hf:f.ok h) (fl:gG f) {i:ee} (he:gE (ck st sk ov cnt L P) f.portal=none) (hi:bG P f.portal=some i) (hr:gb (bh i.d.text)=true) :
   ag Tryz.prog 149 ⟨[.pointer (some ⟨A.bs,0,none⟩),.agg ⟨f.cells⟩]⟩ h (cj h A P (cd (ck st sk ov cnt L P) f.p)):=by
 have hgl:bG (ck st sk ov cnt L P).P f.portal=some i.d.pl:=by show bG (fN P) f.portal=_;rw [gd,hi];rfl
 have htl:=lm.tp _ (b0 hi)
 have hcl:cnt < 1000000:=lm.c
 have hco:=k.cok
 obtain ⟨⟨e1,_⟩,⟨e2,_⟩,⟨e3,_⟩,e4,_⟩:=hf
 obtain ⟨oY,nT,wZ,jN,zJ,_⟩:=fl
 obtain ⟨fk,w,n,p,t,vo,o,vf,fs,vs,rs,vp,ps,mx⟩:=f
 dsimp only at e1 e2 e3 e4 oY nT wZ jN zJ he hi hgl htl
 obtain ⟨A1,c1,rfl,_⟩:=e1
 obtain ⟨_,_,rfl,_⟩:=e2
 obtain ⟨_,_,rfl,_⟩:=e3
 obtain ⟨A4,c4,rfl,_⟩:=e4
 dsimp only [Fm.cells,Fm.p]
 have hpe : cd (ck st sk ov cnt L P) ⟨fk, w, n, p, t, o, ps.map aX.pl, mx⟩ =
     ({ ck st sk ov cnt L P with cnt:=(if i.d.ran=true then (i.d.rs.map Rw.pl,cnt) else cY (bh i.d.text) (i.d.ps.map aX.pl) cnt).2,P:=cl (fN P) p (i.d.text,i.d.oids,i.d.ps.map aX.pl,(dJ (if i.d.ran=true then (i.d.rs.map Rw.pl,cnt) else cY (bh i.d.text) (i.d.ps.map aX.pl) cnt).1 i.d.over mx).2.1,true,(dJ (if i.d.ran=true then (i.d.rs.map Rw.pl,cnt) else cY (bh i.d.text) (i.d.ps.map aX.pl) cnt).1 i.d.over mx).2.2) },
       cQ (dJ (if i.d.ran=true then (i.d.rs.map Rw.pl,cnt) else cY (bh i.d.text) (i.d.ps.map aX.pl) cnt).1 i.d.over mx).1 (!(dJ (if i.d.ran=true then (i.d.rs.map Rw.pl,cnt) else cY (bh i.d.text) (i.d.ps.map aX.pl) cnt).1 i.d.over mx).2.2),none):=by
   unfold cd
   dsimp only
   rw [he,hgl]
   unfold PD.pl
   dsimp only
   rw [if_pos hr]
   rfl
 rw [hpe]
 clear hpe
 have kp:=fun h'=>oN (h:=h') i.d.text (by omega)
 have kr:=fun h'=>kj (h:=h') (bh i.d.text)
 have ke:=fun (g:ah) (cn:Int) (hb:g[A.be]?=some (.cells ⟨[.map (some A.me),In cn]⟩ 104 (0,0))) (hc:0≤cn∧cn≤1000000) (vp:Value) (ps:List aX) (hp:cF g vp ps)=>su hb hc (bh i.d.text) ps hp
 rw [hr] at kr
 unfold fR.cells mh at kp kr ke
 cases hran:i.d.ran
 · rw [if_neg (by decide)]
   refine calls [(0,_),(1,_)] Tryz.func149 rfl Tryz.ntmps149 rfl ⟨rfl,rfl,trivial⟩ ?_
   refine WC.sr ?_;refine WL.aj (aG rfl) rfl rfl rfl ?_
   rintro _ h1 ⟨b3,rfl,bR,aR,az⟩
   refine Go ?_;refine G2 ?_;refine WL.ld rfl (by first | exact aa aR rfl | assumption) rfl rfl rfl ?_
   refine WL.call (vs:=[_,_]) rfl Tryz.call213 rfl (eJ (k.aq az) lm p nT) rfl rfl rfl ?_
   rintro _ h2 ⟨⟨d2,rfl,iU,f2,hq'⟩,aI⟩
   rw [he] at hq' ⊢
   dsimp only [fM]
   refine Go ?_;refine WL.aj (an (fun w=>Tryz.zeroValue273 w)) rfl rfl rfl ?_
   rintro _ h3 ⟨b6,rfl,gl,bq,aQ⟩
   refine WL.ax (al Tryz.sizeOf273 rfl rfl rfl bq rfl (eQ iU)) rfl rfl ?_
   rintro _ h4 ⟨bC,aW⟩
   have gJ:Ext No h1 h4:=aI.trans (aQ.trans' aW (fun q hq e=>by omega))
   have X4:=az.trans gJ
   have bJ:=gJ.obj aR aO
   obtain ⟨i',hi',j9⟩:=hq' rfl
   have hii:=Option.some.inj (hi.symm.trans hi')
   subst hii
   have kM:=iU.ext (aQ.trans' (S:=No) aW (fun q hq e=>by omega)) (fun _ _=>aO)
   have hti:d2.text=i.d.text:=congrArg (·.1) j9
   have htp:d2.ps.map aX.pl=i.d.ps.map aX.pl:=congrArg (·.2.2.1) j9
   have htr:d2.ran=i.d.ran:=congrArg (·.2.2.2.2.1) j9
   obtain ⟨text,vo,oids,GG,I8,vr,I9,CB,vH⟩:=d2
   dsimp only at hti htp htr
   subst hti
   subst htr
   dsimp only [PD.cells] at bC
   obtain ⟨A6,c6,hvo,_⟩:=id kM.oids
   have okp:=kM.ps
   obtain ⟨_,⟨_,A7,c7,hvp,_⟩,_⟩:=id kM.ps
   obtain ⟨_,⟨_,A8,c8,hvr,_⟩,_⟩:=id kM.rs
   dsimp only at hvo hvp hvr okp
   subst hvo
   subst hvp
   subst hvr
   refine Go ?_;refine Gs [(0,_),(3,_),(6,_),(7,_)] ?_;refine G3 ?_;refine WL.step (cL (by kernel_rfl) rfl rfl) rfl rfl rfl ?_
   refine Gn ?_
   refine aH 1 2 ?_ TT.mk
   all_goals (refine aw 2 ?_)
   refine WC.skip ?_;refine Gn ?_;refine G2 ?_;refine WL.ld rfl (by first | exact aa bC rfl | assumption) rfl rfl rfl ?_
   refine WL.call (vs:=[_]) rfl Tryz.call214 rfl (kp _) rfl rfl rfl ?_
   rintro _ h5 ⟨rfl,aM⟩
   refine WL.aj (an (fun w=>Tryz.zeroValue278 w)) rfl rfl rfl ?_
   rintro _ h6 ⟨b8,rfl,qQ,bX,aN⟩
   refine WL.ax (al Tryz.sizeOf278 rfl rfl rfl bX rfl (by simp [Value.oneCell'])) rfl rfl ?_
   rintro _ h7 ⟨ca,ba⟩
   have ns:Ext No h4 h7:=aM.trans (aN.trans' ba (fun q hq e=>by omega))
   refine Gn ?_;refine Gs [(0,_),(3,_),(6,_),(8,_)] ?_;refine WC.seq ?_;refine WC.sr ?_;refine WL.step (ay Tryz.isAgg278 Tryz.sizeOf278 rfl rfl (by exact At.av ca)) rfl rfl rfl ?_
   refine WL.call (vs:=[_]) rfl Tryz.call215 rfl (kr _) rfl rfl rfl ?_
   rintro _ h8 ⟨rfl,bz⟩
   have jO:=ns.trans bz
   have X8:=X4.trans jO
   have nu:=jO.obj bC aO
   have jH:=bz.obj ca aO
   have fQ:=jO.obj bJ aO
   have zS:=okp.aq jO
   have k8:=k.aq X8
   refine Gn ?_
   refine aH 3 4 ?_ TT.mk
   all_goals (refine aw 3 ?_)
   refine G3 ?_;refine WL.ld rfl (by first | exact aa nu rfl | assumption) rfl rfl rfl ?_
   rw [hran]
   have xb:=(k8.pok _ (b0 hi)).1
   have n1:¬ (A.bs=A.be∨A.bs=i.p):=fun e=>e.elim (bw k8.se.bm k8.se.eb (by decide)) (bw k8.se.bm xb (by decide))
   have n2:¬ (b3=A.be∨b3=i.p):=fun e=>e.elim (bw fQ k8.se.eb (by decide)) (bw fQ xb (by decide))
   have n3:¬ (b6=A.be∨b6=i.p):=fun e=>e.elim (bw nu k8.se.eb (by decide)) (fun e=>by have:=aI.size;have:i.p < h.size:=ai ((k.pok _ (b0 hi)).1);have:=az.size;omega)
   have n4:¬ (b8=A.be∨b8=i.p):=fun e=>e.elim (bw jH k8.se.eb (by decide)) (bw jH xb (by decide))
   refine WL.step (dw rfl) rfl rfl rfl ?_;refine Gn ?_;refine Gs [(0,_),(3,_),(6,_),(8,_),(28,_)] ?_
   refine aH 5 6 ?_ TT.mk
   all_goals (refine aw 5 ?_)
   refine WC.bW (fun h'=>Ext (fun q=>q=A.be∨q=i.p) h8 h') 15 15 rfl dm ?_
   refine WH.tk 0 rfl (fun hq hC=>ak rfl) rfl rfl rfl ?_
   refine WH.tk 1 rfl (fun hq hC=>ae rfl) rfl rfl rfl ?_
   refine WH.tk 2 rfl (fun hq hC=>ad rfl Tryz.underlying153 rfl Tryz.sizeOf150) rfl rfl rfl ?_
   refine WH.tk 3 rfl (fun hq hC=>aA Tryz.isAgg150 rfl (by first | exact hC.cell (by first | exact aa k8.se.bm rfl | assumption) (by first | exact n1 | exact n2 | exact n3))) rfl rfl rfl ?_
   refine WH.tk 4 rfl (fun hq hC=>ad rfl Tryz.underlying42 rfl Tryz.sizeOf9) rfl rfl rfl ?_
   refine WH.tk 5 rfl (fun hq hC=>aA Tryz.isAgg9 rfl (by first | exact hC.cell (by first | exact aa fQ rfl | assumption) (by first | exact n1 | exact n2 | exact n3))) rfl rfl rfl ?_
   refine WH.tk 6 rfl (fun hq hC=>ak rfl) rfl rfl rfl ?_
   refine WH.tk 7 rfl (fun hq hC=>ae rfl) rfl rfl rfl ?_
   refine WH.tk 8 rfl (fun hq hC=>ad rfl Tryz.underlying153 rfl Tryz.sizeOf46) rfl rfl rfl ?_
   refine WH.tk 9 rfl (fun hq hC=>aA Tryz.isAgg46 rfl (by first | exact hC.cell (by first | exact aa k8.se.bm rfl | assumption) (by first | exact n1 | exact n2 | exact n3))) rfl rfl rfl ?_
   refine WH.tk 10 rfl (fun hq hC=>ay Tryz.isAgg278 Tryz.sizeOf278 rfl rfl (by exact (At.av jH).ext hC n4)) rfl rfl rfl ?_
   refine WH.tk 11 rfl (fun hq hC=>ad rfl Tryz.underlying273 rfl Tryz.sizeOf40) rfl rfl rfl ?_
   refine WH.tk 12 rfl (fun hq hC=>aA Tryz.isAgg40 rfl (by first | exact hC.cell (by first | exact aa nu rfl | assumption) (by first | exact n1 | exact n2 | exact n3))) rfl rfl rfl ?_
   refine WH.one 13 (by kernel_rfl) ?_
   refine aC.call (vs:=[_,_,_]) rfl rfl Tryz.call217 rfl (ke _ _ k8.se.eb hco _ _ zS) rfl rfl rfl ?_ (fun _=>by kernel_rfl)
   rintro uR h9 ⟨LL,rL,pL,fL,bY,bZ⟩
   rw [htp] at pL bY
   obtain ⟨k9,t9⟩:=k8.zP bZ bY (by unfold cY;split <;> (try split) <;> (try split) <;> dsimp only <;> omega)
   have T9:=(Tn.no (A:=A) (P:=P) X8).trans t9
   refine ⟨fun _=>bZ.mono fun _ _ e=>.inl e,?_⟩
   refine WH.one 14 (by kernel_rfl) ?_
   refine aC.call (vs:=[_,_,_]) rfl rfl Tryz.call216 rfl (DO k9 hi LL hran rL) rfl rfl rfl ?_ (fun _=>by kernel_rfl)
   rintro _ iG ⟨rfl,Lz,i10,sy,J2,HO,CC,t10,ct⟩
   have CD:=T9.trans t10
   have hbx:=(t9.trans t10).1.obj fQ (k8.not fQ (by decide) (by decide) (by decide))
   have J3:i10.d.ran=true:=congrArg (·.2.2.2.2.1) CC
   have mW:i10.d.over=i.d.over:=congrArg (·.2.2.2.2.2) CC
   have zT:i10.d.rs.map Rw.pl=LL.map Rw.pl:=congrArg (·.2.2.2.1) CC
   have htt:(i10.d.text,i10.d.oids,i10.d.ps.map aX.pl)=(i.d.text,i.d.oids,i.d.ps.map aX.pl):=congrArg (fun q=>(q.1,q.2.1,q.2.2.1)) CC
   have DQ:=(sy.pok _ (b0 HO)).1
   have m1:¬ A.bs=i10.p:=bw sy.se.bm DQ (by decide)
   have m2:¬ b3=i10.p:=bw hbx DQ (by decide)
   refine ⟨fun _=>(bZ.mono fun _ _ e=>.inl e).trans (ct.mono fun _ _ e=>.inr e),?_⟩
   refine WH.done (by kernel_rfl) ?_
   refine Gn ?_;refine WC.seq ?_;refine WC.bW (fun h'=>Ext (fun q=>q=i10.p) iG h') 14 14 rfl dm ?_
   refine WH.tk 0 rfl (fun hq hC=>ak rfl) rfl rfl rfl ?_
   refine WH.tk 1 rfl (fun hq hC=>ae rfl) rfl rfl rfl ?_
   refine WH.tk 2 rfl (fun hq hC=>ad rfl Tryz.underlying153 rfl Tryz.sizeOf150) rfl rfl rfl ?_
   refine WH.tk 3 rfl (fun hq hC=>aA Tryz.isAgg150 rfl (by first | exact hC.cell (by first | exact aa sy.se.bm rfl | assumption) (by first | exact m1 | exact m2))) rfl rfl rfl ?_
   refine WH.tk 4 rfl (fun hq hC=>ad rfl Tryz.underlying42 rfl Tryz.sizeOf9) rfl rfl rfl ?_
   refine WH.tk 5 rfl (fun hq hC=>aA Tryz.isAgg9 rfl (by first | exact hC.cell (by first | exact aa hbx rfl | assumption) (by first | exact m1 | exact m2))) rfl rfl rfl ?_
   refine WH.tk 6 rfl (fun hq hC=>ad rfl Tryz.underlying42 rfl Tryz.sizeOf3) rfl rfl rfl ?_
   refine WH.tk 7 rfl (fun hq hC=>aA Tryz.isAgg3 rfl (by first | exact hC.cell (by first | exact aa hbx rfl | assumption) (by first | exact m1 | exact m2))) rfl rfl rfl ?_
   refine WH.one 8 (by kernel_rfl) ?_
   refine aC.call (vs:=[_,_,_]) rfl rfl Tryz.call219 rfl (vG sy HO mx J3) rfl rfl rfl ?_ (fun _=>by kernel_rfl)
   rintro _ qh ⟨v11,J4,MX,rfl,J5,DR,zU,Fz,t11,cM⟩
   rw [zT,pL,mW] at DR
   have hlim:=zQ DR (sw _ _ (gH _ _ htl.2.2.1))
   refine ⟨fun _=>cM,?_⟩
   refine WH.tk 9 rfl (fun hq hC=>bP rfl rfl) rfl rfl rfl ?_
   refine WH.tk 10 rfl (fun hq hC=>bP rfl rfl) rfl rfl rfl ?_
   refine WH.one 11 (by kernel_rfl) ?_
   refine aC.call (vs:=[_,_]) rfl rfl Tryz.call218 rfl (qf J4 J5 _ hlim.1 hlim.2) rfl rfl rfl ?_ (fun _=>by kernel_rfl)
   rintro v12 qS ⟨B,GH,pB,ey⟩
   refine ⟨fun _=>cM.trans (ey.mono fun _ _ e=>e.elim),?_⟩
   have J6:=cM.trans (ey.mono (S':=fun q=>q=i10.p) fun _ _ e=>e.elim)
   refine WH.tk 12 rfl (fun hq hC=>aP rfl) rfl rfl rfl ?_
   refine WH.tk 13 rfl (fun hq hC=>aP rfl) rfl rfl rfl ?_
   refine WH.done (by kernel_rfl) ?_
   refine Gn ?_;refine Gs [(4,_),(5,_)] ?_;refine Gt ?_
   refine o5 zU (CD.trans t11) GH ey (by rw [pB,DR,zT,pL,mW]) rfl rfl rfl rfl rfl rfl ?_
   rw [Fz,J2,zT,pL,mW]
   simp only [Prod.mk.injEq] at htt
   rw [htt.1,htt.2.1,htt.2.2,xa]
 · rw [if_pos rfl]
   refine calls [(0,_),(1,_)] Tryz.func149 rfl Tryz.ntmps149 rfl ⟨rfl,rfl,trivial⟩ ?_
   refine WC.sr ?_;refine WL.aj (aG rfl) rfl rfl rfl ?_
   rintro _ h1 ⟨b3,rfl,bR,aR,az⟩
   refine Go ?_;refine G2 ?_;refine WL.ld rfl (by first | exact aa aR rfl | assumption) rfl rfl rfl ?_
   refine WL.call (vs:=[_,_]) rfl Tryz.call213 rfl (eJ (k.aq az) lm p nT) rfl rfl rfl ?_
   rintro _ h2 ⟨⟨d2,rfl,iU,f2,hq'⟩,aI⟩
   rw [he] at hq' ⊢
   dsimp only [fM]
   refine Go ?_;refine WL.aj (an (fun w=>Tryz.zeroValue273 w)) rfl rfl rfl ?_
   rintro _ h3 ⟨b6,rfl,gl,bq,aQ⟩
   refine WL.ax (al Tryz.sizeOf273 rfl rfl rfl bq rfl (eQ iU)) rfl rfl ?_
   rintro _ h4 ⟨bC,aW⟩
   have gJ:Ext No h1 h4:=aI.trans (aQ.trans' aW (fun q hq e=>by omega))
   have X4:=az.trans gJ
   have bJ:=gJ.obj aR aO
   obtain ⟨i',hi',j9⟩:=hq' rfl
   have hii:=Option.some.inj (hi.symm.trans hi')
   subst hii
   have kM:=iU.ext (aQ.trans' (S:=No) aW (fun q hq e=>by omega)) (fun _ _=>aO)
   have hti:d2.text=i.d.text:=congrArg (·.1) j9
   have htp:d2.ps.map aX.pl=i.d.ps.map aX.pl:=congrArg (·.2.2.1) j9
   have htr:d2.ran=i.d.ran:=congrArg (·.2.2.2.2.1) j9
   obtain ⟨text,vo,oids,GG,I8,vr,I9,CB,vH⟩:=d2
   dsimp only at hti htp htr
   subst hti
   subst htr
   dsimp only [PD.cells] at bC
   obtain ⟨A6,c6,hvo,_⟩:=id kM.oids
   have okp:=kM.ps
   obtain ⟨_,⟨_,A7,c7,hvp,_⟩,_⟩:=id kM.ps
   obtain ⟨_,⟨_,A8,c8,hvr,_⟩,_⟩:=id kM.rs
   dsimp only at hvo hvp hvr okp
   subst hvo
   subst hvp
   subst hvr
   refine Go ?_;refine Gs [(0,_),(3,_),(6,_),(7,_)] ?_;refine G3 ?_;refine WL.step (cL (by kernel_rfl) rfl rfl) rfl rfl rfl ?_
   refine Gn ?_
   refine aH 1 2 ?_ TT.mk
   all_goals (refine aw 2 ?_)
   refine WC.skip ?_;refine Gn ?_;refine G2 ?_;refine WL.ld rfl (by first | exact aa bC rfl | assumption) rfl rfl rfl ?_
   refine WL.call (vs:=[_]) rfl Tryz.call214 rfl (kp _) rfl rfl rfl ?_
   rintro _ h5 ⟨rfl,aM⟩
   refine WL.aj (an (fun w=>Tryz.zeroValue278 w)) rfl rfl rfl ?_
   rintro _ h6 ⟨b8,rfl,qQ,bX,aN⟩
   refine WL.ax (al Tryz.sizeOf278 rfl rfl rfl bX rfl (by simp [Value.oneCell'])) rfl rfl ?_
   rintro _ h7 ⟨ca,ba⟩
   have ns:Ext No h4 h7:=aM.trans (aN.trans' ba (fun q hq e=>by omega))
   refine Gn ?_;refine Gs [(0,_),(3,_),(6,_),(8,_)] ?_;refine WC.seq ?_;refine WC.sr ?_;refine WL.step (ay Tryz.isAgg278 Tryz.sizeOf278 rfl rfl (by exact At.av ca)) rfl rfl rfl ?_
   refine WL.call (vs:=[_]) rfl Tryz.call215 rfl (kr _) rfl rfl rfl ?_
   rintro _ h8 ⟨rfl,bz⟩
   have jO:=ns.trans bz
   have X8:=X4.trans jO
   have nu:=jO.obj bC aO
   have jH:=bz.obj ca aO
   have fQ:=jO.obj bJ aO
   have zS:=okp.aq jO
   have k8:=k.aq X8
   refine Gn ?_
   refine aH 3 4 ?_ TT.mk
   all_goals (refine aw 3 ?_)
   refine G3 ?_;refine WL.ld rfl (by first | exact aa nu rfl | assumption) rfl rfl rfl ?_
   rw [hran]
   have xb:=(k8.pok _ (b0 hi)).1
   have m1:¬ A.bs=i.p:=bw k8.se.bm xb (by decide)
   have m2:¬ b3=i.p:=bw fQ xb (by decide)
   refine WL.step (dw rfl) rfl rfl rfl ?_;refine Gn ?_;refine Gs [(0,_),(3,_),(6,_),(8,_),(28,_)] ?_
   refine aH 5 6 ?_ TT.mk
   all_goals (refine aw 6 ?_)
   refine WC.skip ?_;refine Gn ?_;refine WC.seq ?_;refine WC.bW (fun h'=>Ext (fun q=>q=i.p) h8 h') 14 14 rfl dm ?_
   refine WH.tk 0 rfl (fun hq hC=>ak rfl) rfl rfl rfl ?_
   refine WH.tk 1 rfl (fun hq hC=>ae rfl) rfl rfl rfl ?_
   refine WH.tk 2 rfl (fun hq hC=>ad rfl Tryz.underlying153 rfl Tryz.sizeOf150) rfl rfl rfl ?_
   refine WH.tk 3 rfl (fun hq hC=>aA Tryz.isAgg150 rfl (by first | exact hC.cell (by first | exact aa k8.se.bm rfl | assumption) (by first | exact m1 | exact m2))) rfl rfl rfl ?_
   refine WH.tk 4 rfl (fun hq hC=>ad rfl Tryz.underlying42 rfl Tryz.sizeOf9) rfl rfl rfl ?_
   refine WH.tk 5 rfl (fun hq hC=>aA Tryz.isAgg9 rfl (by first | exact hC.cell (by first | exact aa fQ rfl | assumption) (by first | exact m1 | exact m2))) rfl rfl rfl ?_
   refine WH.tk 6 rfl (fun hq hC=>ad rfl Tryz.underlying42 rfl Tryz.sizeOf3) rfl rfl rfl ?_
   refine WH.tk 7 rfl (fun hq hC=>aA Tryz.isAgg3 rfl (by first | exact hC.cell (by first | exact aa fQ rfl | assumption) (by first | exact m1 | exact m2))) rfl rfl rfl ?_
   refine WH.one 8 (by kernel_rfl) ?_
   refine aC.call (vs:=[_,_,_]) rfl rfl Tryz.call219 rfl (vG k8 hi mx hran) rfl rfl rfl ?_ (fun _=>by kernel_rfl)
   rintro _ qh ⟨v11,J4,MX,rfl,J5,DR,zU,Fz,t11,cM⟩
   have hlim:=zQ DR (sw _ _ ⟨htl.2.2.2.1,htl.2.2.2.2⟩)
   refine ⟨fun _=>cM,?_⟩
   refine WH.tk 9 rfl (fun hq hC=>bP rfl rfl) rfl rfl rfl ?_
   refine WH.tk 10 rfl (fun hq hC=>bP rfl rfl) rfl rfl rfl ?_
   refine WH.one 11 (by kernel_rfl) ?_
   refine aC.call (vs:=[_,_]) rfl rfl Tryz.call218 rfl (qf J4 J5 _ hlim.1 hlim.2) rfl rfl rfl ?_ (fun _=>by kernel_rfl)
   rintro v12 qS ⟨B,GH,pB,ey⟩
   refine ⟨fun _=>cM.trans (ey.mono fun _ _ e=>e.elim),?_⟩
   have J6:=cM.trans (ey.mono (S':=fun q=>q=i.p) fun _ _ e=>e.elim)
   refine WH.tk 12 rfl (fun hq hC=>aP rfl) rfl rfl rfl ?_
   refine WH.tk 13 rfl (fun hq hC=>aP rfl) rfl rfl rfl ?_
   refine WH.done (by kernel_rfl) ?_
   refine Gn ?_;refine Gs [(4,_),(5,_)] ?_;refine Gt ?_
   refine o5 zU ((Tn.no X8).trans t11) GH ey (by rw [pB,DR]) rfl rfl rfl rfl rfl rfl ?_
   rw [Fz]
end
end Go.Proofs.YtopgddfgefnmbaaGreatDoor
