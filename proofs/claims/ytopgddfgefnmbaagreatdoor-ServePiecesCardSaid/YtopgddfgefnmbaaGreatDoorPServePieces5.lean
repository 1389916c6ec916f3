/-
  SEVERAL TEXTS IN ONE: Dx18, Dx19, Sx6, Sx7, As30, As31, As32, Dx20, Dx21, Dp1, DigClean, Dp2, EnQ, Qv1, Qv2, Dx22, Dx23, Qv3, Dx24, Qv4, PlF, BkC2, Ck5, Ck6.
-/
import Derived.Test.YtopgddfgefnmbaaGreatDoorPServePieces4
import Derived.WalkKit
import Derived.LaidEql
import Derived.Stop.Asserts
import Derived.RowKitTokens
set_option maxHeartbeats 8000000
set_option maxRecDepth 100000
namespace Go.Proofs.YtopgddfgefnmbaaGreatDoor
open Go Go.RK
section
variable {h h':ah} {A:Ad} {st:Int} {sk ov:Bool} {cnt:Int} {L:List (List UInt8 × gw)} {P:List (List UInt8 × ee)}
theorem zO {b m:Nat} {es:List (List UInt8 × Value)} {v:Value} (name:List UInt8) (hb:h[b]?=some (.cells ⟨[.map (some m)]⟩ 189 (0,0))) (hm:Mp .string St h m es) (hv:cT es name=none) :
   ag Tryz.prog 216 ⟨[.pointer (some ⟨b,0,none⟩),St name,v]⟩ h fun u h'=>u=.bool false∧h'=h:=by
 refine calls [(0,_),(1,_),(2,_)] Tryz.func216 rfl Tryz.ntmps216 rfl ⟨rfl,rfl,rfl,trivial⟩ ?_
 refine G2 ?_;refine G2 ?_;refine WL.call (vs:=[_,_]) rfl Tryz.call256 rfl (pV name hb hm hv) rfl rfl rfl ?_
 rintro _ hz ⟨rfl,_⟩
 subst hz
 refine Go ?_;refine Gs [(2,_),(7,_),(8,_)] ?_;refine G3 ?_
 refine bK 17 ?_ TT.mk
 refine Gg ?_;refine WL.pass rfl rfl rfl ?_;refine Gg ?_;refine WL.pass rfl rfl rfl (Go ?_);refine Gs [(2,_),(7,_),(22,_)] ?_
 refine aH 1 2 ?_ TT.mk
 all_goals (refine aw 1 ?_)
 refine G2 ?_;refine Gt ?_
 exact ⟨rfl,rfl⟩
def Cx (P:List (List UInt8 × E9)) (n:List UInt8):List (List UInt8 × E9):=match bG P n with
 | some (t,o,ps,_,ran,ov)=>if ran=true then P else cl P n (t,o,ps,[],true,ov)
 | none=>P
theorem Cy (k:Ss h A st sk ov cnt L P) (n:List UInt8):ag Tryz.prog 216 ⟨[.pointer (some ⟨A.bp,0,none⟩),St n,nS]⟩ h fun _ h'=>∃ P',Ss h' A st sk ov cnt L P'∧fM P'=Cx (fM P) n∧Tn A P h h' P'∧Ext (fun q=>∃ cs,h[q]?=some (.cells cs 273 (0,0))) h h':=by
 unfold Cx
 rw [ga]
 rcases hg:bG P n with _ | i
 · refine (zO n k.se.pb k.se.pm (by rw [cN,hg];rfl)).mono fun u h' ⟨_,e⟩=>?_
   subst e
   exact ⟨P,k,rfl,Tn.no (.refl _ _),.refl _ _⟩
 · rcases hr:i.d.ran
   · refine (DH k hg [] hr ⟨Rd.nil _ _,⟨by simp,_,_,rfl,by simp [maxLen]⟩,by simp⟩).mono fun u h' ⟨_,P',i',k',e,_,_,t,x⟩=>?_
     exact ⟨P',k',by rw [e];simp only [Option.map_some,PD.pl,hr];rfl,t,x.mono fun q _ e=>⟨_,e▸(k.pok _ (b0 hg)).1⟩⟩
   · refine (BQ (k.pe hg) hr).mono fun u h' ⟨_,e⟩=>?_
     subst e
     exact ⟨P,k,by simp only [Option.map_some,PD.pl,hr,if_true],Tn.no (.refl _ _),.refl _ _⟩
theorem um {s s1:SP} {v:fQ} {out:List jb} (e:cF s v=(s1,out,none)):s1.P=(if cx v=true then [] else s.P)∧∀ x∈out,x.oids=[]∧x.cols=[]∧x.row=[]∧x.fields=[]:=by
 unfold cF at e
 by_cases e1:v.k=1
 · rw [if_pos e1] at e
   simp only [Prod.mk.injEq] at e
   obtain ⟨rfl,rfl,_⟩:=e
   exact ⟨by rw [if_neg (by simp [cx,e1])],by simp⟩
 · by_cases e2:v.k=8
   · rw [if_neg e1,if_pos e2] at e
     simp at e
   · rw [if_neg e1,if_neg e2] at e
     simp only [Prod.mk.injEq] at e
     obtain ⟨rfl,rfl,_⟩:=e
     exact ⟨rfl,by simp⟩
theorem Fp {B:List Bk} {out:List jb} (e:B.map Bk.p=out) (h:∀ x∈out,x.oids=[]∧x.cols=[]∧x.row=[]∧x.fields=[]):∀ b∈B,∀ q,¬ b.F q:=fun b hb q=>by
 obtain ⟨h1,h2,h3,h4⟩:=h b.p (e▸List.mem_map.2 ⟨b,hb,rfl⟩)
 exact Bk.MD h1 h2 (List.map_eq_nil_iff.1 h3) h4 q
theorem uo (k:Ss h A st sk ov cnt L P) (lm:jg (ck st sk ov cnt L P)) (f:Fm) (hf:f.ok h) (fl:gE f) {i:ee} (he:gz (ck st sk ov cnt L P) f.portal=none) (hi:bG P f.portal=some i) (hr:fZ (bh i.d.text)=false) :
   ag Tryz.prog 149 ⟨[.pointer (some ⟨A.bs,0,none⟩),.agg ⟨f.cells⟩]⟩ h (cj h A P (cd (ck st sk ov cnt L P) f.p)):=by
 have hgl:bG (ck st sk ov cnt L P).P f.portal=some i.d.pl:=by show bG (fM P) f.portal=_;rw [ga,hi];rfl
 have htl:=lm.tp _ (b0 hi)
 obtain ⟨⟨e1,_⟩,⟨e2,_⟩,⟨e3,_⟩,e4,_⟩:=hf
 obtain ⟨oW,nR,wV,jN,zA,_⟩:=fl
 obtain ⟨fk,w,n,p,t,vo,o,vf,fs,vs,rs,vp,ps,mx⟩:=f
 dsimp only at e1 e2 e3 e4 oW nR wV jN zA he hi hgl htl
 obtain ⟨A1,c1,rfl,_⟩:=e1
 obtain ⟨_,_,rfl,_⟩:=e2
 obtain ⟨_,_,rfl,_⟩:=e3
 obtain ⟨A4,c4,rfl,_⟩:=e4
 dsimp only [Fm.cells,Fm.p]
 have hpe : cd (ck st sk ov cnt L P) ⟨fk, w, n, p, t, o, ps.map aX.pl, mx⟩ = if i.d.ran = true ∧ (bh i.d.text).k ≠ 1 then (ck st sk ov cnt L P, [], some (([53, 53, 48, 48, 48] : List UInt8), ([112, 111, 114, 116, 97, 108, 32, 99, 97, 110, 110, 111, 116, 32, 98, 101, 32, 114, 117, 110] : List UInt8)))
     else match cF (ck st sk ov cnt L P) (bh i.d.text) with
       | (s1,out,none)=>({ s1 with P:=if cx (bh i.d.text)=true∨i.d.ran=true then s1.P else cl s1.P p (i.d.text,i.d.oids,i.d.ps.map aX.pl,[],true,i.d.over) },out,none)
       | r=>r:=by
   unfold cd
   dsimp only
   rw [he,hgl]
   unfold PD.pl
   dsimp only
   rw [if_neg (by rw [hr];decide)]
   rfl
 rw [hpe]
 clear hpe
 have kp:=fun h'=>oJ (h:=h') i.d.text (by omega)
 have kr:=fun h'=>kj (h:=h') (bh i.d.text)
 have kt:=fun (g:ah) (k:Ss g A st sk ov cnt L P)=>(zG k (bh i.d.text)).mono fun _ _ d=>d.Lh
 rw [hr] at kr
 by_cases hc:i.d.ran=true∧(bh i.d.text).k ≠ 1
 · rw [if_pos hc]
   obtain ⟨hran,Ln⟩:=hc
   unfold fQ.cells mg at kp kr kt
   refine calls [(0,_),(1,_)] Tryz.func149 rfl Tryz.ntmps149 rfl ⟨rfl,rfl,trivial⟩ ?_
   refine WC.sr ?_;refine WL.aj (aG rfl) rfl rfl rfl ?_
   rintro _ h1 ⟨b3,rfl,bR,aR,az⟩
   refine Go ?_;refine G2 ?_;refine WL.ld rfl (by first | exact aa aR rfl | assumption) rfl rfl rfl ?_
   refine WL.call (vs:=[_,_]) rfl Tryz.call213 rfl (eJ (k.aq az) lm p nR) rfl rfl rfl ?_
   rintro _ h2 ⟨⟨d2,rfl,iU,f2,hq'⟩,aI⟩
   rw [he] at hq' ⊢
   dsimp only [fK]
   refine Go ?_;refine WL.aj (an (fun w=>Tryz.zeroValue273 w)) rfl rfl rfl ?_
   rintro _ h3 ⟨b6,rfl,gj,bq,aQ⟩
   refine WL.ax (al Tryz.sizeOf273 rfl rfl rfl bq rfl (eO iU)) rfl rfl ?_
   rintro _ h4 ⟨bC,aW⟩
   have gH:Ext No h1 h4:=aI.trans (aQ.trans' aW (fun q hq e=>by omega))
   have X4:=az.trans gH
   have bJ:=gH.obj aR aO
   obtain ⟨i',hi',j9⟩:=hq' rfl
   have hii:=Option.some.inj (hi.symm.trans hi')
   subst hii
   have kM:=iU.ext (aQ.trans' (S:=No) aW (fun q hq e=>by omega)) (fun _ _=>aO)
   have hti:d2.text=i.d.text:=congrArg (·.1) j9
   have htp:d2.ps.map aX.pl=i.d.ps.map aX.pl:=congrArg (·.2.2.1) j9
   have htr:d2.ran=i.d.ran:=congrArg (·.2.2.2.2.1) j9
   obtain ⟨text,vo,oids,Gx,IX,vr,IY,Cu,vE⟩:=d2
   dsimp only at hti htp htr
   subst hti
   subst htr
   dsimp only [PD.cells] at bC
   obtain ⟨A6,c6,hvo,_⟩:=id kM.oids
   have okp:=kM.ps
   obtain ⟨_,⟨_,A7,c7,hvp,_⟩,_⟩:=id kM.ps
   obtain ⟨_,⟨_,A8,c8,hvr,_⟩,_⟩:=id kM.rs
   dsimp only at hvo hvp hvr okp
   subst hvo
   subst hvp
   subst hvr
   refine Go ?_;refine Gs [(0,_),(3,_),(6,_),(7,_)] ?_;refine G3 ?_;refine WL.step (cL (by kernel_rfl) rfl rfl) rfl rfl rfl ?_
   refine Gn ?_
   refine aH 1 2 ?_ TT.mk
   all_goals (refine aw 2 ?_)
   refine WC.skip ?_;refine Gn ?_;refine G2 ?_;refine WL.ld rfl (by first | exact aa bC rfl | assumption) rfl rfl rfl ?_
   refine WL.call (vs:=[_]) rfl Tryz.call214 rfl (kp _) rfl rfl rfl ?_
   rintro _ h5 ⟨rfl,aM⟩
   refine WL.aj (an (fun w=>Tryz.zeroValue278 w)) rfl rfl rfl ?_
   rintro _ h6 ⟨b8,rfl,qP,bX,aN⟩
   refine WL.ax (al Tryz.sizeOf278 rfl rfl rfl bX rfl (by simp [Value.oneCell'])) rfl rfl ?_
   rintro _ h7 ⟨ca,ba⟩
   have nr:Ext No h4 h7:=aM.trans (aN.trans' ba (fun q hq e=>by omega))
   refine Gn ?_;refine Gs [(0,_),(3,_),(6,_),(8,_)] ?_;refine WC.seq ?_;refine WC.sr ?_;refine WL.step (ay Tryz.isAgg278 Tryz.sizeOf278 rfl rfl (by exact At.av ca)) rfl rfl rfl ?_
   refine WL.call (vs:=[_]) rfl Tryz.call215 rfl (kr _) rfl rfl rfl ?_
   rintro _ h8 ⟨rfl,bz⟩
   have jO:=nr.trans bz
   have X8:=X4.trans jO
   have ns:=jO.obj bC aO
   have jH:=bz.obj ca aO
   have fP:=jO.obj bJ aO
   have zL:=okp.aq jO
   have k8:=k.aq X8
   refine Gn ?_
   refine aH 3 4 ?_ TT.mk
   all_goals (refine aw 4 ?_)
   refine WC.skip ?_;refine Gn ?_;refine G3 ?_;refine WL.ld rfl (by first | exact aa ns rfl | assumption) rfl rfl rfl ?_
   rw [hran]
   refine WL.step (ak rfl) rfl rfl rfl ?_
   refine bK 58 ?_ TT.mk
   refine Gg ?_;refine WL.ld rfl (by first | exact aa jH rfl | assumption) rfl rfl rfl ?_
   refine Gg ?_;refine Go ?_;refine Gs [(0,_),(3,_),(8,_),(62,_)] ?_
   refine aH 7 8 ?_ TT.mk
   all_goals (refine aw 7 ?_)
   refine WC.sr ?_;refine WL.call (vs:=[_,_]) rfl Tryz.call204 rfl (gZ _ _) rfl rfl rfl ?_
   rintro _ hq ⟨rfl,hz⟩
   replace hz:=hz.symm
   subst hz
   refine Go ?_;refine Gs [(4,_),(5,_)] ?_;refine Gt ?_
   exact cj.err rfl (.of k8 (Tn.no X8))
 · rw [if_neg hc]
   rcases hT:cF (ck st sk ov cnt L P) (bh i.d.text) with ⟨s1,out,_ | ⟨ea,ec⟩⟩
   · have hTn:=um hT
     dsimp only
     rw [hT] at kt
     have hfin:Cx s1.P p=if cx (bh i.d.text)=true∨i.d.ran=true then s1.P else cl s1.P p (i.d.text,i.d.oids,i.d.ps.map aX.pl,[],true,i.d.over):=by
       rw [hTn.1]
       unfold Cx
       cases hex:cx (bh i.d.text)
       · rw [if_neg (by decide),show bG (ck st sk ov cnt L P).P p=_ from hgl]
         cases hran:i.d.ran <;> simp [PD.pl,hran]
       · rw [if_pos rfl,if_pos (.inl rfl)]
         rfl
     rw [← hfin]
     unfold fQ.cells mg at kp kr kt
     rcases (show i.d.ran=true∧(bh i.d.text).k=1∨i.d.ran=false by
       cases h1:i.d.ran
       · exact .inr rfl
       · exact .inl ⟨rfl,Classical.not_not.1 fun e=>hc ⟨h1,e⟩⟩) with ⟨hran,Ln⟩ | hran
     all_goals
       refine calls [(0,_),(1,_)] Tryz.func149 rfl Tryz.ntmps149 rfl ⟨rfl,rfl,trivial⟩ ?_
       all_goals (refine WC.sr ?_;refine WL.aj (aG rfl) rfl rfl rfl ?_;rintro _ h1 ⟨b3,rfl,bR,aR,az⟩;refine Go ?_;refine G2 ?_;refine WL.ld rfl (by first | exact aa aR rfl | assumption) rfl rfl rfl ?_)
       all_goals (
        refine WL.call (vs:=[_,_]) rfl Tryz.call213 rfl (eJ (k.aq az) lm p nR) rfl rfl rfl ?_
        rintro _ h2 ⟨⟨d2,rfl,iU,f2,hq'⟩,aI⟩
        rw [he] at hq' ⊢
        dsimp only [fK])
       all_goals (refine Go ?_;refine WL.aj (an (fun w=>Tryz.zeroValue273 w)) rfl rfl rfl ?_;rintro _ h3 ⟨b6,rfl,gj,bq,aQ⟩;refine WL.ax (al Tryz.sizeOf273 rfl rfl rfl bq rfl (eO iU)) rfl rfl ?_;rintro _ h4 ⟨bC,aW⟩)
       all_goals (
        have gH:Ext No h1 h4:=aI.trans (aQ.trans' aW (fun q hq e=>by omega))
        have X4:=az.trans gH
        have bJ:=gH.obj aR aO
        obtain ⟨i',hi',j9⟩:=hq' rfl
        have hii:=Option.some.inj (hi.symm.trans hi')
        subst hii
        have kM:=iU.ext (aQ.trans' (S:=No) aW (fun q hq e=>by omega)) (fun _ _=>aO)
        have hti:d2.text=i.d.text:=congrArg (·.1) j9
        have htp:d2.ps.map aX.pl=i.d.ps.map aX.pl:=congrArg (·.2.2.1) j9
        have htr:d2.ran=i.d.ran:=congrArg (·.2.2.2.2.1) j9
        obtain ⟨text,vo,oids,Gx,IX,vr,IY,Cu,vE⟩:=d2
        dsimp only at hti htp htr
        subst hti
        subst htr
        dsimp only [PD.cells] at bC
        obtain ⟨A6,c6,hvo,_⟩:=id kM.oids
        have okp:=kM.ps
        obtain ⟨_,⟨_,A7,c7,hvp,_⟩,_⟩:=id kM.ps
        obtain ⟨_,⟨_,A8,c8,hvr,_⟩,_⟩:=id kM.rs
        dsimp only at hvo hvp hvr okp
        subst hvo
        subst hvp
        subst hvr)
       all_goals (refine Go ?_;refine Gs [(0,_),(3,_),(6,_),(7,_)] ?_;refine G3 ?_;refine WL.step (cL (by kernel_rfl) rfl rfl) rfl rfl rfl ?_;refine Gn ?_;refine aH 1 2 ?_ TT.mk;refine aw 2 ?_;refine WC.skip ?_;refine Gn ?_;refine G2 ?_;refine WL.ld rfl (by first | exact aa bC rfl | assumption) rfl rfl rfl ?_;refine WL.call (vs:=[_]) rfl Tryz.call214 rfl (kp _) rfl rfl rfl ?_;rintro _ h5 ⟨rfl,aM⟩;refine WL.aj (an (fun w=>Tryz.zeroValue278 w)) rfl rfl rfl ?_;rintro _ h6 ⟨b8,rfl,qP,bX,aN⟩;refine WL.ax (al Tryz.sizeOf278 rfl rfl rfl bX rfl (by simp [Value.oneCell'])) rfl rfl ?_;rintro _ h7 ⟨ca,ba⟩;have nr:Ext No h4 h7:=aM.trans (aN.trans' ba (fun q hq e=>by omega));refine Gn ?_;refine Gs [(0,_),(3,_),(6,_),(8,_)] ?_;refine WC.seq ?_;refine WC.sr ?_;refine WL.step (ay Tryz.isAgg278 Tryz.sizeOf278 rfl rfl (by exact At.av ca)) rfl rfl rfl ?_;refine WL.call (vs:=[_]) rfl Tryz.call215 rfl (kr _) rfl rfl rfl ?_;rintro _ h8 ⟨rfl,bz⟩;have jO:=nr.trans bz;have X8:=X4.trans jO;have ns:=jO.obj bC aO;have jH:=bz.obj ca aO;have fP:=jO.obj bJ aO;have zL:=okp.aq jO;have k8:=k.aq X8;refine Gn ?_;refine aH 3 4 ?_ TT.mk;refine aw 4 ?_;refine WC.skip ?_;refine Gn ?_;refine G3 ?_;refine WL.ld rfl (by first | exact aa ns rfl | assumption) rfl rfl rfl ?_;rw [hran])
       all_goals (refine WL.step (ak rfl) rfl rfl rfl ?_;refine bK 58 ?_ TT.mk;refine Gg ?_;first | refine WL.pass rfl rfl rfl ?_ | (refine WL.ld rfl (by first | exact aa jH rfl | assumption) rfl rfl rfl ?_))
       all_goals (refine Gg ?_;refine Go ?_;refine Gs [(0,_),(3,_),(8,_),(62,_)] ?_;refine aH 7 8 ?_ TT.mk;refine aw 8 ?_;refine WC.skip ?_;refine Gn ?_;refine G2 ?_;refine WL.step (ay Tryz.isAgg278 Tryz.sizeOf278 rfl rfl (by exact At.av jH)) rfl rfl rfl ?_)
       all_goals (
        refine WL.call (vs:=[_,_]) rfl Tryz.call220 rfl (kt _ k8) rfl rfl rfl ?_
        rintro _ h9 ⟨v9,B9,c9,rfl,O9,Gz,L9,P9,k9,JV,Fq,t9⟩
        dsimp only [fK] at Gz ⊢
        have T9:=(Tn.no (A:=A) (P:=P) X8).trans t9
        have Fs:=t9.1.obj fP (k8.not fP (by decide) (by decide) (by decide)))
       all_goals (refine Go ?_;refine Gs [(0,_),(3,_),(7,_),(9,_)] ?_;refine G3 ?_;refine WL.step (rW (by kernel_rfl) rfl rfl) rfl rfl rfl ?_;refine Gn ?_;refine aH 9 10 ?_ TT.mk;refine aw 9 ?_;refine WC.jl 6 dm (by kernel_rfl) ?_;show WS _ _ _ [_,_,_,_,_,_] _ _ _)
       all_goals (refine WS.step (ak rfl) rfl rfl rfl ?_;refine WS.step (ae rfl) rfl rfl rfl ?_;refine WS.step (ad rfl Tryz.underlying153 rfl Tryz.sizeOf150) rfl rfl rfl ?_;refine WS.step (aA Tryz.isAgg150 rfl (by first | exact aa k9.se.bn rfl | assumption)) rfl rfl rfl ?_;refine WS.step (ad rfl Tryz.underlying42 rfl Tryz.sizeOf9) rfl rfl rfl ?_;refine WS.step (aA Tryz.isAgg9 rfl (by first | exact aa Fs rfl | assumption)) rfl rfl rfl ?_;refine WS.nil ?_;show WL _ _ _ [_] _ _ _)
       all_goals (refine WL.call (vs:=[_,_,_]) rfl Tryz.call216 rfl (Cy k9 p) rfl rfl rfl ?_;rintro _ iG ⟨Lm,sw,JW,t10,ct⟩;have wY:=O9.ext' ct (fun q hq ⟨cs,e⟩=>by obtain ⟨_,z⟩:=bN O9.own hq;rw [e] at z;simp at z) (fun b hb q e=>absurd e (Fp Gz hTn.2 b hb q));refine WL.nil ?_;refine Gn ?_;refine Gs [(7,_),(9,_)] ?_;refine G2 ?_;refine Gs [(4,_),(5,_)] ?_;refine Gt ?_;exact ⟨v9,B9,c9,rfl,wY.mono X8.size,Gz,L9,Lm,sw,JV,by rw [JW,Fq],T9.trans t10⟩)
   · dsimp only
     rw [hT] at kt
     unfold fQ.cells mg at kp kr kt
     rcases (show i.d.ran=true∧(bh i.d.text).k=1∨i.d.ran=false by
       cases h1:i.d.ran
       · exact .inr rfl
       · exact .inl ⟨rfl,Classical.not_not.1 fun e=>hc ⟨h1,e⟩⟩) with ⟨hran,Ln⟩ | hran
     all_goals
       refine calls [(0,_),(1,_)] Tryz.func149 rfl Tryz.ntmps149 rfl ⟨rfl,rfl,trivial⟩ ?_
       all_goals (refine WC.sr ?_;refine WL.aj (aG rfl) rfl rfl rfl ?_;rintro _ h1 ⟨b3,rfl,bR,aR,az⟩;refine Go ?_;refine G2 ?_;refine WL.ld rfl (by first | exact aa aR rfl | assumption) rfl rfl rfl ?_)
       all_goals (
        refine WL.call (vs:=[_,_]) rfl Tryz.call213 rfl (eJ (k.aq az) lm p nR) rfl rfl rfl ?_
        rintro _ h2 ⟨⟨d2,rfl,iU,f2,hq'⟩,aI⟩
        rw [he] at hq' ⊢
        dsimp only [fK])
       all_goals (refine Go ?_;refine WL.aj (an (fun w=>Tryz.zeroValue273 w)) rfl rfl rfl ?_;rintro _ h3 ⟨b6,rfl,gj,bq,aQ⟩;refine WL.ax (al Tryz.sizeOf273 rfl rfl rfl bq rfl (eO iU)) rfl rfl ?_;rintro _ h4 ⟨bC,aW⟩)
       all_goals (
        have gH:Ext No h1 h4:=aI.trans (aQ.trans' aW (fun q hq e=>by omega))
        have X4:=az.trans gH
        have bJ:=gH.obj aR aO
        obtain ⟨i',hi',j9⟩:=hq' rfl
        have hii:=Option.some.inj (hi.symm.trans hi')
        subst hii
        have kM:=iU.ext (aQ.trans' (S:=No) aW (fun q hq e=>by omega)) (fun _ _=>aO)
        have hti:d2.text=i.d.text:=congrArg (·.1) j9
        have htp:d2.ps.map aX.pl=i.d.ps.map aX.pl:=congrArg (·.2.2.1) j9
        have htr:d2.ran=i.d.ran:=congrArg (·.2.2.2.2.1) j9
        obtain ⟨text,vo,oids,Gx,IX,vr,IY,Cu,vE⟩:=d2
        dsimp only at hti htp htr
        subst hti
        subst htr
        dsimp only [PD.cells] at bC
        obtain ⟨A6,c6,hvo,_⟩:=id kM.oids
        have okp:=kM.ps
        obtain ⟨_,⟨_,A7,c7,hvp,_⟩,_⟩:=id kM.ps
        obtain ⟨_,⟨_,A8,c8,hvr,_⟩,_⟩:=id kM.rs
        dsimp only at hvo hvp hvr okp
        subst hvo
        subst hvp
        subst hvr)
       all_goals (refine Go ?_;refine Gs [(0,_),(3,_),(6,_),(7,_)] ?_;refine G3 ?_;refine WL.step (cL (by kernel_rfl) rfl rfl) rfl rfl rfl ?_;refine Gn ?_;refine aH 1 2 ?_ TT.mk;refine aw 2 ?_;refine WC.skip ?_;refine Gn ?_;refine G2 ?_;refine WL.ld rfl (by first | exact aa bC rfl | assumption) rfl rfl rfl ?_;refine WL.call (vs:=[_]) rfl Tryz.call214 rfl (kp _) rfl rfl rfl ?_;rintro _ h5 ⟨rfl,aM⟩;refine WL.aj (an (fun w=>Tryz.zeroValue278 w)) rfl rfl rfl ?_;rintro _ h6 ⟨b8,rfl,qP,bX,aN⟩;refine WL.ax (al Tryz.sizeOf278 rfl rfl rfl bX rfl (by simp [Value.oneCell'])) rfl rfl ?_;rintro _ h7 ⟨ca,ba⟩;have nr:Ext No h4 h7:=aM.trans (aN.trans' ba (fun q hq e=>by omega));refine Gn ?_;refine Gs [(0,_),(3,_),(6,_),(8,_)] ?_;refine WC.seq ?_;refine WC.sr ?_;refine WL.step (ay Tryz.isAgg278 Tryz.sizeOf278 rfl rfl (by exact At.av ca)) rfl rfl rfl ?_;refine WL.call (vs:=[_]) rfl Tryz.call215 rfl (kr _) rfl rfl rfl ?_;rintro _ h8 ⟨rfl,bz⟩;have jO:=nr.trans bz;have X8:=X4.trans jO;have ns:=jO.obj bC aO;have jH:=bz.obj ca aO;have fP:=jO.obj bJ aO;have zL:=okp.aq jO;have k8:=k.aq X8;refine Gn ?_;refine aH 3 4 ?_ TT.mk;refine aw 4 ?_;refine WC.skip ?_;refine Gn ?_;refine G3 ?_;refine WL.ld rfl (by first | exact aa ns rfl | assumption) rfl rfl rfl ?_;rw [hran])
       all_goals (refine WL.step (ak rfl) rfl rfl rfl ?_;refine bK 58 ?_ TT.mk;refine Gg ?_;first | refine WL.pass rfl rfl rfl ?_ | (refine WL.ld rfl (by first | exact aa jH rfl | assumption) rfl rfl rfl ?_))
       all_goals (refine Gg ?_;refine Go ?_;refine Gs [(0,_),(3,_),(8,_),(62,_)] ?_;refine aH 7 8 ?_ TT.mk;refine aw 8 ?_;refine WC.skip ?_;refine Gn ?_;refine G2 ?_;refine WL.step (ay Tryz.isAgg278 Tryz.sizeOf278 rfl rfl (by exact At.av jH)) rfl rfl rfl ?_;refine WL.call (vs:=[_,_]) rfl Tryz.call220 rfl (kt _ k8) rfl rfl rfl ?_;rintro _ h9 ⟨v9,B9,c9,rfl,O9,Gz,L9,P9,k9,JV,Fq,t9⟩;dsimp only [fK] at Gz ⊢)
       all_goals (refine Go ?_;refine Gs [(0,_),(3,_),(7,_),(9,_)] ?_;refine G3 ?_;refine WL.step (y6 (by kernel_rfl) rfl rfl) rfl rfl rfl ?_;refine Gn ?_;refine aH 9 10 ?_ TT.mk;refine aw 10 ?_;refine WC.skip ?_;refine Gn ?_;refine Gs [(7,_),(9,_)] ?_;refine G2 ?_;refine Gs [(4,_),(5,_)] ?_;refine Gt ?_;exact ⟨v9,B9,c9,rfl,O9.mono X8.size,Gz,L9,P9,k9,JV,Fq,(Tn.no (A:=A) (P:=P) X8).trans t9⟩)
theorem wZ (k:Ss h A st sk ov cnt L P) (lm:jg (ck st sk ov cnt L P)) (f:Fm) (hf:f.ok h) (fl:gE f) :
   ag Tryz.prog 149 ⟨[.pointer (some ⟨A.bs,0,none⟩),.agg ⟨f.cells⟩]⟩ h (cj h A P (cd (ck st sk ov cnt L P) f.p)):=by
 rcases he:gz (ck st sk ov cnt L P) f.portal with _ | ⟨ea,ec⟩
 · obtain ⟨i,hi⟩:=nq he
   cases hr:fZ (bh i.d.text)
   · exact uo k lm f hf fl he hi hr
   · exact uk k lm f hf fl he hi hr
 · have hpe : cd (ck st sk ov cnt L P) f.p = (ck st sk ov cnt L P, [], some (ea, ec)) := by
     unfold cd
     rw [show gz (ck st sk ov cnt L P) f.p.portal=_ from he]
   rw [hpe]
   obtain ⟨⟨e1,_⟩,⟨e2,_⟩,⟨e3,_⟩,e4,_⟩:=hf
   obtain ⟨oW,nR,wV,jN,zA,_⟩:=fl
   obtain ⟨fk,w,n,p,t,vo,o,vf,fs,vs,rs,vp,ps,mx⟩:=f
   dsimp only at e1 e2 e3 e4 oW nR wV jN zA he
   obtain ⟨A1,c1,rfl,_⟩:=e1
   obtain ⟨_,_,rfl,_⟩:=e2
   obtain ⟨_,_,rfl,_⟩:=e3
   obtain ⟨A4,c4,rfl,_⟩:=e4
   dsimp only [Fm.cells]
   refine calls [(0,_),(1,_)] Tryz.func149 rfl Tryz.ntmps149 rfl ⟨rfl,rfl,trivial⟩ ?_
   refine WC.sr ?_;refine WL.aj (aG rfl) rfl rfl rfl ?_
   rintro _ h1 ⟨b3,rfl,bR,aR,az⟩
   refine Go ?_;refine G2 ?_;refine WL.ld rfl (by first | exact aa aR rfl | assumption) rfl rfl rfl ?_
   refine WL.call (vs:=[_,_]) rfl Tryz.call213 rfl (eJ (k.aq az) lm p nR) rfl rfl rfl ?_
   rintro _ h2 ⟨⟨d2,rfl,iU,f2,hq'⟩,aI⟩
   rw [he] at hq' ⊢
   dsimp only [fK]
   refine Go ?_;refine WL.aj (an (fun w=>Tryz.zeroValue273 w)) rfl rfl rfl ?_
   rintro _ h3 ⟨b6,rfl,gj,bq,aQ⟩
   refine WL.ax (al Tryz.sizeOf273 rfl rfl rfl bq rfl (eO iU)) rfl rfl ?_
   rintro _ h4 ⟨bC,aW⟩
   have X4:Ext No h h4:=(az.trans aI).trans (aQ.trans' aW (fun q hq e=>by omega))
   refine Go ?_;refine Gs [(0,_),(3,_),(6,_),(7,_)] ?_;refine G3 ?_;refine WL.step (fE (by kernel_rfl) rfl rfl) rfl rfl rfl ?_
   refine Gn ?_
   refine aH 1 2 ?_ TT.mk
   all_goals (refine aw 1 ?_)
   refine G2 ?_;refine Gs [(4,_),(5,_)] ?_;refine Gt ?_
   exact cj.err rfl (.of (k.aq X4) (Tn.no X4))
end
section
variable {h h':ah} {A:Ad} {st:Int} {sk ov:Bool} {cnt:Int} {L:List (List UInt8 × gw)} {P:List (List UInt8 × ee)}
theorem qh (k:Ss h A st sk ov cnt L P) (n:List UInt8):ag Tryz.prog 221 ⟨[.pointer (some ⟨A.bp,0,none⟩),St n]⟩ h fun _ h'=>∃ P',(∀ q∈P',q∈P)∧Ss h' A st sk ov cnt L P'∧fM P'=cb (fM P) n∧Tn A P h h' P':=by
 rcases hg:bG P n with _ | i
 · refine (yH n k.se.pb k.se.pm (by rw [cN,hg];rfl)).mono fun u h' ⟨_,e⟩=>?_
   subst e
   have hde:cb P n=P:=List.filter_eq_self.2 fun q hq=>by simpa using mw hg q hq
   exact ⟨P,fun _ h=>h,k,(congrArg fM hde).symm.trans (mB _ _),Tn.no (.refl _ _)⟩
 · refine (Dz (k.pe hg)).mono fun u h' ⟨_,hm,hx⟩=>?_
   rw [ey] at hm
   have kk:=k.cF hx hm (fun q hq=>(cB hq).1)
   exact ⟨_,fun q hq=>(cB hq).1,kk.1,mB _ _,kk.2⟩
theorem eQ.trans {L1:List (List UInt8 × gw)} {P1:List (List UInt8 × ee)} {h1:ah} {r:fR} {u:Value} (t:Tn A P h h1 P1) (hL:∀ q∈L1,q∈L) (hP:∀ q∈P1,q∈P) (d:eQ h1 A L1 P1 r u h'):eQ h A L P r u h':=by
 obtain ⟨v,B,c,e,O,p,L2,P2,s1,s2,k,e1,e2,t2⟩:=d
 exact ⟨v,B,c,e,O.mono t.1.size,p,L2,P2,fun q hq=>hL q (s1 q hq),fun q hq=>hP q (s2 q hq),k,e1,e2,t.trans t2⟩
theorem vF (k:Ss h A st sk ov cnt L P) (lm:jg (ck st sk ov cnt L P)) (f:Fm) (hf:f.ok h) (fl:gE f):ag Tryz.prog 151 ⟨[.pointer (some ⟨A.bs,0,none⟩),.agg ⟨f.cells⟩]⟩ h (eQ h A L P (dy (ck st sk ov cnt L P) f.p)):=by
 have hcl:cnt < 1000000:=lm.c
 have hco:=k.cok
 obtain ⟨⟨e1,_⟩,⟨e2,_⟩,⟨e3,_⟩,e4,_⟩:=hf
 obtain ⟨oW,nR,wV,jN,zA,_⟩:=fl
 obtain ⟨fk,w,n,p,t,vo,o,vf,fs,vs,rs,vp,ps,mx⟩:=f
 dsimp only at e1 e2 e3 e4 oW nR wV jN zA
 obtain ⟨A1,c1,rfl,_⟩:=e1
 obtain ⟨_,_,rfl,_⟩:=e2
 obtain ⟨_,_,rfl,_⟩:=e3
 obtain ⟨A4,c4,rfl,_⟩:=e4
 dsimp only [Fm.cells,Fm.p]
 have hpe : dy (ck st sk ov cnt L P) ⟨fk, w, n, p, t, o, ps.map aX.pl, mx⟩ = match jF t st with
     | some e=>(⟨st,sk,ov,cnt,cb (qc L) [],cb (fM P) []⟩,[],some e)
     | none=>if fZ (bh t)=true then (⟨st,sk,ov,(cY (bh t) [] cnt).2,cb (qc L) [],cb (fM P) []⟩,oV (og (bh t) 0) :: cQ (cY (bh t) [] cnt).1 false,none)
       else cF ⟨st,sk,ov,cnt,cb (qc L) [],cb (fM P) []⟩ (bh t):=rfl
 rw [hpe]
 clear hpe
 have kp:=fun h'=>oJ (h:=h') t (by omega)
 have kr:=fun h'=>kj (h:=h') (bh t)
 have kc:=fun h'=>oK (h:=h') (bh t) 0
 have kt:=fun (g:ah) (L:List (List UInt8 × gw)) (P:List (List UInt8 × ee)) (k:Ss g A st sk ov cnt L P)=>zG k (bh t)
 have ke:=fun (g:ah) (cn:Int) (hb:g[A.be]?=some (.cells ⟨[.map (some A.me),In cn]⟩ 104 (0,0))) (hc:0≤cn∧cn≤1000000)=>sq hb hc (bh t) (vp:=nS) [] ⟨Rd.nil _ _,⟨by simp,_,_,rfl,by simp [maxLen]⟩,by simp⟩
 have kre:=fun (g:ah) (L:List (List UInt8 × gw)) (P:List (List UInt8 × ee)) (k:Ss g A st sk ov cnt L P)=>iZ k t (by omega)
 unfold fQ.cells mg at kp kr kc kt ke
 simp only [List.map_nil] at ke
 rcases hr:jF t st with _ | ⟨ra,rb⟩
 · rw [hr] at kre
   dsimp only
   cases hw:fZ (bh t)
   · rw [hw] at kr
     rw [if_neg (by decide)]
     refine calls [(0,_),(1,_)] Tryz.func151 rfl Tryz.ntmps151 rfl ⟨rfl,rfl,trivial⟩ ?_
     refine WC.sr ?_;refine WL.aj (aG rfl) rfl rfl rfl ?_
     rintro _ h1 ⟨b3,rfl,bR,aR,az⟩
     have k1:=k.aq az
     refine Go ?_;refine G2 ?_;refine WL.step (ae rfl) rfl rfl rfl (Go ?_);refine WL.ld rfl (by first | exact aa k1.se.bn rfl | assumption) rfl rfl rfl ?_
     refine WL.ax (fh rfl fz Tryz.underlying149 Tryz.underlying9 rfl rfl k1.se.stm) rfl rfl ?_
     rintro _ h2 ⟨oX,aI⟩
     rw [ey] at oX
     obtain ⟨k2,t2⟩:=k1.ni aI oX (fun q hq=>.inl (cB hq).1)
     have bH:=t2.1.obj aR (k1.not aR (by decide) (by decide) (by decide))
     refine Gn ?_;refine Gs [(0,_),(3,_)] ?_;refine G2 ?_;refine WL.step (ae rfl) rfl rfl rfl (Go ?_);refine WL.ld rfl (by first | exact aa k2.se.bn rfl | assumption) rfl rfl rfl ?_
     refine WL.call (vs:=[_,_]) rfl Tryz.call221 rfl (qh k2 []) rfl rfl rfl ?_
     rintro _ h4 ⟨P4,HG,k4,HH,t4⟩
     have bC:=t4.1.obj bH (k2.not bH (by decide) (by decide) (by decide))
     have T4:=((Tn.no (A:=A) (P:=P) az).trans t2).trans t4
     refine Gn ?_;refine Gs [(0,_),(3,_)] ?_;refine G3 ?_;refine WL.ld rfl (by first | exact aa bC rfl | assumption) rfl rfl rfl ?_
     refine WL.call (vs:=[_,_]) rfl Tryz.call203 rfl (kre _ _ _ k4) rfl rfl rfl ?_
     rintro _ h5 ⟨rfl,aM⟩
     dsimp only [fK]
     have k5:=k4.aq aM
     have bV:=aM.obj bC aO
     have T5:=T4.trans (Tn.no aM)
     refine Go ?_;refine Gs [(0,_),(3,_),(6,_)] ?_;refine G2 ?_;refine WL.step (cL (by kernel_rfl) rfl rfl) rfl rfl rfl ?_
     refine Gn ?_
     refine aH 1 2 ?_ TT.mk
     all_goals (refine aw 2 ?_)
     refine WC.skip ?_;refine Gn ?_;refine G2 ?_;refine WL.ld rfl (by first | exact aa bV rfl | assumption) rfl rfl rfl ?_
     refine WL.call (vs:=[_]) rfl Tryz.call214 rfl (kp _) rfl rfl rfl ?_
     rintro _ h6 ⟨rfl,aN⟩
     refine WL.aj (an (fun w=>Tryz.zeroValue278 w)) rfl rfl rfl ?_
     rintro _ h7 ⟨b7,rfl,xC,ca,ba⟩
     refine WL.ax (al Tryz.sizeOf278 rfl rfl rfl ca rfl (by simp [Value.oneCell'])) rfl rfl ?_
     rintro _ h8 ⟨bE,bz⟩
     have HI:Ext No h5 h8:=aN.trans (ba.trans' bz (fun q hq e=>by omega))
     refine Gn ?_;refine Gs [(0,_),(7,_)] ?_;refine WC.seq ?_;refine WC.sr ?_;refine WL.step (ay Tryz.isAgg278 Tryz.sizeOf278 rfl rfl (by exact At.av bE)) rfl rfl rfl ?_
     refine WL.call (vs:=[_]) rfl Tryz.call215 rfl (kr _) rfl rfl rfl ?_
     rintro _ h9 ⟨rfl,bZ⟩
     have bY:=bZ.obj bE aO
     have k9:=k5.aq (HI.trans bZ)
     have T9:=T5.trans (Tn.no (HI.trans bZ))
     refine Go ?_
     refine aH 3 4 ?_ TT.mk
     all_goals (refine aw 3 ?_)
     refine G2 ?_;refine WL.step (ay Tryz.isAgg278 Tryz.sizeOf278 rfl rfl (by exact At.av bY)) rfl rfl rfl ?_
     refine WL.call (vs:=[_,_]) rfl Tryz.call220 rfl (kt _ _ _ k9) rfl rfl rfl ?_
     rintro _ qg ⟨v11,MJ,JX,rfl,d11⟩
     refine Go ?_;refine Gs [(4,_),(5,_)] ?_;refine Gt ?_
     have hs:ck st sk ov cnt (cb L []) P4=⟨st,sk,ov,cnt,cb (qc L) [],cb (fM P) []⟩:=by simp only [ck,kA,HH]
     rw [← hs]
     exact eQ.trans T9 (fun q hq=>(cB hq).1) HG ⟨v11,MJ,JX,rfl,d11⟩
   · rw [hw] at kr
     rw [if_pos rfl]
     refine calls [(0,_),(1,_)] Tryz.func151 rfl Tryz.ntmps151 rfl ⟨rfl,rfl,trivial⟩ ?_
     refine WC.sr ?_;refine WL.aj (aG rfl) rfl rfl rfl ?_
     rintro _ h1 ⟨b3,rfl,bR,aR,az⟩
     have k1:=k.aq az
     refine Go ?_;refine G2 ?_;refine WL.step (ae rfl) rfl rfl rfl (Go ?_);refine WL.ld rfl (by first | exact aa k1.se.bn rfl | assumption) rfl rfl rfl ?_
     refine WL.ax (fh rfl fz Tryz.underlying149 Tryz.underlying9 rfl rfl k1.se.stm) rfl rfl ?_
     rintro _ h2 ⟨oX,aI⟩
     rw [ey] at oX
     obtain ⟨k2,t2⟩:=k1.ni aI oX (fun q hq=>.inl (cB hq).1)
     have bH:=t2.1.obj aR (k1.not aR (by decide) (by decide) (by decide))
     refine Gn ?_;refine Gs [(0,_),(3,_)] ?_;refine G2 ?_;refine WL.step (ae rfl) rfl rfl rfl (Go ?_);refine WL.ld rfl (by first | exact aa k2.se.bn rfl | assumption) rfl rfl rfl ?_
     refine WL.call (vs:=[_,_]) rfl Tryz.call221 rfl (qh k2 []) rfl rfl rfl ?_
     rintro _ h4 ⟨P4,HG,k4,HH,t4⟩
     have bC:=t4.1.obj bH (k2.not bH (by decide) (by decide) (by decide))
     have T4:=((Tn.no (A:=A) (P:=P) az).trans t2).trans t4
     refine Gn ?_;refine Gs [(0,_),(3,_)] ?_;refine G3 ?_;refine WL.ld rfl (by first | exact aa bC rfl | assumption) rfl rfl rfl ?_
     refine WL.call (vs:=[_,_]) rfl Tryz.call203 rfl (kre _ _ _ k4) rfl rfl rfl ?_
     rintro _ h5 ⟨rfl,aM⟩
     dsimp only [fK]
     have k5:=k4.aq aM
     have bV:=aM.obj bC aO
     have T5:=T4.trans (Tn.no aM)
     refine Go ?_;refine Gs [(0,_),(3,_),(6,_)] ?_;refine G2 ?_;refine WL.step (cL (by kernel_rfl) rfl rfl) rfl rfl rfl ?_
     refine Gn ?_
     refine aH 1 2 ?_ TT.mk
     all_goals (refine aw 2 ?_)
     refine WC.skip ?_;refine Gn ?_;refine G2 ?_;refine WL.ld rfl (by first | exact aa bV rfl | assumption) rfl rfl rfl ?_
     refine WL.call (vs:=[_]) rfl Tryz.call214 rfl (kp _) rfl rfl rfl ?_
     rintro _ h6 ⟨rfl,aN⟩
     refine WL.aj (an (fun w=>Tryz.zeroValue278 w)) rfl rfl rfl ?_
     rintro _ h7 ⟨b7,rfl,xC,ca,ba⟩
     refine WL.ax (al Tryz.sizeOf278 rfl rfl rfl ca rfl (by simp [Value.oneCell'])) rfl rfl ?_
     rintro _ h8 ⟨bE,bz⟩
     have HI:Ext No h5 h8:=aN.trans (ba.trans' bz (fun q hq e=>by omega))
     refine Gn ?_;refine Gs [(0,_),(7,_)] ?_;refine WC.seq ?_;refine WC.sr ?_;refine WL.step (ay Tryz.isAgg278 Tryz.sizeOf278 rfl rfl (by exact At.av bE)) rfl rfl rfl ?_
     refine WL.call (vs:=[_]) rfl Tryz.call215 rfl (kr _) rfl rfl rfl ?_
     rintro _ h9 ⟨rfl,bZ⟩
     have bY:=bZ.obj bE aO
     have k9:=k5.aq (HI.trans bZ)
     have T9:=T5.trans (Tn.no (HI.trans bZ))
     refine Go ?_
     refine aH 3 4 ?_ TT.mk
     all_goals (refine aw 4 ?_)
     refine WC.skip ?_;refine Gn ?_;refine WC.sr ?_;refine WL.step (ay Tryz.isAgg278 Tryz.sizeOf278 rfl rfl (by exact At.av bY)) rfl rfl rfl ?_
     refine WL.call (vs:=[_,_]) rfl Tryz.call223 rfl (kc _) rfl rfl rfl ?_
     rintro _ iG ⟨rfl,ct⟩
     refine WL.call (vs:=[_]) rfl Tryz.call222 rfl (vB _) rfl rfl rfl ?_
     rintro _ qg ⟨MK,rfl,JY,DK,f11,cM⟩
     refine WL.aj (au (vs:=[_]) (cs:=[_,_,_,_,_,_,_,_,_,_,_]) (fun | [.agg ⟨[a0,a1,a2,a3,a4,a5,a6,a7,a8,a9,gX]⟩]=>[a0,a1,a2,a3,a4,a5,a6,a7,a8,a9,gX] | _=>[]) Tryz.underlying80 rfl rfl (by kernel_rfl)) rfl rfl rfl ?_
     rintro _ qR ⟨DL,rfl,JZ,bT,ew⟩
     have Cz:=(ct.trans cM).trans ew
     have Bg:=k9.aq Cz
     have ML:=ct.size
     have MM:=cM.size
     have Gy:cz h9 qR (.slice (some ⟨DL,0,none⟩) 1 1) [MK]:=.of JY (fun q hq=>by have:=f11 q hq;omega) ew bT JZ (by omega)
     have zP:=Cz.obj bY aO
     have On:=T9.trans (Tn.no Cz)
     have n1:¬ (A.bs=A.be∨A.bs=DL):=fun e=>e.elim (bw Bg.se.bn Bg.se.eb (by decide)) (bw Bg.se.bn bT (by decide))
     have n2:¬ (b7=A.be∨b7=DL):=fun e=>e.elim (bw zP Bg.se.eb (by decide)) (bw zP bT (by decide))
     have n3:¬ DL=A.be:=bw bT Bg.se.eb (by decide)
     refine Go ?_;refine Gs [(0,_),(7,_),(8,_)] ?_;refine WC.seq ?_;refine WC.bW (fun h'=>Ext (fun q=>q=A.be∨q=DL) qR h') 11 11 rfl dm ?_
     refine WH.tk 0 rfl (fun hq hC=>ak rfl) rfl rfl rfl ?_
     refine WH.tk 1 rfl (fun hq hC=>ak rfl) rfl rfl rfl ?_
     refine WH.tk 2 rfl (fun hq hC=>ae rfl) rfl rfl rfl ?_
     refine WH.tk 3 rfl (fun hq hC=>ad rfl Tryz.underlying153 rfl Tryz.sizeOf46) rfl rfl rfl ?_
     refine WH.tk 4 rfl (fun hq hC=>aA Tryz.isAgg46 rfl (by first | exact hC.cell (by first | exact aa Bg.se.bn rfl | assumption) n1)) rfl rfl rfl ?_
     refine WH.tk 5 rfl (fun hq hC=>ay Tryz.isAgg278 Tryz.sizeOf278 rfl rfl (by exact (At.av zP).ext hC n2)) rfl rfl rfl ?_
     refine WH.one 6 (by kernel_rfl) ?_
     refine aC.call (vs:=[_,_,_]) rfl rfl Tryz.call217 rfl (ke _ _ Bg.se.eb hco) rfl rfl rfl ?_ (fun _=>by kernel_rfl)
     rintro uR Ft ⟨LL,rL,pL,fL,cw,gu⟩
     obtain ⟨J0,t13⟩:=Bg.zI gu cw (by unfold cY;split <;> (try split) <;> (try split) <;> dsimp only <;> omega)
     have hlim:=zJ pL (gF _ _ (by simp))
     have MN:=Gy.ext' gu (fun q hq e=>by simp only [Value.ownBlock,Option.some.injEq] at hq;omega) (fun b hb q hq e=>by have:=Gy.bf b hb q hq;have:=ai k9.se.eb;omega)
     refine ⟨fun _=>gu.mono fun _ _ e=>.inl e,?_⟩
     refine WH.one 7 (by kernel_rfl) ?_
     refine aC.call (vs:=[_,_]) rfl rfl Tryz.call218 rfl (qe LL rL false hlim.1 hlim.2) rfl rfl rfl ?_ (fun _=>by kernel_rfl)
     rintro Oo CA ⟨Oq,GA,Fu,il⟩
     obtain ⟨Ot,Ov,rfl,_⟩:=GA.own.slice
     have Fv:Ext (fun q=>q=A.be∨q=DL) qR CA:=(gu.mono fun _ _ e=>.inl e).trans (il.mono fun _ _ e=>e.elim)
     have HJ:=MN.aq il
     refine ⟨fun _=>Fv,?_⟩
     refine WH.one 8 (by kernel_rfl) ?_
     refine aC.run rfl (aT (sz:=11) (bytes:=168) rfl Tryz.underlying80 (show Tryz.prog.info? 140=some Tryz.t140 by kernel_rfl) rfl rfl rfl rfl (by decide) rfl rfl HJ.own GA.own.rd (fun v hv=>by obtain ⟨b,hb,hv⟩:=List.mem_flatMap.1 hv;exact (GA.ok b hb).one v hv) (by have:=GA.own.len;have:=congrArg List.length Fu;simp [cQ] at this;simp only [maxLen,List.length_singleton];omega) (by have:=congrArg List.length Fu;simp [cQ] at this;simp only [List.length_singleton];omega)) rfl rfl rfl ?_ (fun _=>by kernel_rfl)
     rintro Ow HK ⟨J1,qi,J2⟩
     refine ⟨fun _=>Fv.trans (qi.mono fun q _ e=>.inr (by simpa [Value.ownBlock] using e.symm)),?_⟩
     have J3:Ext (fun q=>q=A.be∨q=DL) qR HK:=Fv.trans (qi.mono fun q _ e=>.inr (by simpa [Value.ownBlock] using e.symm))
     refine WH.tk 9 rfl (fun hq hC=>aP rfl) rfl rfl rfl ?_
     refine WH.tk 10 rfl (fun hq hC=>aP rfl) rfl rfl rfl ?_
     refine WH.done (by kernel_rfl) ?_
     refine Gn ?_;refine Gs [(4,_),(5,_)] ?_;refine Gt ?_
     have X9:Ext (fun q=>q=A.be) h9 HK:=(Cz.mono (S':=fun q=>q=A.be) fun _ _ e=>e.elim).trans' J3 (fun q hq e=>e.elim id (fun e=>by omega))
     have db:=qi.obj (il.obj cw aO) (fun e=>n3 (by simpa [Value.ownBlock] using e))
     obtain ⟨MO,t15⟩:=k9.zI X9 db J0.cok
     have MP:=ew.size
     have Ox:=gu.size
     have MQ:=HJ.append (GA.mono (h0:=h9) (by omega)) (fun c hc z hz e=>by simp only [Value.ownBlock,Option.some.injEq] at e;have:=GA.bf c hc z hz;have:=ai bT;omega) (by have:=il.size;omega) J1 qi J2
     exact ⟨_,_,(fun e=>absurd rfl e),rfl,MQ.mono T9.1.size,by rw [List.map_append,Fu,pL,List.map_singleton,DK];rfl,_,_,fun q hq=>(cB hq).1,HG,MO,kA _ _,HH,T9.trans t15⟩
 · rw [hr] at kre
   dsimp only
   refine calls [(0,_),(1,_)] Tryz.func151 rfl Tryz.ntmps151 rfl ⟨rfl,rfl,trivial⟩ ?_
   refine WC.sr ?_;refine WL.aj (aG rfl) rfl rfl rfl ?_
   rintro _ h1 ⟨b3,rfl,bR,aR,az⟩
   have k1:=k.aq az
   refine Go ?_;refine G2 ?_;refine WL.step (ae rfl) rfl rfl rfl (Go ?_);refine WL.ld rfl (by first | exact aa k1.se.bn rfl | assumption) rfl rfl rfl ?_
   refine WL.ax (fh rfl fz Tryz.underlying149 Tryz.underlying9 rfl rfl k1.se.stm) rfl rfl ?_
   rintro _ h2 ⟨oX,aI⟩
   rw [ey] at oX
   obtain ⟨k2,t2⟩:=k1.ni aI oX (fun q hq=>.inl (cB hq).1)
   have bH:=t2.1.obj aR (k1.not aR (by decide) (by decide) (by decide))
   refine Gn ?_;refine Gs [(0,_),(3,_)] ?_;refine G2 ?_;refine WL.step (ae rfl) rfl rfl rfl (Go ?_);refine WL.ld rfl (by first | exact aa k2.se.bn rfl | assumption) rfl rfl rfl ?_
   refine WL.call (vs:=[_,_]) rfl Tryz.call221 rfl (qh k2 []) rfl rfl rfl ?_
   rintro _ h4 ⟨P4,HG,k4,HH,t4⟩
   have bC:=t4.1.obj bH (k2.not bH (by decide) (by decide) (by decide))
   have T4:=((Tn.no (A:=A) (P:=P) az).trans t2).trans t4
   refine Gn ?_;refine Gs [(0,_),(3,_)] ?_;refine G3 ?_;refine WL.ld rfl (by first | exact aa bC rfl | assumption) rfl rfl rfl ?_
   refine WL.call (vs:=[_,_]) rfl Tryz.call203 rfl (kre _ _ _ k4) rfl rfl rfl ?_
   rintro _ h5 ⟨rfl,aM⟩
   dsimp only [fK]
   have k5:=k4.aq aM
   have bV:=aM.obj bC aO
   have T5:=T4.trans (Tn.no aM)
   refine Go ?_;refine Gs [(0,_),(3,_),(6,_)] ?_;refine G2 ?_;refine WL.step (fE (by kernel_rfl) rfl rfl) rfl rfl rfl ?_
   refine Gn ?_
   refine aH 1 2 ?_ TT.mk
   all_goals (refine aw 1 ?_)
   refine G2 ?_;refine Gs [(4,_),(5,_)] ?_;refine Gt ?_
   have hs:ck st sk ov cnt (cb L []) P4=⟨st,sk,ov,cnt,cb (qc L) [],cb (fM P) []⟩:=by simp only [ck,kA,HH]
   rw [← hs]
   exact ⟨_,[],fun _=>rfl,rfl,cz.nil _ _,rfl,_,_,fun q hq=>(cB hq).1,HG,k5,rfl,rfl,T5⟩
end
section
variable {h h':ah} {bs ms bp mp be me:Nat} {st st':Int} {sk ov:Bool} {cnt:Int} {L P P' R:List (List UInt8 × Value)} {S:Nat→Prop}
theorem vG {h:ah} (t:Value):ag Tryz.prog 102 ⟨[.nilIface,t]⟩ h fun u h'=>u=.bool false∧h'=h:=by
 refine calls [(0,_),(1,_)] Tryz.func102 rfl Tryz.ntmps102 rfl ⟨rfl,rfl,trivial⟩ ?_
 refine G2 ?_;refine G3 ?_;refine WL.step (rW (by kernel_rfl) rfl rfl) rfl rfl rfl ?_
 refine Gn ?_
 refine aH 1 2 ?_ TT.mk
 all_goals (refine aw 1 ?_)
 refine G2 ?_;refine Gs [(4,_)] ?_;refine Gt ?_
 exact ⟨rfl,rfl⟩
end
section
variable {h h':ah} {bs ms bp mp be me:Nat} {st st':Int} {sk ov:Bool} {cnt:Int} {L P P' R:List (List UInt8 × Value)} {S:Nat→Prop}
abbrev L1:List (List UInt8 × Value):=[(([97]:List UInt8),.agg ⟨[St pZ,nS]⟩)]
end
end Go.Proofs.YtopgddfgefnmbaaGreatDoor
namespace Go.Proofs.YtopgddfgefnmbaaGreatDoor
open Go Go.RowKit Go.Extern.Stop Go.Stop Go.Extern
open Go.RK (St In)
theorem Rf.xa (t:Addr) (w:World):(ReflectliteValue.unpack (.iface 171 (.pointer (some t)))).run Tryz.prog w
   = .ok (.agg #[.pointer (some ⟨4,171,none⟩),.pointer (some ⟨w.heap.size,0,none⟩),.int .u64 150]) (w.alloc (.cells #[.pointer (some t)] 171)):=by kernel_rfl
theorem Rf.type27 (a:Addr) (w:World):(ReflectliteValue.methodAny (ReflectliteValue.valueError "reflectlite.Value.Type" 0) (fun t _ _ _=>ReflectliteType.toType t) #[.agg #[.pointer (some ⟨4,171,none⟩),.pointer (some a),.int .u64 150]]).run Tryz.prog w
   = .ok (.iface 290 (.agg #[.pointer (some ⟨4,171,none⟩)])) w:=by kernel_rfl
theorem Rf.uq (h:Value) (w:World):(Go.method 512 290 (.agg #[h]) "Kind").run Tryz.prog w=.ok (338,h) w:=by kernel_rfl
theorem Rf.Fx (w:World):((ReflectliteType.abiMethod fun t=>(fun a:Nat=>Value.int IntKind.u8 (a:Int)) <$> Rtype.kind t) #[.pointer (some ⟨4,171,none⟩)]).run Tryz.prog w=.ok (.int .u8 22) w:=by kernel_rfl
theorem Rf.Fy (w:World):((ReflectliteType.abiMethod fun t=>(fun a:Nat=>Value.int IntKind.u8 (a:Int)) <$> Rtype.kind t) #[.pointer (some ⟨4,169,none⟩)]).run Tryz.prog w=.ok (.int .u8 25) w:=by kernel_rfl
theorem Lo (z:Sem Value) (f:TypeId→Addr→Nat→Nat→Sem Value) (v:Value) :
   ReflectliteValue.method z f #[v]=(do match ← ReflectliteValue.parts v with | none=>z | some (t,a,fl)=>f t a fl (fl % 32)):=rfl
theorem Rf.vH (a:Addr) (w:World):(ReflectliteValue.parts (.agg #[.pointer (some ⟨4,171,none⟩),.pointer (some a),.int .u64 150])).run Tryz.prog w=.ok (some (171,a,150)) w:=by kernel_rfl
theorem Rf.CB (a p:Addr) (W:World) (ha:W.cell? a=some (.pointer (some p))) :
   (ReflectliteValue.method (ReflectliteValue.valueError "reflectlite.Value.IsNil" 0) ReflectliteValue.isNil #[.agg #[.pointer (some ⟨4,171,none⟩),.pointer (some a),.int .u64 150]]).run Tryz.prog W=.ok (.bool false) W:=by
 rw [Lo]
 simp only [Sem.run_bind,Rf.vH,Result.andThen]
 simp [ReflectliteValue.isNil,loadVar,isAgg,underlying,Tryz.underlying171,ha,Result.andThen]
theorem Rf.ur (h:Value) (w:World):(Go.method 512 290 (.agg #[h]) "Elem").run Tryz.prog w=.ok (349,.agg #[h]) w:=by kernel_rfl
theorem Rf.lz (h:Value) (w:World):(Go.method 512 290 (.agg #[h]) "Implements").run Tryz.prog w=.ok (350,.agg #[h]) w:=by kernel_rfl
theorem Rf.jI (h:Value) (w:World):(Go.method 512 290 (.agg #[h]) "AssignableTo").run Tryz.prog w=.ok (347,.agg #[h]) w:=by kernel_rfl
theorem Rf.Fz (w:World):(ReflectliteType.method ReflectliteType.elem #[.agg #[.pointer (some ⟨4,171,none⟩)]]).run Tryz.prog w=.ok (.iface 290 (.agg #[.pointer (some ⟨4,169,none⟩)])) w:=by kernel_rfl
theorem Rf.qj (w:World):(ReflectliteType.relation "Implements" ReflectliteType.implements_ #[.agg #[.pointer (some ⟨4,169,none⟩)],.iface 290 (.agg #[.pointer (some ⟨4,165,none⟩)])]).run Tryz.prog w=.ok (.bool true) w:=by kernel_rfl
theorem Rf.zQ (v:Value) (w:World):(ReflectliteType.typeOf #[.iface 169 v]).run Tryz.prog w=.ok (.iface 290 (.agg #[.pointer (some ⟨4,169,none⟩)])) w:=by kernel_rfl
theorem Rf.qk (w:World):(ReflectliteType.relation "AssignableTo" ReflectliteType.assignableTo #[.agg #[.pointer (some ⟨4,169,none⟩)],.iface 290 (.agg #[.pointer (some ⟨4,169,none⟩)])]).run Tryz.prog w=.ok (.bool true) w:=by kernel_rfl
theorem Rf.xb (a c:List UInt8) (w:World):(ReflectliteValue.unpack (.iface 169 (.agg #[St a,St c]))).run Tryz.prog w
   = .ok (.agg #[.pointer (some ⟨4,169,none⟩),.pointer (some ⟨w.heap.size,0,none⟩),.int .u64 153]) (w.alloc (.cells #[St a,St c] 169)):=by kernel_rfl
theorem Rf.zR (w:World):(Rtype.elem? 171).run Tryz.prog w=.ok (some 169) w:=by kernel_rfl
theorem Rf.J4 (p:Addr) (w:World):(ReflectliteValue.mk 169 p ReflectliteValue.flagAddr).run Tryz.prog w=.ok (.agg #[.pointer (some ⟨4,169,none⟩),.pointer (some p),.int .u64 409]) w:=by kernel_rfl
theorem Rf.CC (a p:Addr) (W:World) (ha:W.cell? a=some (.pointer (some p))) :
   (ReflectliteValue.method (ReflectliteValue.valueError "reflectlite.Value.Elem" 0) ReflectliteValue.elem #[.agg #[.pointer (some ⟨4,171,none⟩),.pointer (some a),.int .u64 150]]).run Tryz.prog W
     = .ok (.agg #[.pointer (some ⟨4,169,none⟩),.pointer (some p),.int .u64 409]) W:=by
 rw [Lo]
 simp only [Sem.run_bind,Rf.vH,Result.andThen]
 simp [ReflectliteValue.elem,loadVar,isAgg,underlying,Tryz.underlying171,ha,Result.andThen,Rf.zR,Rf.J4]
theorem MR (v x:Value):ReflectliteValue.set #[v,x]=(do
   let (some (dst,a,fl),some (src,b,_)):=(← ReflectliteValue.parts v,← ReflectliteValue.parts x)
     | unsupported (.noEntry "extern/(internal/reflectlite.Value).Set.zeroValue")
   if fl / ReflectliteValue.flagAddr % 2 == 0 then unsupported (.noEntry "extern/(internal/reflectlite.Value).Set.unaddressable")
   let val ← loadVar src b
   if ← Rtype.directlyAssignable dst src then storeVar dst a val
   else if ← Rtype.implements dst src then
     if (← Rtype.kind src) == 20 then
       match val with
       | .nilIface=>unsupported (.noEntry "extern/reflectlite: a nil value of one interface type handed on as a value of another")
       | _=>storeVar dst a val
     else storeVar dst a (.iface src val)
   else panicString ("reflectlite.Set: value of type " ++ (← Rtype.spelt src) ++ " is not assignable to type " ++ (← Rtype.spelt dst))
   pure (.tuple #[])):=rfl
theorem Rf.zS (a:Addr) (w:World):(ReflectliteValue.parts (.agg #[.pointer (some ⟨4,169,none⟩),.pointer (some a),.int .u64 409])).run Tryz.prog w=.ok (some (169,a,409)) w:=by kernel_rfl
theorem Rf.CD (a:Addr) (w:World):(ReflectliteValue.parts (.agg #[.pointer (some ⟨4,169,none⟩),.pointer (some a),.int .u64 153])).run Tryz.prog w=.ok (some (169,a,153)) w:=by kernel_rfl
theorem Rf.zT (w:World):(Rtype.directlyAssignable 169 169).run Tryz.prog w=.ok true w:=by kernel_rfl
end Go.Proofs.YtopgddfgefnmbaaGreatDoor
namespace Go.Proofs.YtopgddfgefnmbaaGreatDoor
open Go Go.RowKit Go.Extern.Stop Go.Stop Go.Extern
open Go.RK (St In)
theorem dR (h:Array Obj) (o:Obj) {k:Nat} (hk:k < h.size):(h.push o)[k]?=h[k]?:=by simp [Array.getElem?_push,Nat.ne_of_lt hk]
theorem Rf.HL (a c:List UInt8) (bt b:Nat) (o1 o2:Value) (W:World) (hb:W.heap[b]?=some (.cells ⟨[St a,St c]⟩ 169 (0,0))) (ht:W.heap[bt]?=some (.cells ⟨[o1,o2]⟩ 169 (0,0))) :
   ∃ w',(ReflectliteValue.set #[.agg #[.pointer (some ⟨4,169,none⟩),.pointer (some ⟨bt,0,none⟩),.int .u64 409],.agg #[.pointer (some ⟨4,169,none⟩),.pointer (some ⟨b,0,none⟩),.int .u64 153]]).run Tryz.prog W
     = .ok (.tuple #[]) w'∧Go.RK.eF W w'∧w'.heap=W.heap.setIfInBounds bt (.cells ⟨[St a,St c]⟩ 169 (0,0)):=by
 have i1:=Tryz.isAgg169 W
 have s1:=Tryz.sizeOf169 W
 have l1:(loadCells ⟨b,0,none⟩ 2).run Tryz.prog W=.ok #[St a,St c] W:=run_loadCells_list W _ [St a,St c] fun j v hj=>by rw [Addr.add_lit];exact Go.RK.At.av hb j v hj
 obtain ⟨w',hr,hs,hh⟩:=Go.RK.cJ (P:=Tryz.prog) bt 169 [St a,St c] 0 0 [o1,o2] W ht (by simp) (by simp [Value.oneCell'])
 refine ⟨w',?_,hs,by rw [hh];simp⟩
 rw [MR]
 simp only [Sem.run_bind,Rf.zS,Rf.CD,Result.andThen]
 simp [ReflectliteValue.flagAddr,loadVar,i1,s1,l1,Result.andThen,Rf.zT,storeVar,Value.cells,hr]
theorem FA (a c:List UInt8) (bt:Nat) (o1 o2:Value) (w:World) (hg:w.cell? ⟨0,0,none⟩=some (.iface 290 (.agg #[.pointer (some ⟨4,165,none⟩)]))) (Lp:w.heap[bt]?=some (.cells ⟨[o1,o2]⟩ 169 (0,0))) :
   Calls Tryz.prog 102 #[.iface 169 (.agg #[St a,St c]),.iface 171 (.pointer (some ⟨bt,0,none⟩))] w fun ev w'=>ev=.returned (.bool true)∧Go.RK.eF ((((w.alloc (.cells #[.pointer (some ⟨bt,0,none⟩)] 171)).alloc (.cells #[.pointer (some ⟨4,171,none⟩),.pointer (some ⟨w.heap.size,0,none⟩),.int .u64 150] 218)).alloc (.cells #[.pointer (some ⟨4,171,none⟩),.pointer (some ⟨w.heap.size,0,none⟩),.int .u64 150] 218)).alloc (.cells #[St a,St c] 169)) w'∧w'.heap=((((w.alloc (.cells #[.pointer (some ⟨bt,0,none⟩)] 171)).alloc (.cells #[.pointer (some ⟨4,171,none⟩),.pointer (some ⟨w.heap.size,0,none⟩),.int .u64 150] 218)).alloc (.cells #[.pointer (some ⟨4,171,none⟩),.pointer (some ⟨w.heap.size,0,none⟩),.int .u64 150] 218)).alloc (.cells #[St a,St c] 169)).heap.setIfInBounds bt (.cells ⟨[St a,St c]⟩ 169 (0,0)):=by
 have h6:=@run_callFunc_extern Tryz.prog 152 _ (fun args=>ReflectliteValue.unpack (args.getD 0 (.tuple #[]))) Tryz.func152 (by kernel_rfl) (by kernel_rfl) (by kernel_rfl) (by kernel_rfl)
 have h7:=@run_callFunc_extern Tryz.prog 153 _ (ReflectliteValue.methodAny (ReflectliteValue.valueError "reflectlite.Value.Type" 0) (fun t _ _ _=>ReflectliteType.toType t)) Tryz.func153 (by kernel_rfl) (by kernel_rfl) (by kernel_rfl) (by kernel_rfl)
 have h8:=@run_callFunc_extern Tryz.prog 154 _ (ReflectliteValue.method (ReflectliteValue.valueError "reflectlite.Value.IsNil" 0) ReflectliteValue.isNil) Tryz.func154 (by kernel_rfl) (by kernel_rfl) (by kernel_rfl) (by kernel_rfl)
 have Oy:=@run_callFunc_extern Tryz.prog 338 _ (ReflectliteType.abiMethod fun t=>do pure (.int .u8 (← Rtype.kind t))) Tryz.func338 (by kernel_rfl) (by kernel_rfl) (by kernel_rfl) (by kernel_rfl)
 have Oz:=@run_callFunc_extern Tryz.prog 349 _ (ReflectliteType.method ReflectliteType.elem) Tryz.func349 (by kernel_rfl) (by kernel_rfl) (by kernel_rfl) (by kernel_rfl)
 have OA:=@run_callFunc_extern Tryz.prog 350 _ (ReflectliteType.relation "Implements" ReflectliteType.implements_) Tryz.func350 (by kernel_rfl) (by kernel_rfl) (by kernel_rfl) (by kernel_rfl)
 have iG:=@run_callFunc_extern Tryz.prog 224 _ ReflectliteType.typeOf Tryz.func224 (by kernel_rfl) (by kernel_rfl) (by kernel_rfl) (by kernel_rfl)
 have OB:=@run_callFunc_extern Tryz.prog 347 _ (ReflectliteType.relation "AssignableTo" ReflectliteType.assignableTo) Tryz.func347 (by kernel_rfl) (by kernel_rfl) (by kernel_rfl) (by kernel_rfl)
 have qg:=@run_callFunc_extern Tryz.prog 225 _ (ReflectliteValue.method (ReflectliteValue.valueError "reflectlite.Value.Elem" 0) ReflectliteValue.elem) Tryz.func225 (by kernel_rfl) (by kernel_rfl) (by kernel_rfl) (by kernel_rfl)
 have qR:=@run_callFunc_extern Tryz.prog 226 _ ReflectliteValue.set Tryz.func226 (by kernel_rfl) (by kernel_rfl) (by kernel_rfl) (by kernel_rfl)
 have tO:=Rf.zQ
 have mA:=Rf.jI
 have OC:=Rf.qk
 have OD:=Rf.xb
 have f6:=Rf.xa
 have f7:=Rf.type27
 have mK:=Rf.uq
 have mE:=Rf.ur
 have mI:=Rf.lz
 have OE:=Rf.Fx
 have OG:=Rf.Fy
 have OH:=Rf.Fz
 have i25:=Rf.qj
 have n8:=Rf.CB ⟨w.heap.size,0,none⟩ ⟨bt,0,none⟩ ((w.alloc (.cells #[.pointer (some ⟨bt,0,none⟩)] 171)).alloc (.cells #[.pointer (some ⟨4,171,none⟩),.pointer (some ⟨w.heap.size,0,none⟩),.int .u64 150] 218)) (by simp)
 have hlt:0 < w.heap.size:=by
   rcases Nat.eq_zero_or_pos w.heap.size with h0 | h
   · simp [World.cell?,h0] at hg
   · exact h
 have gb:((w.alloc (.cells #[.pointer (some ⟨bt,0,none⟩)] 171)).alloc (.cells #[.pointer (some ⟨4,171,none⟩),.pointer (some ⟨w.heap.size,0,none⟩),.int .u64 150] 218)).cell? ⟨0,0,none⟩=some (.iface 290 (.agg #[.pointer (some ⟨4,165,none⟩)])):=by
   rw [World.cell?_alloc_lt _ _ ⟨0,0,none⟩ (by simp),World.cell?_alloc_lt _ _ ⟨0,0,none⟩ hlt];exact hg
 have htl:bt < w.heap.size:=Go.RK.ai Lp
 have el:=Rf.CC ⟨w.heap.size,0,none⟩ ⟨bt,0,none⟩ (((w.alloc (.cells #[.pointer (some ⟨bt,0,none⟩)] 171)).alloc (.cells #[.pointer (some ⟨4,171,none⟩),.pointer (some ⟨w.heap.size,0,none⟩),.int .u64 150] 218)).alloc (.cells #[.pointer (some ⟨4,171,none⟩),.pointer (some ⟨w.heap.size,0,none⟩),.int .u64 150] 218)) (by rw [World.cell?_alloc_lt _ _ ⟨w.heap.size,0,none⟩ (by simp;omega)];simp)
 obtain ⟨w',st,hsm,hhp⟩:=Rf.HL a c bt (w.heap.size+1+1+1) o1 o2 ((((w.alloc (.cells #[.pointer (some ⟨bt,0,none⟩)] 171)).alloc (.cells #[.pointer (some ⟨4,171,none⟩),.pointer (some ⟨w.heap.size,0,none⟩),.int .u64 150] 218)).alloc (.cells #[.pointer (some ⟨4,171,none⟩),.pointer (some ⟨w.heap.size,0,none⟩),.int .u64 150] 218)).alloc (.cells #[St a,St c] 169))
   (by simp only [World.alloc];rw [Array.getElem?_push,if_pos (by simp)])
   (by simp only [World.alloc];rw [dR _ _ (by simp;omega),dR _ _ (by simp;omega),dR _ _ (by simp;omega),dR _ _ htl];exact Lp)
 go_enter Tryz.func102,Tryz.ntmps102
 FB
 refine wp_loop_rounds 1 ?_
 rw [rounds_succ]
 FB
 go_ret
 exact ⟨rfl,hsm,hhp⟩
end Go.Proofs.YtopgddfgefnmbaaGreatDoor
namespace Go.Proofs.YtopgddfgefnmbaaGreatDoor
open Go Go.RK
def Er (h:ah):Prop:=At h 0 0 [.iface 290 (.agg #[.pointer (some ⟨4,165,none⟩)])]
theorem Er.aq {h h':ah} (e:Er h) (a:Ext No h h'):Er h':=At.ext e a aO
theorem Er.ext {h h':ah} {S:Nat→Prop} (e:Er h) (a:Ext S h h') (hS:¬ S 0):Er h':=At.ext e a hS
theorem o0 {h:ah} {bt:Nat} {o1 o2:Value} (a c:List UInt8) (er:Er h) (hb:h[bt]?=some (.cells ⟨[o1,o2]⟩ 169 (0,0))) :
   ag Tryz.prog 102 ⟨[.iface 169 (.agg ⟨[St a,St c]⟩),.iface 171 (.pointer (some ⟨bt,0,none⟩))]⟩ h fun u h'=>u=.bool true∧h'[bt]?=some (.cells ⟨[St a,St c]⟩ 169 (0,0))∧Ext (fun q=>q=bt) h h':=fun w hw=>by
 subst hw
 have hlt:=ai hb
 refine (FA a c bt o1 o2 w (er 0 _ rfl) hb).mono fun e w' ⟨he,hsm,hhp⟩=>?_
 refine ⟨⟨hsm.tape,hsm.os,hsm.output,hsm.drawn⟩,_,he,rfl,?_,?_,?_⟩
 · rw [hhp]
   simp only [World.alloc,Array.getElem?_setIfInBounds,↓reduceIte]
   rw [if_pos (by simp;omega)]
 · rw [hhp]
   simp only [World.alloc,Array.size_setIfInBounds,Array.size_push]
   omega
 · intro b hbl hS
   rw [hhp]
   simp only [World.alloc,Array.getElem?_setIfInBounds]
   rw [if_neg (fun e=>hS e.symm),dR _ _ (by simp;omega),dR _ _ (by simp;omega),dR _ _ (by simp;omega),dR _ _ hbl]
theorem HM:Tryz.prog.globalNamed "errors.errorType" = some 0:=by kernel_rfl
theorem HN:(Tryz.prog.cutTypes.find? (·.1 == "internal/reflectlite.rtype")).map (·.2)=some 290:=by kernel_rfl
theorem FC:((List.range 412).filter fun t=>Tryz.prog.rowNamed t [101,114,114,111,114])=[165]:=by kernel_rfl
theorem CE:Tryz.prog.types.size=412:=by kernel_rfl
section
variable {h h':ah} {A:Ad} {st:Int} {sk ov:Bool} {cnt:Int} {L:List (List UInt8 × gw)} {P:List (List UInt8 × ee)}
theorem Ss.zU (k:Ss h A st sk ov cnt L P) {st':Int} {sk' ov':Bool} {P':List (List UInt8 × ee)} (x:Ext (fun z=>z=A.bs∨z=A.mp) h h') (hb:h'[A.bs]?=some (.cells ⟨[.map (some A.ms),.pointer (some ⟨A.bp,0,none⟩),.pointer (some ⟨A.be,0,none⟩),.int .u8 st',.bool sk',.bool ov']⟩ 153 (0,0))) (hm:Mp .string St h' A.mp (eP vx P')) (hP:∀ q∈P',q∈P) (hs:iK st'):Ss h' A st' sk' ov' cnt L P'∧Tn A P h h' P':=by
 have hlt:=ai k.se.bn
 have x1:=Ext.set (S:=fun z=>z=A.bs) h A.bs (.cells ⟨[.map (some A.ms),.pointer (some ⟨A.bp,0,none⟩),.pointer (some ⟨A.be,0,none⟩),.int .u8 st',.bool sk',.bool ov']⟩ 153 (0,0)) rfl
 obtain ⟨k1,t1⟩:=k.js x1 (dD k.se.bn) hs
 have x2:Ext (fun z=>z=A.mp) (h.setIfInBounds A.bs (.cells ⟨[.map (some A.ms),.pointer (some ⟨A.bp,0,none⟩),.pointer (some ⟨A.be,0,none⟩),.int .u8 st',.bool sk',.bool ov']⟩ 153 (0,0))) h':=by
   refine ⟨by rw [Array.size_setIfInBounds];exact x.size,fun z hz hn=>?_⟩
   rw [Array.size_setIfInBounds] at hz
   by_cases e:z=A.bs
   · subst e
     rw [hb,dD k.se.bn]
   · rw [Array.getElem?_setIfInBounds_ne (fun y=>e y.symm)]
     exact x.ab z hz (fun y=>y.elim e hn)
 obtain ⟨k2,t2⟩:=k1.cF x2 hm hP
 exact ⟨k2,t1.trans t2⟩
theorem zV {h:ah} {v:Value} {c t:List UInt8} (hr:Rd h v 2 4 ((jN ([69,82,82,79,82]:List UInt8) c t).flatMap bj.cells)):Bk.ok h ⟨69,0,[],[],[],0,0,nS,[],nS,[],nS,[],v,jN ([69,82,82,79,82]:List UInt8) c t⟩:=⟨⟨Rd.nil _ _,by simp⟩,⟨Rd.nil _ _,by simp⟩,gr _ _,⟨hr,by simp [jN,maxLen]⟩⟩
theorem DM {v:Value} {c t:List UInt8} {q:Nat} (hq:Bk.F ⟨69,0,[],[],[],0,0,nS,[],nS,[],nS,[],v,jN ([69,82,82,79,82]:List UInt8) c t⟩ q):v.ownBlock=some q:=by
 rcases hq with ⟨e,_⟩ | ⟨e,_⟩ | e | ⟨_,e⟩
 · exact absurd e (Nat.lt_irrefl 0)
 · exact absurd e (Nat.lt_irrefl 0)
 · exact (fp rfl e).elim
 · exact e
theorem sy (k:Ss h A st sk ov cnt L P) (c t:List UInt8):ag Tryz.prog 103 ⟨[.pointer (some ⟨A.bs,0,none⟩),.agg ⟨[St c,St t]⟩]⟩ h fun u h'=>(∃ b:Bk,u=.agg ⟨b.cells⟩∧b.ok h'∧b.p=oh c t∧∀ z,b.F z→h.size≤z) ∧
   (∃ P',(∀ q∈P',q∈P)∧Ss h' A (eS st) sk ov cnt L P'∧fM P'=(if eS st=69 then [] else fM P)∧Tn A P h h' P')∧Ext (fun q=>q=A.bs∨q=A.mp) h h':=by
 have hso:=nh k.sto
 have kf:=fun h'=>zf (h:=h') k.sto
 have lb:=ai k.se.bn
 by_cases e:eS st=69
 · rw [if_pos e]
   rw [e] at kf ⊢
   refine calls [(0,_),(1,_)] Tryz.func103 rfl Tryz.ntmps103 rfl ⟨rfl,rfl,trivial⟩ ?_
   refine WC.sr ?_;refine WL.aj (aG rfl) rfl rfl rfl ?_
   rintro _ h1 ⟨b3,rfl,bR,aR,az⟩
   refine WL.aj (an (fun w=>Tryz.zeroValue140 w)) rfl rfl rfl ?_
   rintro _ h2 ⟨b4,rfl,gb,bH,aI⟩
   have k2:=(k.aq az).aq aI
   have bT:=aI.obj aR aO
   have s1:=az.size
   refine Gn ?_;refine G2 ?_;refine WL.step (ae rfl) rfl rfl rfl (Go ?_);refine WL.ld rfl (by first | exact aa k2.se.bn rfl | assumption) rfl rfl rfl ?_
   refine WL.call (vs:=[_]) rfl Tryz.call156 rfl (kf _) rfl rfl rfl ?_
   rintro _ hz ⟨rfl,_⟩
   subst hz
   refine WL.step (ae rfl) rfl rfl rfl (Go ?_);refine WL.ax (aB Tryz.sizeOf5 rfl rfl k2.se.bn (Nat.le_of_ble_eq_true rfl) rfl rfl) rfl rfl ?_
   rintro _ h3 ⟨bq,aQ⟩
   obtain ⟨k3,t3⟩:=k2.js aQ bq (by first | exact e▸hso | exact hso)
   have CF:=aQ.obj bT (fun e=>bw bT k2.se.bn (by decide) e)
   have sj:=aQ.obj bH (fun e=>bw bH k2.se.bn (by decide) e)
   have J5:Ext (fun q=>q=A.bs) h h3:=((az.trans aI).mono fun _ _ e=>e.elim).trans aQ
   refine Gn ?_;refine Gs [(0,_),(3,_),(4,_)] ?_;refine G3 ?_;refine WL.step (ae rfl) rfl rfl rfl (Go ?_);refine WL.ld rfl (by first | exact aa k3.se.bn rfl | assumption) rfl rfl rfl (Go ?_)
   refine Gs [(0,_),(3,_),(4,_),(17,_)] ?_
   refine aH 1 2 ?_ TT.mk
   all_goals (refine aw 1 ?_)
   refine WC.region (Go ?_);refine WL.step (ae rfl) rfl rfl rfl (Go ?_);refine WL.ld rfl (by first | exact aa k3.se.bn rfl | assumption) rfl rfl rfl ?_
   refine WL.call (vs:=[_]) rfl Tryz.call145 rfl (qf k3) rfl rfl rfl ?_
   rintro _ h4 ⟨rfl,k4,t4,aW⟩
   have zW:=aW.obj CF (fun e=>dX k3.se.pm CF e)
   have gh:=aW.obj sj (fun e=>dX k3.se.pm sj e)
   have HO:Ext (fun q=>q=A.bs∨q=A.mp) h h4:=(J5.mono fun _ _ e=>.inl e).trans (aW.mono fun _ _ e=>.inr e)
   refine Gn ?_;refine Gn ?_;refine G2 ?_;refine WL.ld rfl (by first | exact aa zW rfl | assumption) rfl rfl rfl (Go ?_)
   refine WL.ld rfl (by first | exact aa zW rfl | assumption) rfl rfl rfl ?_
   refine WL.call (vs:=[_,_]) rfl Tryz.call157 rfl (vt c t) rfl rfl rfl ?_
   rintro _ h5 ⟨v5,rfl,eE,aM,fN⟩
   obtain ⟨A5,c5,rfl,_⟩:=eE.slice
   refine WL.ax (al Tryz.sizeOf140 rfl rfl rfl (aM.obj gh aO) rfl (by simp [eB,Value.oneCell'])) rfl rfl ?_
   rintro _ h6 ⟨bX,aN⟩
   have DN:=(HO.trans (aM.mono fun _ _ e=>e.elim)).trans' aN (fun q hq e=>by omega)
   have kk:=k.zU (P':=[]) DN (aN.obj (aM.obj k4.se.bn aO) (bw k4.se.bn gh (by decide))) ((k4.se.pm.ext aM aO).ext aN (fun e=>dX k4.se.pm gh e.symm)) (fun q hq=>nomatch hq) (e▸hso)
   refine Gn ?_;refine Gs [(4,_)] ?_;refine WC.ret ?_
   repeat' (with_reducible first | refine aZ ?_ | refine aV ?_)
   refine cm _ ⟨⟨_,rfl,bA Tryz.isAgg140 Tryz.sizeOf140 bX rfl⟩,trivial⟩ ?_
   exact ⟨⟨⟨69,0,[],[],[],0,0,nS,[],nS,[],nS,[],.slice A5 4 c5,jN ([69,82,82,79,82]:List UInt8) c t⟩,rfl,zV (eE.ext aN (fun q hq z=>by have:=fN q hq;have:=ai gh;omega)).rd,rfl,fun z hz=>by have:=fN z (DM hz);have:=HO.size;omega⟩,⟨[],(fun q hq=>nomatch hq),kk.1,rfl,kk.2⟩,DN⟩
 · rw [if_neg e]
   refine calls [(0,_),(1,_)] Tryz.func103 rfl Tryz.ntmps103 rfl ⟨rfl,rfl,trivial⟩ ?_
   refine WC.sr ?_;refine WL.aj (aG rfl) rfl rfl rfl ?_
   rintro _ h1 ⟨b3,rfl,bR,aR,az⟩
   refine WL.aj (an (fun w=>Tryz.zeroValue140 w)) rfl rfl rfl ?_
   rintro _ h2 ⟨b4,rfl,gb,bH,aI⟩
   have k2:=(k.aq az).aq aI
   have bT:=aI.obj aR aO
   have s1:=az.size
   refine Gn ?_;refine G2 ?_;refine WL.step (ae rfl) rfl rfl rfl (Go ?_);refine WL.ld rfl (by first | exact aa k2.se.bn rfl | assumption) rfl rfl rfl ?_
   refine WL.call (vs:=[_]) rfl Tryz.call156 rfl (kf _) rfl rfl rfl ?_
   rintro _ hz ⟨rfl,_⟩
   subst hz
   refine WL.step (ae rfl) rfl rfl rfl (Go ?_);refine WL.ax (aB Tryz.sizeOf5 rfl rfl k2.se.bn (Nat.le_of_ble_eq_true rfl) rfl rfl) rfl rfl ?_
   rintro _ h3 ⟨bq,aQ⟩
   obtain ⟨k3,t3⟩:=k2.js aQ bq (by first | exact e▸hso | exact hso)
   have CF:=aQ.obj bT (fun e=>bw bT k2.se.bn (by decide) e)
   have sj:=aQ.obj bH (fun e=>bw bH k2.se.bn (by decide) e)
   have J5:Ext (fun q=>q=A.bs) h h3:=((az.trans aI).mono fun _ _ e=>e.elim).trans aQ
   refine Gn ?_;refine Gs [(0,_),(3,_),(4,_)] ?_;refine G3 ?_;refine WL.step (ae rfl) rfl rfl rfl (Go ?_);refine WL.ld rfl (by first | exact aa k3.se.bn rfl | assumption) rfl rfl rfl ?_
   have zW:=CF
   have gh:=sj
   have k4:=k3
   have HO:Ext (fun q=>q=A.bs∨q=A.mp) h h3:=J5.mono fun _ _ e=>.inl e
   refine Go ?_;refine Gs [(0,_),(3,_),(4,_),(17,_)] ?_
   refine aH 1 2 ?_ TT.mk
   all_goals (refine aw 2 ?_)
   refine WC.skip ?_;refine Gn ?_;refine G2 ?_;refine WL.ld rfl (by first | exact aa zW rfl | assumption) rfl rfl rfl (Go ?_)
   refine WL.ld rfl (by first | exact aa zW rfl | assumption) rfl rfl rfl ?_
   refine WL.call (vs:=[_,_]) rfl Tryz.call157 rfl (vt c t) rfl rfl rfl ?_
   rintro _ h5 ⟨v5,rfl,eE,aM,fN⟩
   obtain ⟨A5,c5,rfl,_⟩:=eE.slice
   refine WL.ax (al Tryz.sizeOf140 rfl rfl rfl (aM.obj gh aO) rfl (by simp [eB,Value.oneCell'])) rfl rfl ?_
   rintro _ h6 ⟨bX,aN⟩
   have DN:=(HO.trans (aM.mono fun _ _ e=>e.elim)).trans' aN (fun q hq e=>by omega)
   have kk:=k.zU DN (aN.obj (aM.obj k4.se.bn aO) (bw k4.se.bn gh (by decide))) ((k4.se.pm.ext aM aO).ext aN (fun e=>dX k4.se.pm gh e.symm)) (fun q hq=>hq) hso
   refine Gn ?_;refine Gs [(4,_)] ?_;refine WC.ret ?_
   repeat' (with_reducible first | refine aZ ?_ | refine aV ?_)
   refine cm _ ⟨⟨_,rfl,bA Tryz.isAgg140 Tryz.sizeOf140 bX rfl⟩,trivial⟩ ?_
   exact ⟨⟨⟨69,0,[],[],[],0,0,nS,[],nS,[],nS,[],.slice A5 4 c5,jN ([69,82,82,79,82]:List UInt8) c t⟩,rfl,zV (eE.ext aN (fun q hq z=>by have:=fN q hq;have:=ai gh;omega)).rd,rfl,fun z hz=>by have:=fN z (DM hz);have:=HO.size;omega⟩,⟨_,(fun q hq=>hq),kk.1,rfl,kk.2⟩,DN⟩
end
section
variable {h h':ah} {A:Ad} {st:Int} {sk ov:Bool} {cnt:Int} {L:List (List UInt8 × gw)} {P:List (List UInt8 × ee)}
theorem cj.DO {g:ah} {r:fR} {u:Value} (x:Ext No h g) (d:cj g A P r u h'):cj h A P r u h':=by
 obtain ⟨v,B,c,e,O,p,L',P',k,e1,e2,t⟩:=d
 exact ⟨v,B,c,e,O.mono x.size,p,L',P',k,e1,e2,(Tn.no x).trans t⟩
def FD (Φ:Value→Value→ah→Prop) (u:Value) (h':ah):Prop:=∃ v e,u=.tuple ⟨[v,e]⟩∧Φ v e h'
abbrev nu (F:Nat) (h:ah) (u:Value) (f:Fm) (Φ:Value→Value→ah→Prop):Prop:=∀ g,Ext No h g→ag Tryz.prog F ⟨[u,.agg ⟨f.cells⟩]⟩ g (FD Φ)
theorem vI {u:Value} {f:Fm} {Φ:Value→Value→ah→Prop} (hf:f.ok h)
   (hk:(f.kind=80∧nu 146 h u f Φ)∨(f.kind=66∧nu 147 h u f Φ)∨(f.kind=68∧nu 148 h u f Φ)∨(f.kind=69∧nu 149 h u f Φ) ∨
     (f.kind=67∧nu 150 h u f Φ)∨(f.kind=81∧nu 151 h u f Φ) ∨
     ((f.kind ≠ 80∧f.kind ≠ 66∧f.kind ≠ 68∧f.kind ≠ 69∧f.kind ≠ 67∧f.kind ≠ 81)∧∀ g,Ext No h g→Φ (.slice none 0 0) .nilIface g)) :
   ag Tryz.prog 101 ⟨[u,.agg ⟨f.cells⟩]⟩ h (FD Φ):=by
 obtain ⟨⟨e1,_⟩,⟨e2,_⟩,⟨e3,_⟩,e4,_⟩:=hf
 obtain ⟨fk,w,n,p,t,vo,o,vf,fs,vs,rs,vp,ps,mx⟩:=f
 dsimp only at e1 e2 e3 e4 hk
 obtain ⟨_,_,rfl,_⟩:=e1
 obtain ⟨_,_,rfl,_⟩:=e2
 obtain ⟨_,_,rfl,_⟩:=e3
 obtain ⟨_,_,rfl,_⟩:=e4
 unfold nu at hk
 dsimp only [Fm.cells] at hk ⊢
 rcases hk with ⟨rfl,kp⟩ | ⟨rfl,kp⟩ | ⟨rfl,kp⟩ | ⟨rfl,kp⟩ | ⟨rfl,kp⟩ | ⟨rfl,kp⟩ | ⟨⟨n1,n2,n3,n4,n5,n6⟩,kp⟩
 all_goals
   refine calls [(0,_),(1,_)] Tryz.func101 rfl Tryz.ntmps101 rfl ⟨rfl,rfl,trivial⟩ ?_
   all_goals (refine WC.sr ?_;refine WL.aj (aG rfl) rfl rfl rfl ?_;rintro _ h1 ⟨b3,rfl,bR,aR,az⟩;refine Go ?_;refine G3 ?_;refine WL.ld rfl (by first | exact aa aR rfl | assumption) rfl rfl rfl ?_;refine Gn ?_;refine Gs [(0,_),(3,_),(7,_)] ?_;refine WC.block ?_;refine G2 ?_;refine aH 1 2 ?_ TT.mk)
   all_goals try (
   refine aw 1 ?_
   all_goals (refine G2 ?_;refine WL.step (ay Tryz.isAgg42 Tryz.sizeOf42 rfl rfl (by exact At.av aR)) rfl rfl rfl ?_;refine WL.call (vs:=[_,_]) rfl Tryz.call146 rfl (kp _ az) rfl rfl rfl ?_;rintro _ h2 ⟨v,e,rfl,D⟩;refine Go ?_;refine Gs [(4,_),(5,_)] ?_;refine Gt ?_;first | exact ⟨v,e,rfl,D⟩ | exact ⟨_,_,rfl,kp _ az⟩ | (exfalso;omega))
   skip)
   all_goals (refine aw 2 ?_;refine G2 ?_;refine aH 3 4 ?_ TT.mk)
   all_goals try (
   refine aw 3 ?_
   all_goals (refine G2 ?_;refine WL.step (ay Tryz.isAgg42 Tryz.sizeOf42 rfl rfl (by exact At.av aR)) rfl rfl rfl ?_;refine WL.call (vs:=[_,_]) rfl Tryz.call147 rfl (kp _ az) rfl rfl rfl ?_;rintro _ h2 ⟨v,e,rfl,D⟩;refine Go ?_;refine Gs [(4,_),(5,_)] ?_;refine Gt ?_;first | exact ⟨v,e,rfl,D⟩ | exact ⟨_,_,rfl,kp _ az⟩ | (exfalso;omega))
   skip)
   all_goals (refine aw 4 ?_;refine G2 ?_;refine Gs [(0,_),(3,_),(7,_),(22,_)] ?_;refine aH 5 6 ?_ TT.mk)
   all_goals try (
   refine aw 5 ?_
   all_goals (refine G2 ?_;refine WL.step (ay Tryz.isAgg42 Tryz.sizeOf42 rfl rfl (by exact At.av aR)) rfl rfl rfl ?_;refine WL.call (vs:=[_,_]) rfl Tryz.call148 rfl (kp _ az) rfl rfl rfl ?_;rintro _ h2 ⟨v,e,rfl,D⟩;refine Go ?_;refine Gs [(4,_),(5,_)] ?_;refine Gt ?_;first | exact ⟨v,e,rfl,D⟩ | exact ⟨_,_,rfl,kp _ az⟩ | (exfalso;omega))
   skip)
   all_goals (refine aw 6 ?_;refine G2 ?_;refine aH 7 8 ?_ TT.mk)
   all_goals try (
   refine aw 7 ?_
   all_goals (refine G2 ?_;refine WL.step (ay Tryz.isAgg42 Tryz.sizeOf42 rfl rfl (by exact At.av aR)) rfl rfl rfl ?_;refine WL.call (vs:=[_,_]) rfl Tryz.call149 rfl (kp _ az) rfl rfl rfl ?_;rintro _ h2 ⟨v,e,rfl,D⟩;refine Go ?_;refine Gs [(4,_),(5,_)] ?_;refine Gt ?_;first | exact ⟨v,e,rfl,D⟩ | exact ⟨_,_,rfl,kp _ az⟩ | (exfalso;omega))
   skip)
   all_goals (refine aw 8 ?_;refine G2 ?_;refine Gs [(0,_),(3,_),(7,_),(36,_)] ?_;refine aH 9 10 ?_ TT.mk)
   all_goals try (
   refine aw 9 ?_
   all_goals (refine G2 ?_;refine WL.step (ay Tryz.isAgg42 Tryz.sizeOf42 rfl rfl (by exact At.av aR)) rfl rfl rfl ?_;refine WL.call (vs:=[_,_]) rfl Tryz.call150 rfl (kp _ az) rfl rfl rfl ?_;rintro _ h2 ⟨v,e,rfl,D⟩;refine Go ?_;refine Gs [(4,_),(5,_)] ?_;refine Gt ?_;first | exact ⟨v,e,rfl,D⟩ | exact ⟨_,_,rfl,kp _ az⟩ | (exfalso;omega))
   skip)
   all_goals (refine aw 10 ?_;refine G2 ?_;refine aH 11 12 ?_ TT.mk)
   all_goals try (
   refine aw 11 ?_
   all_goals (refine G2 ?_;refine WL.step (ay Tryz.isAgg42 Tryz.sizeOf42 rfl rfl (by exact At.av aR)) rfl rfl rfl ?_;refine WL.call (vs:=[_,_]) rfl Tryz.call151 rfl (kp _ az) rfl rfl rfl ?_;rintro _ h2 ⟨v,e,rfl,D⟩;refine Go ?_;refine Gs [(4,_),(5,_)] ?_;refine Gt ?_;first | exact ⟨v,e,rfl,D⟩ | exact ⟨_,_,rfl,kp _ az⟩ | (exfalso;omega))
   skip)
   all_goals (refine aw 12 ?_;refine WC.skip ?_;refine Gn ?_;refine Gs [] ?_;refine G2 ?_;refine Gt ?_;first | exact ⟨v,e,rfl,D⟩ | exact ⟨_,_,rfl,kp _ az⟩ | (exfalso;omega))
theorem cj.two {g:ah} {r:fR} {u:Value} (x:Ext No h g) (d:cj g A P r u h'):FD (fun v e h'=>cj h A P r (.tuple ⟨[v,e]⟩) h') u h':=by
 obtain ⟨v,B,c,rfl,d⟩:=d
 exact ⟨v,_,rfl,cj.DO x ⟨v,B,c,rfl,d⟩⟩
theorem FE (k:Ss h A st sk ov cnt L P) (lm:jg (ck st sk ov cnt L P)) (f:Fm) (hf:f.ok h) (hF:∀ q,f.F q→¬ Mu A P q) (fl:gE f):ag Tryz.prog 101 ⟨[.pointer (some ⟨A.bs,0,none⟩),.agg ⟨f.cells⟩]⟩ h (FD fun v e h'=>cj h A P (ei (ck st sk ov cnt L P) f.p) (.tuple ⟨[v,e]⟩) h'):=by
 have e0 : ei (ck st sk ov cnt L P) f.p = if f.kind = 80 then eC (ck st sk ov cnt L P) f.p else if f.kind = 66 then fF (ck st sk ov cnt L P) f.p else if f.kind = 68 then cy (ck st sk ov cnt L P) f.p else if f.kind = 69 then cd (ck st sk ov cnt L P) f.p
     else if f.kind=67 then gD (ck st sk ov cnt L P) f.p else if f.kind=81 then dy (ck st sk ov cnt L P) f.p else (ck st sk ov cnt L P,[],none):=rfl
 rw [e0]
 refine vI hf ?_
 by_cases e1:f.kind=80
 · exact .inl ⟨e1,fun g x=>by rw [if_pos e1];exact (Cn (k.aq x) f (hf.aq x) hF fl).mono fun _ _ d=>d.two x⟩
 refine .inr ?_
 rw [if_neg e1]
 by_cases e2:f.kind=66
 · exact .inl ⟨e2,fun g x=>by rw [if_pos e2];exact (Fg (k.aq x) lm f (hf.aq x) hF fl).mono fun _ _ d=>d.two x⟩
 refine .inr ?_
 rw [if_neg e2]
 by_cases e3:f.kind=68
 · exact .inl ⟨e3,fun g x=>by rw [if_pos e3];exact (ui (k.aq x) lm f (hf.aq x) fl).mono fun _ _ d=>d.two x⟩
 refine .inr ?_
 rw [if_neg e3]
 by_cases e4:f.kind=69
 · exact .inl ⟨e4,fun g x=>by rw [if_pos e4];exact (wZ (k.aq x) lm f (hf.aq x) fl).mono fun _ _ d=>d.two x⟩
 refine .inr ?_
 rw [if_neg e4]
 by_cases e5:f.kind=67
 · exact .inl ⟨e5,fun g x=>by rw [if_pos e5];exact (Fk (k.aq x) f (hf.aq x)).mono fun _ _ d=>d.two x⟩
 refine .inr ?_
 rw [if_neg e5]
 by_cases e6:f.kind=81
 · exact .inl ⟨e6,fun g x=>by rw [if_pos e6];exact (vF (k.aq x) lm f (hf.aq x) fl).mono fun _ _ d=>d.Lh.two x⟩
 refine .inr ⟨⟨e1,e2,e3,e4,e5,e6⟩,fun g x=>?_⟩
 rw [if_neg e6]
 exact cj.DO x ⟨_,[],fun e=>absurd rfl e,rfl,cz.nil _ _,rfl,.of (k.aq x) (Tn.no (.refl _ _))⟩
theorem FF (k:Ss h A st sk ov cnt L P) (lm:jg (ck st sk ov cnt L P)) (f:Fm) (hf:f.ok h) (fl:gE f) (e6:f.kind=81):ag Tryz.prog 101 ⟨[.pointer (some ⟨A.bs,0,none⟩),.agg ⟨f.cells⟩]⟩ h (FD fun v e h'=>eQ h A L P (dy (ck st sk ov cnt L P) f.p) (.tuple ⟨[v,e]⟩) h') :=
 vI hf (.inr (.inr (.inr (.inr (.inr (.inl ⟨e6,fun g x=>(vF (k.aq x) lm f (hf.aq x) fl).mono fun _ _ d=>by
   obtain ⟨v,B,c,rfl,d⟩:=d
   exact ⟨v,_,rfl,eQ.trans (Tn.no x) (fun _ h=>h) (fun _ h=>h) ⟨v,B,c,rfl,d⟩⟩⟩))))))
end
structure nw (f:gg):Prop where
 t:f.text.length≤100000
 o:f.oids.length≤20000
 m:f.params.length≤100000
structure dP (n:Nat) (s:SP):Prop where
 l:∀ q∈s.L,q.2.1.length≤100000∧q.2.2.length≤20000
 p:∀ q∈s.P,q.2.1.length≤100000∧q.2.2.1.length≤20000∧q.2.2.2.1.length≤100000∧jw q.2.2.2.2.1
 c:0≤s.cnt∧s.cnt≤n
 k:s.L.length≤n
theorem dP.J6 {n:Nat} {s:SP} (k:dP n s) (hn:n < 1000000):jg s:=⟨fun q hq=>(k.l q hq).1,fun q hq=>k.p q hq,by have:=k.c;omega⟩
theorem dP.mono {n m:Nat} {s:SP} (k:dP n s) (h:n≤m):dP m s:=⟨k.l,k.p,by have:=k.c;omega,by have:=k.k;omega⟩
theorem zX {κ α:Type} [DecidableEq κ] (E:List (κ × α)) (n:κ):(cb E n).length≤E.length:=by unfold cb;exact List.length_filter_le _ _
theorem zY {κ α:Type} [DecidableEq κ] (E:List (κ × α)) (n:κ) (v:α):(cl E n v).length≤E.length+1:=by
 unfold cl
 split
 · rw [List.length_map];omega
 · simp
section
variable {n:Nat} {s:SP}
theorem dP.uu (k:dP n s) (x:List UInt8):dP n { s with L:=cb s.L x }:=⟨fun q hq=>k.l q (cB hq).1,k.p,k.c,Nat.le_trans (zX _ _) k.k⟩
theorem dP.sA (k:dP n s) (x:List UInt8):dP n { s with P:=cb s.P x }:=⟨k.l,fun q hq=>k.p q (cB hq).1,k.c,k.k⟩
theorem dP.FG (k:dP n s) (x:List UInt8) (v:E8) (h1:v.1.length≤100000) (h2:v.2.length≤20000):dP (n+1) { s with L:=cl s.L x v } :=
 ⟨fun q hq=>by
   rcases cu hq with rfl | ⟨hq,_⟩
   · exact ⟨h1,h2⟩
   · exact k.l q hq,k.p,⟨k.c.1,by have:=k.c;show s.cnt≤_;omega⟩,Nat.le_trans (zY _ _ _) (by have:=k.k;omega)⟩
theorem dP.ln (k:dP n s) (x:List UInt8) (v:E9) (h:v.1.length≤100000∧v.2.1.length≤20000∧v.2.2.1.length≤100000∧jw v.2.2.2.1):dP n { s with P:=cl s.P x v } :=
 ⟨k.l,fun q hq=>by
   rcases cu hq with rfl | ⟨hq,_⟩
   · exact h
   · exact k.p q hq,k.c,k.k⟩
theorem dP.of (k:dP n s) {s':SP} (h1:s'.L=s.L) (h2:s'.P=s.P∨s'.P=[]) (h3:s'.cnt=s.cnt):dP n s' :=
 ⟨h1▸k.l,by rcases h2 with e | e <;> rw [e];exact k.p;exact (fun _ h=>nomatch h),h3▸k.c,h1▸k.k⟩
theorem dt {κ α:Type} [DecidableEq κ] {E:List (κ × α)} {n:κ} {v:α} (h:bG E n=some v):(n,v)∈E:=b0 h
theorem o5:jw []:=⟨Nat.zero_le _,(fun _ h=>nomatch h)⟩
theorem kC (v:fQ) (ps:List ez) (c:Int):c≤(cY v ps c).2∧(cY v ps c).2≤c+1:=by
 unfold cY
 split
 · exact ⟨Int.le_refl _,by dsimp only;omega⟩
 · split
   · exact ⟨Int.le_refl _,by dsimp only;omega⟩
   · split
     · exact ⟨by dsimp only;omega,Int.le_refl _⟩
     · exact ⟨Int.le_refl _,by dsimp only;omega⟩
theorem xc {rs:List (List ez)} (ov:Bool) (m:Int) (h:jw rs):jw (dJ rs ov m).2.1:=by
 unfold dJ
 split
 · exact h
 · exact ⟨by simp only [List.length_drop];have:=h.1;omega,fun r hr=>h.2 r (List.mem_of_mem_drop hr)⟩
theorem uv (k:dP n s) (f:gg) (ff:nw f):dP (n+1) (eC s f).1:=by
 have k1:dP n (if f.name=[] then { s with L:=cb s.L [] } else s):=by
   split
   · exact k.uu _
   · exact k
 unfold eC
 dsimp only
 generalize (if f.name=[] then { s with L:=cb s.L [] } else s)=s1 at k1 ⊢
 split
 · exact k1.mono (by omega)
 · split
   · exact k1.mono (by omega)
   · exact k1.FG _ _ ff.t ff.o
theorem xd (k:dP n s) (f:gg) (ff:nw f):dP (n+1) (fF s f).1:=by
 unfold fF
 split
 · exact k.mono (by omega)
 · split
   · exact k.mono (by omega)
   · rename_i t ht
     have hm:=k.l _ (dt ht)
     split
     · exact k.mono (by omega)
     · split
       · exact k.mono (by omega)
       · exact (k.ln _ _ ⟨hm.1,hm.2,ff.m,o5⟩).mono (by omega)
theorem oo (k:dP n s) (f:gg):dP (n+1) (cy s f).1:=by
 have e:(cy s f).1=s:=by
   unfold cy
   split <;> split <;> (try split) <;> rfl
 rw [e]
 exact k.mono (by omega)
theorem o6 (k:dP n s) (v:fQ):dP n (cF s v).1:=by
 unfold cF
 split
 · exact k
 · split
   · exact k
   · refine k.of rfl ?_ rfl
     dsimp only
     split
     · exact .inr rfl
     · exact .inl rfl
theorem ql (k:dP n s) (f:gg):dP (n+1) (cd s f).1:=by
 unfold cd
 split
 · exact k.mono (by omega)
 · split
   · exact k.mono (by omega)
   · rename_i t o ps rs ran ov hg
     have hm:=k.p _ (dt hg)
     dsimp only at hm
     have hc:=k.c
     split
     · have hrs : jw (if ran = true then (rs, s.cnt) else cY (bh t) ps s.cnt).1 ∧ s.cnt ≤ (if ran = true then (rs, s.cnt) else cY (bh t) ps s.cnt).2 ∧ (if ran = true then (rs, s.cnt) else cY (bh t) ps s.cnt).2 ≤ s.cnt + 1 := by
         split
         · exact ⟨hm.2.2.2,Int.le_refl _,by dsimp only;omega⟩
         · exact ⟨gF _ _ hm.2.2.1,kC _ _ _⟩
       dsimp only
       generalize (if ran=true then (rs,s.cnt) else cY (bh t) ps s.cnt)=rc at hrs ⊢
       have k1:dP (n+1) { s with cnt:=rc.2 }:=⟨k.l,k.p,by dsimp only;omega,by have:=k.k;dsimp only;omega⟩
       exact k1.ln _ _ ⟨hm.1,hm.2.1,hm.2.2.1,xc _ _ hrs.1⟩
     · split
       · exact k.mono (by omega)
       · have kt:=o6 k (bh t)
         split
         · rename_i s1 out he
           rw [he] at kt
           dsimp only at kt ⊢
           split
           · exact kt.mono (by omega)
           · exact (kt.ln _ _ ⟨hm.1,hm.2.1,hm.2.2.1,o5⟩).mono (by omega)
         · exact kt.mono (by omega)
theorem xe (k:dP n s) (f:gg):dP (n+1) (gD s f).1:=by
 unfold gD
 split
 · exact (k.uu _).mono (by omega)
 · exact (k.sA _).mono (by omega)
theorem uw (k:dP n s) (f:gg):dP (n+1) (dy s f).1:=by
 have k1:dP n { s with L:=cb s.L [],P:=cb s.P [] }:=(k.uu []).sA []
 have k2:dP (n+1) { s with L:=cb s.L [],P:=cb s.P [],cnt:=(cY (bh f.text) [] s.cnt).2 }:=⟨k1.l,k1.p,by have:=kC (bh f.text) [] s.cnt;have hc:=k.c;dsimp only;omega,by have:=k1.k;dsimp only at this ⊢;omega⟩
 unfold dy
 dsimp only
 split
 · exact k1.mono (by omega)
 · split
   · exact k2
   · exact (o6 k1 _).mono (by omega)
theorem xf (k:dP n s) (f:gg) (ff:nw f):dP (n+1) (ei s f).1:=by
 unfold ei
 split
 · exact uv k f ff
 · split
   · exact xd k f ff
   · split
     · exact oo k f
     · split
       · exact ql k f
       · split
         · exact xe k f
         · split
           · exact uw k f
           · exact k.mono (by omega)
theorem lA (k:dP n s):dP n (dY s).1:=by
 refine k.of rfl ?_ rfl
 unfold dY
 dsimp only
 split
 · exact .inr rfl
 · exact .inl rfl
theorem sB (k:dP n s) (c t:List UInt8):dP n (hH s c t).1:=by
 refine k.of rfl ?_ rfl
 unfold hH
 dsimp only
 split
 · exact .inr rfl
 · exact .inl rfl
theorem xg (f:gg) {r:fR} (k:dP n r.1):dP n (fG f r).1:=by
 unfold fG
 rcases he:r.2.2 with _ | ⟨c,t⟩
 · dsimp only
   split
   · exact lA k
   · exact k
 · dsimp only
   have kf:dP n (hH { r.1 with sk:=decide (f.kind ≠ 81) } c t).1:=sB (s:={ r.1 with sk:=decide (f.kind ≠ 81) }) (k.of rfl (.inl rfl) rfl) c t
   split
   · exact lA kf
   · exact kf
theorem CG (k:dP n s) (f:gg) (ff:nw f):dP (n+1) (iw s f).1:=by
 have km:dP (n+1) s:=k.mono (by omega)
 unfold iw
 split
 · exact km
 · split
   · exact km.of rfl (.inl rfl) rfl
   · split
     · exact lA (km.of rfl (.inl rfl) rfl)
     · split
       · exact km
       · exact xg f (xf k f ff)
end
theorem jc (a b:List UInt8):aY (a++b)=(aY a && aY b):=by
 unfold aY
 rw [List.contains_eq_any_beq,List.any_append,List.contains_eq_any_beq,List.contains_eq_any_beq,Bool.not_or]
theorem ux (m:Nat):aY (cX m)=true:=by
 induction m using Nat.strongRecOn with
 | _ m ih =>
   have hd:∀ k,k < 10→aY [UInt8.ofNat (48+k)]=true:=by decide
   by_cases h:m < 10
   · rw [mz h]
     exact hd m h
   · rw [p7 h,show (UInt8.ofNat (48+m % 10) :: cX (m / 10))=[UInt8.ofNat (48+m % 10)]++cX (m / 10) from rfl,jc,hd _ (by omega),ih (m / 10) (by omega)]
     rfl
theorem o7 (m:Nat):aY (xG m)=true:=by
 have:=ux m
 unfold aY xG at *
 rw [List.contains_eq_any_beq] at *
 rwa [List.any_reverse]
theorem uy (n:Int):aY (dr n)=true:=by
 unfold dr
 split
 · rw [show (45 :: xG n.natAbs)=[45]++xG n.natAbs from rfl,jc,o7]
   rfl
 · exact o7 _
section
variable (N M:Nat) (G:Prop)
def zZ (o:List Int):Prop:=o.length≤N∧(G→∀ n∈o,0≤n∧n≤4294967295)
def eG (ps:List ez):Prop:=ps.length≤N∧∀ c∈ps,c.2.length≤M∧(G→c.1=true→c.2.length=0)
structure Inv (s:SP):Prop where
 l:∀ q∈s.L,zZ N G q.2.2
 p:∀ q∈s.P,zZ N G q.2.2.1∧eG N M G q.2.2.2.1∧∀ r∈q.2.2.2.2.1,eG N M G r
 c:0≤s.cnt∧s.cnt≤1000000
def gG (x:jb):Prop:=x.kind=69∨(∃ k,x={ kind:=k }∧(k=49∨k=50∨k=51∨k=73∨k=110∨k=115))∨(∃ t,x={ kind:=67,tag:=t }∧aY t=true∧t.length≤1000)∨(∃ o,x={ kind:=116,oids:=o }∧zZ N G o)∨(∃ r,x={ kind:=68,row:=r }∧eG N M G r)∨(∃ n:Int,x=oV n∧n≤max N 1)
end
section
variable {N M:Nat} {G:Prop} {s:SP}
theorem gG.plain {k:Int} (h:k=49∨k=50∨k=51∨k=73∨k=110∨k=115):∀ x∈[({ kind:=k }:jb)],gG N M G x:=fun x hx=>by
 obtain rfl:=List.mem_singleton.1 hx
 exact .inr (.inl ⟨k,rfl,h⟩)
theorem Inv.uu (k:Inv N M G s) (x:List UInt8):Inv N M G { s with L:=cb s.L x }:=⟨fun q hq=>k.l q (cB hq).1,k.p,k.c⟩
theorem Inv.sA (k:Inv N M G s) (x:List UInt8):Inv N M G { s with P:=cb s.P x }:=⟨k.l,fun q hq=>k.p q (cB hq).1,k.c⟩
theorem Inv.FG (k:Inv N M G s) (x:List UInt8) (v:E8) (h:zZ N G v.2):Inv N M G { s with L:=cl s.L x v } :=
 ⟨fun q hq=>by
   rcases cu hq with rfl | ⟨hq,_⟩
   · exact h
   · exact k.l q hq,k.p,k.c⟩
theorem Inv.ln (k:Inv N M G s) (x:List UInt8) (v:E9) (h:zZ N G v.2.1∧eG N M G v.2.2.1∧∀ r∈v.2.2.2.1,eG N M G r):Inv N M G { s with P:=cl s.P x v } :=
 ⟨k.l,fun q hq=>by
   rcases cu hq with rfl | ⟨hq,_⟩
   · exact h
   · exact k.p q hq,k.c⟩
theorem Inv.of (k:Inv N M G s) {s':SP} (h1:s'.L=s.L) (h2:s'.P=s.P∨s'.P=[]) (h3:s'.cnt=s.cnt):Inv N M G s' :=
 ⟨h1▸k.l,by rcases h2 with e | e <;> rw [e];exact k.p;exact (fun _ h=>nomatch h),h3▸k.c⟩
theorem vJ {n:Int} (hN:1≤N) (hM:100≤M) (hn:0≤n∧n≤1000001):eG N M G [(false,dr n)]:=⟨hN,fun c hc=>by
 obtain rfl:=List.mem_singleton.1 hc
 exact ⟨by have:=dk n (by omega);show (dr n).length≤M;omega,fun _ e=>by cases e⟩⟩
theorem o8 (v:fQ) {ps:List ez} {c:Int} (hN:1≤N) (hM:100≤M) (hc:0≤c∧c≤1000000) (h:eG N M G ps):∀ r∈(cY v ps c).1,eG N M G r:=by
 unfold cY
 split
 · intro r hr
   obtain ⟨i,hi,rfl⟩:=List.mem_map.1 hr
   have:=ja v.n
   have:=List.mem_range.1 hi
   exact vJ hN hM (by omega)
 · split
   · intro r hr
     obtain rfl:=List.mem_singleton.1 hr
     exact h
   · split
     · intro r hr
       obtain rfl:=List.mem_singleton.1 hr
       exact vJ hN hM (by omega)
     · exact fun _ h=>nomatch h
theorem CH {n:Nat} (h:n≤100000):aY (wU n)=true∧(wU n).length≤1000:=by
 unfold wU
 have:=dk (n:Int) (by omega)
 exact ⟨by rw [jc,uy];rfl,by rw [List.length_append];simp;omega⟩
theorem lU {rs:List (List ez)} (more:Bool) (hl:rs.length≤100000) (h:∀ r∈rs,eG N M G r):∀ x∈cQ rs more,gG N M G x:=fun x hx=>by
 unfold cQ at hx
 rcases List.mem_append.1 hx with hx | hx
 · obtain ⟨r,hr,rfl⟩:=List.mem_map.1 hx
   exact .inr (.inr (.inr (.inr (.inl ⟨r,rfl,h r hr⟩))))
 · obtain rfl:=List.mem_singleton.1 hx
   split
   · exact .inr (.inl ⟨115,rfl,by omega⟩)
   · exact .inr (.inr (.inl ⟨_,rfl,CH hl⟩))
theorem vK (v:fQ) {o:List Int} (h:zZ N G o):og v o.length≤max N 1:=by
 unfold og
 have:=h.1
 split
 · omega
 · split <;> omega
theorem nx (t:E8) (h:zZ N G t.2):gG N M G (iM t):=by
 unfold iM
 split
 · exact .inr (.inr (.inr (.inr (.inr ⟨_,rfl,vK _ h⟩))))
 · exact .inr (.inl ⟨110,rfl,by omega⟩)
theorem xh (st:Int) (v:fQ):aY (eT st v).2=true∧(eT st v).2.length≤1000:=by
 unfold eT
 split
 · unfold rZ
   split <;> exact ⟨rfl,Nat.le_of_ble_eq_true rfl⟩
 · split <;> exact ⟨rfl,Nat.le_of_ble_eq_true rfl⟩
theorem o9 (k:Inv N M G s) (v:fQ):Inv N M G (cF s v).1∧∀ x∈(cF s v).2.1,gG N M G x:=by
 unfold cF
 split
 · exact ⟨k,gG.plain (by omega)⟩
 · split
   · exact ⟨k,fun _ h=>nomatch h⟩
   · refine ⟨k.of rfl ?_ rfl,fun x hx=>?_⟩
     · dsimp only
       split
       · exact .inr rfl
       · exact .inl rfl
     · obtain rfl:=List.mem_singleton.1 hx
       exact .inr (.inr (.inl ⟨_,rfl,xh _ _⟩))
theorem uz (k:Inv N M G s) (f:gg) (hq:zZ N G f.oids):Inv N M G (eC s f).1∧∀ x∈(eC s f).2.1,gG N M G x:=by
 have k1:Inv N M G (if f.name=[] then { s with L:=cb s.L [] } else s):=by
   split
   · exact k.uu _
   · exact k
 unfold eC
 dsimp only
 generalize (if f.name=[] then { s with L:=cb s.L [] } else s)=s1 at k1 ⊢
 split
 · exact ⟨k1,fun _ h=>nomatch h⟩
 · split
   · exact ⟨k1,fun _ h=>nomatch h⟩
   · exact ⟨k1.FG _ _ hq,gG.plain (by omega)⟩
theorem xi (k:Inv N M G s) (f:gg) (hr:eG N M G f.params):Inv N M G (fF s f).1∧∀ x∈(fF s f).2.1,gG N M G x:=by
 unfold fF
 split
 · exact ⟨k,fun _ h=>nomatch h⟩
 · split
   · exact ⟨k,fun _ h=>nomatch h⟩
   · rename_i t ht
     have hm:=k.l _ (dt ht)
     split
     · exact ⟨k,fun _ h=>nomatch h⟩
     · split
       · exact ⟨k,fun _ h=>nomatch h⟩
       · exact ⟨k.ln _ _ ⟨hm,hr,fun _ h=>nomatch h⟩,gG.plain (by omega)⟩
theorem oq (k:Inv N M G s) (f:gg):Inv N M G (cy s f).1∧∀ x∈(cy s f).2.1,gG N M G x:=by
 unfold cy
 split
 · split
   · exact ⟨k,fun _ h=>nomatch h⟩
   · split
     · exact ⟨k,fun _ h=>nomatch h⟩
     · rename_i t ht
       have hm:=k.l _ (dt ht)
       refine ⟨k,fun x hx=>?_⟩
       rcases List.mem_cons.1 hx with rfl | hx
       · exact .inr (.inr (.inr (.inl ⟨_,rfl,hm⟩)))
       · obtain rfl:=List.mem_singleton.1 hx
         exact nx _ hm
 · split
   · exact ⟨k,fun _ h=>nomatch h⟩
   · split
     · exact ⟨k,fun _ h=>nomatch h⟩
     · rename_i t ht
       have hm:=k.p _ (dt ht)
       refine ⟨k,fun x hx=>?_⟩
       obtain rfl:=List.mem_singleton.1 hx
       exact nx _ hm.1
theorem CI {rs:List (List ez)} (ov:Bool) (m:Int) (hl:rs.length≤100000) (h:∀ r∈rs,eG N M G r):((dJ rs ov m).1.length≤100000∧∀ r∈(dJ rs ov m).1,eG N M G r)∧∀ r∈(dJ rs ov m).2.1,eG N M G r:=by
 unfold dJ
 split
 · exact ⟨⟨Nat.zero_le _,fun _ h=>nomatch h⟩,h⟩
 · exact ⟨⟨by dsimp only;rw [List.length_take];omega,fun r hr=>h r (List.mem_of_mem_take hr)⟩,fun r hr=>h r (List.mem_of_mem_drop hr)⟩
theorem qm (k:Inv N M G s) {n:Nat} (lm:dP n s) (hn:n < 1000000) (hN:1≤N) (hM:100≤M) (f:gg):Inv N M G (cd s f).1∧∀ x∈(cd s f).2.1,gG N M G x:=by
 unfold cd
 split
 · exact ⟨k,fun _ h=>nomatch h⟩
 · split
   · exact ⟨k,fun _ h=>nomatch h⟩
   · rename_i t o ps rs ran ov hg
     have hm:=k.p _ (dt hg)
     have hl:=lm.p _ (dt hg)
     have hc:=lm.c
     dsimp only at hm hl
     split
     · have hrs : (∀ r ∈ (if ran = true then (rs, s.cnt) else cY (bh t) ps s.cnt).1, eG N M G r) ∧ (if ran = true then (rs, s.cnt) else cY (bh t) ps s.cnt).1.length ≤ 100000 ∧ s.cnt ≤ (if ran = true then (rs, s.cnt) else cY (bh t) ps s.cnt).2 ∧ (if ran = true then (rs, s.cnt) else cY (bh t) ps s.cnt).2 ≤ s.cnt + 1 := by
         split
         · exact ⟨hm.2.2,hl.2.2.2.1,Int.le_refl _,by dsimp only;omega⟩
         · exact ⟨o8 _ hN hM (by omega) hm.2.1,(gF _ _ hl.2.2.1).1,kC _ _ _⟩
       dsimp only
       generalize (if ran=true then (rs,s.cnt) else cY (bh t) ps s.cnt)=rc at hrs ⊢
       have k1:Inv N M G { s with cnt:=rc.2 }:=⟨k.l,k.p,by dsimp only;omega⟩
       have hf:=CI ov f.max hrs.2.1 hrs.1
       exact ⟨k1.ln _ _ ⟨hm.1,hm.2.1,hf.2⟩,lU _ hf.1.1 hf.1.2⟩
     · split
       · exact ⟨k,fun _ h=>nomatch h⟩
       · have kt:=o9 k (bh t)
         split
         · rename_i s1 out he
           rw [he] at kt
           dsimp only at kt ⊢
           refine ⟨?_,kt.2⟩
           split
           · exact kt.1
           · exact kt.1.ln _ _ ⟨hm.1,hm.2.1,fun _ h=>nomatch h⟩
         · exact kt
theorem xj (k:Inv N M G s) (f:gg):Inv N M G (gD s f).1∧∀ x∈(gD s f).2.1,gG N M G x:=by
 unfold gD
 split
 · exact ⟨k.uu _,gG.plain (by omega)⟩
 · exact ⟨k.sA _,gG.plain (by omega)⟩
theorem uA (k:Inv N M G s) {n:Nat} (lm:dP n s) (hn:n < 1000000) (hN:1≤N) (hM:100≤M) (f:gg):Inv N M G (dy s f).1∧∀ x∈(dy s f).2.1,gG N M G x:=by
 have hc:=lm.c
 have k1:Inv N M G { s with L:=cb s.L [],P:=cb s.P [] }:=(k.uu []).sA []
 have h0:eG N M G ([]:List ez):=⟨Nat.zero_le _,fun _ h=>nomatch h⟩
 have he:=kC (bh f.text) [] s.cnt
 unfold dy
 dsimp only
 split
 · exact ⟨k1,fun _ h=>nomatch h⟩
 · split
   · refine ⟨⟨k1.l,k1.p,by dsimp only;omega⟩,fun x hx=>?_⟩
     rcases List.mem_cons.1 hx with rfl | hx
     · exact .inr (.inr (.inr (.inr (.inr ⟨_,rfl,vK (G:=G) (o:=[]) _ ⟨Nat.zero_le _,fun _ _ h=>nomatch h⟩⟩))))
     · exact lU _ (gF _ _ (Nat.zero_le _)).1 (o8 _ hN hM (by omega) h0) x hx
   · exact o9 k1 _
theorem xk (k:Inv N M G s) {n:Nat} (lm:dP n s) (hn:n < 1000000) (hN:1≤N) (hM:100≤M) (f:gg) (hq:zZ N G f.oids) (hr:eG N M G f.params):Inv N M G (ei s f).1∧∀ x∈(ei s f).2.1,gG N M G x:=by
 unfold ei
 split
 · exact uz k f hq
 · split
   · exact xi k f hr
   · split
     · exact oq k f
     · split
       · exact qm k lm hn hN hM f
       · split
         · exact xj k f
         · split
           · exact uA k lm hn hN hM f
           · exact ⟨k,fun _ h=>nomatch h⟩
theorem pa (k:Inv N M G s):Inv N M G (dY s).1:=by
 refine k.of rfl ?_ rfl
 unfold dY
 dsimp only
 split
 · exact .inr rfl
 · exact .inl rfl
def DP (s:SP) (f:gg):Bool := !s.ov && (decide (f.kind=83) || decide (f.kind=81) && !s.sk)
theorem CJ (k:Inv N M G s) {n:Nat} (lm:dP n s) (hn:n < 1000000) (hN:1≤N) (hM:100≤M) (f:gg) (hq:zZ N G f.oids) (hr:eG N M G f.params) :
   Inv N M G (iw s f).1∧∃ l,(iw s f).2=l++(if DP s f=true then [{ kind:=90,status:=(iw s f).1.st }] else [])∧∀ x∈l,gG N M G x:=by
 unfold iw DP
 by_cases h1:s.ov=true
 · rw [if_pos h1]
   exact ⟨k,[],by simp [h1],fun _ h=>nomatch h⟩
 · rw [if_neg h1]
   have e1:s.ov=false:=by simpa using h1
   by_cases h2:f.kind=88
   · rw [if_pos h2]
     exact ⟨k.of rfl (.inl rfl) rfl,[],by simp [e1,h2],fun _ h=>nomatch h⟩
   · rw [if_neg h2]
     by_cases h3:f.kind=83
     · rw [if_pos h3]
       exact ⟨pa (k.of (s':={ s with sk:=false }) rfl (.inl rfl) rfl),[],by simp [e1,h3,dY],fun _ h=>nomatch h⟩
     · rw [if_neg h3]
       by_cases h4:s.sk=true
       · rw [if_pos h4]
         exact ⟨k,[],by simp [h4,h3],fun _ h=>nomatch h⟩
       · rw [if_neg h4]
         have e4:s.sk=false:=by simpa using h4
         have kd:=xk k lm hn hN hM f hq hr
         generalize ei s f=r at kd ⊢
         obtain ⟨s1,out,e⟩:=r
         dsimp only at kd
         obtain ⟨s2,o2,he,ki,ko⟩:∃ s2 o2,fG f (s1,out,e)=(if f.kind=81 then ((dY s2).1,o2++[(dY s2).2]) else (s2,o2))∧Inv N M G s2∧∀ x∈o2,gG N M G x:=by
           rcases e with _ | ⟨c,t⟩
           · exact ⟨s1,out,rfl,kd.1,kd.2⟩
           · refine ⟨_,_,rfl,kd.1.of rfl ?_ rfl,fun x hx=>?_⟩
             · dsimp only [hH]
               split
               · exact .inr rfl
               · exact .inl rfl
             · rcases List.mem_append.1 hx with hx | hx
               · exact kd.2 x hx
               · obtain rfl:=List.mem_singleton.1 hx
                 exact .inl rfl
         rw [he]
         by_cases h5:f.kind=81
         · rw [if_pos h5]
           exact ⟨pa ki,o2,by simp [e1,e4,h5,dY],ko⟩
         · rw [if_neg h5]
           exact ⟨ki,o2,by simp [h3,h5],ko⟩
end
def xl (p:jb):Bk:=⟨p.kind,p.status,p.tag,p.name,p.value,p.n,p.m,jE,p.oids,jE,p.cols,jE,p.row.map fun c=>⟨c.1,jE,c.2⟩,jE,p.fields⟩
theorem uB (p:jb):(xl p).p=p:=by
 unfold xl Bk.p
 dsimp only
 rw [List.map_map,show (aX.pl ∘ fun c:ez=>(⟨c.1,jE,c.2⟩:aX))=id from rfl,List.map_id]
theorem qn {φ:Bool→List UInt8→Prop} (l:List aX):(∀ c∈l,φ c.null c.bytes) ↔ ∀ c∈l.map aX.pl,φ c.1 c.2:=by simp [aX.pl]
theorem J7 {a b:Bk} (e:a.p=b.p):(sX a).pl=(sX b).pl:=by
 obtain ⟨k,st,t,n,v,x,y,vo,lo,vc,lc,vr,lr,vf,lf⟩:=a
 obtain ⟨k',st',t',n',v',x',y',vo',lo',vc',lc',vr',lr',vf',lf'⟩:=b
 simp only [Bk.p,jb.mk.injEq] at e
 obtain ⟨rfl,rfl,rfl,rfl,rfl,rfl,rfl,rfl,rfl,er,rfl⟩:=e
 unfold sX
 dsimp only
 repeat' split
 all_goals first | rfl | simp only [Bk.pl,er]
theorem J8 {a b:Bk} (e:a.p=b.p):a.pl=b.pl:=by
 simp only [Bk.p,jb.mk.injEq] at e
 simp only [Bk.pl,e]
theorem uC {a b:Bk} (e:a.p=b.p) (h:a.may):b.may:=by
 have e1:=J7 e
 have e2:=J8 e
 simp only [Bk.p,jb.mk.injEq] at e
 obtain ⟨h1,h2,h3,h4,h5,h6,h7,h8,h9,iG,qg,qR⟩:=h
 obtain ⟨k1,k2,k3,k4,k5,k6,k7,k8,k9,sw,zN⟩:=e
 refine ⟨k1▸h1,k3▸h2,k4▸h3,k5▸h4,k9▸h5,zN▸h6,⟨?_,?_⟩,k8▸h8,k6▸h9,k7▸iG,?_,e1▸e2▸qR⟩
 · have:=congrArg List.length sw
   simp only [List.length_map] at this
   have:=h7.1
   omega
 · have:=(qn (φ:=fun n l=>(n=true→l.length=0)∧l.length≤1048576) a.row).1 h7.2
   rw [sw] at this
   exact (qn (φ:=fun n l=>(n=true→l.length=0)∧l.length≤1048576) b.row).2 this
 · unfold Bk.ma at *
   rw [← k1,← k2]
   exact qg
theorem vL {a b:Bk} (e:a.p=b.p):eh a=eh b:=by
 obtain ⟨k,st,t,n,v,x,y,vo,lo,vc,lc,vr,lr,vf,lf⟩:=a
 obtain ⟨k',st',t',n',v',x',y',vo',lo',vc',lc',vr',lr',vf',lf'⟩:=b
 simp only [Bk.p,jb.mk.injEq] at e
 obtain ⟨rfl,rfl,rfl,rfl,rfl,rfl,rfl,rfl,rfl,er,rfl⟩:=e
 have hl:lr.length=lr'.length:=by have:=congrArg List.length er;simpa using this
 have hf:∀ l:List aX,l.flatMap dI=(l.map aX.pl).flatMap fun c=>if c.1 then be 4294967295 4 else be c.2.length 4++c.2:=fun l=>by rw [List.flatMap_map];rfl
 unfold eh
 dsimp only
 rw [hl,hf lr,hf lr',er]
open Classical in
noncomputable def eD (p:jb):List (Int × List UInt8):=if (xl p).may then [(p.kind,eh (xl p))] else []
def Kn (k:Int):Prop:=k=90∨k=67∨k=68∨k=84∨k=116∨k=69∨k=82∨k=75∨k=49∨k=50∨k=51∨k=110∨k=115∨k=73
structure jh (p:jb):Prop where
 kind:Kn p.kind
 status:0≤p.status∧p.status≤255
 codes:∀ f∈p.fields,0≤f.k∧f.k≤255
 oids:p.oids.length≤100
 cols:p.cols.length≤100
 row:p.row.length≤100
 fields:p.fields.length≤100
 names:∀ c∈p.cols,c.nm.length≤1000
 cells:∀ c∈p.row,c.2.length≤1000
 texts:∀ f∈p.fields,f.t.length≤200000
 tag:p.tag.length≤1000
 name:p.name.length≤1000
 value:p.value.length≤1000
theorem jh.of {b:Bk} {p:jb} (e:b.p=p) (k:jh p):b.He∧b.wf∧Kn b.kind:=by
 subst e
 obtain ⟨h1,h2,h3,h4,h5,h6,h7,h8,h9,iG,qg,qR,Ft⟩:=k
 refine ⟨⟨h4,h5,by simpa [Bk.p] using h6,h7,h8,(qn (φ:=fun _ l=>l.length≤1000) b.row).2 h9,iG,qg,qR,Ft⟩,⟨?_,h2,h3⟩,h1⟩
 have:Kn b.kind:=h1
 unfold Kn at this
 omega
def Lq (p:jb) (h:ah) (u:Value) (h':ah):Prop:=∃ (k:Int) (v:Value) (e:Int),u=.tuple ⟨[.agg ⟨[.int .u8 k,v]⟩,In e]⟩∧Ext No h h'∧((e ≠ 0∧eD p=[]∧v=jE)∨(e=0∧k=p.kind∧∃ l,eD p=[(p.kind,l)]∧Own h' v 5 1 l.length (bB l)∧∀ q,v.ownBlock=some q→h.size≤q))
theorem vM {h:ah} (b:Bk) (hb:b.ok h) (hm:jh b.p):ag Tryz.prog 98 ⟨[.agg ⟨b.cells⟩]⟩ h (Lq b.p h):=by
 obtain ⟨md,wf,kn⟩:=jh.of rfl hm
 have e:(xl b.p).p=b.p:=uB _
 by_cases hmay:b.may
 · have ho:eD b.p=[(b.kind,eh b)]:=by unfold eD;rw [if_pos (uC e.symm hmay),vL e];rfl
   exact (ER b hb wf md hmay (by unfold Kn at kn;omega)).mono fun u h' ⟨v',e1,e2,e3,e4⟩=>⟨_,_,_,e1,e3,.inr ⟨rfl,rfl,_,ho,e2,e4⟩⟩
 · have ho:eD b.p=[]:=by unfold eD;rw [if_neg fun z=>hmay (uC e z)]
   exact (yZ b hb wf.kind md hmay).mono fun u h' ⟨e1,hne,eu,hx⟩=>⟨_,_,_,eu,hx,.inl ⟨hne,ho,rfl⟩⟩
end Go.Proofs.YtopgddfgefnmbaaGreatDoor
namespace Go.Proofs.YtopgddfgefnmbaaGreatDoor
open Go Go.RK
abbrev mi:=Int × Value × List UInt8
def uD (x:mi):List Value:=[.int .u8 x.1,x.2.1]
def mi.pl (x:mi):Int × List UInt8:=(x.1,x.2.2)
structure Sd (h:ah) (v:Value) (M:List mi):Prop where
 row:Own h v 53 2 M.length (M.flatMap uD)
 bod:∀ x∈M,Own h x.2.1 5 1 x.2.2.length (bB x.2.2)
theorem hU {h:ah} {v:Value} {T:TypeId} {sz n:Nat} {xs:List Value} (k:Own h v T sz n xs):v.oneCell'=true:=by
 obtain ⟨A,c,rfl,_⟩:=k.slice
 rfl
section
variable {h h':ah} {v:Value} {M:List mi} {S:Nat→Prop}
theorem Sd.one (k:Sd h v M):∀ x∈M.flatMap uD,x.oneCell'=true:=fun x hx=>by
 obtain ⟨y,hy,hx⟩:=List.mem_flatMap.1 hx
 simp only [uD,List.mem_cons,List.not_mem_nil,or_false] at hx
 rcases hx with rfl | rfl
 · rfl
 · exact hU (k.bod y hy)
theorem Sd.ext (k:Sd h v M) (x:Ext S h h') (h1:∀ q,v.ownBlock=some q→¬ S q) (h2:∀ y∈M,∀ q,y.2.1.ownBlock=some q→¬ S q):Sd h' v M:=⟨k.row.ext x h1,fun y hy=>(k.bod y hy).ext x (h2 y hy)⟩
theorem Sd.aq (k:Sd h v M) (x:Ext No h h'):Sd h' v M:=k.ext x (fun _ _=>aO) (fun _ _ _ _=>aO)
theorem Sd.lt (k:Sd h v M):(∀ q,v.ownBlock=some q→q < h.size)∧∀ y∈M,∀ q,y.2.1.ownBlock=some q→q < h.size:=⟨fun _ hq=>k.row.lt hq,fun y hy _ hq=>(k.bod y hy).lt hq⟩
theorem Sd.nil (h:ah):Sd h (.slice none 0 0) []:=⟨Own.nil _ _ _,(fun _ h=>nomatch h)⟩
theorem Sd.off (k:Sd h v M) {b:Nat} {cs:List Value} {T:TypeId} (hb:h[b]?=some (.cells ⟨cs⟩ T (0,0))) (h1:T ≠ 53) (h2:T ≠ 5):v.ownBlock ≠ some b∧∀ y∈M,y.2.1.ownBlock ≠ some b:=⟨bQ k.row hb h1,fun y hy=>bQ (k.bod y hy) hb h2⟩
end
theorem DQ {h:ah} {b:Nat} {w0 f s p i v:Value} {bg ov:Bool} {M0:List mi} (L:List Bk) (hv:Rd h v 11 L.length (L.flatMap Bk.cells)) (hb:h[b]?=some (.cells ⟨lQ w0 f s p i bg ov⟩ 96 (0,0))) (hs:Sd h w0 M0) (hm:M0.length+L.length≤10000)
   (hne:∀ q,v.ownBlock=some q→q ≠ b∧w0.ownBlock ≠ some q) (hone:∀ y∈L,∀ v∈y.cells,v.oneCell'=true) (hke:∀ y∈L,∀ g:ah,Ext (fun q=>q=b∨w0.ownBlock=some q) h g→ag Tryz.prog 98 ⟨[.agg ⟨y.cells⟩]⟩ g (Lq y.p g)) :
   ag Tryz.prog 57 ⟨[.pointer (some ⟨b,0,none⟩),v]⟩ h fun _ h'=>∃ (w:Value) (M:List mi),M.map mi.pl=M0.map mi.pl++L.flatMap (fun y=>eD y.p)∧h'[b]?=some (.cells ⟨lQ w f s p i bg ov⟩ 96 (0,0))∧Sd h' w M∧Ext (fun q=>q=b∨w0.ownBlock=some q) h h'∧(∀ q,w.ownBlock=some q→w0.ownBlock=some q∨h.size≤q)∧∀ x∈M,x∈M0∨∀ q,x.2.1.ownBlock=some q→h.size≤q:=by
 unfold lQ at *
 have lb:=ai hb
 have OI:=hs.lt
 obtain ⟨A,c,rfl,_⟩:=id hv
 refine calls [(0,_),(1,_)] Tryz.func57 rfl Tryz.ntmps57 rfl ⟨rfl,rfl,trivial⟩ ?_
 refine G2 ?_;refine WC.block ?_;refine WC.bD (X:=Nat × Value × List mi) (fun x=>([(10,In (x.1:Int))]:Fr)) [(0,_),(8,_),(9,_)] (fun x h'=>x.1≤L.length∧x.2.2.map mi.pl=M0.map mi.pl++(L.take x.1).flatMap (fun y=>eD y.p)∧h'[b]?=some (.cells ⟨[x.2.1,f,s,p,i,.bool bg,.bool ov]⟩ 96 (0,0))∧Sd h' x.2.1 x.2.2∧Ext (fun q=>q=b∨w0.ownBlock=some q) h h'∧(∀ q,x.2.1.ownBlock=some q→w0.ownBlock=some q∨h.size≤q)∧(∀ y∈x.2.2,y∈M0∨∀ q,y.2.1.ownBlock=some q→h.size≤q)∧x.2.2.length≤M0.length+x.1) (fun x=>L.length - x.1) ((0,w0,M0)) ⟨rfl,rfl,rfl,rfl,trivial⟩ (by exact ⟨Nat.zero_le _,by simp,hb,hs,.refl _ _,fun q hq=>.inl hq,fun y hy=>.inl hy,Nat.le_refl _⟩) ?_
 rintro ⟨j,w,M⟩ h1 ⟨hj,hM,aR,fS,az,ik,hfm,hlm⟩
 dsimp only at hj hM aR fS ik hfm hlm
 obtain ⟨A1,c1,rfl,_⟩:=id fS.row.slice
 refine WC.sub [(10,_),(0,_),(8,_),(9,_)] ⟨rfl,rfl,rfl,rfl,trivial⟩ ?_
 dsimp only
 refine G2 ?_;refine WC.seq ?_
 refine aH 1 2 (Hb.mk fun hb=>?_) (Hb.mk fun hb=>?_)
 all_goals try (
 refine aw 1 ?_
 refine WC.skip ?_
 skip)
 all_goals try (
 refine aw 2 ?_
 refine WC.exit ?_
 repeat' (with_reducible first | refine aU ?_ | refine aD rfl ?_ | refine aJ ?_ | refine aL ?_ | refine aS ?_)
 refine Br.out (i:=1000) ?_
 skip)
 all_goals (refine Gn ?_;first | refine Br.ab ?_ | refine WC.seq ?_)
 all_goals (first | refine Br.ab ?_ | refine WC.block ?_)
 all_goals (first | refine Br.ab ?_ | refine WC.sr ?_)
 all_goals (
  first
    | (refine Br.ab ?_)
    | (obtain ⟨y,hy⟩:∃ y,L[j]?=some y:=⟨_,List.getElem?_eq_getElem (by omega)⟩
       obtain ⟨bL,oL,hA,hbL,hat⟩:=Rd.at_ (hv.ext az (fun q hq e=>e.elim (hne q hq).1 (hne q hq).2)) (by omega)
       subst hA
       have hel:=hat.elem (sz:=11) (fun _=>rfl) hy
       have kee:=hke y (List.mem_of_getElem? hy)
       have hbl:h.size≤h1.size:=az.size
       have htk:(L.take (j+1)).flatMap (fun y=>eD y.p)=(L.take j).flatMap (fun y=>eD y.p)++eD y.p:=by rw [List.take_add_one,hy,List.flatMap_append];simp))
 all_goals (first | refine Br.ab ?_ | (refine WL.step (aE Tryz.underlying80 Tryz.sizeOf140 rfl rfl rfl (by omega) (by first | rfl | assumption)) rfl rfl rfl ?_))
 all_goals (first | refine Br.ab ?_ | (refine WL.step (ay Tryz.isAgg140 Tryz.sizeOf140 rfl rfl (by exact hel)) rfl rfl rfl ?_))
 all_goals (
  first
    | (refine Br.ab ?_)
    | (refine WL.aj (an (fun w=>Tryz.zeroValue140 w)) rfl rfl rfl ?_
       rintro _ h2 ⟨b5,rfl,qQ,bV,aI⟩))
 all_goals (
  first
    | (refine Br.ab ?_)
    | (refine WL.ax (al Tryz.sizeOf140 rfl rfl rfl bV rfl (fun v hv=>hone y (List.mem_of_getElem? hy) v hv)) rfl rfl ?_
       rintro _ h3 ⟨BX,aQ⟩
       have X3:Ext No h1 h3:=aI.trans' aQ (fun q hq e=>by omega)))
 all_goals (refine Gn ?_;first | refine Br.ab ?_ | refine WC.sr ?_)
 all_goals (first | refine Br.ab ?_ | (refine WL.step (ay Tryz.isAgg140 Tryz.sizeOf140 rfl rfl (by exact At.av BX)) rfl rfl rfl ?_))
 all_goals (
  first
    | (refine Br.ab ?_)
    | (refine WL.call (vs:=[_]) rfl Tryz.call98 rfl (kee _ (az.trans (X3.mono fun _ _ e=>e.elim))) rfl rfl rfl ?_
       rintro _ h4 ⟨k4,v4,e4,rfl,aW,hen⟩
       have Lr:v4.oneCell'=true:=by
        rcases hen with ⟨_,_,rfl⟩ | ⟨_,_,l,_,o,_⟩
        · rfl
        · exact hU o))
 all_goals (refine Go ?_)
 all_goals (
  first
    | (refine Br.ab ?_)
    | (refine WL.aj (an (fun w=>Tryz.zeroValue53 w)) rfl rfl rfl ?_
       rintro _ h5 ⟨b6,rfl,qP,bX,aM⟩))
 all_goals (
  first
    | (refine Br.ab ?_)
    | (refine WL.ax (al Tryz.sizeOf53 rfl rfl rfl bX rfl (by intro x hx;simp only [List.mem_cons,List.not_mem_nil,or_false] at hx;rcases hx with rfl | rfl;rfl;exact Lr)) rfl rfl ?_
       rintro _ h6 ⟨ES,aN⟩
       have X6:Ext No h1 h6:=((X3.trans aW).trans aM).trans' aN (fun q hq e=>by have:=X3.size;have:=aW.size;omega)
       have dx:=X6.obj aR aO
       have GB:=fS.aq X6
       have MS:=ai aR
       have g6:h1.size≤b6:=by have:=X3.size;have:=aW.size;omega
       have hlt:∀ q,(Value.slice A1 M.length c1).ownBlock=some q→q < h1.size:=fun q hq=>fS.row.lt hq
       have nW:(Value.slice A1 M.length c1).ownBlock ≠ some b:=bQ fS.row aR (by decide)
       have Ls:(Value.slice A1 M.length c1).ownBlock ≠ some b6:=fun e=>by have:=hlt _ e;omega
       have FH:Ext No h4 h6:=aM.trans' aN (fun q hq e=>by omega)))
 all_goals (refine Go ?_;first | refine Br.ab ?_ | refine Gs [(0,_),(6,_),(7,_),(8,_),(9,_),(10,_)] ?_)
 all_goals (first | refine Br.ab ?_ | refine WC.sr ?_)
 all_goals (refine Go ?_;first | refine Br.ab ?_ | (refine aH 3 4 (Hb.mk fun hb=>?_) (Hb.mk fun hb=>?_)))
 all_goals try (
 refine aw 3 ?_
 obtain ⟨rfl,l4,MT,Lt,MU⟩:k4=y.p.kind∧∃ l,eD y.p=[(y.p.kind,l)]∧Own h4 v4 5 1 l.length (bB l)∧∀ q,v4.ownBlock=some q→h3.size≤q:=by
  rcases hen with ⟨z,_⟩ | ⟨z1,z2,z3⟩
  · exfalso;simp_all
  · exact ⟨z2,z3⟩
 refine WC.bW (fun h'=>Ext (fun q=>(Value.slice A1 M.length c1).ownBlock=some q) h6 h') 10 11 rfl dm ?_
 refine WH.tk 0 rfl (fun hq hC=>ak rfl) rfl rfl rfl ?_
 refine WH.tk 1 rfl (fun hq hC=>ak rfl) rfl rfl rfl ?_
 refine WH.tk 2 rfl (fun hq hC=>ae rfl) rfl rfl rfl ?_
 refine WH.tk 3 rfl (fun hq hC=>ad rfl Tryz.underlying96 rfl Tryz.sizeOf94) rfl rfl rfl ?_
 refine WH.tk 4 rfl (fun hq hC=>aA Tryz.isAgg94 rfl (by first | exact hC.cell (by first | exact aa dx rfl | assumption) (by first | exact nW | exact Ls))) rfl rfl rfl ?_
 refine WH.tk 5 rfl (fun hq hC=>ay Tryz.isAgg53 Tryz.sizeOf53 rfl rfl (by exact (At.av ES).ext hC Ls)) rfl rfl rfl ?_
 refine WH.one 6 (by kernel_rfl) ?_
 refine aC.run rfl (au (vs:=[_]) (cs:=[_,_]) (fun | [.agg ⟨[a0,a1]⟩]=>[a0,a1] | _=>[]) Tryz.underlying94 rfl rfl (by kernel_rfl)) rfl rfl rfl ?_ (fun _=>by kernel_rfl)
 rintro _ h7 ⟨b7,rfl,xC,ca,ba⟩
 have DC:Ext (fun q=>(Value.slice A1 M.length c1).ownBlock=some q) h6 h7:=ba.mono fun _ _ e=>e.elim
 refine ⟨fun _=>DC,?_⟩
 refine WH.one 7 (by kernel_rfl) ?_
 refine aC.run rfl (aT (sz:=2) (bytes:=32) rfl Tryz.underlying94 (show Tryz.prog.info? 53=some Tryz.t53 by kernel_rfl) rfl rfl rfl rfl (by decide) rfl rfl (GB.row.ext ba (fun _ _=>aO)) (bx (len:=1) (sz:=2) (cs:=uD (y.p.kind,v4,l4)) ca rfl) (by intro x hx;simp only [uD,List.mem_cons,List.not_mem_nil,or_false] at hx;rcases hx with rfl | rfl;rfl;exact Lr) (by simp only [maxLen];omega) (by omega)) rfl rfl rfl ?_ (fun _=>by kernel_rfl)
 rintro v8 h8 ⟨jK,bz,tA⟩
 have xE:=DC.trans bz
 refine ⟨fun _=>xE,?_⟩
 refine WH.one 8 (by kernel_rfl) ?_
 refine aC.run rfl (bO.r (ae rfl)) rfl rfl rfl ?_ (fun _=>by kernel_rfl)
 rintro _ hz ⟨rfl,_⟩
 subst hz
 refine ⟨fun _=>by first | assumption | trivial,?_⟩
 refine WH.one 9 (by kernel_rfl) ?_
 refine aC.run rfl (bO.r (ad rfl Tryz.underlying96 rfl Tryz.sizeOf94)) rfl rfl rfl ?_ (fun _=>by kernel_rfl)
 rintro _ hz ⟨rfl,_⟩
 subst hz
 refine ⟨fun _=>by first | assumption | trivial,?_⟩
 refine WH.one 10 (by kernel_rfl) ?_
 obtain ⟨A8,c8,rfl,_⟩:=id jK.slice
 refine aC.cO rfl (aB Tryz.sizeOf94 rfl rfl (xE.obj dx nW) (Nat.le_of_ble_eq_true rfl) rfl rfl) rfl rfl ?_ (fun _=>by kernel_rfl)
 rintro _ h9 ⟨bY,bZ⟩
 refine ⟨fun e=>(by cases e),?_⟩
 have l7:=X6.size
 have OJ:=ba.size
 have Ep:∀ q,(Value.slice A8 (M.length+1) c8).ownBlock=some q→(Value.slice A1 M.length c1).ownBlock=some q∨h1.size≤q:=fun q hq=>tA.elim (fun e=>.inl (e▸hq)) (fun e=>.inr (by rw [e] at hq;cases hq;omega))
 have X8:Ext (fun q=>q=b∨w0.ownBlock=some q) h h8:=(az.trans (X6.mono fun _ _ e=>e.elim)).trans' xE (fun q hq e=>.inr ((ik q e).elim id fun z=>by omega))
 have nbod:∀ z∈M,∀ q,z.2.1.ownBlock=some q→(Value.slice A1 M.length c1).ownBlock ≠ some q:=fun z hz q hq e=>by obtain ⟨_,a1⟩:=bN (fS.bod z hz) hq;obtain ⟨_,a2⟩:=bN fS.row e;rw [a1] at a2;simp at a2
 have bE:=xE.obj dx nW
 have MV:Own h8 v4 5 1 l4.length (bB l4):=(Lt.ext FH (fun _ _=>aO)).ext xE (fun q hq e=>by have:=hlt q e;obtain ⟨_,a1⟩:=bN Lt hq;obtain ⟨_,a2⟩:=bN fS.row e;have a3:=((X3.trans aW)).obj a2 aO;rw [a1] at a3;simp at a3)
 have MW:Own h8 (Value.slice A8 (M.length+1) c8) 53 2 (M++[(y.p.kind,v4,l4)]).length ((M++[(y.p.kind,v4,l4)]).flatMap uD):=by rw [List.length_append,List.flatMap_append];exact jK
 have vN:Sd h8 (Value.slice A8 (M.length+1) c8) (M++[(y.p.kind,v4,l4)]):=⟨MW,fun z hz=>(List.mem_append.1 hz).elim (fun hz=>(GB.bod z hz).ext xE (fun q hq e=>nbod z hz q hq e)) (fun e=>by rw [List.mem_singleton.1 e];exact MV)⟩
 have uE:=vN.ext bZ (fun q hq e=>bQ vN.row bE (by decide) (e▸hq)) (fun z hz q hq e=>bQ (vN.bod z hz) bE (by decide) (e▸hq))
 have J9:(M++[(y.p.kind,v4,l4)]).map mi.pl=M0.map mi.pl++(L.take (j+1)).flatMap (fun y=>eD y.p):=by rw [List.map_append,hM,htk,MT,List.append_assoc];rfl
 have Ka:∀ z∈M++[(y.p.kind,v4,l4)],z∈M0∨∀ q,z.2.1.ownBlock=some q→h.size≤q:=fun z hz=>(List.mem_append.1 hz).elim (hfm z) (fun e=>by rw [List.mem_singleton.1 e];exact .inr fun q hq=>by have:=MU q hq;have:=X3.size;omega)
 refine WH.done (by kernel_rfl) ?_
 skip)
 all_goals try (
 refine aw 4 ?_
 refine WC.skip ?_
 skip)
 all_goals (refine Gn ?_;first | refine Br.ab ?_ | refine Gs [(0,_),(8,_),(9,_),(10,_)] ?_)
 all_goals (first | refine Br.ab ?_ | refine WC.region ?_)
 all_goals (refine Go ?_;first | refine Br.ab ?_ | (exact ⟨(j+1,_,_),⟨rfl,rfl,rfl,rfl,trivial⟩,(by first | exact ⟨by omega,J9,bY,uE,X8.trans (bZ.mono fun _ _ e=>.inl e),fun q hq=>(Ep q hq).elim (ik q) (fun z=>.inr (by omega)),Ka,by dsimp only;simp only [List.length_append,List.length_cons,List.length_nil];omega⟩ | exact ⟨by omega,by rw [hM,htk];rcases hen with ⟨_,z,_⟩ | ⟨z,_⟩;rw [z,List.append_nil];exfalso;simp_all,dx,GB,az.trans (X6.mono fun _ _ e=>e.elim),ik,hfm,by dsimp only;omega⟩),(by dsimp only;omega)⟩))
 try (refine Br.mk (i:=1000) ?_)
 refine Gn ?_
 refine fy [] trivial ?_
 exact ⟨_,M,by rw [hM,List.take_of_length_le (by omega)],aR,fS,az,ik,hfm⟩
def Part (hd:Nat) (l:List UInt8):Prop:=l.length < hd+4∨(hd+4≤l.length∧∃ n:Nat,ij ((l.drop hd).take 4)=(n:Int)∧(4≤n∧n≤65536)∧l.length < hd+n)
theorem Aa {h:ah} {A:Option Addr} {c:Nat} (l k:Nat) (hl:l < k+4) (hm:l≤1000000) (hk:k≤10) :
   ag Tryz.prog 176 ⟨[.slice A l c,In (k:Int),In 4]⟩ h fun u h'=>u=.tuple ⟨[In 0,In 3]⟩∧h'=h:=by
 refine calls [(0,_),(1,_),(2,_)] Tryz.func176 rfl Tryz.ntmps176 rfl ⟨rfl,rfl,rfl,trivial⟩ ?_
 refine G2 ?_;refine WC.seq ?_;refine WC.block ?_;refine G3 ?_;refine WL.call (vs:=[_]) rfl Tryz.call180 rfl (vi) rfl rfl rfl ?_
 rintro _ hz ⟨rfl,_⟩
 subst hz
 refine Go ?_;refine Gs [(0,_),(1,_),(2,_),(11,_)] ?_
 refine aH 1 2 ?_ TT.mk
 all_goals (refine aw 2 ?_)
 refine WC.region (Go ?_);refine Gn ?_
 refine aH 3 4 ?_ TT.mk
 all_goals (refine aw 4 ?_)
 refine G3 ?_;refine Gs [(0,_),(1,_),(2,_),(17,_)] ?_
 refine aH 5 6 (Hb.mk fun hb=>?_) (Hb.mk fun hb=>?_)
 all_goals try (
 refine aw 5 ?_
 refine WC.skip ?_
 skip)
 all_goals try (
 refine aw 6 ?_
 refine WC.region (Go ?_)
 skip)
 all_goals (refine Gn ?_;first | refine aH 7 8 ?_ TT.mk | (refine aH 7 8 (Hb.mk fun hb=>?_) (Hb.mk fun hb=>?_)))
 all_goals try (
 refine aw 7 ?_
 all_goals (refine G2 ?_;refine Gs [(6,_),(7,_)] ?_;refine Gt ?_;first | exact ⟨rfl,rfl⟩ | (exfalso;omega))
 skip)
 all_goals (refine aw 8 ?_)
 refine WC.skip ?_;refine Gn ?_;refine WC.sr ?_
 (exfalso;omega)
section
variable {h h':ah} {b:Nat} {ty:Bool} {v:Value} {l:List UInt8} {S:Nat→Prop}
theorem qp (k:Fw h b ty v l) (hd:Nat) (he:(if ty=true then 1 else 0)=hd) (hl:l.length < hd+4) (hm:l.length≤1000000):ag Tryz.prog 171 ⟨[.pointer (some ⟨b,0,none⟩)]⟩ h fun u h'=>u=.tuple ⟨[In 0,.bool false]⟩∧Ext No h h':=by
 have hb:=k.bn
 have ho:=k.own
 have IW:hd≤1:=by rw [← he];split <;> omega
 obtain ⟨B,d,rfl,_⟩:=id ho.slice
 have kh:=fun h'=>iW (h:=h') ty
 rw [he] at kh
 have kg:=fun h'=>Aa (h:=h') (A:=B) (c:=d) l.length hd hl hm (by omega)
 refine calls [(0,_)] Tryz.func171 rfl Tryz.ntmps171 rfl ⟨rfl,trivial⟩ ?_
 refine G2 ?_;refine WC.seq ?_;refine WC.bW (fun h'=>Ext No h h') 15 15 rfl dm ?_
 refine WH.tk 0 rfl (fun hq hC=>ak rfl) rfl rfl rfl ?_
 refine WH.tk 1 rfl (fun hq hC=>ae rfl) rfl rfl rfl ?_
 refine WH.tk 2 rfl (fun hq hC=>ad rfl Tryz.underlying147 rfl Tryz.sizeOf23) rfl rfl rfl ?_
 refine WH.tk 3 rfl (fun hq hC=>aA Tryz.isAgg23 rfl (by first | exact hC.cell (by first | exact aa hb rfl | assumption) aO)) rfl rfl rfl ?_
 refine WH.tk 4 rfl (fun hq hC=>ak rfl) rfl rfl rfl ?_
 refine WH.tk 5 rfl (fun hq hC=>ae rfl) rfl rfl rfl ?_
 refine WH.tk 6 rfl (fun hq hC=>ad rfl Tryz.underlying147 rfl Tryz.sizeOf145) rfl rfl rfl ?_
 refine WH.tk 7 rfl (fun hq hC=>ay Tryz.isAgg145 Tryz.sizeOf145 rfl rfl (by exact At.pre (xs:=[_]) (ys:=[_,_,_,_]) ((At.av hb).ext hC aO))) rfl rfl rfl ?_
 refine WH.one 8 (by kernel_rfl) ?_
 refine aC.call (vs:=[_]) rfl rfl Tryz.call88 rfl (kh _) rfl rfl rfl ?_ (fun _=>by kernel_rfl)
 rintro _ h1 ⟨rfl,az⟩
 refine ⟨fun _=>az,?_⟩
 refine WH.one 9 (by kernel_rfl) ?_
 refine aC.call (vs:=[_,_,_]) rfl rfl Tryz.call176 rfl (kg _) rfl rfl rfl ?_ (fun _=>by kernel_rfl)
 rintro _ hq ⟨rfl,hz⟩
 replace hz:=hz.symm
 subst hz
 refine ⟨fun _=>az,?_⟩
 refine WH.tk 10 rfl (fun hq hC=>ak rfl) rfl rfl rfl ?_
 refine WH.tk 11 rfl (fun hq hC=>bP rfl rfl) rfl rfl rfl ?_
 refine WH.tk 12 rfl (fun hq hC=>bP rfl rfl) rfl rfl rfl ?_
 refine WH.tk 13 rfl (fun hq hC=>aP rfl) rfl rfl rfl ?_
 refine WH.tk 14 rfl (fun hq hC=>aP rfl) rfl rfl rfl ?_
 refine WH.done (by kernel_rfl) ?_
 refine Gn ?_;refine Gs [(4,_),(5,_)] ?_;refine G2 ?_;refine Gs [(2,_),(3,_)] ?_;refine Gt ?_
 exact ⟨rfl,by first | exact az | exact hC⟩
theorem ot (k:Fw h b ty v l) (hd:Nat) (he:(if ty=true then 1 else 0)=hd) (hp:Part hd l) (hm:l.length≤1000000) :
   ag Tryz.prog 121 ⟨[.pointer (some ⟨b,0,none⟩)]⟩ h fun u h'=>(∃ n:Int,u=.tuple ⟨[In n,.bool false,In 0]⟩)∧Fw h' b ty v l∧Ext (fun q=>q=b) h h':=by
 have hb:=k.bn
 have lb:=ai hb
 obtain ⟨B,d,rfl,_⟩:=id k.own.slice
 rcases hp with hp | ⟨hp,n,hn,h4,hl⟩
 ·
   have ks:=qp k hd he hp hm
   refine calls [(0,_)] Tryz.func121 rfl Tryz.ntmps121 rfl ⟨rfl,trivial⟩ ?_
   refine G2 ?_;refine G3 ?_;refine WL.step (ae rfl) rfl rfl rfl (Go ?_);refine WL.ld rfl (by first | exact aa hb rfl | assumption) rfl rfl rfl (Go ?_)
   refine Gs [(0,_),(12,_)] ?_
   refine aH 1 2 ?_ TT.mk
   all_goals (refine aw 2 ?_)
   refine WC.skip ?_;refine Gn ?_;refine G2 ?_;refine WL.call (vs:=[_]) rfl Tryz.call171 rfl (ks) rfl rfl rfl ?_
   rintro _ h1 ⟨rfl,az⟩
   refine Go ?_;refine Gs [(0,_),(5,_),(6,_)] ?_;refine G3 ?_
   refine aH 3 4 ?_ TT.mk
   all_goals (refine aw 3 ?_)
   refine G2 ?_;refine Gs [(2,_),(3,_),(4,_)] ?_;refine Gt ?_
   exact ⟨⟨_,rfl⟩,k.aq az,az.mono fun _ _ e=>e.elim⟩
 ·
   have ks:=vj k hd he hp hm
   rw [hn] at ks
   have kc:=fun (g:ah) (x:Ext No h g)=>rE (k.aq x) n h4
   have kh:=fun h'=>iW (h:=h') ty
   rw [he] at kh
   refine calls [(0,_)] Tryz.func121 rfl Tryz.ntmps121 rfl ⟨rfl,trivial⟩ ?_
   refine G2 ?_;refine G3 ?_;refine WL.step (ae rfl) rfl rfl rfl (Go ?_);refine WL.ld rfl (by first | exact aa hb rfl | assumption) rfl rfl rfl (Go ?_)
   refine Gs [(0,_),(12,_)] ?_
   refine aH 1 2 ?_ TT.mk
   all_goals (refine aw 2 ?_)
   refine WC.skip ?_;refine Gn ?_;refine G2 ?_;refine WL.call (vs:=[_]) rfl Tryz.call171 rfl (ks) rfl rfl rfl ?_
   rintro _ h1 ⟨rfl,az⟩
   have aR:=az.obj hb aO
   refine Go ?_;refine Gs [(0,_),(5,_),(6,_)] ?_;refine G3 ?_
   refine aH 3 4 ?_ TT.mk
   all_goals (refine aw 4 ?_)
   refine WC.skip ?_;refine Gn ?_;refine G3 ?_;refine WL.call (vs:=[_,_]) rfl Tryz.call172 rfl (kc _ az) rfl rfl rfl ?_
   rintro _ hq ⟨rfl,hz⟩
   replace hz:=hz.symm
   subst hz
   refine WL.step (ae rfl) rfl rfl rfl (Go ?_);refine WL.ax (aB Tryz.sizeOf48 rfl rfl aR (Nat.le_of_ble_eq_true rfl) rfl rfl) rfl rfl ?_
   rintro _ h2 ⟨bH,aI⟩
   have k2:Fw h2 b ty (.slice B l.length d) l:=⟨bH,(k.aq az).own.ext aI (k.aq az).ne⟩
   refine Gn ?_;refine Gs [(0,_),(5,_)] ?_;refine G2 ?_;refine WL.step (ae rfl) rfl rfl rfl (Go ?_);refine WL.ld rfl (by first | exact aa bH rfl | assumption) rfl rfl rfl (Go ?_)
   refine Gs [(0,_),(5,_),(34,_)] ?_
   refine aH 5 6 ?_ TT.mk
   all_goals (refine aw 6 ?_)
   refine WC.skip ?_;refine Gn ?_;refine G2 ?_;refine WL.step (ae rfl) rfl rfl rfl (Go ?_);refine WL.step (ay Tryz.isAgg145 Tryz.sizeOf145 rfl rfl (by exact At.pre (xs:=[_]) (ys:=[_,_,_,_]) (At.av bH))) rfl rfl rfl ?_
   refine WL.call (vs:=[_]) rfl Tryz.call88 rfl (kh _) rfl rfl rfl ?_
   rintro _ h3 ⟨rfl,aQ⟩
   have k3:=k2.aq aQ
   have bq:=k3.bn
   have X3:Ext (fun q=>q=b) h h3:=(az.mono fun _ _ e=>e.elim).trans (aI.trans (aQ.mono fun _ _ e=>e.elim))
   refine Go ?_;refine Gs [(0,_),(7,_)] ?_;refine WC.seq ?_;refine WC.fT dm (by kernel_rfl) ?_
   refine WQ.aK (ak rfl) rfl rfl rfl ?_;refine WQ.aK (ak rfl) rfl rfl rfl ?_;refine WQ.aK (ak rfl) rfl rfl rfl ?_;refine WQ.aK (ae rfl) rfl rfl rfl ?_;refine WQ.aK (ad rfl Tryz.underlying147 rfl Tryz.sizeOf23) rfl rfl rfl ?_;refine WQ.aK (aA Tryz.isAgg23 rfl (by first | exact aa bq rfl | assumption)) rfl rfl rfl ?_
   refine WQ.aK (cq rfl Tryz.underlying23 rfl) rfl rfl rfl ?_
   first | (refine WQ.aK (bO.fu (by omega) (mJ rfl rfl)) rfl rfl rfl ?_)
   refine WQ.aK (aP rfl) rfl rfl rfl ?_;refine WQ.aK (aP rfl) rfl rfl rfl ?_;refine WQ.aK (aP rfl) rfl rfl rfl ?_;refine WQ.nil ?_;refine Gn ?_;refine Gs [(2,_),(3,_),(4,_)] ?_;refine Gt ?_
   exact ⟨⟨_,rfl⟩,k3,X3⟩
theorem qu (k:Fw h b ty v l) (hd:Nat) (he:(if ty=true then 1 else 0)=hd) (hp:Part hd l) (hm:l.length≤1000000) :
   ag Tryz.prog 86 ⟨[.pointer (some ⟨b,0,none⟩)]⟩ h fun u h'=>u=.tuple ⟨[.agg ⟨[.int .u8 0,.slice none 0 0]⟩,.bool false,In 0]⟩∧Fw h' b ty v l∧Ext (fun q=>q=b) h h':=by
 have kr:=fun (h':ah) (k:Fw h' b ty v l)=>j8 k
 have kw:=fun (h':ah) (k:Fw h' b ty v l)=>ot k hd he hp hm
 have lb:=ai k.bn
 refine calls [(0,_)] Tryz.func86 rfl Tryz.ntmps86 rfl ⟨rfl,trivial⟩ ?_
 refine WC.sr ?_;refine WL.aj (an (fun w=>Tryz.zeroValue53 w)) rfl rfl rfl ?_
 rintro _ h1 ⟨b1,rfl,bR,aR,az⟩
 have k1:=k.aq az
 refine Go ?_;refine G3 ?_;refine WL.call (vs:=[_]) rfl Tryz.call85 rfl (kr _ k1) rfl rfl rfl ?_
 rintro _ hq ⟨rfl,hz⟩
 replace hz:=hz.symm
 subst hz
 refine Go ?_;refine Gs [(0,_),(2,_),(11,_)] ?_
 refine aH 1 2 ?_ TT.mk
 all_goals (refine aw 2 ?_)
 refine WC.skip ?_;refine Gn ?_;refine G2 ?_;refine WL.call (vs:=[_]) rfl Tryz.call121 rfl (kw _ k1) rfl rfl rfl ?_
 rintro _ h2 ⟨⟨n2,rfl⟩,k2,aI⟩
 have bT:=aI.obj aR (fun e=>by omega)
 refine Go ?_;refine Gs [(0,_),(2,_),(5,_),(6,_),(7,_)] ?_;refine G3 ?_
 refine aH 3 4 ?_ TT.mk
 all_goals (refine aw 3 ?_)
 refine WC.sr ?_;refine WL.step (aF (vs:=[]) (cs:=[_,_]) (fun | []=>[(.int .u8 0),(.slice none 0 0)] | _=>[]) rfl rfl (by kernel_rfl)) rfl rfl rfl (Go ?_)
 refine WL.ax (al Tryz.sizeOf53 rfl rfl rfl bT rfl (by simp [Value.oneCell'])) rfl rfl ?_
 rintro _ h3 ⟨bq,aQ⟩
 refine Go ?_;refine Gs [(2,_),(3,_),(4,_)] ?_;refine WC.ret ?_
 repeat' (with_reducible first | refine aZ ?_ | refine aV ?_)
 refine mP _ _ _ ⟨⟨_,rfl,bA Tryz.isAgg53 Tryz.sizeOf53 (by assumption) rfl⟩,rfl,rfl,trivial⟩ ?_
 exact ⟨rfl,k2.ext aQ (fun e=>by omega) (fun q hq e=>bQ k2.own bT (by decide) (e▸hq)),((az.mono fun _ _ e=>e.elim).trans aI).trans' aQ (fun q hq e=>by omega)⟩
theorem qw (k:Fw h b ty v l) (hd:Nat) (he:(if ty=true then 1 else 0)=hd) (hp:Part hd l) (hm:l.length≤1000000) :
   ag Tryz.prog 53 ⟨[.pointer (some ⟨b,0,none⟩)]⟩ h fun u h'=>u=.tuple ⟨[.agg ⟨[.int .u8 0,.slice none 0 0]⟩,.bool false,In 0]⟩∧Fw h' b ty v l∧Ext (fun q=>q=b) h h':=by
 have kp:=fun (h':ah) (k:Fw h' b ty v l)=>qu k hd he hp hm
 have lb:=ai k.bn
 refine calls [(0,_)] Tryz.func53 rfl Tryz.ntmps53 rfl ⟨rfl,trivial⟩ ?_
 refine WC.sr ?_;refine WL.aj (an (fun w=>Tryz.zeroValue53 w)) rfl rfl rfl ?_
 rintro _ h1 ⟨b1,rfl,bR,aR,az⟩
 have k1:=k.aq az
 refine Go ?_;refine G2 ?_;refine WL.call (vs:=[_]) rfl Tryz.call86 rfl (kp _ k1) rfl rfl rfl ?_
 rintro _ h2 ⟨rfl,k2,aI⟩
 have bT:=aI.obj aR (fun e=>by omega)
 refine Go ?_;refine WL.aj (an (fun w=>Tryz.zeroValue53 w)) rfl rfl rfl ?_
 rintro _ h3 ⟨b5,rfl,qQ,bV,aQ⟩
 refine WL.ax (al Tryz.sizeOf53 rfl rfl rfl bV rfl (by simp [Value.oneCell'])) rfl rfl ?_
 rintro _ h4 ⟨rH,aW⟩
 have X:Ext No h2 h4:=aQ.trans' aW (fun q hq e=>by omega)
 have k4:=k2.aq X
 have bJ:=X.obj bT aO
 have X4:Ext (fun q=>q=b) h h4:=((az.mono fun _ _ e=>e.elim).trans aI).trans (X.mono fun _ _ e=>e.elim)
 refine Go ?_;refine Gs [(0,_),(2,_),(5,_),(6,_),(7,_)] ?_;refine G3 ?_
 refine aH 1 2 ?_ TT.mk
 all_goals (refine aw 2 ?_)
 refine WC.skip ?_;refine Gn ?_;refine WC.sr ?_;refine WL.step (ay Tryz.isAgg53 Tryz.sizeOf53 rfl rfl (by exact At.av rH)) rfl rfl rfl (Go ?_)
 refine WL.ax (al Tryz.sizeOf53 rfl rfl rfl bJ rfl (by simp [Value.oneCell'])) rfl rfl ?_
 rintro _ h5 ⟨MX,aM⟩
 refine Go ?_;refine Gs [(2,_),(3,_),(4,_)] ?_;refine WC.ret ?_
 repeat' (with_reducible first | refine aZ ?_ | refine aV ?_)
 refine mP _ _ _ ⟨⟨_,rfl,bA Tryz.isAgg53 Tryz.sizeOf53 (by assumption) rfl⟩,rfl,rfl,trivial⟩ ?_
 exact ⟨rfl,k4.ext aM (fun e=>by omega) (fun q hq e=>bQ k4.own bJ (by decide) (e▸hq)),X4.trans' aM (fun q hq e=>by omega)⟩
end
section
variable {h h':ah} {A:Ad} {st:Int} {sk ov:Bool} {cnt:Int} {L:List (List UInt8 × gw)} {P:List (List UInt8 × ee)}
def IZ (h:ah) (A:Ad) (P:List (List UInt8 × ee)) (x:SP × List jb) (u:Value) (h':ah):Prop:=(∃ B,cz h h' u B∧B.map Bk.p=x.2)∧Sv h A P h' x.1
theorem Kb (k:Ss h A st sk ov cnt L P) (f:Fm) (hf:f.ok h) (hk:ov=true∨f.kind=88∨f.kind=83∨sk=true) :
   ag Tryz.prog 58 ⟨[.pointer (some ⟨A.bs,0,none⟩),.agg ⟨f.cells⟩]⟩ h (IZ h A P (iw (ck st sk ov cnt L P) f.p)):=by
 have kr:=fun (g:ah) (k:Ss g A st sk ov cnt L P)=>kV k.se.bn
 have hd:iw (ck st sk ov cnt L P) f.p=if ov=true then (ck st sk ov cnt L P,[]) else if f.kind=88 then (ck st sk true cnt L P,[]) else if f.kind=83 then ((dY (ck st false ov cnt L P)).1,[{ kind:=90,status:=st }]) else if sk=true then (ck st sk ov cnt L P,[]) else fG f.p (ei (ck st sk ov cnt L P) f.p):=rfl
 rw [hd]
 clear hd
 obtain ⟨⟨e1,_⟩,⟨e2,_⟩,⟨e3,_⟩,e4,_⟩:=hf
 obtain ⟨fk,w,n,p,t,vo,o,vf,fs,vs,rs,vp,ps,mx⟩:=f
 dsimp only at e1 e2 e3 e4 hk
 obtain ⟨_,_,rfl,_⟩:=e1
 obtain ⟨_,_,rfl,_⟩:=e2
 obtain ⟨_,_,rfl,_⟩:=e3
 obtain ⟨_,_,rfl,_⟩:=e4
 dsimp only [Fm.cells]
 by_cases e1:ov=true
 · rw [if_pos e1]
   subst e1
   refine calls [(0,_),(1,_)] Tryz.func58 rfl Tryz.ntmps58 rfl ⟨rfl,rfl,trivial⟩ ?_
   refine WC.sr ?_;refine WL.aj (aG rfl) rfl rfl rfl ?_
   rintro _ h1 ⟨b3,rfl,bR,aR,az⟩
   have k1:=k.aq az
   have hb:=k1.se.bn
   have lb:=ai k.se.bn
   have n3:¬ b3=A.bs:=by omega
   refine Go ?_;refine G3 ?_;refine WL.call (vs:=[_]) rfl Tryz.call99 rfl (kr _ k1) rfl rfl rfl ?_
   rintro _ hz ⟨rfl,_⟩
   subst hz
   refine Go ?_;refine Gs [(0,_),(3,_),(10,_)] ?_
   refine aH 1 2 ?_ TT.mk
   all_goals (refine aw 1 ?_)
   refine G2 ?_;refine Gt ?_
   exact ⟨⟨[],cz.nil _ _,rfl⟩,.of k1 (Tn.no az)⟩
 rw [if_neg e1]
 obtain rfl:ov=false:=by simpa using e1
 by_cases e2:fk=88
 · rw [if_pos e2]
   refine calls [(0,_),(1,_)] Tryz.func58 rfl Tryz.ntmps58 rfl ⟨rfl,rfl,trivial⟩ ?_
   refine WC.sr ?_;refine WL.aj (aG rfl) rfl rfl rfl ?_
   rintro _ h1 ⟨b3,rfl,bR,aR,az⟩
   have k1:=k.aq az
   have hb:=k1.se.bn
   have lb:=ai k.se.bn
   have n3:¬ b3=A.bs:=by omega
   refine Go ?_;refine G3 ?_;refine WL.call (vs:=[_]) rfl Tryz.call99 rfl (kr _ k1) rfl rfl rfl ?_
   rintro _ hz ⟨rfl,_⟩
   subst hz
   refine Go ?_;refine Gs [(0,_),(3,_),(10,_)] ?_
   refine aH 1 2 ?_ TT.mk
   all_goals (refine aw 2 ?_)
   refine WC.skip ?_;refine Gn ?_;refine WC.seq ?_;refine WC.block ?_;refine G2 ?_;refine WL.ld rfl (by first | exact aa aR rfl | assumption) rfl rfl rfl (Go ?_)
   refine Gs [(0,_),(3,_),(11,_)] ?_
   refine aH 3 4 ?_ TT.mk
   all_goals (refine aw 3 ?_)
   refine G2 ?_;refine WL.step (ae rfl) rfl rfl rfl (Go ?_);refine WL.ax (aB Tryz.sizeOf4 rfl rfl hb (Nat.le_of_ble_eq_true rfl) rfl rfl) rfl rfl ?_
   rintro _ h2 ⟨bH,aI⟩
   obtain ⟨k2,t2⟩:=k1.js aI bH k1.sto
   refine Gn ?_;refine Gs [] ?_;refine G2 ?_;refine Gt ?_
   exact ⟨⟨[],cz.nil _ _,rfl⟩,.of k2 ((Tn.no az).trans t2)⟩
 rw [if_neg e2]
 by_cases e3:fk=83
 · rw [if_pos e3]
   have ks:=fun (g:ah) (k:Ss g A st false false cnt L P)=>Cs k
   unfold E2 at ks
   refine calls [(0,_),(1,_)] Tryz.func58 rfl Tryz.ntmps58 rfl ⟨rfl,rfl,trivial⟩ ?_
   refine WC.sr ?_;refine WL.aj (aG rfl) rfl rfl rfl ?_
   rintro _ h1 ⟨b3,rfl,bR,aR,az⟩
   have k1:=k.aq az
   have hb:=k1.se.bn
   have lb:=ai k.se.bn
   have n3:¬ b3=A.bs:=by omega
   refine Go ?_;refine G3 ?_;refine WL.call (vs:=[_]) rfl Tryz.call99 rfl (kr _ k1) rfl rfl rfl ?_
   rintro _ hz ⟨rfl,_⟩
   subst hz
   refine Go ?_;refine Gs [(0,_),(3,_),(10,_)] ?_
   refine aH 1 2 ?_ TT.mk
   all_goals (refine aw 2 ?_)
   refine WC.skip ?_;refine Gn ?_;refine WC.seq ?_;refine WC.block ?_;refine G2 ?_;refine WL.ld rfl (by first | exact aa aR rfl | assumption) rfl rfl rfl (Go ?_)
   refine Gs [(0,_),(3,_),(11,_)] ?_
   refine aH 3 4 ?_ TT.mk
   all_goals (refine aw 4 ?_)
   refine G2 ?_;refine WL.ld rfl (by first | exact aa aR rfl | assumption) rfl rfl rfl (Go ?_)
   refine Gs [(0,_),(3,_),(18,_)] ?_
   refine aH 5 6 ?_ TT.mk
   all_goals (refine aw 5 ?_)
   refine G2 ?_;refine WL.step (ae rfl) rfl rfl rfl (Go ?_);refine WL.ax (aB Tryz.sizeOf4 rfl rfl hb (Nat.le_of_ble_eq_true rfl) rfl rfl) rfl rfl ?_
   rintro _ h2 ⟨bH,aI⟩
   obtain ⟨k2,t2⟩:=k1.js aI bH k1.sto
   refine Gn ?_;refine Gs [(0,_)] ?_;refine G2 ?_;refine WL.call (vs:=[_]) rfl Tryz.call100 rfl (ks _ k2) rfl rfl rfl ?_
   rintro _ h3 ⟨rfl,⟨L3,P3,k3,MZ,M1,t3⟩,aQ⟩
   refine WL.aj (au (vs:=[_]) (cs:=[_,_,_,_,_,_,_,_,_,_,_]) (fun | [.agg ⟨[a0,a1,a2,a3,a4,a5,a6,a7,a8,a9,gX]⟩]=>[a0,a1,a2,a3,a4,a5,a6,a7,a8,a9,gX] | _=>[]) Tryz.underlying80 rfl rfl (by kernel_rfl)) rfl rfl rfl ?_
   rintro _ h4 ⟨b4,rfl,oE,bC,aW⟩
   refine Go ?_;refine Gs [(4,_)] ?_;refine Gt ?_
   have T3:=((Tn.no (A:=A) (P:=P) az).trans t2).trans t3
   exact ⟨⟨[kL 90 st []],.tag bC (by have:=T3.1.size;omega),rfl⟩,L3,P3,k3.aq aW,MZ,M1,T3.trans (Tn.no aW)⟩
 rw [if_neg e3]
 obtain rfl:sk=true:=by
   rcases hk with hk | hk | hk | hk
   · cases hk
   · exact absurd hk e2
   · exact absurd hk e3
   · exact hk
 rw [if_pos rfl]
 refine calls [(0,_),(1,_)] Tryz.func58 rfl Tryz.ntmps58 rfl ⟨rfl,rfl,trivial⟩ ?_
 refine WC.sr ?_;refine WL.aj (aG rfl) rfl rfl rfl ?_
 rintro _ h1 ⟨b3,rfl,bR,aR,az⟩
 have k1:=k.aq az
 have hb:=k1.se.bn
 have lb:=ai k.se.bn
 have n3:¬ b3=A.bs:=by omega
 refine Go ?_;refine G3 ?_;refine WL.call (vs:=[_]) rfl Tryz.call99 rfl (kr _ k1) rfl rfl rfl ?_
 rintro _ hz ⟨rfl,_⟩
 subst hz
 refine Go ?_;refine Gs [(0,_),(3,_),(10,_)] ?_
 refine aH 1 2 ?_ TT.mk
 all_goals (refine aw 2 ?_)
 refine WC.skip ?_;refine Gn ?_;refine WC.seq ?_;refine WC.block ?_;refine G2 ?_;refine WL.ld rfl (by first | exact aa aR rfl | assumption) rfl rfl rfl (Go ?_)
 refine Gs [(0,_),(3,_),(11,_)] ?_
 refine aH 3 4 ?_ TT.mk
 all_goals (refine aw 4 ?_)
 refine G2 ?_;refine WL.ld rfl (by first | exact aa aR rfl | assumption) rfl rfl rfl (Go ?_)
 refine Gs [(0,_),(3,_),(18,_)] ?_
 refine aH 5 6 ?_ TT.mk
 all_goals (refine aw 6 ?_)
 refine G2 ?_;refine WL.step (ae rfl) rfl rfl rfl (Go ?_);refine WL.ld rfl (by first | exact aa hb rfl | assumption) rfl rfl rfl (Go ?_)
 refine Gs [(0,_),(3,_),(28,_)] ?_
 refine aH 7 8 ?_ TT.mk
 all_goals (refine aw 7 ?_)
 refine G2 ?_;refine Gt ?_
 exact ⟨⟨[],cz.nil _ _,rfl⟩,.of k1 (Tn.no az)⟩
theorem CK (k:Ss h A st sk ov cnt L P):ag Tryz.prog 100 ⟨[.pointer (some ⟨A.bs,0,none⟩)]⟩ h fun u h'=>u=.agg ⟨E2 90 st []⟩∧(∃ P',(∀ q∈P',q∈P)∧Ss h' A st sk ov cnt L P'∧fM P'=(if st=73 then [] else fM P)∧Tn A P h h' P')∧Ext (fun q=>q=A.mp) h h':=by
 refine (sn k).mono fun u h' ⟨e,kk,tt,x⟩=>⟨e,⟨_,?_,kk,?_,tt⟩,x⟩
 · intro q hq
   split at hq
   · exact nomatch hq
   · exact hq
 · split <;> rfl
theorem cz.sC {h0 h:ah} {B:List Bk} (k:cz h0 h nS B):B=[]:=by
 obtain ⟨_,_,e,_⟩:=k.own.slice
 simp only [nS,Value.slice.injEq] at e
 exact List.eq_nil_of_length_eq_zero (by omega)
theorem qx {a b c d:Value} (h:Value.tuple ⟨[a,b]⟩=.tuple ⟨[c,d]⟩):a=c∧b=d:=by simpa using h
theorem Ss.HP {g g':ah} {S:Nat→Prop} {st':Int} {sk' ov':Bool} {cnt':Int} {L':List (List UInt8 × gw)} {P':List (List UInt8 × ee)} (k:Ss h A st sk ov cnt L P) (k':Ss g A st' sk' ov' cnt' L' P') (sL:∀ q∈L',q∈L) (sP:∀ q∈P',q∈P) (x:Ext S g g') (hS:∀ q,S q→h.size≤q):Ss g' A st' sk' ov' cnt' L' P':=by
 have nS':∀ {q:Nat},q < h.size→¬ S q:=fun hq e=>by have:=hS _ e;omega
 have e:=k'.se
 refine ⟨⟨x.obj e.bn (nS' (ai k.se.bn)),e.stm.ext x (nS' k.se.stm.lt),x.obj e.pb (nS' (ai k.se.pb)),e.pm.ext x (nS' k.se.pm.lt),x.obj e.eb (nS' (ai k.se.eb)),e.em.ext x (nS' k.se.em.lt),e.ne⟩,fun q hq=>?_,fun q hq=>?_,k'.dis,k'.sto,k'.cok,k'.zz.up x.size⟩
 · exact ⟨(k'.sok q hq).1.ext' x (fun z h0 hz=>nS' ((k.sok q (sL q hq)).1.lt h0 hz)),(k'.sok q hq).2⟩
 · exact ⟨x.obj (k'.pok q hq).1 (nS' (ai (k.pok q (sP q hq)).1)),(k'.pok q hq).2.1.ext x (fun z hz=>nS' ((k.pok q (sP q hq)).2.1.lt hz)),(k'.pok q hq).2.2⟩
theorem Kc (er:Er h) (h0:¬ Mu A P 0) (k:Ss h A st false false cnt L P) (f:Fm) (hf:f.ok h) (hk:f.kind ≠ 88∧f.kind ≠ 83∧f.kind ≠ 81) {r:fR}
   (kd:∀ g,Ext No h g→ag Tryz.prog 101 ⟨[.pointer (some ⟨A.bs,0,none⟩),.agg ⟨f.cells⟩]⟩ g (FD fun v e h'=>cj g A P r (.tuple ⟨[v,e]⟩) h')) :
   ag Tryz.prog 58 ⟨[.pointer (some ⟨A.bs,0,none⟩),.agg ⟨f.cells⟩]⟩ h (IZ h A P (fG f.p r)):=by
 have kr:=fun (g:ah) (k:Ss g A st false false cnt L P)=>kV k.se.bn
 obtain ⟨⟨e1,_⟩,⟨e2,_⟩,⟨e3,_⟩,e4,_⟩:=hf
 obtain ⟨fk,w,n,p,t,vo,o,vf,fs,vs,rs,vp,ps,mx⟩:=f
 dsimp only at e1 e2 e3 e4 hk
 obtain ⟨_,_,rfl,_⟩:=e1
 obtain ⟨_,_,rfl,_⟩:=e2
 obtain ⟨_,_,rfl,_⟩:=e3
 obtain ⟨_,_,rfl,_⟩:=e4
 obtain ⟨OL,OM,Ab⟩:=hk
 dsimp only [Fm.cells,Fm.p] at kd ⊢
 rcases r with ⟨⟨om,DI,zK,Bi,CL,CM⟩,out,_ | ⟨ec,et⟩⟩
 · have hr:fG ⟨fk,w,n,p,t,o,ps.map aX.pl,mx⟩ (⟨om,DI,zK,Bi,CL,CM⟩,out,none)=(⟨om,DI,zK,Bi,CL,CM⟩,out):=if_neg Ab
   rw [hr]
   clear hr
   refine calls [(0,_),(1,_)] Tryz.func58 rfl Tryz.ntmps58 rfl ⟨rfl,rfl,trivial⟩ ?_
   refine WC.sr ?_;refine WL.aj (aG rfl) rfl rfl rfl ?_
   rintro _ h1 ⟨b3,rfl,bR,aR,az⟩
   have k1:=k.aq az
   have hb:=k1.se.bn
   have lb:=ai k.se.bn
   have n3:¬ b3=A.bs:=by omega
   refine Go ?_;refine G3 ?_;refine WL.call (vs:=[_]) rfl Tryz.call99 rfl (kr _ k1) rfl rfl rfl ?_
   rintro _ hz ⟨rfl,_⟩
   subst hz
   refine Go ?_;refine Gs [(0,_),(3,_),(10,_)] ?_
   refine aH 1 2 ?_ TT.mk
   all_goals (refine aw 2 ?_)
   refine WC.skip ?_;refine Gn ?_;refine WC.seq ?_;refine WC.block ?_;refine G2 ?_;refine WL.ld rfl (by first | exact aa aR rfl | assumption) rfl rfl rfl (Go ?_)
   refine Gs [(0,_),(3,_),(11,_)] ?_
   refine aH 3 4 ?_ TT.mk
   all_goals (refine aw 4 ?_)
   refine G2 ?_;refine WL.ld rfl (by first | exact aa aR rfl | assumption) rfl rfl rfl (Go ?_)
   refine Gs [(0,_),(3,_),(18,_)] ?_
   refine aH 5 6 ?_ TT.mk
   all_goals (refine aw 6 ?_)
   refine G2 ?_;refine WL.step (ae rfl) rfl rfl rfl (Go ?_);refine WL.ld rfl (by first | exact aa hb rfl | assumption) rfl rfl rfl (Go ?_)
   refine Gs [(0,_),(3,_),(28,_)] ?_
   refine aH 7 8 ?_ TT.mk
   all_goals (refine aw 8 ?_)
   refine WC.skip ?_;refine Gn ?_;refine G2 ?_;refine WL.step (ay Tryz.isAgg42 Tryz.sizeOf42 rfl rfl (by exact At.av aR)) rfl rfl rfl ?_
   refine WL.call (vs:=[_,_]) rfl Tryz.call101 rfl (kd _ az) rfl rfl rfl ?_
   rintro _ h2 ⟨u2,e2,rfl,v2,B2,c2,heq,O2,xH,L2,P2,k2,Ae,Ag,t2⟩
   obtain ⟨q1,q2⟩:=qx heq
   subst q1 q2
   dsimp only [fK] at xH k2 Ae Ag ⊢
   subst Ae
   subst Ag
   have bT:=t2.1.obj aR (k1.not aR (by decide) (by decide) (by decide))
   refine Go ?_;refine Gs [(0,_),(3,_),(5,_),(6,_)] ?_;refine WC.sr ?_;refine WL.aj (an (fun w=>Tryz.zeroValue169 w)) rfl rfl rfl ?_
   rintro _ h3 ⟨b7,rfl,gj,bq,aQ⟩
   have hbK:=aQ.obj bT aO
   have kK:=k2.aq aQ
   have OK:=(O2.mono az.size).aq aQ
   have TK:=((Tn.no (A:=A) (P:=P) az).trans t2).trans (Tn.no aQ)
   refine Gn ?_;refine G3 ?_;refine WL.step (fD ⟨_,Tryz.underlying171,fun _ h=>by cases h⟩ rfl) rfl rfl rfl ?_
   refine WL.call (vs:=[_,_]) rfl Tryz.call102 rfl (vG _) rfl rfl rfl ?_
   rintro _ hz ⟨rfl,_⟩
   subst hz
   refine Gn ?_
   refine aH 9 10 ?_ TT.mk
   all_goals (refine aw 10 ?_)
   refine WC.skip ?_;refine Gn ?_;refine G3 ?_;refine WL.ld rfl (by first | exact aa hbK rfl | assumption) rfl rfl rfl (Go ?_)
   refine Gs [(0,_),(5,_),(56,_)] ?_
   refine aH 11 12 ?_ TT.mk
   all_goals (refine aw 12 ?_)
   refine WC.skip ?_;refine Gn ?_;refine G2 ?_;refine Gs [(4,_)] ?_;refine Gt ?_
   exact ⟨⟨B2,OK,xH⟩,L2,P2,kK,rfl,rfl,TK⟩
 · have hr:fG ⟨fk,w,n,p,t,o,ps.map aX.pl,mx⟩ (⟨om,DI,zK,Bi,CL,CM⟩,out,some (ec,et))=(⟨eS om,decide (fk ≠ 81),zK,Bi,CL,if eS om=69 then [] else CM⟩,out++[oh ec et]):=if_neg Ab
   rw [hr]
   clear hr
   refine calls [(0,_),(1,_)] Tryz.func58 rfl Tryz.ntmps58 rfl ⟨rfl,rfl,trivial⟩ ?_
   refine WC.sr ?_;refine WL.aj (aG rfl) rfl rfl rfl ?_
   rintro _ h1 ⟨b3,rfl,bR,aR,az⟩
   have k1:=k.aq az
   have hb:=k1.se.bn
   have lb:=ai k.se.bn
   have n3:¬ b3=A.bs:=by omega
   refine Go ?_;refine G3 ?_;refine WL.call (vs:=[_]) rfl Tryz.call99 rfl (kr _ k1) rfl rfl rfl ?_
   rintro _ hz ⟨rfl,_⟩
   subst hz
   refine Go ?_;refine Gs [(0,_),(3,_),(10,_)] ?_
   refine aH 1 2 ?_ TT.mk
   all_goals (refine aw 2 ?_)
   refine WC.skip ?_;refine Gn ?_;refine WC.seq ?_;refine WC.block ?_;refine G2 ?_;refine WL.ld rfl (by first | exact aa aR rfl | assumption) rfl rfl rfl (Go ?_)
   refine Gs [(0,_),(3,_),(11,_)] ?_
   refine aH 3 4 ?_ TT.mk
   all_goals (refine aw 4 ?_)
   refine G2 ?_;refine WL.ld rfl (by first | exact aa aR rfl | assumption) rfl rfl rfl (Go ?_)
   refine Gs [(0,_),(3,_),(18,_)] ?_
   refine aH 5 6 ?_ TT.mk
   all_goals (refine aw 6 ?_)
   refine G2 ?_;refine WL.step (ae rfl) rfl rfl rfl (Go ?_);refine WL.ld rfl (by first | exact aa hb rfl | assumption) rfl rfl rfl (Go ?_)
   refine Gs [(0,_),(3,_),(28,_)] ?_
   refine aH 7 8 ?_ TT.mk
   all_goals (refine aw 8 ?_)
   refine WC.skip ?_;refine Gn ?_;refine G2 ?_;refine WL.step (ay Tryz.isAgg42 Tryz.sizeOf42 rfl rfl (by exact At.av aR)) rfl rfl rfl ?_
   refine WL.call (vs:=[_,_]) rfl Tryz.call101 rfl (kd _ az) rfl rfl rfl ?_
   rintro _ h2 ⟨u2,e2,rfl,v2,B2,c2,heq,O2,xH,L2,P2,k2,Ae,Ag,t2⟩
   obtain ⟨q1,q2⟩:=qx heq
   subst q1 q2
   dsimp only [fK] at xH k2 Ae Ag ⊢
   subst Ae
   subst Ag
   have bT:=t2.1.obj aR (k1.not aR (by decide) (by decide) (by decide))
   refine Go ?_;refine Gs [(0,_),(3,_),(5,_),(6,_)] ?_;refine WC.sr ?_;refine WL.aj (an (fun w=>Tryz.zeroValue169 w)) rfl rfl rfl ?_
   rintro _ h3 ⟨b7,rfl,gj,bq,aQ⟩
   have hbK:=aQ.obj bT aO
   have kK:=k2.aq aQ
   have OK:=(O2.mono az.size).aq aQ
   have TK:=((Tn.no (A:=A) (P:=P) az).trans t2).trans (Tn.no aQ)
   refine Gn ?_;refine G3 ?_;refine WL.step (fD ⟨_,Tryz.underlying171,fun _ h=>by cases h⟩ rfl) rfl rfl rfl ?_
   have Ke:Er h3:=((er.aq az).ext t2.1 (fun e=>h0 e)).aq aQ
   have hv:=c2 (by simp)
   subst hv
   obtain rfl:=O2.sC
   obtain rfl:out=[]:=xH.symm
   refine WL.call (vs:=[_,_]) rfl Tryz.call102 rfl (o0 ec et Ke bq) rfl rfl rfl ?_
   rintro _ h4 ⟨rfl,bC,aW⟩
   have X4:Ext No h2 h4:=aQ.trans' aW (fun q hq e=>by omega)
   have k4:=k2.aq X4
   have bJ:=X4.obj bT aO
   have Kf:b7 ≠ A.bs:=fun e=>by have:=ai k2.se.bn;omega
   refine Gn ?_
   refine aH 9 10 ?_ TT.mk
   all_goals (refine aw 9 ?_)
   refine G2 ?_;refine WL.ld rfl (by first | exact aa bJ rfl | assumption) rfl rfl rfl (Go ?_)
   refine WL.step (ae rfl) rfl rfl rfl (Go ?_);refine WL.ax (aB Tryz.sizeOf4 rfl rfl k4.se.bn (Nat.le_of_ble_eq_true rfl) rfl rfl) rfl rfl ?_
   rintro _ h5 ⟨bV,aM⟩
   obtain ⟨k5,t5⟩:=k4.js aM bV k4.sto
   have db:=t5.1.obj bJ (k4.not bJ (by decide) (by decide) (by decide))
   have yJ:=aM.obj bC Kf
   refine Gn ?_;refine Gs [(0,_),(3,_),(5,_),(7,_)] ?_;refine WC.region (Go ?_);refine WL.step (ay Tryz.isAgg169 Tryz.sizeOf169 rfl rfl (by exact At.av yJ)) rfl rfl rfl ?_
   refine WL.call (vs:=[_,_]) rfl Tryz.call103 rfl (sy k5 ec et) rfl rfl rfl ?_
   rintro _ h6 ⟨⟨b6,rfl,Ah,Kg,Kh⟩,⟨P6,Lu,k6,Ki,t6⟩,aN⟩
   have dx:=t6.1.obj db (k5.not db (by decide) (by decide) (by decide))
   refine WL.aj (au (vs:=[_]) (cs:=[_,_,_,_,_,_,_,_,_,_,_]) (fun | [.agg ⟨[a0,a1,a2,a3,a4,a5,a6,a7,a8,a9,gX]⟩]=>[a0,a1,a2,a3,a4,a5,a6,a7,a8,a9,gX] | _=>[]) Tryz.underlying80 rfl rfl (by kernel_rfl)) rfl rfl rfl ?_
   rintro _ h7 ⟨b8,rfl,xC,ca,ba⟩
   refine WL.aj (aT (sz:=11) (bytes:=168) rfl Tryz.underlying80 (show Tryz.prog.info? 140=some Tryz.t140 by kernel_rfl) rfl rfl rfl rfl (by decide) rfl rfl (Own.nil _ _ 11) (bx (len:=1) (sz:=11) ca rfl) Ah.one (by simp only [maxLen];omega) (by omega)) rfl rfl rfl ?_
   rintro v8 h8 ⟨jK,bz,tA⟩
   have X8:Ext No h6 h8:=ba.trans (bz.mono fun _ _ e=>by cases e)
   have hbK:=X8.obj dx aO
   have kK:=k6.aq X8
   have T4:=((Tn.no (A:=A) (P:=P) az).trans t2).trans (Tn.no X4)
   have T5:=T4.trans t5
   have TK:=(T5.trans t6).trans (Tn.no X8)
   have s5:=T5.1.size
   have s7:=ba.size
   have s6:=t6.1.size
   have OK:cz h h8 v8 ([]++[b6]):=(cz.nil h h7).snoc (Ah.ext ba fun _ _=>aO) (fun z hz=>by have:=Kh z hz;omega) (fun _ _ e=>by cases e) (by omega) jK bz tA
   refine Go ?_;refine Gn ?_;refine G3 ?_;refine WL.ld rfl (by first | exact aa hbK rfl | assumption) rfl rfl rfl (Go ?_)
   refine Gs [(0,_),(5,_),(56,_)] ?_
   refine aH 11 12 ?_ TT.mk
   all_goals (refine aw 12 ?_)
   refine WC.skip ?_;refine Gn ?_;refine G2 ?_;refine Gs [(4,_)] ?_;refine Gt ?_
   exact ⟨⟨[]++[b6],OK,by simp [Kg]⟩,L2,P6,by show Ss h8 A (eS om) (decide (fk ≠ 81)) zK Bi L2 P6;rw [decide_eq_true Ab];exact kK,rfl,Ki,TK⟩
theorem Kj (er:Er h) (h0:¬ Mu A P 0) (k:Ss h A st false false cnt L P) (f:Fm) (hf:f.ok h) (Ab:f.kind=81) {r:fR} (hlen:r.2.1.length≤1000000)
   (kd:∀ g,Ext No h g→ag Tryz.prog 101 ⟨[.pointer (some ⟨A.bs,0,none⟩),.agg ⟨f.cells⟩]⟩ g (FD fun v e h'=>eQ g A L P r (.tuple ⟨[v,e]⟩) h')) :
   ag Tryz.prog 58 ⟨[.pointer (some ⟨A.bs,0,none⟩),.agg ⟨f.cells⟩]⟩ h (IZ h A P (fG f.p r)):=by
 have kr:=fun (g:ah) (k:Ss g A st false false cnt L P)=>kV k.se.bn
 have ks:=fun (g:ah) (st:Int) (sk ov:Bool) (cnt:Int) (L:List (List UInt8 × gw)) (P:List (List UInt8 × ee)) (k:Ss g A st sk ov cnt L P)=>CK k
 obtain ⟨⟨e1,_⟩,⟨e2,_⟩,⟨e3,_⟩,e4,_⟩:=hf
 obtain ⟨fk,w,n,p,t,vo,o,vf,fs,vs,rs,vp,ps,mx⟩:=f
 dsimp only at e1 e2 e3 e4 Ab
 obtain ⟨_,_,rfl,_⟩:=e1
 obtain ⟨_,_,rfl,_⟩:=e2
 obtain ⟨_,_,rfl,_⟩:=e3
 obtain ⟨_,_,rfl,_⟩:=e4
 subst Ab
 unfold E2 at ks
 dsimp only [Fm.cells,Fm.p] at kd ⊢
 rcases r with ⟨⟨om,DI,zK,Bi,CL,CM⟩,out,_ | ⟨ec,et⟩⟩
 · have hr:fG ⟨81,w,n,p,t,o,ps.map aX.pl,mx⟩ (⟨om,DI,zK,Bi,CL,CM⟩,out,none)=(⟨om,DI,zK,Bi,CL,if om=73 then [] else CM⟩,out++[{ kind:=90,status:=om }]):=rfl
   rw [hr]
   clear hr
   refine calls [(0,_),(1,_)] Tryz.func58 rfl Tryz.ntmps58 rfl ⟨rfl,rfl,trivial⟩ ?_
   refine WC.sr ?_;refine WL.aj (aG rfl) rfl rfl rfl ?_
   rintro _ h1 ⟨b3,rfl,bR,aR,az⟩
   have k1:=k.aq az
   have hb:=k1.se.bn
   have lb:=ai k.se.bn
   have n3:¬ b3=A.bs:=by omega
   refine Go ?_;refine G3 ?_;refine WL.call (vs:=[_]) rfl Tryz.call99 rfl (kr _ k1) rfl rfl rfl ?_
   rintro _ hz ⟨rfl,_⟩
   subst hz
   refine Go ?_;refine Gs [(0,_),(3,_),(10,_)] ?_
   refine aH 1 2 ?_ TT.mk
   all_goals (refine aw 2 ?_)
   refine WC.skip ?_;refine Gn ?_;refine WC.seq ?_;refine WC.block ?_;refine G2 ?_;refine WL.ld rfl (by first | exact aa aR rfl | assumption) rfl rfl rfl (Go ?_)
   refine Gs [(0,_),(3,_),(11,_)] ?_
   refine aH 3 4 ?_ TT.mk
   all_goals (refine aw 4 ?_)
   refine G2 ?_;refine WL.ld rfl (by first | exact aa aR rfl | assumption) rfl rfl rfl (Go ?_)
   refine Gs [(0,_),(3,_),(18,_)] ?_
   refine aH 5 6 ?_ TT.mk
   all_goals (refine aw 6 ?_)
   refine G2 ?_;refine WL.step (ae rfl) rfl rfl rfl (Go ?_);refine WL.ld rfl (by first | exact aa hb rfl | assumption) rfl rfl rfl (Go ?_)
   refine Gs [(0,_),(3,_),(28,_)] ?_
   refine aH 7 8 ?_ TT.mk
   all_goals (refine aw 8 ?_)
   refine WC.skip ?_;refine Gn ?_;refine G2 ?_;refine WL.step (ay Tryz.isAgg42 Tryz.sizeOf42 rfl rfl (by exact At.av aR)) rfl rfl rfl ?_
   refine WL.call (vs:=[_,_]) rfl Tryz.call101 rfl (kd _ az) rfl rfl rfl ?_
   rintro _ h2 ⟨u2,e2,rfl,v2,B2,c2,heq,O2,xH,L2,P2,Kk,Kl,k2,Ae,Ag,t2⟩
   obtain ⟨q1,q2⟩:=qx heq
   subst q1 q2
   dsimp only [fK] at xH k2 Ae Ag ⊢
   subst Ae
   subst Ag
   have bT:=t2.1.obj aR (k1.not aR (by decide) (by decide) (by decide))
   refine Go ?_;refine Gs [(0,_),(3,_),(5,_),(6,_)] ?_;refine WC.sr ?_;refine WL.aj (an (fun w=>Tryz.zeroValue169 w)) rfl rfl rfl ?_
   rintro _ h3 ⟨b7,rfl,gj,bq,aQ⟩
   have hbK:=aQ.obj bT aO
   have kK:=k2.aq aQ
   have OK:=(O2.mono az.size).aq aQ
   have TK:=((Tn.no (A:=A) (P:=P) az).trans t2).trans (Tn.no aQ)
   refine Gn ?_;refine G3 ?_;refine WL.step (fD ⟨_,Tryz.underlying171,fun _ h=>by cases h⟩ rfl) rfl rfl rfl ?_
   have hlB:B2.length≤1000000:=by rw [← xH,List.length_map] at hlen;exact hlen
   replace hlen:=hlB
   refine WL.call (vs:=[_,_]) rfl Tryz.call102 rfl (vG _) rfl rfl rfl ?_
   rintro _ hz ⟨rfl,_⟩
   subst hz
   refine Gn ?_
   refine aH 9 10 ?_ TT.mk
   all_goals (refine aw 10 ?_)
   refine WC.skip ?_;refine Gn ?_;refine G3 ?_;refine WL.ld rfl (by first | exact aa hbK rfl | assumption) rfl rfl rfl (Go ?_)
   refine Gs [(0,_),(5,_),(56,_)] ?_
   refine aH 11 12 ?_ TT.mk
   all_goals (refine aw 11 ?_)
   refine WC.region (Go ?_);refine WL.call (vs:=[_]) rfl Tryz.call100 rfl (ks _ _ _ _ _ _ _ kK) rfl rfl rfl ?_
   rintro _ h9 ⟨rfl,⟨P9,Km,k9,Fq,t9⟩,bZ⟩
   have O9:=OK.ext bZ (fun q hq=>by subst hq;exact k.se.pm.lt)
   refine WL.aj (au (vs:=[_]) (cs:=[_,_,_,_,_,_,_,_,_,_,_]) (fun | [.agg ⟨[a0,a1,a2,a3,a4,a5,a6,a7,a8,a9,gX]⟩]=>[a0,a1,a2,a3,a4,a5,a6,a7,a8,a9,gX] | _=>[]) Tryz.underlying80 rfl rfl (by kernel_rfl)) rfl rfl rfl ?_
   rintro _ iG ⟨Lv,rfl,FI,fH,ct⟩
   have wY:=O9.aq ct
   have sw:=k9.aq ct
   have Cw:=(TK.trans t9).trans (Tn.no (A:=A) (P:=P9) ct)
   obtain ⟨M3,BW,rfl,_⟩:=wY.own.slice
   refine WL.aj (aT (sz:=11) (bytes:=168) rfl Tryz.underlying80 (show Tryz.prog.info? 140=some Tryz.t140 by kernel_rfl) rfl rfl rfl rfl (by decide) rfl rfl wY.own (bx (len:=1) (sz:=11) fH rfl) (by simp [Value.oneCell']) (by have:=hlen;simp only [maxLen,List.length_append,List.length_singleton,List.nil_append] at *;omega) (by have:=hlen;simp only [List.length_append,List.length_singleton,List.nil_append] at *;omega)) rfl rfl rfl ?_
   rintro v11 qg ⟨uF,cM,FJ⟩
   have Ko:=wY.snoc (b:=kL 90 om []) (hJ _ _ _ _) (fun _ e=>(iN e).elim) (fun _ e=>(iN e).elim) Cw.1.size uF cM FJ
   refine Go ?_;refine Gn ?_;refine G2 ?_;refine Gs [(4,_)] ?_;refine Gt ?_
   have FK:Ext No iG iG:=.refl _ _
   have zN:=k.HP sw Kk (fun q hq=>Kl q (Km q hq)) cM (fun q hq=>wY.vf q hq)
   exact ⟨⟨B2++[kL 90 om []],Ko,by rw [List.map_append,xH];rfl⟩,L2,P9,zN,rfl,Fq,Cw.1.trans' cM (fun q hq e=>by have:=wY.vf q e;omega),Cw.2⟩
 · have hr:fG ⟨81,w,n,p,t,o,ps.map aX.pl,mx⟩ (⟨om,DI,zK,Bi,CL,CM⟩,out,some (ec,et))=(⟨eS om,false,zK,Bi,CL,if eS om=73 then [] else (if eS om=69 then [] else CM)⟩,(out++[oh ec et])++[{ kind:=90,status:=eS om }]):=rfl
   rw [hr]
   clear hr
   refine calls [(0,_),(1,_)] Tryz.func58 rfl Tryz.ntmps58 rfl ⟨rfl,rfl,trivial⟩ ?_
   refine WC.sr ?_;refine WL.aj (aG rfl) rfl rfl rfl ?_
   rintro _ h1 ⟨b3,rfl,bR,aR,az⟩
   have k1:=k.aq az
   have hb:=k1.se.bn
   have lb:=ai k.se.bn
   have n3:¬ b3=A.bs:=by omega
   refine Go ?_;refine G3 ?_;refine WL.call (vs:=[_]) rfl Tryz.call99 rfl (kr _ k1) rfl rfl rfl ?_
   rintro _ hz ⟨rfl,_⟩
   subst hz
   refine Go ?_;refine Gs [(0,_),(3,_),(10,_)] ?_
   refine aH 1 2 ?_ TT.mk
   all_goals (refine aw 2 ?_)
   refine WC.skip ?_;refine Gn ?_;refine WC.seq ?_;refine WC.block ?_;refine G2 ?_;refine WL.ld rfl (by first | exact aa aR rfl | assumption) rfl rfl rfl (Go ?_)
   refine Gs [(0,_),(3,_),(11,_)] ?_
   refine aH 3 4 ?_ TT.mk
   all_goals (refine aw 4 ?_)
   refine G2 ?_;refine WL.ld rfl (by first | exact aa aR rfl | assumption) rfl rfl rfl (Go ?_)
   refine Gs [(0,_),(3,_),(18,_)] ?_
   refine aH 5 6 ?_ TT.mk
   all_goals (refine aw 6 ?_)
   refine G2 ?_;refine WL.step (ae rfl) rfl rfl rfl (Go ?_);refine WL.ld rfl (by first | exact aa hb rfl | assumption) rfl rfl rfl (Go ?_)
   refine Gs [(0,_),(3,_),(28,_)] ?_
   refine aH 7 8 ?_ TT.mk
   all_goals (refine aw 8 ?_)
   refine WC.skip ?_;refine Gn ?_;refine G2 ?_;refine WL.step (ay Tryz.isAgg42 Tryz.sizeOf42 rfl rfl (by exact At.av aR)) rfl rfl rfl ?_
   refine WL.call (vs:=[_,_]) rfl Tryz.call101 rfl (kd _ az) rfl rfl rfl ?_
   rintro _ h2 ⟨u2,e2,rfl,v2,B2,c2,heq,O2,xH,L2,P2,Kk,Kl,k2,Ae,Ag,t2⟩
   obtain ⟨q1,q2⟩:=qx heq
   subst q1 q2
   dsimp only [fK] at xH k2 Ae Ag ⊢
   subst Ae
   subst Ag
   have bT:=t2.1.obj aR (k1.not aR (by decide) (by decide) (by decide))
   refine Go ?_;refine Gs [(0,_),(3,_),(5,_),(6,_)] ?_;refine WC.sr ?_;refine WL.aj (an (fun w=>Tryz.zeroValue169 w)) rfl rfl rfl ?_
   rintro _ h3 ⟨b7,rfl,gj,bq,aQ⟩
   have hbK:=aQ.obj bT aO
   have kK:=k2.aq aQ
   have OK:=(O2.mono az.size).aq aQ
   have TK:=((Tn.no (A:=A) (P:=P) az).trans t2).trans (Tn.no aQ)
   refine Gn ?_;refine G3 ?_;refine WL.step (fD ⟨_,Tryz.underlying171,fun _ h=>by cases h⟩ rfl) rfl rfl rfl ?_
   have Ke:Er h3:=((er.aq az).ext t2.1 (fun e=>h0 e)).aq aQ
   have hv:=c2 (by simp)
   subst hv
   obtain rfl:=O2.sC
   obtain rfl:out=[]:=xH.symm
   refine WL.call (vs:=[_,_]) rfl Tryz.call102 rfl (o0 ec et Ke bq) rfl rfl rfl ?_
   rintro _ h4 ⟨rfl,bC,aW⟩
   have X4:Ext No h2 h4:=aQ.trans' aW (fun q hq e=>by omega)
   have k4:=k2.aq X4
   have bJ:=X4.obj bT aO
   have Kf:b7 ≠ A.bs:=fun e=>by have:=ai k2.se.bn;omega
   refine Gn ?_
   refine aH 9 10 ?_ TT.mk
   all_goals (refine aw 9 ?_)
   refine G2 ?_;refine WL.ld rfl (by first | exact aa bJ rfl | assumption) rfl rfl rfl (Go ?_)
   refine WL.step (ae rfl) rfl rfl rfl (Go ?_);refine WL.ax (aB Tryz.sizeOf4 rfl rfl k4.se.bn (Nat.le_of_ble_eq_true rfl) rfl rfl) rfl rfl ?_
   rintro _ h5 ⟨bV,aM⟩
   obtain ⟨k5,t5⟩:=k4.js aM bV k4.sto
   have db:=t5.1.obj bJ (k4.not bJ (by decide) (by decide) (by decide))
   have yJ:=aM.obj bC Kf
   refine Gn ?_;refine Gs [(0,_),(3,_),(5,_),(7,_)] ?_;refine WC.region (Go ?_);refine WL.step (ay Tryz.isAgg169 Tryz.sizeOf169 rfl rfl (by exact At.av yJ)) rfl rfl rfl ?_
   refine WL.call (vs:=[_,_]) rfl Tryz.call103 rfl (sy k5 ec et) rfl rfl rfl ?_
   rintro _ h6 ⟨⟨b6,rfl,Ah,Kg,Kh⟩,⟨P6,Lu,k6,Ki,t6⟩,aN⟩
   have dx:=t6.1.obj db (k5.not db (by decide) (by decide) (by decide))
   refine WL.aj (au (vs:=[_]) (cs:=[_,_,_,_,_,_,_,_,_,_,_]) (fun | [.agg ⟨[a0,a1,a2,a3,a4,a5,a6,a7,a8,a9,gX]⟩]=>[a0,a1,a2,a3,a4,a5,a6,a7,a8,a9,gX] | _=>[]) Tryz.underlying80 rfl rfl (by kernel_rfl)) rfl rfl rfl ?_
   rintro _ h7 ⟨b8,rfl,xC,ca,ba⟩
   refine WL.aj (aT (sz:=11) (bytes:=168) rfl Tryz.underlying80 (show Tryz.prog.info? 140=some Tryz.t140 by kernel_rfl) rfl rfl rfl rfl (by decide) rfl rfl (Own.nil _ _ 11) (bx (len:=1) (sz:=11) ca rfl) Ah.one (by simp only [maxLen];omega) (by omega)) rfl rfl rfl ?_
   rintro v8 h8 ⟨jK,bz,tA⟩
   have X8:Ext No h6 h8:=ba.trans (bz.mono fun _ _ e=>by cases e)
   have hbK:=X8.obj dx aO
   have kK:=k6.aq X8
   have T4:=((Tn.no (A:=A) (P:=P) az).trans t2).trans (Tn.no X4)
   have T5:=T4.trans t5
   have TK:=(T5.trans t6).trans (Tn.no X8)
   have s5:=T5.1.size
   have s7:=ba.size
   have s6:=t6.1.size
   have OK:cz h h8 v8 ([]++[b6]):=(cz.nil h h7).snoc (Ah.ext ba fun _ _=>aO) (fun z hz=>by have:=Kh z hz;omega) (fun _ _ e=>by cases e) (by omega) jK bz tA
   refine Go ?_;refine Gn ?_;refine G3 ?_;refine WL.ld rfl (by first | exact aa hbK rfl | assumption) rfl rfl rfl (Go ?_)
   refine Gs [(0,_),(5,_),(56,_)] ?_
   refine aH 11 12 ?_ TT.mk
   all_goals (refine aw 11 ?_)
   refine WC.region (Go ?_);refine WL.call (vs:=[_]) rfl Tryz.call100 rfl (ks _ _ _ _ _ _ _ kK) rfl rfl rfl ?_
   rintro _ h9 ⟨rfl,⟨P9,Km,k9,Fq,t9⟩,bZ⟩
   have O9:=OK.ext bZ (fun q hq=>by subst hq;exact k.se.pm.lt)
   refine WL.aj (au (vs:=[_]) (cs:=[_,_,_,_,_,_,_,_,_,_,_]) (fun | [.agg ⟨[a0,a1,a2,a3,a4,a5,a6,a7,a8,a9,gX]⟩]=>[a0,a1,a2,a3,a4,a5,a6,a7,a8,a9,gX] | _=>[]) Tryz.underlying80 rfl rfl (by kernel_rfl)) rfl rfl rfl ?_
   rintro _ iG ⟨Lv,rfl,FI,fH,ct⟩
   have wY:=O9.aq ct
   have sw:=k9.aq ct
   have Cw:=(TK.trans t9).trans (Tn.no (A:=A) (P:=P9) ct)
   obtain ⟨M3,BW,rfl,_⟩:=wY.own.slice
   refine WL.aj (aT (sz:=11) (bytes:=168) rfl Tryz.underlying80 (show Tryz.prog.info? 140=some Tryz.t140 by kernel_rfl) rfl rfl rfl rfl (by decide) rfl rfl wY.own (bx (len:=1) (sz:=11) fH rfl) (by simp [Value.oneCell']) (by have:=hlen;simp only [maxLen,List.length_append,List.length_singleton,List.nil_append] at *;omega) (by have:=hlen;simp only [List.length_append,List.length_singleton,List.nil_append] at *;omega)) rfl rfl rfl ?_
   rintro v11 qg ⟨uF,cM,FJ⟩
   have Ko:=wY.snoc (b:=kL 90 (eS om) []) (hJ _ _ _ _) (fun _ e=>(iN e).elim) (fun _ e=>(iN e).elim) Cw.1.size uF cM FJ
   refine Go ?_;refine Gn ?_;refine G2 ?_;refine Gs [(4,_)] ?_;refine Gt ?_
   have zN:=k.HP sw Kk (fun q hq=>Kl q (Lu q (Km q hq))) cM (fun q hq=>wY.vf q hq)
   exact ⟨⟨([]++[b6])++[kL 90 (eS om) []],Ko,by rw [List.map_append,List.map_append,List.map_nil,List.map_singleton,Kg];rfl⟩,L2,P9,zN,rfl,by rw [Fq,Ki],Cw.1.trans' cM (fun q hq e=>by have:=wY.vf q e;omega),Cw.2⟩
end
theorem uG (s:SP) (f:gg):(dy s f).2.1.length≤1000000:=by
 have ht:∀ (s:SP) (v:fQ),(cF s v).2.1.length≤1:=fun s v=>by unfold cF;split <;> (try split) <;> simp
 unfold dy
 dsimp only
 split
 · simp
 · split
   · have:=(gF (bh f.text) s.cnt (ps:=[]) (by simp)).1
     simp [cQ]
     omega
   · exact Nat.le_trans (ht _ _) (by omega)
section
variable {h h':ah} {A:Ad} {st:Int} {sk ov:Bool} {cnt:Int} {L:List (List UInt8 × gw)} {P:List (List UInt8 × ee)}
theorem Kp (er:Er h) (h0:¬ Mu A P 0) (k:Ss h A st sk ov cnt L P) (lm:jg (ck st sk ov cnt L P)) (f:Fm) (hf:f.ok h) (hF:∀ q,f.F q→¬ Mu A P q) (fl:gE f) :
   ag Tryz.prog 58 ⟨[.pointer (some ⟨A.bs,0,none⟩),.agg ⟨f.cells⟩]⟩ h (IZ h A P (iw (ck st sk ov cnt L P) f.p)):=by
 by_cases ha:ov=true∨f.kind=88∨f.kind=83∨sk=true
 · exact Kb k f hf ha
 · simp only [not_or] at ha
   obtain ⟨a1,a2,a3,a4⟩:=ha
   obtain rfl:ov=false:=by simpa using a1
   obtain rfl:sk=false:=by simpa using a4
   have e:iw (ck st false false cnt L P) f.p=fG f.p (ei (ck st false false cnt L P) f.p):=by
     unfold iw
     rw [if_neg (show ¬ (ck st false false cnt L P).ov=true from by simp [ck]),if_neg (show ¬ f.p.kind=88 from a2),if_neg (show ¬ f.p.kind=83 from a3),if_neg (show ¬ (ck st false false cnt L P).sk=true from by simp [ck])]
   rw [e]
   by_cases Ab:f.kind=81
   · have eq : ei (ck st false false cnt L P) f.p = dy (ck st false false cnt L P) f.p := by
       unfold ei
       rw [show f.p.kind=81 from Ab]
       rfl
     rw [eq]
     exact Kj er h0 k f hf Ab (uG _ _) fun g x=>FF (k.aq x) lm f (hf.aq x) fl Ab
   · exact Kc er h0 k f hf ⟨a2,a3,Ab⟩ fun g x=>FE (k.aq x) lm f (hf.aq x) hF fl
end
def nT (h0 h:ah) (A:Ad) (s:SP):Prop:=∃ L P,Ss h A s.st s.sk s.ov s.cnt L P∧qc L=s.L∧fM P=s.P∧(∀ q,Mu A P q→h0.size≤q)∧∀ q,A.z q→h0.size≤q
def Bh (h0 h:ah) (q:Nat):Prop:=h0.size≤q∧∀ cs T,h[q]?=some (.cells cs T (0,0))→T=153∨T=104∨T=273
theorem uH {h0 h:ah} {v:Value} {T:TypeId} {sz n:Nat} {xs:List Value} (ho:Own h v T sz n xs) (hT:¬ (T=153∨T=104∨T=273)):∀ q,v.ownBlock=some q→¬ Bh h0 h q:=fun q hq e=>by
 obtain ⟨_,⟨rfl,_⟩ | ⟨g,cap,cur,rfl,hg,_⟩⟩:=ho
 · cases hq
 · simp only [Value.ownBlock,Option.some.injEq] at hq
   subst hq
   exact hT (e.2 _ _ hg)
theorem Er.pos {h:ah} (e:Er h):0 < h.size:=by
 have:=e 0 _ rfl
 unfold cell at this
 rcases hq:h[0]? with _ | o
 · simp [hq] at this
 · exact ai hq
section
variable {h0 h h':ah} {A:Ad} {s:SP}
theorem nT.aq (k:nT h0 h A s) (x:Ext No h h'):nT h0 h' A s:=by
 obtain ⟨L,P,k,e1,e2,e3,e4⟩:=k
 exact ⟨L,P,k.aq x,e1,e2,e3,e4⟩
theorem nT.bn (k:nT h0 h A s):h[A.bs]?=some (.cells ⟨[.map (some A.ms),.pointer (some ⟨A.bp,0,none⟩),.pointer (some ⟨A.be,0,none⟩),.int .u8 s.st,.bool s.sk,.bool s.ov]⟩ 153 (0,0)):=by
 obtain ⟨L,P,k,_⟩:=k
 exact k.se.bn
abbrev qy:SP:=⟨73,false,false,0,[],[]⟩
theorem CN:dP 0 qy:=⟨(fun _ h=>nomatch h),(fun _ h=>nomatch h),⟨Int.le_refl _,Int.le_refl _⟩,Nat.le_refl _⟩
theorem HQ {be me:Nat} (hb:h[be]?=some (.cells ⟨[.map (some me),In 0]⟩ 104 (0,0))) (hm:Mp .string St h me ([]:List (List UInt8 × Value))) (x:Ext No h0 h) (g1:h0.size≤be) :
   ag Tryz.prog 49 ⟨[.pointer (some ⟨be,0,none⟩)]⟩ h fun u h'=>∃ A:Ad,u=.pointer (some ⟨A.bs,0,none⟩)∧nT h0 h' A qy∧Ext No h h':=by
 refine (rP (some ⟨be,0,none⟩)).mono fun u h' ⟨bs,ms,bp,mp,e,hbs,hms,hbp,hmp,l1,l2,l3,l4,hx⟩=>?_
 have lm:=hm.lt
 have s0:=x.size
 refine ⟨⟨bs,ms,bp,mp,be,me,fun _=>False⟩,e,⟨[],[],⟨⟨hbs,hms,hbp,hmp,hx.obj hb aO,hm.ext hx aO,by dsimp only;omega,by dsimp only;omega,by dsimp only;omega⟩,(fun _ h=>nomatch h),(fun _ h=>nomatch h),(fun _ h=>nomatch h),.inl rfl,by decide,⟨(fun _ h=>nomatch h),(fun _ h=>nomatch h),fun _ h=>h.elim⟩⟩,rfl,rfl,fun q hq=>?_,fun _ h=>h.elim⟩,hx⟩
 rcases hq with hq | hq | hq | hq | ⟨r,hr,_⟩
 · have:q=bs:=hq
   omega
 · have:q=ms:=hq
   omega
 · have:q=mp:=hq
   omega
 · have:q=be:=hq
   omega
 · exact nomatch hr
end
theorem Kq {h0 h1 h:ah} {A:Ad} {s:SP} (k:nT h0 h1 A s) {n:Nat} (lm:dP n s) (hn:n < 1000000) (er:Er h) (hz:0 < h0.size) (x:Ext No h1 h) (x0:h0.size≤h1.size) (f:Fm) (hf:f.ok h) (hF:∀ q,f.F q→h1.size≤q) (fl:gE f) :
   ag Tryz.prog 58 ⟨[.pointer (some ⟨A.bs,0,none⟩),.agg ⟨f.cells⟩]⟩ h fun u h'=>(∃ B,cz h h' u B∧B.map Bk.p=(iw s f.p).2)∧nT h0 h' A (iw s f.p).1∧Ext (Bh h0 h) h h':=by
 obtain ⟨L,P,k1,e1,e2,e3,e4⟩:=k
 obtain ⟨st,sk,ov,cnt,LL,PP⟩:=s
 dsimp only at e1 e2 k1
 subst e1 e2
 have k:=k1.aq x
 refine (Kp er (fun e=>by have:=e3 _ e;omega) k (lm.J6 hn) f hf (fun q hq e=>by have:=k1.lt e;have:=hF q hq;omega) fl).mono fun u h' ⟨hB,L',P',k',p1,p2,t⟩=>?_
 refine ⟨hB,⟨L',P',k',p1,p2,fun q hq=>?_,e4⟩,t.1.mono fun q _ e=>⟨e3 q e,fun cs T hq=>Classical.byContradiction fun hT=>k.not hq (fun z=>hT (.inl z)) (fun z=>hT (.inr (.inl z))) (fun z=>hT (.inr (.inr z))) e⟩⟩
 by_cases hl:q < h.size
 · exact e3 q (t.2 q hl hq)
 · have:=x.size;omega
noncomputable def gi:List (Int × List UInt8):=tG.flatMap fun y=>eD y.p
theorem lB {k st n m:Int} (h:Kn k) (hs:0≤st∧st≤255):jh (gB k st n m).p :=
 ⟨h,hs,(fun _ h=>nomatch h),by simp [gB,Bk.p],by simp [gB,Bk.p],by simp [gB,Bk.p],by simp [gB,Bk.p],(fun _ h=>nomatch h),by simp [gB,Bk.p],(fun _ h=>nomatch h),by simp [gB,Bk.p],by simp [gB,Bk.p],by simp [gB,Bk.p]⟩
theorem sD {h:ah} {b:Nat} {f s p i v:Value} {bg ov:Bool} (hv:Rd h v 11 3 pO) (hb:h[b]?=some (.cells ⟨lQ (.slice none 0 0) f s p i bg ov⟩ 96 (0,0))) (hne:∀ q,v.ownBlock=some q→q ≠ b) :
   ag Tryz.prog 57 ⟨[.pointer (some ⟨b,0,none⟩),v]⟩ h fun _ h'=>∃ (w:Value) (M:List mi),M.map mi.pl=gi∧h'[b]?=some (.cells ⟨lQ w f s p i bg ov⟩ 96 (0,0))∧Sd h' w M∧Ext (fun q=>q=b) h h'∧(∀ q,w.ownBlock=some q→h.size≤q)∧∀ x∈M,∀ q,x.2.1.ownBlock=some q→h.size≤q:=by
 refine (DQ tG (by simpa [pO] using hv) hb (Sd.nil h) (by decide) (fun q hq=>⟨hne q hq,by simp [Value.ownBlock]⟩) (by simp [gB,Bk.cells,Value.oneCell']) (fun y hy g _=>?_)).mono fun u h' ⟨w,M,hM,hb',hs,hx,hf,hm⟩=>?_
 · simp only [List.mem_cons,List.not_mem_nil,or_false] at hy
   rcases hy with rfl | rfl | rfl
   · exact vM _ (yh _ _ _ _ _) (lB (by simp [Kn]) (by decide))
   · exact vM _ (yh _ _ _ _ _) (lB (by simp [Kn]) (by decide))
   · exact vM _ (yh _ _ _ _ _) (lB (by simp [Kn]) (by decide))
 · exact ⟨w,M,hM,hb',hs,hx.mono fun q _ e=>e.elim id fun z=>by simp [Value.ownBlock] at z,fun q hq=>(hf q hq).elim (fun z=>by simp [Value.ownBlock] at z) id,fun x hx=>(hm x hx).elim (fun z=>nomatch z) id⟩
theorem CO {h:ah} {b fb:Nat} {s w v:Value} {l:List UInt8} {k:Int} (hb:h[b]?=some (.cells ⟨lQ (.slice none 0 0) (.pointer (some ⟨fb,0,none⟩)) s (.slice none 0 0) (In 0) false false⟩ 96 (0,0))) (kf:Fw h fb false v l) (hw:Rd h w 1 12 (bB jr)) :
   ag Tryz.prog 55 ⟨[.pointer (some ⟨b,0,none⟩),.agg ⟨[.int .u8 k,w]⟩]⟩ h fun _ h'=>∃ (w:Value) (M:List mi),M.map mi.pl=gi∧h'[b]?=some (.cells ⟨lQ w (.pointer (some ⟨fb,0,none⟩)) s (.slice none 0 0) (In 0) true false⟩ 96 (0,0))∧Sd h' w M∧Fw h' fb true v l∧Ext (fun q=>q=b∨q=fb) h h'∧(∀ q,w.ownBlock=some q→h.size≤q)∧∀ x∈M,∀ q,x.2.1.ownBlock=some q→h.size≤q:=by
 have kb:=fun (h':ah)=>El (h:=h')
 have lb:=ai hb
 have lf:=ai kf.bn
 have vO:b ≠ fb:=fun e=>by have:=kf.bn;rw [← e,hb] at this;simp at this
 obtain ⟨A,c,rfl,_⟩:=id hw
 refine calls [(0,_),(1,_)] Tryz.func55 rfl Tryz.ntmps55 rfl ⟨rfl,rfl,trivial⟩ ?_
 refine WC.sr ?_;refine WL.aj (aG rfl) rfl rfl rfl ?_
 rintro _ h1 ⟨b1,rfl,bR,aR,az⟩
 refine Gn ?_;refine G2 ?_;refine WL.ld rfl (by first | exact aa aR rfl | assumption) rfl rfl rfl ?_
 refine WL.call (vs:=[_]) rfl Tryz.call90 rfl (tF (hw.aq az)) rfl rfl rfl ?_
 rintro _ h2 ⟨p2,rfl,dc,aI,eI⟩
 obtain ⟨A2,c2,rfl,_⟩:=id dc.slice
 refine Go ?_;refine WL.aj (an (fun w=>Tryz.zeroValue62 w)) rfl rfl rfl ?_
 rintro _ h3 ⟨b4,rfl,oE,bC,aQ⟩
 refine WL.ax (al Tryz.sizeOf62 rfl rfl rfl bC rfl (by simp [Value.oneCell'])) rfl rfl ?_
 rintro _ h4 ⟨gh,aW⟩
 have X4:Ext No h h4:=((az.trans aI).trans aQ).trans' aW (fun q hq e=>by have:=az.size;have:=aI.size;omega)
 have ou:=X4.obj hb aO
 have Bj:=kf.aq X4
 have l4:=X4.size
 refine Go ?_;refine Gs [(0,_),(4,_),(5,_)] ?_;refine WC.block ?_;refine G3 ?_
 refine aH 1 2 ?_ TT.mk
 all_goals (refine aw 2 ?_)
 refine WC.region (Go ?_);refine WL.ld rfl (by first | exact aa gh rfl | assumption) rfl rfl rfl (Go ?_)
 refine Gn ?_
 refine aH 3 4 ?_ TT.mk
 all_goals (refine aw 4 ?_)
 refine G2 ?_;refine WL.ld rfl (by first | exact aa gh rfl | assumption) rfl rfl rfl (Go ?_)
 refine Gs [(0,_),(21,_)] ?_
 refine aH 5 6 ?_ TT.mk
 all_goals (refine aw 5 ?_)
 refine WC.seq ?_;refine WC.bW (fun h'=>∃ w,h'[b]?=some (.cells ⟨lQ w (.pointer (some ⟨fb,0,none⟩)) s (.slice none 0 0) (In 0) false false⟩ 96 (0,0))) 11 11 rfl dm ?_
 refine WH.tk 0 rfl (fun hq hC=>ak rfl) rfl rfl rfl ?_ (hC:=(by first | exact ⟨_,ou⟩ | assumption))
 refine WH.tk 1 rfl (fun hq hC=>ak rfl) rfl rfl rfl ?_ (hC:=(by first | exact ⟨_,ou⟩ | assumption))
 refine WH.tk 2 rfl (fun hq hC=>ae rfl) rfl rfl rfl ?_ (hC:=(by first | exact ⟨_,ou⟩ | assumption))
 refine WH.tk 3 rfl (fun hq hC=>ad rfl Tryz.underlying96 rfl Tryz.sizeOf60) rfl rfl rfl ?_ (hC:=(by first | exact ⟨_,ou⟩ | assumption))
 refine WH.tk 4 rfl (fun hq hC=>aA Tryz.isAgg60 rfl ((by obtain ⟨w,e⟩:=hC;exact aa e rfl))) rfl rfl rfl ?_ (hC:=(by first | exact ⟨_,ou⟩ | assumption))
 refine WH.tk 5 rfl (fun hq hC=>ak rfl) rfl rfl rfl ?_ (hC:=(by first | exact ⟨_,ou⟩ | assumption))
 refine WH.tk 6 rfl (fun hq hC=>ae rfl) rfl rfl rfl ?_ (hC:=(by first | exact ⟨_,ou⟩ | assumption))
 refine WH.tk 7 rfl (fun hq hC=>ad rfl Tryz.underlying96 rfl Tryz.sizeOf3) rfl rfl rfl ?_ (hC:=(by first | exact ⟨_,ou⟩ | assumption))
 refine WH.tk 8 rfl (fun hq hC=>aA Tryz.isAgg3 rfl ((by obtain ⟨w,e⟩:=hC;exact aa e rfl))) rfl rfl rfl ?_ (hC:=(by first | exact ⟨_,ou⟩ | assumption))
 refine WH.one 9 (by kernel_rfl) ?_
 refine aC.call (vs:=[_,_]) rfl rfl Tryz.call91 rfl (kb _) rfl rfl rfl ?_ (fun _=>by kernel_rfl)
 rintro v6 h6 ⟨gn,aN,iH⟩
 have bX:=aN.obj ou aO
 refine ⟨fun _=>⟨_,bX⟩,?_⟩
 refine WH.one 10 (by kernel_rfl) ?_
 refine aC.call (vs:=[_,_]) rfl rfl Tryz.call57 rfl (sD gn.rd bX (fun q hq e=>by have:=iH q hq;omega)) rfl rfl rfl ?_ (fun _=>by kernel_rfl)
 rintro _ h7 ⟨w7,M7,M4,ca,Bm,ba,JH,HR⟩
 have DC:∃ w,h7[b]?=some (.cells ⟨lQ w (.pointer (some ⟨fb,0,none⟩)) s (.slice none 0 0) (In 0) false false⟩ 96 (0,0)):=⟨_,ca⟩
 have X6:=X4.trans aN
 have l6:=X6.size
 have M6:=(kf.aq X6).ext ba (fun e=>vO e.symm) (fun q hq e=>bQ (kf.aq X6).own bX (by decide) (e▸hq))
 have M8:∀ q,w7.ownBlock=some q→q ≠ fb:=fun q hq e=>by have:=JH q hq;omega
 have X7:Ext (fun q=>q=b∨q=fb) h h7:=(X6.mono fun _ _ e=>e.elim).trans (ba.mono fun _ _ e=>.inl e)
 refine ⟨fun _=>DC,?_⟩
 refine WH.done (by kernel_rfl) ?_
 refine Gn ?_;refine Gs [(0,_)] ?_;refine G2 ?_;refine WL.step (ae rfl) rfl rfl rfl (Go ?_);refine WL.ld rfl (by first | exact aa ca rfl | assumption) rfl rfl rfl ?_
 refine WL.call (vs:=[_]) rfl Tryz.call92 rfl (yp M6) rfl rfl rfl ?_
 rintro _ h8 ⟨rfl,FL,bz⟩
 have bE:=bz.obj ca vO
 have vN:=Bm.ext bz (fun q hq e=>M8 q hq e) (fun y hy q hq e=>by have:=HR y hy q hq;omega)
 refine Gn ?_;refine Gs [(0,_)] ?_;refine WC.region (Go ?_);refine WL.step (ae rfl) rfl rfl rfl (Go ?_);refine WL.ax (aB Tryz.sizeOf4 rfl rfl bE (Nat.le_of_ble_eq_true rfl) rfl rfl) rfl rfl ?_
 rintro _ h9 ⟨bY,bZ⟩
 have uE:=vN.ext bZ (fun q hq e=>(vN.off bE (by decide) (by decide)).1 (e▸hq)) (fun y hy q hq e=>(vN.off bE (by decide) (by decide)).2 y hy (e▸hq))
 have I0:=FL.ext bZ (fun e=>vO e.symm) (fun q hq e=>bQ FL.own bE (by decide) (e▸hq))
 refine Gn ?_;refine Gn ?_
 refine fy [] trivial ?_
 exact ⟨_,_,M4,bY,uE,I0,(X7.trans (bz.mono fun _ _ e=>.inr e)).trans (bZ.mono fun _ _ e=>.inl e),fun q hq=>(by have:=JH q hq;omega),fun x hx q hq=>(by have:=HR x hx q hq;omega)⟩
theorem ny {h:ah} {b fb:Nat} {s v:Value} {r:List UInt8} (hb:h[b]?=some (.cells ⟨lQ (.slice none 0 0) (.pointer (some ⟨fb,0,none⟩)) s (.slice none 0 0) (In 0) false false⟩ 96 (0,0))) (kf:Fw h fb false v (di++r)) (hr:r.length≤100000) :
   ag Tryz.prog 26 ⟨[.pointer (some ⟨b,0,none⟩)]⟩ h fun u h'=>u=.tuple ⟨[.agg ⟨Gm⟩,.bool false]⟩∧∃ (w:Value) (M:List mi) (v':Value),M.map mi.pl=gi∧h'[b]?=some (.cells ⟨lQ w (.pointer (some ⟨fb,0,none⟩)) s (.slice none 0 0) (In 0) true false⟩ 96 (0,0))∧Sd h' w M∧Fw h' fb true v' r∧Ext (fun q=>q=b∨q=fb∨v.ownBlock=some q) h h'∧(∀ q,w.ownBlock=some q→h.size≤q)∧(∀ x∈M,∀ q,x.2.1.ownBlock=some q→h.size≤q)∧v'.ownBlock=v.ownBlock:=by
 have kr:=fun (g:ah) (hb:g[b]?=some (.cells ⟨lQ (.slice none 0 0) (.pointer (some ⟨fb,0,none⟩)) s (.slice none 0 0) (In 0) false false⟩ 96 (0,0)))=>dV hb
 have hll:di.length=16:=by decide
 have kn:=fun (g:ah) (k:Fw g fb false v (di++r))=>vk k 0 16 rfl (by rw [List.drop_zero,List.take_append_of_le_length (by decide)];decide) (by decide) (by rw [List.length_append];omega) (by rw [List.length_append];omega)
 have lb:=ai hb
 have lf:=ai kf.bn
 have vO:b ≠ fb:=fun e=>by have:=kf.bn;rw [← e,hb] at this;simp at this
 have hlt:∀ q,v.ownBlock=some q→q < h.size:=fun q hq=>kf.own.lt hq
 have nvb:v.ownBlock ≠ some b:=bQ kf.own hb (by decide)
 have eb:((di++r).drop (0+4)).take (16 - 4)=jr:=by
   rw [List.drop_append_of_le_length (by decide),List.take_append_of_le_length (by decide)]
   decide
 have er:(di++r).drop (0+16)=r:=by
   rw [Nat.zero_add,← hll,List.drop_left]
 rw [eb,er] at kn
 refine calls [(0,_)] Tryz.func26 rfl Tryz.ntmps26 rfl ⟨rfl,trivial⟩ ?_
 refine WC.sr ?_;refine WL.aj (an (fun w=>Tryz.zeroValue42 w)) rfl rfl rfl ?_
 rintro _ h1 ⟨b1,rfl,bR,aR,az⟩
 have fS:=az.obj hb aO
 have Na:=kf.aq az
 refine Go ?_;refine G3 ?_;refine WL.call (vs:=[_]) rfl Tryz.call51 rfl (kr _ fS) rfl rfl rfl ?_
 rintro _ hq ⟨rfl,hz⟩
 replace hz:=hz.symm
 subst hz
 refine Go ?_
 refine bK 11 ?_ TT.mk
 refine Gg ?_;refine WL.step (ae rfl) rfl rfl rfl ?_;refine Gg ?_;refine WL.ld rfl (by first | exact aa fS rfl | assumption) rfl rfl rfl (Go ?_)
 refine Gs [(0,_),(2,_),(16,_)] ?_
 refine aH 1 2 ?_ TT.mk
 all_goals (refine aw 2 ?_)
 refine WC.skip ?_;refine Gn ?_;refine G2 ?_;refine WL.step (ae rfl) rfl rfl rfl (Go ?_);refine WL.ld rfl (by first | exact aa fS rfl | assumption) rfl rfl rfl ?_
 refine WL.call (vs:=[_]) rfl Tryz.call53 rfl (kn _ Na) rfl rfl rfl ?_
 rintro _ h2 ⟨w2,v2,rfl,dc,Be,aI,eI,D6⟩
 have dc:Own h2 w2 5 1 12 (bB jr):=dc
 obtain ⟨A2,c2,rfl,_⟩:=id dc.slice
 have py:=aI.obj fS (fun e=>e.elim vO nvb)
 have bT:=aI.obj aR (fun e=>by rcases e with e | e;omega;have:=hlt _ e;omega)
 refine Go ?_;refine WL.aj (an (fun w=>Tryz.zeroValue53 w)) rfl rfl rfl ?_
 rintro _ h3 ⟨b4,rfl,oE,bC,aQ⟩
 refine WL.ax (al Tryz.sizeOf53 rfl rfl rfl bC rfl (by simp [Value.oneCell'])) rfl rfl ?_
 rintro _ h4 ⟨gh,aW⟩
 have sZ:Ext No h2 h4:=aQ.trans' aW (fun q hq e=>by omega)
 have wv:=sZ.obj py aO
 have Bj:=Be.aq sZ
 have fO:=dc.ext sZ (fun _ _=>aO)
 have bJ:=sZ.obj bT aO
 have X4:Ext (fun q=>q=b∨q=fb∨v.ownBlock=some q) h h4:=(az.mono fun _ _ e=>e.elim).trans ((aI.mono fun _ _ e=>.inr e).trans (sZ.mono fun _ _ e=>e.elim))
 refine Go ?_;refine Gs [(0,_),(2,_),(4,_),(5,_),(6,_)] ?_;refine WC.seq ?_;refine WC.block ?_;refine G2 ?_
 refine aH 3 4 ?_ TT.mk
 all_goals (refine aw 4 ?_)
 refine G2 ?_;refine Gs [(0,_),(2,_),(4,_),(34,_)] ?_
 refine aH 5 6 ?_ TT.mk
 all_goals (refine aw 6 ?_)
 refine G2 ?_;refine WL.step (ae rfl) rfl rfl rfl (Go ?_);refine WL.ld rfl (by first | exact aa wv rfl | assumption) rfl rfl rfl (Go ?_)
 refine Gs [(0,_),(2,_),(4,_),(38,_)] ?_
 refine aH 7 8 ?_ TT.mk
 all_goals (refine aw 7 ?_)
 refine G2 ?_;refine WL.step (ay Tryz.isAgg53 Tryz.sizeOf53 rfl rfl (by exact At.av gh)) rfl rfl rfl ?_
 refine WL.call (vs:=[_,_]) rfl Tryz.call55 rfl (CO wv Bj fO.rd) rfl rfl rfl ?_
 rintro _ h5 ⟨w5,M5,GC,Kr,Ks,HS,aM,fN,HT⟩
 have db:=aM.obj bJ (fun e=>by have:=az.size;omega)
 refine Gn ?_;refine Gs [(2,_)] ?_;refine WC.sr ?_;refine WL.step (aF (vs:=[]) (cs:=[_,_,_,_,_,_,_,_,_,_]) (fun | []=>[(.int .u8 0),(.int .u8 0),(St []),(St []),(St []),(.slice none 0 0),(.slice none 0 0),(.slice none 0 0),(.slice none 0 0),(.int .i64 0)] | _=>[]) rfl rfl (by kernel_rfl)) rfl rfl rfl ?_
 refine WL.ax (al Tryz.sizeOf42 rfl rfl rfl db rfl (by simp [Value.oneCell'])) rfl rfl ?_
 rintro _ h6 ⟨bX,aN⟩
 have X6:Ext (fun q=>q=b∨q=fb∨v.ownBlock=some q) h h6:=(X4.trans (aM.mono fun _ _ e=>e.elim .inl fun e=>.inr (.inl e))).trans' aN (fun q hq e=>by omega)
 have l4:=X4.size
 have Nb:=Ks.ext aN (fun q hq e=>(Ks.off db (by decide) (by decide)).1 (e▸hq)) (fun y hy q hq e=>(Ks.off db (by decide) (by decide)).2 y hy (e▸hq))
 refine Go ?_;refine WC.ret ?_
 repeat' (with_reducible first | refine aZ ?_ | refine aV ?_)
 refine cV _ _ ⟨⟨_,rfl,bA Tryz.isAgg42 Tryz.sizeOf42 (by assumption) rfl⟩,rfl,trivial⟩ ?_
 exact ⟨rfl,w5,M5,_,GC,aN.obj Kr (fun e=>by omega),Nb,HS.ext aN (fun e=>by omega) (fun q hq e=>bQ HS.own db (by decide) (e▸hq)),X6,fun q hq=>(by have:=fN q hq;omega),fun x hx q hq=>(by have:=HT x hx q hq;omega),D6⟩
def FM (h:ah) (q:Nat):Prop:=∃ (cs:Array Value) (T:TypeId),h[q]?=some (.cells cs T (0,0))∧T ≠ 153∧T ≠ 104∧T ≠ 273∧T ≠ 189
section
variable {h0 h h':ah} {A:Ad} {st:Int} {sk ov:Bool} {cnt:Int} {L:List (List UInt8 × gw)} {P:List (List UInt8 × ee)} {S:Nat→Prop} {s:SP}
theorem Ss.xm (k:Ss h A st sk ov cnt L P) (x:Ext S h h') (hS:∀ q,S q→A.z q∧FM h q):Ss h' A st sk ov cnt L P:=by
 have e:=k.se
 have nB:∀ {b:Nat} {cs:Array Value} {T:TypeId},h[b]?=some (.cells cs T (0,0))→(T=153∨T=104∨T=273∨T=189)→¬ S b:=fun hb hT e=>by
   obtain ⟨_,cs,T,hq,t1,t2,t3,t4⟩:=hS _ e
   rcases hT with rfl | rfl | rfl | rfl
   · exact bw hq hb t1 rfl
   · exact bw hq hb t2 rfl
   · exact bw hq hb t3 rfl
   · exact bw hq hb t4 rfl
 have nM:∀ {m:Nat} {E:List (List UInt8 × Value)},Mp .string St h m E→¬ S m:=fun hm e=>by
   obtain ⟨_,cs,T,hq,_⟩:=hS _ e
   exact dX hm hq rfl
 exact ⟨⟨x.obj e.bn (nB e.bn (.inl rfl)),e.stm.ext x (nM e.stm),x.obj e.pb (nB e.pb (.inr (.inr (.inr rfl)))),e.pm.ext x (nM e.pm),x.obj e.eb (nB e.eb (.inr (.inl rfl))),e.em.ext x (nM e.em),e.ne⟩,
   fun q hq=>⟨(k.sok q hq).1.ext' x (fun z h0 hz e=>k.zz.l q hq z h0 hz (hS z e).1),(k.sok q hq).2⟩,
   fun q hq=>⟨x.obj (k.pok q hq).1 (nB (k.pok q hq).1 (.inr (.inr (.inl rfl)))),(k.pok q hq).2.1.ext x (fun z hz e=>k.zz.p q hq z hz (hS z e).1),(k.pok q hq).2.2⟩,k.dis,k.sto,k.cok,k.zz.up x.size⟩
theorem Ss.FN (k:Ss h A st sk ov cnt L P) (x:Ext S h h') (hS:∀ q,S q→A.z q∧FM h q) {z':Nat→Prop} (hz:∀ q,z' q→(A.z q∨h.size≤q)∧q < h'.size):Ss h' { A with z:=z' } st sk ov cnt L P:=by
 have k':=k.xm x hS
 exact ⟨k'.se,k'.sok,k'.pok,k'.dis,k'.sto,k'.cok,⟨fun q hq z h0 Gu e=>(hz z e).1.elim (k.zz.l q hq z h0 Gu) (fun y=>by have:=(k.sok q hq).1.lt h0 Gu;omega),fun q hq z Gu e=>(hz z e).1.elim (k.zz.p q hq z Gu) (fun y=>by have:=(k.pok q hq).2.1.lt Gu;omega),fun q hq=>(hz q hq).2⟩⟩
theorem nT.FN (k:nT h0 h A s) (x:Ext S h h') (hS:∀ q,S q→A.z q∧FM h q) {z':Nat→Prop} (hz:∀ q,z' q→(A.z q∨h.size≤q)∧q < h'.size) (x0:h0.size≤h.size):nT h0 h' { A with z:=z' } s:=by
 obtain ⟨L,P,k,e1,e2,e3,e4⟩:=k
 exact ⟨L,P,k.FN x hS hz,e1,e2,e3,fun q hq=>(hz q hq).1.elim (e4 q) (fun y=>by omega)⟩
theorem nT.xm (k:nT h0 h A s) (x:Ext S h h') (hS:∀ q,S q→A.z q∧FM h q):nT h0 h' A s:=by
 obtain ⟨L,P,k,e1,e2,e3,e4⟩:=k
 exact ⟨L,P,k.xm x hS,e1,e2,e3,e4⟩
end
def sE (h0:ah) (q:Nat):Prop:=h0.size≤q
structure Sq (h0 h:ah) (b fb:Nat) (A:Ad) (s:SP) (bg:Bool) (l:List UInt8) (v w:Value) (M:List mi):Prop where
 bn:h[b]?=some (.cells ⟨lQ w (.pointer (some ⟨fb,0,none⟩)) (.pointer (some ⟨A.bs,0,none⟩)) (.slice none 0 0) (In 0) bg s.ov⟩ 96 (0,0))
 fw:Fw h fb bg v l
 se:nT h0 h A s
 sd:Sd h w M
 nv:∀ x∈M,∀ q,x.2.1.ownBlock=some q→v.ownBlock ≠ some q
 z:∀ q,A.z q ↔ (q=b∨q=fb∨v.ownBlock=some q∨w.ownBlock=some q)
 x0:h0.size≤h.size
def qz (h0 h:ah) (b:Nat) (s:SP) (bg:Bool) (l:List UInt8) (O:List (Int × List UInt8)):Prop:=∃ fb A v w M,Sq h0 h b fb A s bg l v w M∧M.map mi.pl=O
section
variable {h0 h h':ah} {b fb:Nat} {A:Ad} {s:SP} {bg:Bool} {l:List UInt8} {v w:Value} {M:List mi} {O:List (Int × List UInt8)} {S:Nat→Prop}
theorem qA {v:Value} {T:TypeId} {sz n:Nat} {xs:List Value} (ho:Own h v T sz n xs) (hT:T ≠ 153∧T ≠ 104∧T ≠ 273∧T ≠ 189):∀ q,v.ownBlock=some q→FM h q:=fun q hq=>by
 obtain ⟨_,⟨rfl,_⟩ | ⟨g,cap,cur,rfl,hg,_⟩⟩:=ho
 · cases hq
 · simp only [Value.ownBlock,Option.some.injEq] at hq
   subst hq
   exact ⟨_,_,hg,hT⟩
theorem Sq.HU (k:Sq h0 h b fb A s bg l v w M):∀ q,A.z q→A.z q∧FM h q:=fun q hq=>⟨hq,by
 rcases (k.z q).1 hq with rfl | rfl | e | e
 · exact ⟨_,_,k.bn,by decide,by decide,by decide,by decide⟩
 · exact ⟨_,_,k.fw.bn,by decide,by decide,by decide,by decide⟩
 · exact qA k.fw.own (by decide) q e
 · exact qA k.sd.row (by decide) q e⟩
theorem Sq.lo (k:Sq h0 h b fb A s bg l v w M):∀ q,A.z q→h0.size≤q:=by
 obtain ⟨_,_,_,_,_,_,e4⟩:=k.se
 exact e4
theorem Sq.vO (k:Sq h0 h b fb A s bg l v w M):b ≠ fb:=fun e=>by have:=k.fw.bn;rw [← e,k.bn] at this;simp at this
theorem Sq.aq (k:Sq h0 h b fb A s bg l v w M) (x:Ext No h h'):Sq h0 h' b fb A s bg l v w M:=⟨x.obj k.bn aO,k.fw.aq x,k.se.aq x,k.sd.aq x,k.nv,k.z,by have:=x.size;have:=k.x0;omega⟩
theorem qz.aq (k:qz h0 h b s bg l O) (x:Ext No h h'):qz h0 h' b s bg l O:=by
 obtain ⟨fb,A,v,w,M,k,e⟩:=k
 exact ⟨fb,A,v,w,M,k.aq x,e⟩
theorem Sq.Lw (k:Sq h0 h b fb A s bg l v w M) (x:Ext (fun q=>q=fb) h h') (kf:Fw h' fb bg v l):Sq h0 h' b fb A s bg l v w M :=
 have hb:=k.fw.bn
 ⟨x.obj k.bn (fun e=>k.vO e),kf,k.se.xm x (fun q e=>k.HU q ((k.z q).2 (.inr (.inl e)))),k.sd.ext x (fun q hq e=>(k.sd.off hb (by decide) (by decide)).1 (e▸hq)) (fun y hy q hq e=>(k.sd.off hb (by decide) (by decide)).2 y hy (e▸hq)),k.nv,k.z,by have:=x.size;have:=k.x0;omega⟩
theorem vP (k:Sq h0 h b fb A s bg l v w M) (ho:s.ov=false) (hp:Part (if bg=true then 1 else 0) l) (hm:l.length≤1000000) :
   ag Tryz.prog 26 ⟨[.pointer (some ⟨b,0,none⟩)]⟩ h fun u h'=>u=.tuple ⟨[.agg ⟨Gm⟩,.bool false]⟩∧Sq h0 h' b fb A s bg l v w M∧Ext (sE h0) h h':=by
 have hs:=k.bn
 rw [ho] at hs
 have hfl:=k.lo fb ((k.z fb).2 (.inr (.inl rfl)))
 have kr:=fun (g:ah) (hb:g[b]?=some (.cells ⟨lQ w (.pointer (some ⟨fb,0,none⟩)) (.pointer (some ⟨A.bs,0,none⟩)) (.slice none 0 0) (In 0) bg false⟩ 96 (0,0)))=>dV hb
 have kn:=fun (g:ah) (k:Fw g fb bg v l)=>qw k _ rfl hp hm
 have lf:=ai k.fw.bn
 have x0:=k.x0
 refine calls [(0,_)] Tryz.func26 rfl Tryz.ntmps26 rfl ⟨rfl,trivial⟩ ?_
 refine WC.sr ?_;refine WL.aj (an (fun w=>Tryz.zeroValue42 w)) rfl rfl rfl ?_
 rintro _ h1 ⟨b1,rfl,bR,aR,az⟩
 have fS:=az.obj hs aO
 have k1:=k.aq az
 refine Go ?_;refine G3 ?_;refine WL.call (vs:=[_]) rfl Tryz.call51 rfl (kr _ fS) rfl rfl rfl ?_
 rintro _ hq ⟨rfl,hz⟩
 replace hz:=hz.symm
 subst hz
 refine Go ?_
 refine bK 11 ?_ TT.mk
 refine Gg ?_;refine WL.step (ae rfl) rfl rfl rfl ?_;refine Gg ?_;refine WL.ld rfl (by first | exact aa fS rfl | assumption) rfl rfl rfl (Go ?_)
 refine Gs [(0,_),(2,_),(16,_)] ?_
 refine aH 1 2 ?_ TT.mk
 all_goals (refine aw 2 ?_)
 refine WC.skip ?_;refine Gn ?_;refine G2 ?_;refine WL.step (ae rfl) rfl rfl rfl (Go ?_);refine WL.ld rfl (by first | exact aa fS rfl | assumption) rfl rfl rfl ?_
 refine WL.call (vs:=[_]) rfl Tryz.call53 rfl (kn _ k1.fw) rfl rfl rfl ?_
 rintro _ h2 ⟨rfl,Be,aI⟩
 have k2:=k1.Lw aI Be
 have bT:=aI.obj aR (fun e=>by omega)
 refine Go ?_;refine WL.aj (an (fun w=>Tryz.zeroValue53 w)) rfl rfl rfl ?_
 rintro _ h3 ⟨b4,rfl,oE,bC,aQ⟩
 refine WL.ax (al Tryz.sizeOf53 rfl rfl rfl bC rfl (by simp [Value.oneCell'])) rfl rfl ?_
 rintro _ h4 ⟨gh,aW⟩
 have sZ:Ext No h2 h4:=aQ.trans' aW (fun q hq e=>by omega)
 have k4:=k2.aq sZ
 have bJ:=sZ.obj bT aO
 have X4:Ext (sE h0) h h4:=(az.mono fun _ _ e=>e.elim).trans ((aI.mono fun _ _ e=>by subst e;exact hfl).trans (sZ.mono fun _ _ e=>e.elim))
 refine Go ?_;refine Gs [(0,_),(2,_),(4,_),(5,_),(6,_)] ?_;refine WC.seq ?_;refine WC.block ?_;refine G2 ?_
 refine aH 3 4 ?_ TT.mk
 all_goals (refine aw 4 ?_)
 refine G2 ?_;refine Gs [(0,_),(2,_),(4,_),(34,_)] ?_
 refine aH 5 6 ?_ TT.mk
 all_goals (refine aw 5 ?_)
 refine WC.sr ?_;refine WL.step (aF (vs:=[]) (cs:=[_,_,_,_,_,_,_,_,_,_]) (fun | []=>[(.int .u8 0),(.int .u8 0),(St []),(St []),(St []),(.slice none 0 0),(.slice none 0 0),(.slice none 0 0),(.slice none 0 0),(.int .i64 0)] | _=>[]) rfl rfl (by kernel_rfl)) rfl rfl rfl ?_
 refine WL.ax (al Tryz.sizeOf42 rfl rfl rfl bJ rfl (by simp [Value.oneCell'])) rfl rfl ?_
 rintro _ h5 ⟨bV,aM⟩
 have X5:Ext (fun q=>q=fb) h h5:=(((az.mono fun _ _ e=>e.elim).trans aI).trans (sZ.mono fun _ _ e=>e.elim)).trans' aM (fun q hq e=>by omega)
 have HS:=k4.fw.ext aM (fun e=>by omega) (fun q hq e=>bQ k4.fw.own bJ (by decide) (e▸hq))
 refine Go ?_;refine Gs [(2,_),(3,_)] ?_;refine WC.ret ?_
 repeat' (with_reducible first | refine aZ ?_ | refine aV ?_)
 refine cV _ _ ⟨⟨_,rfl,bA Tryz.isAgg42 Tryz.sizeOf42 (by assumption) rfl⟩,rfl,trivial⟩ ?_
 exact ⟨rfl,k.Lw X5 HS,X5.mono fun q _ e=>by subst e;exact hfl⟩
theorem xn (k:qz h0 h b s bg l O) (ho:s.ov=false) (hp:Part (if bg=true then 1 else 0) l) (hm:l.length≤1000000) :
   ag Tryz.prog 26 ⟨[.pointer (some ⟨b,0,none⟩)]⟩ h fun u h'=>u=.tuple ⟨[.agg ⟨Gm⟩,.bool false]⟩∧qz h0 h' b s bg l O∧Ext (sE h0) h h':=by
 obtain ⟨fb,A,v,w,M,k,e⟩:=k
 exact (vP k ho hp hm).mono fun u h' ⟨a,k,x⟩=>⟨a,⟨fb,A,v,w,M,k,e⟩,x⟩
theorem xo (k:qz h0 h b s bg l O) (ho:s.ov=true) :
   ag Tryz.prog 26 ⟨[.pointer (some ⟨b,0,none⟩)]⟩ h fun u h'=>u=.tuple ⟨[.agg ⟨Gm⟩,.bool false]⟩∧qz h0 h' b s bg l O∧Ext No h h':=by
 have k0:=k
 obtain ⟨fb,A,v,w,M,k,e⟩:=k
 have hs:=k.bn
 rw [ho] at hs
 have kr:=fun (g:ah) (hb:g[b]?=some (.cells ⟨lQ w (.pointer (some ⟨fb,0,none⟩)) (.pointer (some ⟨A.bs,0,none⟩)) (.slice none 0 0) (In 0) bg true⟩ 96 (0,0)))=>dV hb
 refine calls [(0,_)] Tryz.func26 rfl Tryz.ntmps26 rfl ⟨rfl,trivial⟩ ?_
 refine WC.sr ?_;refine WL.aj (an (fun w=>Tryz.zeroValue42 w)) rfl rfl rfl ?_
 rintro _ h1 ⟨b1,rfl,bR,aR,az⟩
 have fS:=az.obj hs aO
 refine Go ?_;refine G3 ?_;refine WL.call (vs:=[_]) rfl Tryz.call51 rfl (kr _ fS) rfl rfl rfl ?_
 rintro _ hq ⟨rfl,hz⟩
 replace hz:=hz.symm
 subst hz
 refine Go ?_
 refine bK 11 ?_ TT.mk
 refine Gg ?_;refine WL.step (ae rfl) rfl rfl rfl ?_;refine Gg ?_;refine WL.ld rfl (by first | exact aa fS rfl | assumption) rfl rfl rfl (Go ?_)
 refine Gs [(0,_),(2,_),(16,_)] ?_
 refine aH 1 2 ?_ TT.mk
 all_goals (refine aw 1 ?_)
 refine WC.sr ?_;refine WL.step (aF (vs:=[]) (cs:=[_,_,_,_,_,_,_,_,_,_]) (fun | []=>[(.int .u8 0),(.int .u8 0),(St []),(St []),(St []),(.slice none 0 0),(.slice none 0 0),(.slice none 0 0),(.slice none 0 0),(.int .i64 0)] | _=>[]) rfl rfl (by kernel_rfl)) rfl rfl rfl ?_
 refine WL.ax (al Tryz.sizeOf42 rfl rfl rfl aR rfl (by simp [Value.oneCell'])) rfl rfl ?_
 rintro _ h2 ⟨bH,aI⟩
 have X2:Ext No h h2:=az.trans' aI (fun q hq e=>by omega)
 refine Go ?_;refine WC.ret ?_
 repeat' (with_reducible first | refine aZ ?_ | refine aV ?_)
 refine cV _ _ ⟨⟨_,rfl,bA Tryz.isAgg42 Tryz.sizeOf42 (by assumption) rfl⟩,rfl,trivial⟩ ?_
 exact ⟨rfl,k0.aq X2,X2⟩
theorem xp {x:Value} (k:qz h0 h b s bg l O) (ho:s.ov=true) (hx:∃ A n c,x=.slice A n c) :
   ag Tryz.prog 25 ⟨[.pointer (some ⟨b,0,none⟩),x]⟩ h fun _ h'=>qz h0 h' b s bg l O∧h'=h:=by
 have k0:=k
 obtain ⟨fb,A,v,w,M,k,e⟩:=k
 have hs:=k.bn
 rw [ho] at hs
 have kr:=dV hs
 obtain ⟨B,n,c,rfl⟩:=hx
 refine calls [(0,_),(1,_)] Tryz.func25 rfl Tryz.ntmps25 rfl ⟨rfl,rfl,trivial⟩ ?_
 refine G2 ?_;refine WC.seq ?_;refine WC.block ?_;refine G2 ?_;refine WL.call (vs:=[_]) rfl Tryz.call51 rfl (kr) rfl rfl rfl ?_
 rintro _ hq ⟨rfl,hz⟩
 replace hz:=hz.symm
 subst hz
 refine Go ?_;refine Gs [(0,_),(1,_),(5,_)] ?_
 refine aH 1 2 ?_ TT.mk
 all_goals (refine aw 2 ?_)
 refine G2 ?_;refine WL.step (ae rfl) rfl rfl rfl (Go ?_);refine WL.ld rfl (by first | exact aa hs rfl | assumption) rfl rfl rfl (Go ?_)
 refine Gs [(0,_),(1,_),(9,_)] ?_
 refine aH 3 4 ?_ TT.mk
 all_goals (refine aw 3 ?_)
 refine G2 ?_;refine Gt ?_
 exact ⟨k0,rfl⟩
theorem vQ {x:Value} {m:List UInt8} (k:Sq h0 h b fb A s bg l v w M) (ho:s.ov=false) (hr:Rd h x 1 m.length (bB m)) (hl:l.length+m.length≤262144) :
   ag Tryz.prog 25 ⟨[.pointer (some ⟨b,0,none⟩),x]⟩ h fun _ h'=>(∃ A' v',Sq h0 h' b fb A' s bg (l++m) v' w M)∧Ext (sE h0) h h':=by
 have hs:=k.bn
 rw [ho] at hs
 refine (vq hs k.fw hr hl).mono fun u h' ⟨_,v',kf,hx,hv⟩=>?_
 have hz:∀ q,(q=fb∨v.ownBlock=some q)→A.z q:=fun q e=>(k.z q).2 (e.elim (fun e=>.inr (.inl e)) (fun e=>.inr (.inr (.inl e))))
 have hfb:=k.fw.bn
 have hwb:∀ q,w.ownBlock=some q→¬ (q=fb∨v.ownBlock=some q):=fun q hq e=>e.elim (fun e=>(k.sd.off hfb (by decide) (by decide)).1 (e▸hq)) (fun e=>by obtain ⟨_,a1⟩:=bN k.sd.row hq;obtain ⟨_,a2⟩:=bN k.fw.own e;rw [a1] at a2;simp at a2)
 have hmb:∀ y∈M,∀ q,y.2.1.ownBlock=some q→¬ (q=fb∨v.ownBlock=some q):=fun y hy q hq e=>e.elim (fun e=>(k.sd.off hfb (by decide) (by decide)).2 y hy (e▸hq)) (k.nv y hy q hq)
 have s1:=hx.size
 have lb:=ai k.bn
 have lf:=ai hfb
 refine ⟨⟨{ A with z:=fun q=>q=b∨q=fb∨v'.ownBlock=some q∨w.ownBlock=some q },v',⟨hx.obj k.bn (fun e=>e.elim k.vO (bQ k.fw.own k.bn (by decide))),kf,k.se.FN hx (fun q e=>k.HU q (hz q e)) (fun q hq=>?_) k.x0,k.sd.ext hx hwb hmb,fun y hy q hq e=>(hv q e).elim (k.nv y hy q hq) (fun z=>by have:=k.sd.lt.2 y hy q hq;omega),fun q=>Iff.rfl,by have:=k.x0;omega⟩⟩,hx.mono fun q _ e=>k.lo q (hz q e)⟩
 rcases hq with hq | hq | hq | hq
 · exact ⟨.inl ((k.z q).2 (.inl hq)),by omega⟩
 · exact ⟨.inl ((k.z q).2 (.inr (.inl hq))),by omega⟩
 · exact ⟨(hv q hq).imp (fun z=>(k.z q).2 (.inr (.inr (.inl z)))) id,kf.own.lt hq⟩
 · exact ⟨.inl ((k.z q).2 (.inr (.inr (.inr hq)))),by have:=k.sd.lt.1 q hq;omega⟩
theorem FO {x:Value} {m:List UInt8} (k:qz h0 h b s bg l O) (ho:s.ov=false) (hr:Rd h x 1 m.length (bB m)) (hl:l.length+m.length≤262144) :
   ag Tryz.prog 25 ⟨[.pointer (some ⟨b,0,none⟩),x]⟩ h fun _ h'=>qz h0 h' b s bg (l++m) O∧Ext (sE h0) h h':=by
 obtain ⟨fb,A,v,w,M,k,e⟩:=k
 exact (vQ k ho hr hl).mono fun u h' ⟨⟨A',v',k⟩,x⟩=>⟨⟨fb,A',v',w,M,k,e⟩,x⟩
end
structure Fm.vR (b:Fm):Prop where
 oids:b.oids.length≤50
 formats:b.formats.length≤50
 results:b.results.length≤50
 params:b.params.length≤50
 cells:∀ c∈b.params,c.bytes.length≤300
 name:b.name.length≤300
 portal:b.portal.length≤300
 text:b.text.length≤1000
theorem Nc {h h0:ah} (c:aX) (hk:c.ok h0):ag Tryz.prog 47 ⟨[.agg ⟨c.cells⟩]⟩ h fun u h'=>u=.bool (decide (300 < c.bytes.length))∧Ext No h h':=by
 obtain ⟨nl,v,bs⟩:=c
 obtain ⟨A,cc,e,_⟩:=hk.1
 simp only at e
 subst e
 dsimp only [aX.cells]
 refine calls [(0,_)] Tryz.func47 rfl Tryz.ntmps47 rfl ⟨rfl,trivial⟩ ?_
 refine WC.sr ?_;refine WL.aj (aG rfl) rfl rfl rfl ?_
 rintro _ h1 ⟨b1,rfl,bR,aR,az⟩
 refine Go ?_;refine G2 ?_;refine Ld ?_;refine Go ?_;refine Gs [(2,_)] ?_;refine Gt ?_
 exact ⟨congrArg Value.bool (decide_eq_decide.2 (by omega)),az⟩
def nz (b:Fm):Bool:=decide ((b.oids.length≤50∧b.formats.length≤50∧b.results.length≤50∧b.params.length≤50)∧(b.params.any fun c=>decide (300 < c.bytes.length))=false∧b.name.length≤300∧b.portal.length≤300∧b.text.length≤1000)
theorem uI {b:Fm} (h:nz b=true):b.vR:=by
 obtain ⟨⟨h1,h2,h3,h4⟩,h5,h6,h7,h8⟩:=of_decide_eq_true h
 exact ⟨h1,h2,h3,h4,fun c hc=>by simpa using List.any_eq_false.1 h5 c hc,h6,h7,h8⟩
theorem qB {h:ah} (b:Fm) (hb:b.ok h):ag Tryz.prog 22 ⟨[.agg ⟨b.cells⟩]⟩ h fun u h'=>u=.bool (nz b)∧Ext No h h':=by
 obtain ⟨⟨ho,_⟩,⟨hf,_⟩,⟨hs,_⟩,hr⟩:=hb
 obtain ⟨k,w,n,p,t,vo,lo,vf,lf,vs,ls,vp,lp,mx⟩:=b
 dsimp only at ho hf hs hr
 obtain ⟨Lx,qO,qN⟩:=hr
 have hrm:lp.length≤maxLen:=by have:=qO.1;unfold reachBytes at this;unfold maxLen;omega
 obtain ⟨Ao,co,rfl,_⟩:=id ho
 obtain ⟨Af,cf,rfl,_⟩:=id hf
 obtain ⟨As,cs,rfl,_⟩:=id hs
 obtain ⟨Ap,cp,rfl,_⟩:=id Lx
 dsimp only [Fm.cells]
 refine calls [(0,_)] Tryz.func22 rfl Tryz.ntmps22 rfl ⟨rfl,trivial⟩ ?_
 refine WC.sr ?_;refine WL.aj (aG rfl) rfl rfl rfl ?_
 rintro _ g1 ⟨b1,rfl,bR,aR,HV⟩
 refine Go ?_;refine G3 ?_;refine Ld ?_;refine Go ?_
 refine bK 7 (Hb.mk fun hb=>?_) (Hb.mk fun hb=>?_)
 all_goals (refine Gg ?_;first | refine WL.pass rfl rfl rfl ?_ | refine Ld ?_)
 all_goals (refine Gg ?_;refine Go ?_;first | refine bK 13 ?_ TT.mk | (refine bK 13 (Hb.mk fun hb=>?_) (Hb.mk fun hb=>?_)))
 all_goals (refine Gg ?_;first | refine WL.pass rfl rfl rfl ?_ | refine Ld ?_)
 all_goals (refine Gg ?_;refine Go ?_;first | refine bK 19 ?_ TT.mk | (refine bK 19 (Hb.mk fun hb=>?_) (Hb.mk fun hb=>?_)))
 all_goals (refine Gg ?_;first | refine WL.pass rfl rfl rfl ?_ | refine Ld ?_)
 all_goals (refine Gg ?_;refine Go ?_;refine Gs [(1,_),(24,_)] ?_;first | refine aH 1 2 ?_ TT.mk | (refine aH 1 2 (Hb.mk fun hb=>?_) (Hb.mk fun hb=>?_)))
 all_goals try (
 refine aw 1 ?_
 all_goals (refine G2 ?_;refine Gt ?_)
 all_goals (
  first
   | (refine ⟨congrArg Value.bool (decide_eq_false fun z=>?_).symm,?_⟩
      · obtain ⟨⟨z1,z2,z3,z4⟩,z5,z6,z7,z8⟩:=z
        dsimp only at z1 z2 z3 z4 z5 z6 z7 z8
        first | omega | (rw [GD] at z5;cases z5)
      · first | exact hY | exact HV)
   | (refine ⟨congrArg Value.bool (decide_eq_decide.2 ⟨fun z=>⟨⟨?_,?_,?_,?_⟩,GD,?_,?_,?_⟩,fun z=>?_⟩),hY⟩
      all_goals first | (obtain ⟨⟨z1,z2,z3,z4⟩,z5,z6,z7,z8⟩:=z;dsimp only at z1 z2 z3 z4 z6 z7 z8;omega) | (show _≤_;(try dsimp only);omega)))
 skip)
 all_goals (refine aw 2 ?_)
 refine WC.skip ?_;refine Gn ?_;refine G3 ?_;refine WL.ld rfl (by first | exact aa aR rfl | assumption) rfl rfl rfl ?_
 refine WL.call (vs:=[_,_]) rfl Tryz.call46 rfl (vu lp (fun c=>decide (300 < c.bytes.length)) Tryz.call47 (fs:=[]) (us:=[]) (Lx.aq HV) hrm (fun x hx h' hx'=>Nc x (qN x hx))) rfl rfl rfl ?_
 rintro _ g2 ⟨rfl,aI⟩
 have bH:=aI.obj aR aO
 have hY:=HV.trans aI
 cases GD:lp.any fun c=>decide (300 < c.bytes.length)
 all_goals (refine Gn ?_;refine aH 3 4 ?_ TT.mk)
 all_goals try (
 refine aw 3 ?_
 refine G2 ?_;refine Gs [(2,_)] ?_;refine Gt ?_
 first
  | (refine ⟨congrArg Value.bool (decide_eq_false fun z=>?_).symm,?_⟩
     · obtain ⟨⟨z1,z2,z3,z4⟩,z5,z6,z7,z8⟩:=z
       dsimp only at z1 z2 z3 z4 z5 z6 z7 z8
       first | omega | (rw [GD] at z5;cases z5)
     · first | exact hY | exact HV)
  | (refine ⟨congrArg Value.bool (decide_eq_decide.2 ⟨fun z=>⟨⟨?_,?_,?_,?_⟩,GD,?_,?_,?_⟩,fun z=>?_⟩),hY⟩
     all_goals first | (obtain ⟨⟨z1,z2,z3,z4⟩,z5,z6,z7,z8⟩:=z;dsimp only at z1 z2 z3 z4 z6 z7 z8;omega) | (show _≤_;(try dsimp only);omega))
 skip)
 all_goals (refine aw 4 ?_)
 refine WC.skip ?_;refine Gn ?_;refine Gs [(1,_)] ?_;refine G2 ?_;refine WL.ld rfl (by first | exact aa bH rfl | assumption) rfl rfl rfl (Go ?_)
 refine bK 32 (Hb.mk fun hb=>?_) (Hb.mk fun hb=>?_)
 all_goals (refine Gg ?_;first | refine WL.pass rfl rfl rfl ?_ | (refine WL.ld rfl (by first | exact aa bH rfl | assumption) rfl rfl rfl ?_))
 all_goals (refine Gg ?_;refine Go ?_;first | refine bK 38 ?_ TT.mk | (refine bK 38 (Hb.mk fun hb=>?_) (Hb.mk fun hb=>?_)))
 all_goals (refine Gg ?_;first | refine WL.pass rfl rfl rfl ?_ | (refine WL.ld rfl (by first | exact aa bH rfl | assumption) rfl rfl rfl ?_))
 all_goals (refine Gg ?_;refine Go ?_;refine Gs [(2,_)] ?_;refine Gt ?_)
 all_goals (
  first
   | (refine ⟨congrArg Value.bool (decide_eq_false fun z=>?_).symm,?_⟩
      · obtain ⟨⟨z1,z2,z3,z4⟩,z5,z6,z7,z8⟩:=z
        dsimp only at z1 z2 z3 z4 z5 z6 z7 z8
        first | omega | (rw [GD] at z5;cases z5)
      · first | exact hY | exact HV)
   | (refine ⟨congrArg Value.bool (decide_eq_decide.2 ⟨fun z=>⟨⟨?_,?_,?_,?_⟩,GD,?_,?_,?_⟩,fun z=>?_⟩),hY⟩
      all_goals first | (obtain ⟨⟨z1,z2,z3,z4⟩,z5,z6,z7,z8⟩:=z;dsimp only at z1 z2 z3 z4 z6 z7 z8;omega) | (show _≤_;(try dsimp only);omega)))
theorem Kt {h h0:ah} (f:Fm) (hf:f.ok h0) (x:Ext No h0 h):ag Tryz.prog 21 ⟨[.agg ⟨f.cells⟩]⟩ h fun u h'=>u=.bool (!nz f)∧Ext No h h':=by
 have kp:=fun h' (y:Ext No h h')=>qB f ((hf.aq x).aq y)
 obtain ⟨⟨e1,_⟩,⟨e2,_⟩,⟨e3,_⟩,e4,_⟩:=hf
 obtain ⟨fk,w,n,p,t,vo,o,vf,fs,vs,rs,vp,ps,mx⟩:=f
 dsimp only at e1 e2 e3 e4
 obtain ⟨_,_,rfl,_⟩:=e1
 obtain ⟨_,_,rfl,_⟩:=e2
 obtain ⟨_,_,rfl,_⟩:=e3
 obtain ⟨_,_,rfl,_⟩:=e4
 dsimp only [Fm.cells] at kp ⊢
 refine calls [(0,_)] Tryz.func21 rfl Tryz.ntmps21 rfl ⟨rfl,trivial⟩ ?_
 refine WC.sr ?_;refine WL.aj (aG rfl) rfl rfl rfl ?_
 rintro _ h1 ⟨b1,rfl,bR,aR,az⟩
 refine Go ?_;refine WC.sr ?_;refine WL.step (ay Tryz.isAgg42 Tryz.sizeOf42 rfl rfl (by exact At.av aR)) rfl rfl rfl ?_
 refine WL.call (vs:=[_]) rfl Tryz.call22 rfl (kp _ az) rfl rfl rfl ?_
 rintro _ h2 ⟨rfl,aI⟩
 refine Go ?_;refine Gs [(2,_)] ?_;refine Gt ?_
 exact ⟨rfl,az.trans aI⟩
theorem qC {h:ah} {v:Value} (l:List Fm) (p:Fm→Bool) {fk:Nat} {fs us:List Value} (hcf:∀ (args:Array Value) (w:World),(callFunc fk args).run Tryz.prog w=.ok (.enter fk args) w) (hr:Rd h v 10 l.length (l.flatMap Fm.cells)) (hm:l.length≤maxLen)
   (hp:∀ x∈l,∀ h',Ext No h h'→ag Tryz.prog fk ⟨fs++[.agg ⟨Fm.cells x⟩]++us⟩ h' fun u h''=>u=.bool (p x)∧Ext No h' h'') :
   ag Tryz.prog 45 ⟨[v,.func (.func fk) ⟨fs⟩ ⟨us⟩]⟩ h fun u h'=>u=In (jB p l)∧Ext No h h':=by
 obtain ⟨A,c,rfl,_⟩:=id hr
 unfold maxLen at hm
 refine calls [(0,_),(1,_)] Tryz.func45 rfl Tryz.ntmps45 rfl ⟨rfl,rfl,trivial⟩ ?_
 refine G2 ?_;refine G3 ?_;refine WC.block ?_;refine WC.bD (X:=Nat) (fun x=>([(8,In (x:Int))]:Fr)) [(0,_),(1,_),(7,_)] (fun k h'=>Ext No h h'∧k≤l.length∧∀ x∈l.take k,p x=false) (fun k=>l.length - k) (0) ⟨rfl,rfl,rfl,rfl,trivial⟩ (by exact ⟨.refl _ _,Nat.zero_le _,by simp⟩) ?_
 rintro k h1 ⟨az,hk,hn⟩
 refine WC.sub [(8,_),(0,_),(1,_),(7,_)] ⟨rfl,rfl,rfl,rfl,trivial⟩ ?_;refine G2 ?_;refine WC.seq ?_
 refine aH 1 2 (Hb.mk fun hb=>?_) (Hb.mk fun hb=>?_)
 all_goals try (
 refine aw 1 ?_
 refine WC.skip ?_
 skip)
 all_goals try (
 refine aw 2 ?_
 refine WC.exit ?_
 repeat' (with_reducible first | refine aU ?_ | refine aD rfl ?_ | refine aJ ?_ | refine aL ?_ | refine aS ?_)
 refine Br.out (i:=1000) ?_
 skip)
 all_goals (refine Gn ?_;first | refine Br.ab ?_ | refine WC.seq ?_)
 all_goals (first | refine Br.ab ?_ | refine WC.block ?_)
 all_goals (first | refine Br.ab ?_ | refine WC.sr ?_)
 all_goals (refine Go ?_;first | refine Br.ab ?_ | refine WC.sr ?_)
 all_goals (first | refine Br.ab ?_ | refine WL.step (ak rfl) rfl rfl rfl ?_)
 all_goals (first | refine Br.ab ?_ | refine WL.step (ak rfl) rfl rfl rfl ?_)
 all_goals (
  first
    | (refine Br.ab ?_)
    | (obtain ⟨b,o,hA,hbL,hat⟩:=Rd.at_ (hr.aq az) (by omega)
       obtain ⟨y,hy⟩:∃ y,l[k]?=some y:=⟨_,List.getElem?_eq_getElem (by omega)⟩
       have hc:At h1 b (o+k * 10) (Fm.cells y):=At.elem Fm.len hat hy))
 all_goals (first | refine Br.ab ?_ | refine WL.step (ak rfl) rfl rfl rfl ?_)
 all_goals (first | refine Br.ab ?_ | (refine WL.step (aE Tryz.underlying22 Tryz.sizeOf42 rfl rfl rfl (by omega) (by first | rfl | assumption)) rfl rfl rfl ?_))
 all_goals (first | refine Br.ab ?_ | (refine WL.step (ay Tryz.isAgg42 Tryz.sizeOf42 rfl rfl (by assumption)) rfl rfl rfl ?_))
 all_goals (
  first
    | (refine Br.ab ?_)
    | (refine WL.fA (vs:=[_]) rfl rfl hcf rfl (hp y (List.mem_of_getElem? hy) h1 az) rfl rfl rfl ?_
       rintro _ h2 ⟨rfl,aI⟩))
 all_goals (first | refine Br.ab ?_ | cases hpy:p y)
 all_goals (refine Gn ?_;first | refine Br.ab ?_ | refine Gs [(0,_),(1,_),(5,_),(7,_),(8,_),(16,_)] ?_)
 all_goals (first | refine Br.ab ?_ | refine aH 3 4 ?_ TT.mk)
 all_goals try (
 refine aw 3 ?_
 refine G2 ?_;refine Gs [(4,_)] ?_;refine Gt ?_
 first | exact ⟨by rw [dg (by rw [List.take_of_length_le (by omega)] at hn;exact hn)],az⟩ | exact ⟨by rw [de hy hpy hn],az.trans aI⟩
 skip)
 all_goals try (
 refine aw 4 ?_
 refine WC.skip ?_
 skip)
 all_goals (refine Gn ?_;first | refine Br.ab ?_ | refine WC.region ?_)
 all_goals (refine Go ?_;first | refine Br.ab ?_ | (exact ⟨k+1,⟨rfl,rfl,rfl,rfl,trivial⟩,(by exact ⟨az.trans aI,by omega,dh hn hy hpy⟩),(by omega)⟩))
 try (refine Br.mk (i:=1000) ?_)
 refine Gn ?_;refine Gs [] ?_;refine G2 ?_;refine Gt ?_
 first | exact ⟨by rw [dg (by rw [List.take_of_length_le (by omega)] at hn;exact hn)],az⟩ | exact ⟨by rw [de hy hpy hn],az.trans aI⟩
theorem FP {h:ah} {v:Value} (l:List Fm) (p:Fm→Bool) {fk:Nat} {fs us:List Value} (hcf:∀ (args:Array Value) (w:World),(callFunc fk args).run Tryz.prog w=.ok (.enter fk args) w) (hr:Rd h v 10 l.length (l.flatMap Fm.cells)) (hm:l.length≤maxLen)
   (hp:∀ x∈l,∀ h',Ext No h h'→ag Tryz.prog fk ⟨fs++[.agg ⟨Fm.cells x⟩]++us⟩ h' fun u h''=>u=.bool (p x)∧Ext No h' h'') :
   ag Tryz.prog 20 ⟨[v,.func (.func fk) ⟨fs⟩ ⟨us⟩]⟩ h fun u h'=>u=.bool (l.any p)∧Ext No h h':=by
 refine calls [(0,_),(1,_)] Tryz.func20 rfl Tryz.ntmps20 rfl ⟨rfl,rfl,trivial⟩ ?_
 refine G2 ?_;refine G2 ?_;refine WL.call (vs:=[_,_]) rfl Tryz.call45 rfl (qC l p hcf hr hm hp) rfl rfl rfl ?_
 rintro _ h1 ⟨rfl,az⟩
 refine WL.step (dv rfl rfl) rfl rfl rfl (Go ?_);refine Gs [(4,_)] ?_;refine Gt ?_
 exact ⟨by rw [dT],az⟩
theorem qD {h:ah} {v:Value} (L:List Fm) (k:EF h v L) (many:Int):ag Tryz.prog 6 ⟨[v,In many]⟩ h fun u h'=>(∃ x,u=.bool x∧(x=true→(L.length:Int)≤many∧∀ f∈L,f.vR))∧Ext No h h':=by
 obtain ⟨hr,hl,ok⟩:=k
 have kh:=FP L (fun f => !nz f) Tryz.call21 (fs:=[]) (us:=[]) hr hl (fun x hx h' hx'=>Kt x (ok x hx) hx')
 obtain ⟨A,c,rfl,_⟩:=id hr
 unfold maxLen at hl
 refine calls [(0,_),(1,_)] Tryz.func6 rfl Tryz.ntmps6 rfl ⟨rfl,rfl,trivial⟩ ?_
 refine G2 ?_;refine G2 ?_
 refine bK 9 (Hb.mk fun hb=>?_) (Hb.mk fun hb=>?_)
 all_goals (refine Gg ?_)
 all_goals (
  first
    | (refine WL.pass rfl rfl rfl ?_)
    | (refine WL.call (vs:=[_,_]) rfl Tryz.call20 rfl (kh) rfl rfl rfl ?_
       rintro _ h2 ⟨rfl,aI⟩))
 all_goals (refine Gg ?_;refine Go ?_;refine Gs [(4,_)] ?_;refine Gt ?_)
 all_goals (
  first
   | (refine ⟨⟨_,rfl,fun z=>?_⟩,aI⟩
      refine ⟨by omega,fun f hf=>uI ?_⟩
      have z2:(L.any fun f => !nz f)=false:=by simpa using z
      simpa using List.any_eq_false.1 z2 f hf)
   | exact ⟨⟨false,rfl,fun z=>by cases z⟩,.refl _ _⟩)
theorem FQ {n:Int} (h : -32768≤n∧n≤65535):Rt n 2:=by
 unfold Rt
 rw [show (256:Int) ^ 2=65536 from rfl]
 omega
theorem vS {n:Int} (h : -2147483648≤n∧n≤4294967295):Rt n 4:=by
 unfold Rt
 rw [show (256:Int) ^ 4=4294967296 from rfl]
 omega
theorem CP:Sz 2:=.inr (.inl rfl)
theorem CQ:Sz 4:=.inr (.inr rfl)
theorem pc {α:Type} {f:α→List UInt8} {n:Nat} (l:List α) (h:∀ x∈l,(f x).length≤n):(l.flatMap f).length≤l.length * n:=by
 induction l with
 | nil=>simp
 | cons a l ih =>
   have h1:=ih (fun x hx=>h x (by simp [hx]))
   have h2:=h a (by simp)
   simp only [List.flatMap_cons,List.length_append,List.length_cons,Nat.add_mul,Nat.one_mul]
   omega
theorem nA {α:Type} {f:α→List UInt8} {n:Nat} (l:List α) (k:Nat) (h:∀ x∈l,(f x).length≤n):((l.take k).flatMap f).length≤l.length * n :=
 Nat.le_trans (pc _ fun x hx=>h x (List.mem_of_mem_take hx)) (Nat.mul_le_mul_right n (by rw [List.length_take];omega))
theorem jJ {α:Type} {f:α→List UInt8} {l:List α} {k:Nat} {y:α} (hy:l[k]?=some y):(l.take (k+1)).flatMap f=(l.take k).flatMap f++f y:=by
 rw [List.take_add_one,hy,List.flatMap_append]
 simp
def cD (c:aX):List UInt8:=if c.null then be 4294967295 4 else be c.bytes.length 4++c.bytes
theorem sF {c:aX} (h:c.bytes.length≤1000):(cD c).length≤1100:=by unfold cD;split <;> simp [bm] <;> omega
def uJ (h:ah) (v:Value) (h':ah) (v':Value):Prop:=Ext (fun q=>v.ownBlock=some q) h h'∧∀ q,v'.ownBlock=some q→v.ownBlock=some q∨h.size≤q
theorem uJ.fresh {g h h':ah} {v v':Value} (a:uJ h v h' v') (x:Ext No g h) (f:∀ q,v.ownBlock=some q→g.size≤q):Ext No g h'∧∀ q,v'.ownBlock=some q→g.size≤q :=
 ⟨x.trans' a.1 (fun q hq e=>by have:=f q e;omega),fun q e=>(a.2 q e).elim (f q) (fun z=>by have:=x.size;omega)⟩
theorem Ai {h:ah} {v:Value} (l s:List UInt8) (hv:Own h v 5 1 l.length (bB l)) (hl:l.length+s.length≤1000000000) :
   ag Tryz.prog 65 ⟨[v,St s]⟩ h fun u h'=>Own h' u 5 1 (l++s++[0]).length (bB (l++s++[0]))∧uJ h v h' u:=by
 obtain ⟨A0,c0,rfl,_⟩:=id hv.slice
 refine calls [(0,_),(1,_)] Tryz.func65 rfl Tryz.ntmps65 rfl ⟨rfl,rfl,trivial⟩ ?_
 refine G2 ?_;refine G2 ?_;refine WL.aj (fV rfl Tryz.underlying23 Tryz.underlying9 (show Tryz.prog.info? 5=some Tryz.t5 by kernel_rfl) rfl rfl rfl rfl rfl hv (by omega)) rfl rfl rfl ?_
 rintro v1 h1 ⟨jM,az,Gk,_⟩
 refine WL.aj (au (vs:=[_]) (cs:=[_]) (fun | [a0]=>[a0] | _=>[]) Tryz.underlying23 rfl rfl (by kernel_rfl)) rfl rfl rfl ?_
 rintro _ h2 ⟨b2,rfl,gb,bH,aI⟩
 refine WL.aj (aT (sz:=1) (bytes:=1) rfl Tryz.underlying23 (show Tryz.prog.info? 5=some Tryz.t5 by kernel_rfl) rfl rfl rfl rfl (by decide) rfl rfl (jM.ext aI (fun _ _=>aO)) (bx bH rfl) (by simp [Value.oneCell']) (by simp only [maxLen];omega) (by omega)) rfl rfl rfl ?_
 rintro v3 h3 ⟨dN,aQ,wx⟩
 refine Go ?_;refine Gs [(4,_)] ?_;refine Gt ?_
 have ik:∀ q,v1.ownBlock=some q→(Value.slice A0 l.length c0).ownBlock=some q∨h.size≤q:=Gk
 have s1:=az.size
 have s2:=aI.size
 refine ⟨?_,(az.trans (aI.mono fun _ _ e=>e.elim)).trans' aQ (fun q hq e=>(ik q e).elim id (fun z=>by omega)),fun q hq=>wx.elim (fun e=>ik q (e▸hq)) (fun e=>.inr (by rw [e] at hq;cases hq;omega))⟩
 rw [show (l++s++[(0:UInt8)]).length=l.length+s.length+1 by simp [Nat.add_assoc],show bB (l++s++[0])=bB l++bB s++[Value.int .u8 0] by simp only [bB,List.map_append,List.map_cons,List.map_nil];rfl]
 exact dN
theorem CR {h:ah} {v w:Value} (l:List UInt8) (L:List Int) (hv:Rd h v 1 l.length (bB l)) (hw:Rd h w 1 L.length (ints L)) (hl:l.length≤1000000) (hm:L.length≤100) {s:Nat} (hs:Sz s) (h4:s≤4) (hn:∀ n∈L,Rt n s) :
   ag Tryz.prog 64 ⟨[v,w,In s]⟩ h fun u h'=>Own h' u 5 1 (l++be L.length 2++L.flatMap fun n=>be n s).length (bB (l++be L.length 2++L.flatMap fun n=>be n s))∧Ext No h h'∧∀ q,u.ownBlock=some q→h.size≤q:=by
 obtain ⟨A0,c0,rfl,_⟩:=id hv
 obtain ⟨A,c,rfl,_⟩:=id hw
 have hfl:∀ j,((L.take j).flatMap fun n=>be n s).length≤1000:=fun j=>Nat.le_trans (nA (n:=s) L j fun x hx=>by rw [bm];exact Nat.le_refl _) (Nat.le_trans (Nat.mul_le_mul hm h4) (by decide))
 refine calls [(0,_),(1,_),(2,_)] Tryz.func64 rfl Tryz.ntmps64 rfl ⟨rfl,rfl,rfl,trivial⟩ ?_
 refine G2 ?_;refine G2 ?_;refine WL.call (vs:=[_,_,_]) rfl Tryz.call62 rfl (j6 l (L.length:Int) 2 CP (FQ (by omega)) hv (by omega)) rfl rfl rfl ?_
 rintro v1 h1 ⟨jM,az,ik⟩
 refine Go ?_;refine Gs [(0,_),(1,_),(2,_)] ?_;refine G3 ?_;refine WC.block ?_;refine WC.bD (X:=Nat × Value) (fun x=>([(7,In (x.1:Int)),(0,x.2)]:Fr)) [(1,_),(2,_)] (fun y h'=>y.1≤L.length∧Own h' y.2 5 1 (l++be (L.length:Int) 2++(L.take y.1).flatMap fun n=>be n s).length (bB (l++be (L.length:Int) 2++(L.take y.1).flatMap fun n=>be n s))∧Ext No h h'∧∀ q,y.2.ownBlock=some q→h.size≤q) (fun y=>L.length - y.1) ((0,v1)) ⟨rfl,rfl,rfl,rfl,trivial⟩ (by exact ⟨Nat.zero_le _,by simpa using jM,az,ik⟩) ?_
 rintro ⟨k,u⟩ h2 ⟨hk,dc,aI,eI⟩
 dsimp only at hk dc eI
 refine WC.sub [(0,_),(7,_),(1,_),(2,_)] ⟨rfl,rfl,rfl,rfl,trivial⟩ ?_
 dsimp only
 refine G3 ?_
 refine aH 1 2 (Hb.mk fun hb=>?_) (Hb.mk fun hb=>?_)
 all_goals try (
 refine aw 1 ?_
 refine WC.skip ?_
 skip)
 all_goals try (
 refine aw 2 ?_
 refine WC.exit ?_
 repeat' (with_reducible first | refine aU ?_ | refine aD rfl ?_ | refine aJ ?_ | refine aL ?_ | refine aS ?_)
 refine Br.out (i:=1000) ?_
 skip)
 all_goals (refine Gn ?_;first | refine Br.ab ?_ | refine Gs [(0,_),(1,_),(2,_),(7,_)] ?_)
 all_goals (first | refine Br.ab ?_ | refine WC.seq ?_)
 all_goals (first | refine Br.ab ?_ | refine WC.block ?_)
 all_goals (first | refine Br.ab ?_ | refine WC.region ?_)
 all_goals (
  first
    | (refine Br.ab ?_)
    | (obtain ⟨bL,oL,hA,hbL,hat⟩:=Rd.at_ (hw.aq aI) (by omega)
       obtain ⟨yy,hy⟩:∃ y,L[k]?=some y:=⟨_,List.getElem?_eq_getElem (by omega)⟩
       have hyo:=hn _ (List.mem_of_getElem? hy)
       have hcd:cell h2 ⟨bL,oL+k * 1,none⟩=some (In yy):=hat.get k (gS hy) (by omega)
       have hlj:=hfl k))
 all_goals (first | refine Br.ab ?_ | refine WL.step (ak rfl) rfl rfl rfl ?_)
 all_goals (refine Go ?_;first | refine Br.ab ?_ | (refine WL.step (aE Tryz.underlying39 Tryz.sizeOf3 rfl rfl rfl (by omega) (by first | rfl | assumption)) rfl rfl rfl ?_))
 all_goals (first | refine Br.ab ?_ | (refine WL.ld rfl (by first | exact hcd | assumption) rfl rfl rfl ?_))
 all_goals (refine Go ?_)
 all_goals (
  first
    | (refine Br.ab ?_)
    | (refine WL.call (vs:=[_,_,_]) rfl Tryz.call62 rfl (j6 _ yy s hs hyo dc.rd (by simp only [List.length_append,bm];omega)) rfl rfl rfl ?_
       rintro v3 h3 ⟨dN,aQ,gR⟩))
 all_goals (refine Go ?_;first | refine Br.ab ?_ | refine Gs [(0,_),(1,_),(2,_),(7,_)] ?_)
 all_goals (first | refine Br.ab ?_ | refine WC.region ?_)
 all_goals (refine Go ?_;first | refine Br.ab ?_ | (exact ⟨(k+1,_),⟨rfl,rfl,rfl,rfl,trivial⟩,(by exact ⟨by omega,by rw [jJ hy,← List.append_assoc];exact dN,aI.trans aQ,fun q e=>(by have:=gR q e;have:=aI.size;omega)⟩),(by simp;omega)⟩))
 try (refine Br.mk (i:=1000) ?_)
 refine Gn ?_;refine Gs [(0,_)] ?_;refine G2 ?_;refine Gt ?_
 rw [List.take_of_length_le (by omega)] at dc
 exact ⟨dc,aI,eI⟩
theorem Aj:be (-1) 4=be 4294967295 4:=by
 have h:∀ i,i < 4→bI (-1+256 ^ 4) i=bI (-1) i:=fun i hi=>ya hi
 exact (iS (m := -1+256 ^ 4) (n := -1) h (by decide) 4).symm
theorem FR {h:ah} {v vr:Value} (l:List UInt8) (R:List aX) (hv:Rd h v 1 l.length (bB l)) (hR:cE h vr R) (hl:l.length≤1000000) (hm:R.length≤100) (hc:∀ c∈R,c.bytes.length≤1000) :
   ag Tryz.prog 66 ⟨[v,vr]⟩ h fun u h'=>Own h' u 5 1 (l++be R.length 2++R.flatMap cD).length (bB (l++be R.length 2++R.flatMap cD))∧Ext No h h'∧∀ q,u.ownBlock=some q→h.size≤q:=by
 obtain ⟨A0,c0,rfl,_⟩:=id hv
 obtain ⟨hr,⟨_,A,cc,rfl,_⟩,hok⟩:=hR
 have hfl:∀ k,((R.take k).flatMap cD).length≤110000:=fun k=>Nat.le_trans (nA R k fun x hx=>sF (hc x hx)) (by omega)
 refine calls [(0,_),(1,_)] Tryz.func66 rfl Tryz.ntmps66 rfl ⟨rfl,rfl,trivial⟩ ?_
 refine G2 ?_;refine G2 ?_;refine WL.call (vs:=[_,_,_]) rfl Tryz.call62 rfl (j6 l (R.length:Int) 2 CP (FQ (by omega)) hv (by omega)) rfl rfl rfl ?_
 rintro v1 h1 ⟨jM,az,ik⟩
 refine Go ?_;refine Gs [(0,_),(1,_)] ?_;refine G3 ?_;refine WC.block ?_;refine WC.bD (X:=Nat × Value) (fun x=>([(5,In (x.1:Int)),(0,x.2)]:Fr)) [(1,_)] (fun y h'=>y.1≤R.length∧Own h' y.2 5 1 (l++be (R.length:Int) 2++(R.take y.1).flatMap cD).length (bB (l++be (R.length:Int) 2++(R.take y.1).flatMap cD))∧Ext No h h'∧∀ q,y.2.ownBlock=some q→h.size≤q) (fun y=>R.length - y.1) ((0,v1)) ⟨rfl,rfl,rfl,trivial⟩ (by exact ⟨Nat.zero_le _,by simpa using jM,az,ik⟩) ?_
 rintro ⟨k,u⟩ h2 ⟨hk,dc,aI,eI⟩
 dsimp only at hk dc eI
 refine WC.sub [(0,_),(5,_),(1,_)] ⟨rfl,rfl,rfl,trivial⟩ ?_
 dsimp only
 refine G3 ?_
 refine aH 1 2 (Hb.mk fun hb=>?_) (Hb.mk fun hb=>?_)
 all_goals try (
 refine aw 1 ?_
 refine WC.skip ?_
 skip)
 all_goals try (
 refine aw 2 ?_
 refine WC.exit ?_
 repeat' (with_reducible first | refine aU ?_ | refine aD rfl ?_ | refine aJ ?_ | refine aL ?_ | refine aS ?_)
 refine Br.out (i:=1000) ?_
 skip)
 all_goals (refine Gn ?_;first | refine Br.ab ?_ | refine Gs [(0,_),(1,_),(5,_)] ?_)
 all_goals (first | refine Br.ab ?_ | refine WC.seq ?_)
 all_goals (first | refine Br.ab ?_ | refine WC.block ?_)
 all_goals (first | refine Br.ab ?_ | refine WC.sr ?_)
 all_goals (
  first
    | (refine Br.ab ?_)
    | (obtain ⟨bL,oL,hA,hbL,hat⟩:=Rd.at_ (hr.aq aI) (by omega)
       obtain ⟨⟨yn,yv,yb⟩,hy⟩:∃ y,R[k]?=some y:=⟨_,List.getElem?_eq_getElem (by omega)⟩
       have hyo:=(hok _ (List.mem_of_getElem? hy)).1
       have hyc:=hc _ (List.mem_of_getElem? hy)
       dsimp only at hyo hyc
       obtain ⟨yA,yc,rfl,_⟩:=id hyo
       have hcd:At h2 bL (oL+k * 2) [.bool yn,.slice yA yb.length yc]:=At.elem aX.len hat hy
       have hlk:=hfl k
       have kN:(l++be (R.length:Int) 2++(R.take k).flatMap cD).length≤2000000:=by simp only [List.length_append,bm];omega
       have Nd:=aI.size
       have Bb:(l++be (R.length:Int) 2++(R.take k).flatMap cD++be (yb.length:Int) 4).length≤3000000:=by rw [List.length_append,bm];omega
       cases yn))
 all_goals (first | refine Br.ab ?_ | refine WL.step (ak rfl) rfl rfl rfl ?_)
 all_goals (refine Go ?_;first | refine Br.ab ?_ | (refine WL.step (aE Tryz.underlying40 Tryz.sizeOf85 rfl rfl rfl (by omega) (by first | rfl | assumption)) rfl rfl rfl ?_))
 all_goals (refine Go ?_;first | refine Br.ab ?_ | (refine WL.ld rfl (by first | exact hcd.get 0 rfl rfl | assumption) rfl rfl rfl ?_))
 all_goals (refine Gn ?_;first | refine Br.ab ?_ | refine Gs [(0,_),(1,_),(5,_),(20,_)] ?_)
 all_goals (first | refine Br.ab ?_ | refine aH 3 4 ?_ TT.mk)
 all_goals try (
 refine aw 3 ?_
 refine WC.region (Go ?_);refine WL.call (vs:=[_,_,_]) rfl Tryz.call62 rfl (j6 _ (-1) 4 CQ (vS (by omega)) dc.rd (by omega)) rfl rfl rfl ?_
 rintro v5 h5 ⟨eE,aM,fN⟩
 have nQ:=aI.trans aM
 have Ly:∀ q,v5.ownBlock=some q→h.size≤q:=fun q e=>by have:=fN q e;omega
 have Lz:Own h5 v5 5 1 (l++be (R.length:Int) 2++(R.take (k+1)).flatMap cD).length (bB (l++be (R.length:Int) 2++(R.take (k+1)).flatMap cD)):=by rw [jJ hy,show cD ⟨true,.slice yA yb.length yc,yb⟩=be 4294967295 4 from rfl,← Aj,← List.append_assoc];exact eE
 refine Go ?_
 skip)
 all_goals try (
 refine aw 4 ?_
 refine WC.bW (fun h'=>Ext No h2 h') 14 15 rfl dm ?_
 refine WH.tk 0 rfl (fun hq hC=>ak rfl) rfl rfl rfl ?_
 refine WH.tk 1 rfl (fun hq hC=>ak rfl) rfl rfl rfl ?_
 refine WH.tk 2 rfl (fun hq hC=>ak rfl) rfl rfl rfl ?_
 refine WH.tk 3 rfl (fun hq hC=>aE Tryz.underlying40 Tryz.sizeOf85 rfl rfl rfl (by omega) (by first | rfl | assumption)) rfl rfl rfl ?_
 refine WH.tk 4 rfl (fun hq hC=>ad rfl Tryz.underlying85 rfl Tryz.sizeOf23) rfl rfl rfl ?_
 refine WH.tk 5 rfl (fun hq hC=>aA Tryz.isAgg23 rfl (by first | exact hC.cell (by first | exact hcd.get 1 rfl rfl | assumption) aO)) rfl rfl rfl ?_
 refine WH.tk 6 rfl (fun hq hC=>cq rfl Tryz.underlying23 rfl) rfl rfl rfl ?_
 refine WH.tk 8 rfl (fun hq hC=>ak rfl) rfl rfl rfl ?_
 refine WH.tk 9 rfl (fun hq hC=>ak rfl) rfl rfl rfl ?_
 refine WH.tk 10 rfl (fun hq hC=>aE Tryz.underlying40 Tryz.sizeOf85 rfl rfl rfl (by omega) (by first | rfl | assumption)) rfl rfl rfl ?_
 refine WH.tk 11 rfl (fun hq hC=>ad rfl Tryz.underlying85 rfl Tryz.sizeOf23) rfl rfl rfl ?_
 refine WH.tk 12 rfl (fun hq hC=>aA Tryz.isAgg23 rfl (by first | exact hC.cell (by first | exact hcd.get 1 rfl rfl | assumption) aO)) rfl rfl rfl ?_
 refine WH.one 7 (by kernel_rfl) ?_
 refine aC.call (vs:=[_,_,_]) rfl rfl Tryz.call62 rfl (j6 _ (yb.length:Int) 4 CQ (vS (by omega)) dc.rd (by omega)) rfl rfl rfl ?_ (fun _=>by kernel_rfl)
 rintro v4 h4 ⟨fO,aW,r7⟩
 refine ⟨fun _=>aW,?_⟩
 refine WH.one 13 (by kernel_rfl) ?_
 refine aC.run rfl (aT (sz:=1) (bytes:=1) rfl Tryz.underlying23 (show Tryz.prog.info? 5=some Tryz.t5 by kernel_rfl) rfl rfl rfl rfl (by decide) rfl rfl fO ((hyo.aq aI).aq aW) (by intro c hc;obtain ⟨b,_,rfl⟩:=List.mem_map.1 hc;rfl) (by simp only [maxLen];omega) (by omega)) rfl rfl rfl ?_ (fun _=>by kernel_rfl)
 rintro v5 h5 ⟨eE,aM,Bb⟩
 refine ⟨fun _=>aW.trans' aM (fun q hq e=>by have:=r7 q e;omega),?_⟩
 have Dy:Ext No h2 h5:=aW.trans' aM (fun q hq e=>by have:=r7 q e;omega)
 have nQ:=aI.trans Dy
 have Ly:∀ q,v5.ownBlock=some q→h.size≤q:=fun q e=>Bb.elim (fun z=>by have:=r7 q (z▸e);omega) (fun z=>by rw [z] at e;cases e;have:=aW.size;omega)
 have Lz:Own h5 v5 5 1 (l++be (R.length:Int) 2++(R.take (k+1)).flatMap cD).length (bB (l++be (R.length:Int) 2++(R.take (k+1)).flatMap cD)):=by rw [jJ hy,show cD ⟨false,.slice yA yb.length yc,yb⟩=be yb.length 4++yb from rfl,← List.append_assoc,← List.append_assoc,List.length_append (bs:=yb),show ∀ m:List UInt8,bB (m++yb)=bB m++bB yb from fun m=>List.map_append ..];exact eE
 refine WH.one 14 (by kernel_rfl) ?_
 refine aC.run rfl (bO.r (aP rfl)) rfl rfl rfl ?_ (fun _=>by kernel_rfl)
 rintro _ hz ⟨rfl,_⟩
 subst hz
 refine ⟨fun _=>aW.trans' aM (fun q hq e=>by have:=r7 q e;omega),?_⟩
 refine WH.done (by kernel_rfl) ?_
 skip)
 all_goals (refine Gn ?_;first | refine Br.ab ?_ | refine WC.region ?_)
 all_goals (refine Go ?_;first | refine Br.ab ?_ | (exact ⟨(k+1,_),⟨rfl,rfl,rfl,trivial⟩,(by exact ⟨by omega,Lz,nQ,Ly⟩),(by simp;omega)⟩))
 try (refine Br.mk (i:=1000) ?_)
 refine Gn ?_;refine Gs [(0,_)] ?_;refine G2 ?_;refine Gt ?_
 rw [List.take_of_length_le (by omega)] at dc
 exact ⟨dc,aI,eI⟩
def K6 (k : Int) : Prop := k = 66 ∨ k = 67 ∨ k = 68 ∨ k = 69 ∨ k = 72 ∨ k = 80 ∨ k = 81 ∨ k = 83 ∨ k = 88
theorem CS {h : ah} (k : Int) : ag Tryz.prog 107 ⟨[.int .u8 k]⟩ h fun u h' => (∃ x, u = In x ∧ (x = 1 ↔ K6 k)) ∧ h' = h := by
 unfold K6
 refine calls [(0, _)] Tryz.func107 rfl Tryz.ntmps107 rfl ⟨rfl, trivial⟩ ?_
 refine G2 ?_; refine G3 ?_; refine WC.block ?_; refine G3 ?_
 refine aH 1 2 (Hb.mk fun hb => ?_) (Hb.mk fun hb => ?_)
 all_goals try (
 refine aw 1 ?_
 refine WC.skip ?_
 skip)
 all_goals try (
 refine aw 2 ?_
 refine G2 ?_; refine Gs [(3, _), (4, _)] ?_
 refine aH 3 4 (Hb.mk fun hb => ?_) (Hb.mk fun hb => ?_)
 all_goals try (
 refine aw 3 ?_
 refine WC.skip ?_
 skip)
 all_goals try (
 refine aw 4 ?_
 refine G2 ?_
 refine aH 5 6 (Hb.mk fun hb => ?_) (Hb.mk fun hb => ?_)
 all_goals try (
 refine aw 5 ?_
 refine WC.skip ?_
 skip)
 all_goals try (
 refine aw 6 ?_
 refine G2 ?_
 refine aH 7 8 (Hb.mk fun hb => ?_) (Hb.mk fun hb => ?_)
 all_goals try (
 refine aw 7 ?_
 refine WC.skip ?_
 skip)
 all_goals try (
 refine aw 8 ?_
 refine G2 ?_
 refine aH 9 10 (Hb.mk fun hb => ?_) (Hb.mk fun hb => ?_)
 all_goals try (
 refine aw 9 ?_
 refine WC.skip ?_
 skip)
 all_goals try (
 refine aw 10 ?_
 refine G2 ?_; refine Gs [(3, _), (4, _)] ?_
 refine aH 11 12 (Hb.mk fun hb => ?_) (Hb.mk fun hb => ?_)
 all_goals try (
 refine aw 11 ?_
 refine WC.skip ?_
 skip)
 all_goals try (
 refine aw 12 ?_
 refine G2 ?_
 refine aH 13 14 (Hb.mk fun hb => ?_) (Hb.mk fun hb => ?_)
 all_goals try (
 refine aw 13 ?_
 refine WC.skip ?_
 skip)
 all_goals try (
 refine aw 14 ?_
 refine G2 ?_
 refine aH 15 16 (Hb.mk fun hb => ?_) (Hb.mk fun hb => ?_)
 all_goals try (
 refine aw 15 ?_
 refine WC.skip ?_
 skip)
 all_goals try (
 refine aw 16 ?_
 refine WC.region (Go ?_)
 skip)
 skip)
 skip)
 skip)
 skip)
 skip)
 skip)
 skip)
 all_goals (refine Gn ?_; refine aH 17 18 (Hb.mk fun hb => ?_) (Hb.mk fun hb => ?_))
 all_goals try (
 refine aw 17 ?_
 all_goals (refine G2 ?_; refine Gt ?_; exact ⟨⟨_, rfl, by omega⟩, rfl⟩)
 skip)
 all_goals (refine aw 18 ?_; refine G3 ?_; first | refine aH 19 20 ?_ TT.mk | (refine aH 19 20 (Hb.mk fun hb => ?_) (Hb.mk fun hb => ?_)))
 all_goals try (
 refine aw 19 ?_
 all_goals (refine WC.skip ?_)
 skip)
 all_goals try (
 refine aw 20 ?_
 refine G2 ?_
 refine aH 21 22 (Hb.mk fun hb => ?_) (Hb.mk fun hb => ?_)
 all_goals try (
 refine aw 21 ?_
 refine WC.skip ?_
 skip)
 all_goals try (
 refine aw 22 ?_
 refine G2 ?_; refine Gs [(3, _), (14, _)] ?_
 refine aH 23 24 (Hb.mk fun hb => ?_) (Hb.mk fun hb => ?_)
 all_goals try (
 refine aw 23 ?_
 refine WC.skip ?_
 skip)
 all_goals try (
 refine aw 24 ?_
 refine G2 ?_
 refine aH 25 26 (Hb.mk fun hb => ?_) (Hb.mk fun hb => ?_)
 all_goals try (
 refine aw 25 ?_
 refine WC.skip ?_
 skip)
 all_goals try (
 refine aw 26 ?_
 refine WC.region (Go ?_)
 skip)
 skip)
 skip)
 skip)
 all_goals (refine Gn ?_; first | refine aH 27 28 ?_ TT.mk | (refine aH 27 28 (Hb.mk fun hb => ?_) (Hb.mk fun hb => ?_)))
 all_goals try (
 refine aw 27 ?_
 all_goals (refine G2 ?_; refine Gt ?_; exact ⟨⟨_, rfl, by omega⟩, rfl⟩)
 skip)
 all_goals (refine aw 28 ?_; refine WC.skip ?_; refine Gn ?_; refine G2 ?_; refine Gt ?_; exact ⟨⟨_, rfl, by omega⟩, rfl⟩)
def zF (k : Int) : Fm := ⟨k, 0, [], [], [], .slice none 0 0, [], .slice none 0 0, [], .slice none 0 0, [], .slice none 0 0, [], 0⟩
def dA (f : Fm) : Fm :=
 if f.kind = 80 then { zF f.kind with name := f.name, text := f.text, vo := f.vo, oids := f.oids }
 else if f.kind = 66 then { zF f.kind with portal := f.portal, name := f.name, vf := f.vf, formats := f.formats, vs := f.vs, results := f.results, vp := f.vp, params := f.params }
 else if f.kind = 67 ∨ f.kind = 68 then (if f.what = 83 then { zF f.kind with what := f.what, name := f.name } else { zF f.kind with what := f.what, portal := f.portal })
 else if f.kind = 69 then { zF f.kind with portal := f.portal, max := f.max }
 else if f.kind = 81 then { zF f.kind with text := f.text }
 else zF f.kind
theorem sG {h : ah} {f : Fm} (k : f.ok h) : (dA f).ok h := by
 obtain ⟨k1, k2, k3, k4⟩ := k
 have z : ∀ x, (zF x).ok h := fun x => ⟨⟨Rd.nil _ _, by simp [zF]⟩, ⟨Rd.nil _ _, by simp [zF]⟩, ⟨Rd.nil _ _, by simp [zF]⟩, fW _⟩
 obtain ⟨z1, z2, z3, z4⟩ := z f.kind
 unfold dA
 repeat' split
 · exact ⟨k1, z2, z3, z4⟩
 · exact ⟨z1, k2, k3, k4⟩
 · exact ⟨z1, z2, z3, z4⟩
 · exact ⟨z1, z2, z3, z4⟩
 · exact ⟨z1, z2, z3, z4⟩
 · exact ⟨z1, z2, z3, z4⟩
 · exact ⟨z1, z2, z3, z4⟩
theorem FT {h : ah} (f : Fm) (hf : f.ok h) : ag Tryz.prog 111 ⟨[.agg ⟨f.cells⟩]⟩ h fun u h' => u = .agg ⟨(dA f).cells⟩ ∧ Ext No h h' := by
 obtain ⟨⟨e1, _⟩, ⟨e2, _⟩, ⟨e3, _⟩, e4, _⟩ := hf
 obtain ⟨fk, w, n, p, t, vo, o, vf, fs, vs, rs, vp, ps, mx⟩ := f
 dsimp only at e1 e2 e3 e4
 obtain ⟨_, _, rfl, _⟩ := e1
 obtain ⟨_, _, rfl, _⟩ := e2
 obtain ⟨_, _, rfl, _⟩ := e3
 obtain ⟨_, _, rfl, _⟩ := e4
 dsimp only [Fm.cells]
 refine calls [(0, _)] Tryz.func111 rfl Tryz.ntmps111 rfl ⟨rfl, trivial⟩ ?_
 refine WC.sr ?_; refine WL.aj (aG rfl) rfl rfl rfl ?_
 rintro _ h1 ⟨b1, rfl, bR, aR, az⟩
 refine WL.aj (an (fun w => Tryz.zeroValue42 w)) rfl rfl rfl ?_
 rintro _ h2 ⟨b2, rfl, gb, bH, aI⟩
 have rB := aI.obj aR aO
 refine Gn ?_; refine G2 ?_; refine Ld ?_; refine WL.step (aF (vs := [_]) (cs := [_, _, _, _, _, _, _, _, _, _]) (fun | [a0] => [a0, (.int .u8 0), (St []), (St []), (St []), (.slice none 0 0), (.slice none 0 0), (.slice none 0 0), (.slice none 0 0), (.int .i64 0)] | _ => []) rfl rfl (by kernel_rfl)) rfl rfl rfl ?_
 refine WL.aj (an (fun w => Tryz.zeroValue42 w)) rfl rfl rfl ?_
 rintro _ h3 ⟨b3, rfl, gj, bq, aQ⟩
 have yf := aQ.obj rB aO
 have yg := aQ.obj bH aO
 have gm : ¬ b1 = b3 := by have := ai rB; omega
 have kQ : ¬ b2 = b3 := by have := ai bH; omega
 refine WL.ax (al Tryz.sizeOf42 rfl rfl rfl (by assumption) rfl (by simp [Value.oneCell'])) rfl rfl ?_
 rintro _ h4 ⟨bC, aW⟩
 have ep := aW.obj yf gm
 have eN := aW.obj yg kQ
 have oF : Ext No h h4 := ((az.trans aI).trans aQ).trans' aW (fun q hq e => by have := az.size; have := aI.size; omega)
 refine Gn ?_; refine Gs [(1, _), (2, _), (3, _)] ?_; refine G3 ?_; refine Ld ?_; refine Gn ?_; refine WC.block ?_; refine G2 ?_
 refine aH 1 2 (Hb.mk fun hb => ?_) (Hb.mk fun hb => ?_)
 all_goals try (
 refine aw 1 ?_
 refine WC.bW (fun h' => Ext (fun q => q = b3) h4 h') 11 12 rfl dm ?_
 refine WH.tk 0 rfl (fun hq hC => ad rfl Tryz.underlying42 rfl Tryz.sizeOf9) rfl rfl rfl ?_ (hC := (by first | exact Ext.refl _ _ | assumption | exact aM.trans aN | exact (aM.trans aN).trans ba))
 refine WH.tk 1 rfl (fun hq hC => aA Tryz.isAgg9 rfl (by first | exact hC.cell (by first | exact aa ep rfl | assumption) gm)) rfl rfl rfl ?_ (hC := (by first | exact Ext.refl _ _ | assumption | exact aM.trans aN | exact (aM.trans aN).trans ba))
 refine WH.tk 2 rfl (fun hq hC => ad rfl Tryz.underlying42 rfl Tryz.sizeOf9) rfl rfl rfl ?_ (hC := (by first | exact Ext.refl _ _ | assumption | exact aM.trans aN | exact (aM.trans aN).trans ba))
 refine WH.tk 3 rfl (fun hq hC => aA Tryz.isAgg9 rfl (by first | exact hC.cell (by first | exact aa ep rfl | assumption) gm)) rfl rfl rfl ?_ (hC := (by first | exact Ext.refl _ _ | assumption | exact aM.trans aN | exact (aM.trans aN).trans ba))
 refine WH.tk 4 rfl (fun hq hC => ad rfl Tryz.underlying42 rfl Tryz.sizeOf39) rfl rfl rfl ?_ (hC := (by first | exact Ext.refl _ _ | assumption | exact aM.trans aN | exact (aM.trans aN).trans ba))
 refine WH.tk 5 rfl (fun hq hC => aA Tryz.isAgg39 rfl (by first | exact hC.cell (by first | exact aa ep rfl | assumption) gm)) rfl rfl rfl ?_ (hC := (by first | exact Ext.refl _ _ | assumption | exact aM.trans aN | exact (aM.trans aN).trans ba))
 refine WH.tk 6 rfl (fun hq hC => ad rfl Tryz.underlying42 rfl Tryz.sizeOf9) rfl rfl rfl ?_ (hC := (by first | exact Ext.refl _ _ | assumption | exact aM.trans aN | exact (aM.trans aN).trans ba))
 refine WH.one 7 (by kernel_rfl) ?_
 refine aC.cO rfl (aB Tryz.sizeOf9 rfl rfl (by assumption) (Nat.le_of_ble_eq_true rfl) rfl rfl) rfl rfl ?_ (fun _ => by kernel_rfl)
 rintro _ h5 ⟨bV, aM⟩
 refine ⟨fun _ => aM, ?_⟩
 refine WH.tk 8 rfl (fun hq hC => ad rfl Tryz.underlying42 rfl Tryz.sizeOf9) rfl rfl rfl ?_ (hC := (by first | exact Ext.refl _ _ | assumption | exact aM.trans aN | exact (aM.trans aN).trans ba))
 refine WH.one 9 (by kernel_rfl) ?_
 refine aC.cO rfl (aB Tryz.sizeOf9 rfl rfl (by assumption) (Nat.le_of_ble_eq_true rfl) rfl rfl) rfl rfl ?_ (fun _ => by kernel_rfl)
 rintro _ h6 ⟨bX, aN⟩
 refine ⟨fun _ => aM.trans aN, ?_⟩
 refine WH.tk 10 rfl (fun hq hC => ad rfl Tryz.underlying42 rfl Tryz.sizeOf39) rfl rfl rfl ?_ (hC := (by first | exact Ext.refl _ _ | assumption | exact aM.trans aN | exact (aM.trans aN).trans ba))
 refine WH.one 11 (by kernel_rfl) ?_
 refine aC.cO rfl (aB Tryz.sizeOf39 rfl rfl (by assumption) (Nat.le_of_ble_eq_true rfl) rfl rfl) rfl rfl ?_ (fun _ => by kernel_rfl)
 rintro _ h7 ⟨ca, ba⟩
 refine ⟨fun _ => (aM.trans aN).trans ba, ?_⟩
 have hE := (aM.trans aN).trans ba
 have fe := hE.obj eN kQ
 have hbL := ca
 refine WH.done (by kernel_rfl) ?_
 skip)
 all_goals try (
 refine aw 2 ?_
 refine G2 ?_; refine Gs [(1, _), (2, _), (3, _), (8, _), (20, _)] ?_
 refine aH 3 4 (Hb.mk fun hb => ?_) (Hb.mk fun hb => ?_)
 all_goals try (
 refine aw 3 ?_
 refine WC.bW (fun h' => Ext (fun q => q = b3) h4 h') 19 20 rfl dm ?_
 refine WH.tk 0 rfl (fun hq hC => ad rfl Tryz.underlying42 rfl Tryz.sizeOf9) rfl rfl rfl ?_ (hC := (by first | exact Ext.refl _ _ | assumption | exact aM.trans aN | exact (aM.trans aN).trans ba | exact ((aM.trans aN).trans ba).trans bz | exact (((aM.trans aN).trans ba).trans bz).trans bZ))
 refine WH.tk 1 rfl (fun hq hC => aA Tryz.isAgg9 rfl (by first | exact hC.cell (by first | exact aa ep rfl | assumption) gm)) rfl rfl rfl ?_ (hC := (by first | exact Ext.refl _ _ | assumption | exact aM.trans aN | exact (aM.trans aN).trans ba | exact ((aM.trans aN).trans ba).trans bz | exact (((aM.trans aN).trans ba).trans bz).trans bZ))
 refine WH.tk 2 rfl (fun hq hC => ad rfl Tryz.underlying42 rfl Tryz.sizeOf9) rfl rfl rfl ?_ (hC := (by first | exact Ext.refl _ _ | assumption | exact aM.trans aN | exact (aM.trans aN).trans ba | exact ((aM.trans aN).trans ba).trans bz | exact (((aM.trans aN).trans ba).trans bz).trans bZ))
 refine WH.tk 3 rfl (fun hq hC => aA Tryz.isAgg9 rfl (by first | exact hC.cell (by first | exact aa ep rfl | assumption) gm)) rfl rfl rfl ?_ (hC := (by first | exact Ext.refl _ _ | assumption | exact aM.trans aN | exact (aM.trans aN).trans ba | exact ((aM.trans aN).trans ba).trans bz | exact (((aM.trans aN).trans ba).trans bz).trans bZ))
 refine WH.tk 4 rfl (fun hq hC => ad rfl Tryz.underlying42 rfl Tryz.sizeOf39) rfl rfl rfl ?_ (hC := (by first | exact Ext.refl _ _ | assumption | exact aM.trans aN | exact (aM.trans aN).trans ba | exact ((aM.trans aN).trans ba).trans bz | exact (((aM.trans aN).trans ba).trans bz).trans bZ))
 refine WH.tk 5 rfl (fun hq hC => aA Tryz.isAgg39 rfl (by first | exact hC.cell (by first | exact aa ep rfl | assumption) gm)) rfl rfl rfl ?_ (hC := (by first | exact Ext.refl _ _ | assumption | exact aM.trans aN | exact (aM.trans aN).trans ba | exact ((aM.trans aN).trans ba).trans bz | exact (((aM.trans aN).trans ba).trans bz).trans bZ))
 refine WH.tk 6 rfl (fun hq hC => ad rfl Tryz.underlying42 rfl Tryz.sizeOf40) rfl rfl rfl ?_ (hC := (by first | exact Ext.refl _ _ | assumption | exact aM.trans aN | exact (aM.trans aN).trans ba | exact ((aM.trans aN).trans ba).trans bz | exact (((aM.trans aN).trans ba).trans bz).trans bZ))
 refine WH.tk 7 rfl (fun hq hC => aA Tryz.isAgg40 rfl (by first | exact hC.cell (by first | exact aa ep rfl | assumption) gm)) rfl rfl rfl ?_ (hC := (by first | exact Ext.refl _ _ | assumption | exact aM.trans aN | exact (aM.trans aN).trans ba | exact ((aM.trans aN).trans ba).trans bz | exact (((aM.trans aN).trans ba).trans bz).trans bZ))
 refine WH.tk 8 rfl (fun hq hC => ad rfl Tryz.underlying42 rfl Tryz.sizeOf39) rfl rfl rfl ?_ (hC := (by first | exact Ext.refl _ _ | assumption | exact aM.trans aN | exact (aM.trans aN).trans ba | exact ((aM.trans aN).trans ba).trans bz | exact (((aM.trans aN).trans ba).trans bz).trans bZ))
 refine WH.tk 9 rfl (fun hq hC => aA Tryz.isAgg39 rfl (by first | exact hC.cell (by first | exact aa ep rfl | assumption) gm)) rfl rfl rfl ?_ (hC := (by first | exact Ext.refl _ _ | assumption | exact aM.trans aN | exact (aM.trans aN).trans ba | exact ((aM.trans aN).trans ba).trans bz | exact (((aM.trans aN).trans ba).trans bz).trans bZ))
 refine WH.tk 10 rfl (fun hq hC => ad rfl Tryz.underlying42 rfl Tryz.sizeOf9) rfl rfl rfl ?_ (hC := (by first | exact Ext.refl _ _ | assumption | exact aM.trans aN | exact (aM.trans aN).trans ba | exact ((aM.trans aN).trans ba).trans bz | exact (((aM.trans aN).trans ba).trans bz).trans bZ))
 refine WH.one 11 (by kernel_rfl) ?_
 refine aC.cO rfl (aB Tryz.sizeOf9 rfl rfl (by assumption) (Nat.le_of_ble_eq_true rfl) rfl rfl) rfl rfl ?_ (fun _ => by kernel_rfl)
 rintro _ h5 ⟨bV, aM⟩
 refine ⟨fun _ => aM, ?_⟩
 refine WH.tk 12 rfl (fun hq hC => ad rfl Tryz.underlying42 rfl Tryz.sizeOf9) rfl rfl rfl ?_ (hC := (by first | exact Ext.refl _ _ | assumption | exact aM.trans aN | exact (aM.trans aN).trans ba | exact ((aM.trans aN).trans ba).trans bz | exact (((aM.trans aN).trans ba).trans bz).trans bZ))
 refine WH.one 13 (by kernel_rfl) ?_
 refine aC.cO rfl (aB Tryz.sizeOf9 rfl rfl (by assumption) (Nat.le_of_ble_eq_true rfl) rfl rfl) rfl rfl ?_ (fun _ => by kernel_rfl)
 rintro _ h6 ⟨bX, aN⟩
 refine ⟨fun _ => aM.trans aN, ?_⟩
 refine WH.tk 14 rfl (fun hq hC => ad rfl Tryz.underlying42 rfl Tryz.sizeOf39) rfl rfl rfl ?_ (hC := (by first | exact Ext.refl _ _ | assumption | exact aM.trans aN | exact (aM.trans aN).trans ba | exact ((aM.trans aN).trans ba).trans bz | exact (((aM.trans aN).trans ba).trans bz).trans bZ))
 refine WH.one 15 (by kernel_rfl) ?_
 refine aC.cO rfl (aB Tryz.sizeOf39 rfl rfl (by assumption) (Nat.le_of_ble_eq_true rfl) rfl rfl) rfl rfl ?_ (fun _ => by kernel_rfl)
 rintro _ h7 ⟨ca, ba⟩
 refine ⟨fun _ => (aM.trans aN).trans ba, ?_⟩
 refine WH.tk 16 rfl (fun hq hC => ad rfl Tryz.underlying42 rfl Tryz.sizeOf40) rfl rfl rfl ?_ (hC := (by first | exact Ext.refl _ _ | assumption | exact aM.trans aN | exact (aM.trans aN).trans ba | exact ((aM.trans aN).trans ba).trans bz | exact (((aM.trans aN).trans ba).trans bz).trans bZ))
 refine WH.one 17 (by kernel_rfl) ?_
 refine aC.cO rfl (aB Tryz.sizeOf40 rfl rfl (by assumption) (Nat.le_of_ble_eq_true rfl) rfl rfl) rfl rfl ?_ (fun _ => by kernel_rfl)
 rintro _ h8 ⟨bE, bz⟩
 refine ⟨fun _ => ((aM.trans aN).trans ba).trans bz, ?_⟩
 refine WH.tk 18 rfl (fun hq hC => ad rfl Tryz.underlying42 rfl Tryz.sizeOf39) rfl rfl rfl ?_ (hC := (by first | exact Ext.refl _ _ | assumption | exact aM.trans aN | exact (aM.trans aN).trans ba | exact ((aM.trans aN).trans ba).trans bz | exact (((aM.trans aN).trans ba).trans bz).trans bZ))
 refine WH.one 19 (by kernel_rfl) ?_
 refine aC.cO rfl (aB Tryz.sizeOf39 rfl rfl (by assumption) (Nat.le_of_ble_eq_true rfl) rfl rfl) rfl rfl ?_ (fun _ => by kernel_rfl)
 rintro _ h9 ⟨bY, bZ⟩
 refine ⟨fun _ => (((aM.trans aN).trans ba).trans bz).trans bZ, ?_⟩
 have hE := (((aM.trans aN).trans ba).trans bz).trans bZ
 have fe := hE.obj eN kQ
 have hbL := bY
 refine WH.done (by kernel_rfl) ?_
 skip)
 all_goals try (
 refine aw 4 ?_
 refine G3 ?_
 refine aH 5 6 (Hb.mk fun hb => ?_) (Hb.mk fun hb => ?_)
 all_goals try (
 refine aw 5 ?_
 refine WC.skip ?_
 skip)
 all_goals try (
 refine aw 6 ?_
 refine WC.region (Go ?_)
 skip)
 all_goals (refine Gn ?_; refine aH 7 8 (Hb.mk fun hb => ?_) (Hb.mk fun hb => ?_))
 all_goals try (
 refine aw 7 ?_
 all_goals (refine G2 ?_; refine Ld ?_; refine Go ?_; refine WL.ax (aB Tryz.sizeOf5 rfl rfl (by assumption) (Nat.le_of_ble_eq_true rfl) rfl rfl) rfl rfl ?_; rintro _ h5 ⟨bV, aM⟩; have uK := aM.obj ep gm; refine Gn ?_; refine Gs [(1, _), (2, _), (3, _)] ?_; refine G2 ?_; refine WL.ld rfl (by first | exact aa uK rfl | assumption) rfl rfl rfl (Go ?_); refine aH 9 10 (Hb.mk fun hb => ?_) (Hb.mk fun hb => ?_))
 all_goals try (
 refine aw 9 ?_
 all_goals (refine WC.region (Go ?_); refine WL.ld rfl (by first | exact aa uK rfl | assumption) rfl rfl rfl (Go ?_); refine WL.ax (aB Tryz.sizeOf9 rfl rfl (by assumption) (Nat.le_of_ble_eq_true rfl) rfl rfl) rfl rfl ?_; rintro _ h6 ⟨bX, aN⟩; have hE := aM.trans aN; have fe := hE.obj eN kQ; have hbL := bX; refine Gn ?_)
 skip)
 all_goals try (
 refine aw 10 ?_
 all_goals (refine WC.region (Go ?_); refine WL.ld rfl (by first | exact aa uK rfl | assumption) rfl rfl rfl (Go ?_); refine WL.ax (aB Tryz.sizeOf9 rfl rfl (by assumption) (Nat.le_of_ble_eq_true rfl) rfl rfl) rfl rfl ?_; rintro _ h6 ⟨bX, aN⟩; have hE := aM.trans aN; have fe := hE.obj eN kQ; have hbL := bX; refine Gn ?_)
 skip)
 skip)
 all_goals try (
 refine aw 8 ?_
 all_goals (refine G2 ?_; refine Gs [(1, _), (2, _), (3, _), (8, _), (52, _)] ?_; first | refine aH 11 12 ?_ TT.mk | (refine aH 11 12 (Hb.mk fun hb => ?_) (Hb.mk fun hb => ?_)))
 all_goals try (
 refine aw 11 ?_
 all_goals (refine WC.bW (fun h' => Ext (fun q => q = b3) h4 h') 7 8 rfl dm ?_; refine WH.tk 0 rfl (fun hq hC => ad rfl Tryz.underlying42 rfl Tryz.sizeOf9) rfl rfl rfl ?_ (hC := (by first | exact Ext.refl _ _ | assumption | exact aM.trans aN)); refine WH.tk 1 rfl (fun hq hC => aA Tryz.isAgg9 rfl (by first | exact hC.cell (by first | exact aa ep rfl | assumption) gm)) rfl rfl rfl ?_ (hC := (by first | exact Ext.refl _ _ | assumption | exact aM.trans aN)); refine WH.tk 2 rfl (fun hq hC => ad rfl Tryz.underlying42 rfl Tryz.sizeOf3) rfl rfl rfl ?_ (hC := (by first | exact Ext.refl _ _ | assumption | exact aM.trans aN)); refine WH.tk 3 rfl (fun hq hC => aA Tryz.isAgg3 rfl (by first | exact hC.cell (by first | exact aa ep rfl | assumption) gm)) rfl rfl rfl ?_ (hC := (by first | exact Ext.refl _ _ | assumption | exact aM.trans aN)); refine WH.tk 4 rfl (fun hq hC => ad rfl Tryz.underlying42 rfl Tryz.sizeOf9) rfl rfl rfl ?_ (hC := (by first | exact Ext.refl _ _ | assumption | exact aM.trans aN)); refine WH.one 5 (by kernel_rfl) ?_; refine aC.cO rfl (aB Tryz.sizeOf9 rfl rfl (by assumption) (Nat.le_of_ble_eq_true rfl) rfl rfl) rfl rfl ?_ (fun _ => by kernel_rfl); rintro _ h5 ⟨bV, aM⟩; refine ⟨fun _ => aM, ?_⟩; refine WH.tk 6 rfl (fun hq hC => ad rfl Tryz.underlying42 rfl Tryz.sizeOf3) rfl rfl rfl ?_ (hC := (by first | exact Ext.refl _ _ | assumption | exact aM.trans aN)); refine WH.one 7 (by kernel_rfl) ?_; refine aC.cO rfl (aB Tryz.sizeOf3 rfl rfl (by assumption) (Nat.le_of_ble_eq_true rfl) rfl rfl) rfl rfl ?_ (fun _ => by kernel_rfl); rintro _ h6 ⟨bX, aN⟩; refine ⟨fun _ => aM.trans aN, ?_⟩; have hE := aM.trans aN; have fe := hE.obj eN kQ; have hbL := bX; refine WH.done (by kernel_rfl) ?_)
 skip)
 all_goals try (
 refine aw 12 ?_
 refine G2 ?_
 refine aH 13 14 (Hb.mk fun hb => ?_) (Hb.mk fun hb => ?_)
 all_goals try (
 refine aw 13 ?_
 refine WC.region (Go ?_); refine Ld ?_; refine Go ?_; refine WL.ax (aB Tryz.sizeOf9 rfl rfl (by assumption) (Nat.le_of_ble_eq_true rfl) rfl rfl) rfl rfl ?_
 rintro _ h5 ⟨bV, hE⟩
 have fe := hE.obj eN kQ
 have hbL := bV
 refine Gn ?_
 skip)
 all_goals try (
 refine aw 14 ?_
 refine WC.skip ?_
 skip)
 skip)
 skip)
 skip)
 skip)
 all_goals (refine Gn ?_; refine WC.sr ?_; refine WL.step (ay Tryz.isAgg42 Tryz.sizeOf42 rfl rfl (by exact (by first | exact At.av hbL | exact At.av bC))) rfl rfl rfl ?_; refine WL.ax (al Tryz.sizeOf42 rfl rfl rfl (by first | exact fe | exact eN) rfl (by simp [Value.oneCell'])) rfl rfl ?_; rintro _ h9 ⟨bY, bZ⟩; refine Gn ?_; refine WC.ret ?_; repeat' (with_reducible first | refine aZ ?_ | refine aV ?_))
 all_goals (refine cm _ ⟨⟨_, rfl, bA Tryz.isAgg42 Tryz.sizeOf42 (by assumption) rfl⟩, trivial⟩ ?_)
 all_goals (
  have fS := az.size
  have py := aI.size
  refine ⟨?_, by first | exact (oF.trans' hE (fun q hq e => by omega)).trans' bZ (fun q hq e => by omega) | exact oF.trans' bZ (fun q hq e => by omega)⟩
  first
   | (exfalso; omega)
   | (simp only [dA, if_pos, *]; rfl)
   | (simp [dA, zF, Fm.cells, *]; done))
theorem CT {h : ah} (a b : Fm) (ha : a.ok h) (hb : b.ok h) :
   ag Tryz.prog 110 ⟨[.agg ⟨a.cells⟩, .agg ⟨b.cells⟩]⟩ h fun u h' => (∃ x, u = .bool x ∧ (x = true ↔ a.pl = b.pl)) ∧ Ext No h h' := by
 obtain ⟨k1, w1, n1, p1, t1, K8, o1, K9, f1, LA, r1, Nf, c1, m1⟩ := a
 obtain ⟨k2, w2, n2, p2, t2, La, o2, Lb, f2, Ng, r2, Gx, c2, m2⟩ := b
 obtain ⟨⟨ao, lo⟩, ⟨af, lf⟩, ⟨as', ls⟩, ap⟩ := ha
 obtain ⟨⟨bo, ko⟩, ⟨bf, kf⟩, ⟨bs', ks⟩, bp⟩ := hb
 simp only at ao af as' ap bo bf bs' bp lo lf ls ko kf ks
 obtain ⟨Ao, co, rfl, _⟩ := id ao
 obtain ⟨Bo, do_, rfl, _⟩ := id bo
 obtain ⟨Af, cf, rfl, _⟩ := id af
 obtain ⟨Bf, df, rfl, _⟩ := id bf
 obtain ⟨As, cs, rfl, _⟩ := id as'
 obtain ⟨Bs, ds, rfl, _⟩ := id bs'
 obtain ⟨_, ⟨_, Ap, cp, rfl, _⟩, _⟩ := id ap
 obtain ⟨_, ⟨_, Bp, dp, rfl, _⟩, _⟩ := id bp
 dsimp only [Fm.cells, Fm.pl]
 have hpc : (k1 = k2 ∧ w1 = w2 ∧ n1 = n2 ∧ p1 = p2 ∧ t1 = t2 ∧ m1 = m2) ∨ k1 ≠ k2 ∨ (k1 = k2 ∧ w1 ≠ w2) ∨ (k1 = k2 ∧ w1 = w2 ∧ n1 ≠ n2) ∨ (k1 = k2 ∧ w1 = w2 ∧ n1 = n2 ∧ p1 ≠ p2) ∨ (k1 = k2 ∧ w1 = w2 ∧ n1 = n2 ∧ p1 = p2 ∧ t1 ≠ t2) ∨ (k1 = k2 ∧ w1 = w2 ∧ n1 = n2 ∧ p1 = p2 ∧ t1 = t2 ∧ m1 ≠ m2) := by
   by_cases e1 : k1 = k2
   · by_cases e2 : w1 = w2
     · by_cases e3 : n1 = n2
       · by_cases e4 : p1 = p2
         · by_cases e5 : t1 = t2
           · by_cases e6 : m1 = m2
             · exact .inl ⟨e1, e2, e3, e4, e5, e6⟩
             · exact .inr (.inr (.inr (.inr (.inr (.inr ⟨e1, e2, e3, e4, e5, e6⟩)))))
           · exact .inr (.inr (.inr (.inr (.inr (.inl ⟨e1, e2, e3, e4, e5⟩)))))
         · exact .inr (.inr (.inr (.inr (.inl ⟨e1, e2, e3, e4⟩))))
       · exact .inr (.inr (.inr (.inl ⟨e1, e2, e3⟩)))
     · exact .inr (.inr (.inl ⟨e1, e2⟩))
   · exact .inr (.inl e1)
 rcases hpc with ⟨rfl, rfl, rfl, rfl, rfl, rfl⟩ | q | ⟨rfl, q⟩ | ⟨rfl, rfl, q⟩ | ⟨rfl, rfl, rfl, q⟩ | ⟨rfl, rfl, rfl, rfl, q⟩ | ⟨rfl, rfl, rfl, rfl, rfl, q⟩
 all_goals
   refine calls [(0, _), (1, _)] Tryz.func110 rfl Tryz.ntmps110 rfl ⟨rfl, rfl, trivial⟩ ?_
   all_goals (refine WC.sr ?_; refine WL.aj (aG rfl) rfl rfl rfl ?_; rintro _ h1 ⟨b1, rfl, bR, aR, az⟩; refine WL.aj (aG rfl) rfl rfl rfl ?_; rintro _ h2 ⟨b2, rfl, gb, bH, aI⟩; have ru := aI.obj aR aO; have hx := az.trans aI; refine Go ?_; refine G2 ?_; refine Ld ?_; refine Go ?_; refine Ld ?_; refine Go ?_; refine bK 11 ?_ TT.mk; refine Gg ?_; first | refine WL.pass rfl rfl rfl ?_ | refine Ld ?_)
   all_goals (refine Gg ?_; first | refine WL.pass rfl rfl rfl ?_ | refine Ld ?_)
   all_goals (refine Gg ?_; refine Go ?_; refine bK 18 ?_ TT.mk; refine Gg ?_; first | refine WL.pass rfl rfl rfl ?_ | refine Ld ?_)
   all_goals (refine Gg ?_; first | refine WL.pass rfl rfl rfl ?_ | refine Ld ?_)
   all_goals (refine Gg ?_; refine Go ?_; refine bK 25 ?_ TT.mk; refine Gg ?_; first | refine WL.pass rfl rfl rfl ?_ | refine Ld ?_)
   all_goals (refine Gg ?_; first | refine WL.pass rfl rfl rfl ?_ | refine Ld ?_)
   all_goals (refine Gg ?_; refine Go ?_; refine bK 32 ?_ TT.mk; refine Gg ?_; first | refine WL.pass rfl rfl rfl ?_ | refine Ld ?_)
   all_goals (refine Gg ?_; first | refine WL.pass rfl rfl rfl ?_ | refine Ld ?_)
   all_goals (refine Gg ?_; refine Go ?_; refine bK 39 ?_ TT.mk; refine Gg ?_; first | refine WL.pass rfl rfl rfl ?_ | refine Ld ?_)
   all_goals (refine Gg ?_; first | refine WL.pass rfl rfl rfl ?_ | refine Ld ?_)
   all_goals (refine Gg ?_; refine Go ?_; refine Gs [(2, _), (3, _), (5, _)] ?_; refine G2 ?_; refine bK 47 ?_ TT.mk; refine Gg ?_; first | refine WL.pass rfl rfl rfl ?_ | refine Ld ?_)
   all_goals (refine Gg ?_; first | refine WL.pass rfl rfl rfl ?_ | refine Ld ?_)
   all_goals (
    first
      | (refine WL.pass rfl rfl rfl ?_)
      | (refine WL.call (vs := [_, _]) rfl Tryz.call159 rfl ((mU o1 o2 (ao.aq hx) (bo.aq hx) lo ko).dec) rfl rfl rfl ?_
         rintro _ h9 ⟨⟨rfl, q1⟩ | ⟨rfl, q1⟩, lT⟩
         all_goals subst h9))
   all_goals (refine Go ?_; refine bK 54 ?_ TT.mk; refine Gg ?_; first | refine WL.pass rfl rfl rfl ?_ | refine Ld ?_)
   all_goals (refine Gg ?_; first | refine WL.pass rfl rfl rfl ?_ | refine Ld ?_)
   all_goals (
    first
      | (refine WL.pass rfl rfl rfl ?_)
      | (refine WL.call (vs := [_, _]) rfl Tryz.call159 rfl ((mU f1 f2 (af.aq hx) (bf.aq hx) lf kf).dec) rfl rfl rfl ?_
         rintro _ h9 ⟨⟨rfl, q2⟩ | ⟨rfl, q2⟩, lT⟩
         all_goals subst h9))
   all_goals (refine Go ?_; refine bK 61 ?_ TT.mk; refine Gg ?_; first | refine WL.pass rfl rfl rfl ?_ | refine Ld ?_)
   all_goals (refine Gg ?_; first | refine WL.pass rfl rfl rfl ?_ | refine Ld ?_)
   all_goals (
    first
      | (refine WL.pass rfl rfl rfl ?_)
      | (refine WL.call (vs := [_, _]) rfl Tryz.call159 rfl ((mU r1 r2 (as'.aq hx) (bs'.aq hx) ls ks).dec) rfl rfl rfl ?_
         rintro _ h9 ⟨⟨rfl, q3⟩ | ⟨rfl, q3⟩, lT⟩
         all_goals subst h9))
   all_goals (refine Go ?_; refine bK 68 ?_ TT.mk; refine Gg ?_; first | refine WL.pass rfl rfl rfl ?_ | refine Ld ?_)
   all_goals (refine Gg ?_; first | refine WL.pass rfl rfl rfl ?_ | refine Ld ?_)
   all_goals (
    first
      | (refine WL.pass rfl rfl rfl ?_)
      | (refine WL.call (vs := [_, _]) rfl Tryz.call160 rfl ((wA c1 c2 (ap.aq hx) (bp.aq hx)).dec) rfl rfl rfl ?_
         rintro _ h9 ⟨⟨rfl, q4⟩ | ⟨rfl, q4⟩, lT⟩
         all_goals subst h9))
   all_goals (refine Go ?_; refine Gs [(4, _)] ?_; refine Gt ?_; refine ⟨⟨_, rfl, ?_⟩, hx⟩; first | exact ⟨fun _ => (by rw [q1, q2, q3, q4]), fun _ => rfl⟩ | exact ⟨fun z => (by cases z), fun z => by simp only [Prod.mk.injEq] at z; first | exact absurd z.2.2.2.2.2.1 q1 | exact absurd z.2.2.2.2.2.2.1 q2 | exact absurd z.2.2.2.2.2.2.2.1 q3 | exact absurd z.2.2.2.2.2.2.2.2.1 q4 | exact absurd z.1 q | exact absurd z.2.1 q | exact absurd z.2.2.1 q | exact absurd z.2.2.2.1 q | exact absurd z.2.2.2.2.1 q | exact absurd z.2.2.2.2.2.2.2.2.2 q⟩)
end Go.Proofs.YtopgddfgefnmbaaGreatDoor
