/-
  SEVERAL TEXTS IN ONE: Dx18, Dx19, Sx6, Sx7, As30, As31, As32, Dx20, Dx21, Dp1, DigClean, Dp2, EnQ, Qv1, Qv2, Dx22, Dx23, Qv3, Dx24, Qv4, PlF, BkC2, Ck5, Ck6.
-/
import Derived.Test.YtopgddfgefnmbaaGreatDoorPServePieces4
import Derived.WalkKit
import Derived.LaidEql
import Derived.Stop.Asserts
import Derived.RowKitTokens
set_option maxHeartbeats 8000000
set_option maxRecDepth 100000
namespace Go.Proofs.YtopgddfgefnmbaaGreatDoor
open Go Go.RK
section
variable {h h':ah} {A:Ad} {st:Int} {sk ov:Bool} {cnt:Int} {L:List (List UInt8 × gy)} {P:List (List UInt8 × ee)}
theorem zV {b m:Nat} {es:List (List UInt8 × Value)} {v:Value} (name:List UInt8) (hb:h[b]?=some (.cells ⟨[.map (some m)]⟩ 189 (0,0))) (hm:Mp .string St h m es) (hv:cT es name=none) :
   ag Tryz.prog 216 ⟨[.pointer (some ⟨b,0,none⟩),St name,v]⟩ h fun u h'=>u=.bool false∧h'=h:=by
 refine calls [(0,_),(1,_),(2,_)] Tryz.func216 rfl Tryz.ntmps216 rfl ⟨rfl,rfl,rfl,trivial⟩ ?_
 refine G2 ?_;refine G2 ?_;refine WL.call (vs:=[_,_]) rfl Tryz.call256 rfl (pW name hb hm hv) rfl rfl rfl ?_
 rintro _ hz ⟨rfl,_⟩
 subst hz
 refine Go ?_;refine Gs [(2,_),(7,_),(8,_)] ?_;refine G3 ?_
 refine bK 17 ?_ TT.mk
 refine Gg ?_;refine WL.pass rfl rfl rfl ?_;refine Gg ?_;refine WL.pass rfl rfl rfl (Go ?_);refine Gs [(2,_),(7,_),(22,_)] ?_
 refine aH 1 2 ?_ TT.mk
 all_goals (refine aw 1 ?_)
 refine G2 ?_;refine Gt ?_
 exact ⟨rfl,rfl⟩
def CE (P:List (List UInt8 × Fj)) (n:List UInt8):List (List UInt8 × Fj):=match bG P n with
 | some (t,o,ps,_,ran,ov)=>if ran=true then P else cl P n (t,o,ps,[],true,ov)
 | none=>P
theorem CF (k:Ss h A st sk ov cnt L P) (n:List UInt8):ag Tryz.prog 216 ⟨[.pointer (some ⟨A.bp,0,none⟩),St n,nS]⟩ h fun _ h'=>∃ P',Ss h' A st sk ov cnt L P'∧fN P'=CE (fN P) n∧Tn A P h h' P'∧Ext (fun q=>∃ cs,h[q]?=some (.cells cs 273 (0,0))) h h':=by
 unfold CE
 rw [gd]
 rcases hg:bG P n with _ | i
 · refine (zV n k.se.pb k.se.pm (by rw [cN,hg];rfl)).mono fun u h' ⟨_,e⟩=>?_
   subst e
   exact ⟨P,k,rfl,Tn.no (.refl _ _),.refl _ _⟩
 · rcases hr:i.d.ran
   · refine (DO k hg [] hr ⟨Rd.nil _ _,⟨by simp,_,_,rfl,by simp [maxLen]⟩,by simp⟩).mono fun u h' ⟨_,P',i',k',e,_,_,t,x⟩=>?_
     exact ⟨P',k',by rw [e];simp only [Option.map_some,PD.pl,hr];rfl,t,x.mono fun q _ e=>⟨_,e▸(k.pok _ (b0 hg)).1⟩⟩
   · refine (BX (k.pe hg) hr).mono fun u h' ⟨_,e⟩=>?_
     subst e
     exact ⟨P,k,by simp only [Option.map_some,PD.pl,hr,if_true],Tn.no (.refl _ _),.refl _ _⟩
theorem uq {s s1:SP} {v:fR} {out:List jb} (e:cG s v=(s1,out,none)):s1.P=(if cx v=true then [] else s.P)∧∀ x∈out,x.oids=[]∧x.cols=[]∧x.row=[]∧x.fields=[]:=by
 unfold cG at e
 by_cases e1:v.k=1
 · rw [if_pos e1] at e
   simp only [Prod.mk.injEq] at e
   obtain ⟨rfl,rfl,_⟩:=e
   exact ⟨by rw [if_neg (by simp [cx,e1])],by simp⟩
 · by_cases e2:v.k=8
   · rw [if_neg e1,if_pos e2] at e
     simp at e
   · rw [if_neg e1,if_neg e2] at e
     simp only [Prod.mk.injEq] at e
     obtain ⟨rfl,rfl,_⟩:=e
     exact ⟨rfl,by simp⟩
theorem FA {B:List Bk} {out:List jb} (e:B.map Bk.p=out) (h:∀ x∈out,x.oids=[]∧x.cols=[]∧x.row=[]∧x.fields=[]):∀ b∈B,∀ q,¬ b.F q:=fun b hb q=>by
 obtain ⟨h1,h2,h3,h4⟩:=h b.p (e▸List.mem_map.2 ⟨b,hb,rfl⟩)
 exact Bk.MS h1 h2 (List.map_eq_nil_iff.1 h3) h4 q
theorem ur (k:Ss h A st sk ov cnt L P) (lm:jg (ck st sk ov cnt L P)) (f:Fm) (hf:f.ok h) (fl:gG f) {i:ee} (he:gE (ck st sk ov cnt L P) f.portal=none) (hi:bG P f.portal=some i) (hr:gb (bh i.d.text)=false) :
   ag Tryz.prog 149 ⟨[.pointer (some ⟨A.bs,0,none⟩),.agg ⟨f.cells⟩]⟩ h (cj h A P (cd (ck st sk ov cnt L P) f.p)):=by
 have hgl:bG (ck st sk ov cnt L P).P f.portal=some i.d.pl:=by show bG (fN P) f.portal=_;rw [gd,hi];rfl
 have htl:=lm.tp _ (b0 hi)
 obtain ⟨⟨e1,_⟩,⟨e2,_⟩,⟨e3,_⟩,e4,_⟩:=hf
 obtain ⟨oY,nT,wZ,jN,zJ,_⟩:=fl
 obtain ⟨fk,w,n,p,t,vo,o,vf,fs,vs,rs,vp,ps,mx⟩:=f
 dsimp only at e1 e2 e3 e4 oY nT wZ jN zJ he hi hgl htl
 obtain ⟨A1,c1,rfl,_⟩:=e1
 obtain ⟨_,_,rfl,_⟩:=e2
 obtain ⟨_,_,rfl,_⟩:=e3
 obtain ⟨A4,c4,rfl,_⟩:=e4
 dsimp only [Fm.cells,Fm.p]
 have hpe : cd (ck st sk ov cnt L P) ⟨fk, w, n, p, t, o, ps.map aX.pl, mx⟩ = if i.d.ran = true ∧ (bh i.d.text).k ≠ 1 then (ck st sk ov cnt L P, [], some (([53, 53, 48, 48, 48] : List UInt8), ([112, 111, 114, 116, 97, 108, 32, 99, 97, 110, 110, 111, 116, 32, 98, 101, 32, 114, 117, 110] : List UInt8)))
     else match cG (ck st sk ov cnt L P) (bh i.d.text) with
       | (s1,out,none)=>({ s1 with P:=if cx (bh i.d.text)=true∨i.d.ran=true then s1.P else cl s1.P p (i.d.text,i.d.oids,i.d.ps.map aX.pl,[],true,i.d.over) },out,none)
       | r=>r:=by
   unfold cd
   dsimp only
   rw [he,hgl]
   unfold PD.pl
   dsimp only
   rw [if_neg (by rw [hr];decide)]
   rfl
 rw [hpe]
 clear hpe
 have kp:=fun h'=>oN (h:=h') i.d.text (by omega)
 have kr:=fun h'=>kj (h:=h') (bh i.d.text)
 have kt:=fun (g:ah) (k:Ss g A st sk ov cnt L P)=>(zN k (bh i.d.text)).mono fun _ _ d=>d.Lu
 rw [hr] at kr
 by_cases hc:i.d.ran=true∧(bh i.d.text).k ≠ 1
 · rw [if_pos hc]
   obtain ⟨hran,LA⟩:=hc
   unfold fR.cells mh at kp kr kt
   refine calls [(0,_),(1,_)] Tryz.func149 rfl Tryz.ntmps149 rfl ⟨rfl,rfl,trivial⟩ ?_
   refine WC.sr ?_;refine WL.aj (aG rfl) rfl rfl rfl ?_
   rintro _ h1 ⟨b3,rfl,bR,aR,az⟩
   refine Go ?_;refine G2 ?_;refine WL.ld rfl (by first | exact aa aR rfl | assumption) rfl rfl rfl ?_
   refine WL.call (vs:=[_,_]) rfl Tryz.call213 rfl (eJ (k.aq az) lm p nT) rfl rfl rfl ?_
   rintro _ h2 ⟨⟨d2,rfl,iU,f2,hq'⟩,aI⟩
   rw [he] at hq' ⊢
   dsimp only [fM]
   refine Go ?_;refine WL.aj (an (fun w=>Tryz.zeroValue273 w)) rfl rfl rfl ?_
   rintro _ h3 ⟨b6,rfl,gl,bq,aQ⟩
   refine WL.ax (al Tryz.sizeOf273 rfl rfl rfl bq rfl (eQ iU)) rfl rfl ?_
   rintro _ h4 ⟨bC,aW⟩
   have gJ:Ext No h1 h4:=aI.trans (aQ.trans' aW (fun q hq e=>by omega))
   have X4:=az.trans gJ
   have bJ:=gJ.obj aR aO
   obtain ⟨i',hi',j9⟩:=hq' rfl
   have hii:=Option.some.inj (hi.symm.trans hi')
   subst hii
   have kM:=iU.ext (aQ.trans' (S:=No) aW (fun q hq e=>by omega)) (fun _ _=>aO)
   have hti:d2.text=i.d.text:=congrArg (·.1) j9
   have htp:d2.ps.map aX.pl=i.d.ps.map aX.pl:=congrArg (·.2.2.1) j9
   have htr:d2.ran=i.d.ran:=congrArg (·.2.2.2.2.1) j9
   obtain ⟨text,vo,oids,GG,I8,vr,I9,CB,vH⟩:=d2
   dsimp only at hti htp htr
   subst hti
   subst htr
   dsimp only [PD.cells] at bC
   obtain ⟨A6,c6,hvo,_⟩:=id kM.oids
   have okp:=kM.ps
   obtain ⟨_,⟨_,A7,c7,hvp,_⟩,_⟩:=id kM.ps
   obtain ⟨_,⟨_,A8,c8,hvr,_⟩,_⟩:=id kM.rs
   dsimp only at hvo hvp hvr okp
   subst hvo
   subst hvp
   subst hvr
   refine Go ?_;refine Gs [(0,_),(3,_),(6,_),(7,_)] ?_;refine G3 ?_;refine WL.step (cL (by kernel_rfl) rfl rfl) rfl rfl rfl ?_
   refine Gn ?_
   refine aH 1 2 ?_ TT.mk
   all_goals (refine aw 2 ?_)
   refine WC.skip ?_;refine Gn ?_;refine G2 ?_;refine WL.ld rfl (by first | exact aa bC rfl | assumption) rfl rfl rfl ?_
   refine WL.call (vs:=[_]) rfl Tryz.call214 rfl (kp _) rfl rfl rfl ?_
   rintro _ h5 ⟨rfl,aM⟩
   refine WL.aj (an (fun w=>Tryz.zeroValue278 w)) rfl rfl rfl ?_
   rintro _ h6 ⟨b8,rfl,qQ,bX,aN⟩
   refine WL.ax (al Tryz.sizeOf278 rfl rfl rfl bX rfl (by simp [Value.oneCell'])) rfl rfl ?_
   rintro _ h7 ⟨ca,ba⟩
   have ns:Ext No h4 h7:=aM.trans (aN.trans' ba (fun q hq e=>by omega))
   refine Gn ?_;refine Gs [(0,_),(3,_),(6,_),(8,_)] ?_;refine WC.seq ?_;refine WC.sr ?_;refine WL.step (ay Tryz.isAgg278 Tryz.sizeOf278 rfl rfl (by exact At.av ca)) rfl rfl rfl ?_
   refine WL.call (vs:=[_]) rfl Tryz.call215 rfl (kr _) rfl rfl rfl ?_
   rintro _ h8 ⟨rfl,bz⟩
   have jO:=ns.trans bz
   have X8:=X4.trans jO
   have nu:=jO.obj bC aO
   have jH:=bz.obj ca aO
   have fQ:=jO.obj bJ aO
   have zS:=okp.aq jO
   have k8:=k.aq X8
   refine Gn ?_
   refine aH 3 4 ?_ TT.mk
   all_goals (refine aw 4 ?_)
   refine WC.skip ?_;refine Gn ?_;refine G3 ?_;refine WL.ld rfl (by first | exact aa nu rfl | assumption) rfl rfl rfl ?_
   rw [hran]
   refine WL.step (ak rfl) rfl rfl rfl ?_
   refine bK 58 ?_ TT.mk
   refine Gg ?_;refine WL.ld rfl (by first | exact aa jH rfl | assumption) rfl rfl rfl ?_
   refine Gg ?_;refine Go ?_;refine Gs [(0,_),(3,_),(8,_),(62,_)] ?_
   refine aH 7 8 ?_ TT.mk
   all_goals (refine aw 7 ?_)
   refine WC.sr ?_;refine WL.call (vs:=[_,_]) rfl Tryz.call204 rfl (hG _ _) rfl rfl rfl ?_
   rintro _ hq ⟨rfl,hz⟩
   replace hz:=hz.symm
   subst hz
   refine Go ?_;refine Gs [(4,_),(5,_)] ?_;refine Gt ?_
   exact cj.err rfl (.of k8 (Tn.no X8))
 · rw [if_neg hc]
   rcases hT:cG (ck st sk ov cnt L P) (bh i.d.text) with ⟨s1,out,_ | ⟨ea,ec⟩⟩
   · have hTn:=uq hT
     dsimp only
     rw [hT] at kt
     have hfin:CE s1.P p=if cx (bh i.d.text)=true∨i.d.ran=true then s1.P else cl s1.P p (i.d.text,i.d.oids,i.d.ps.map aX.pl,[],true,i.d.over):=by
       rw [hTn.1]
       unfold CE
       cases hex:cx (bh i.d.text)
       · rw [if_neg (by decide),show bG (ck st sk ov cnt L P).P p=_ from hgl]
         cases hran:i.d.ran <;> simp [PD.pl,hran]
       · rw [if_pos rfl,if_pos (.inl rfl)]
         rfl
     rw [← hfin]
     unfold fR.cells mh at kp kr kt
     rcases (show i.d.ran=true∧(bh i.d.text).k=1∨i.d.ran=false by
       cases h1:i.d.ran
       · exact .inr rfl
       · exact .inl ⟨rfl,Classical.not_not.1 fun e=>hc ⟨h1,e⟩⟩) with ⟨hran,LA⟩ | hran
     all_goals
       refine calls [(0,_),(1,_)] Tryz.func149 rfl Tryz.ntmps149 rfl ⟨rfl,rfl,trivial⟩ ?_
       all_goals (refine WC.sr ?_;refine WL.aj (aG rfl) rfl rfl rfl ?_;rintro _ h1 ⟨b3,rfl,bR,aR,az⟩;refine Go ?_;refine G2 ?_;refine WL.ld rfl (by first | exact aa aR rfl | assumption) rfl rfl rfl ?_)
       all_goals (
        refine WL.call (vs:=[_,_]) rfl Tryz.call213 rfl (eJ (k.aq az) lm p nT) rfl rfl rfl ?_
        rintro _ h2 ⟨⟨d2,rfl,iU,f2,hq'⟩,aI⟩
        rw [he] at hq' ⊢
        dsimp only [fM])
       all_goals (refine Go ?_;refine WL.aj (an (fun w=>Tryz.zeroValue273 w)) rfl rfl rfl ?_;rintro _ h3 ⟨b6,rfl,gl,bq,aQ⟩;refine WL.ax (al Tryz.sizeOf273 rfl rfl rfl bq rfl (eQ iU)) rfl rfl ?_;rintro _ h4 ⟨bC,aW⟩)
       all_goals (
        have gJ:Ext No h1 h4:=aI.trans (aQ.trans' aW (fun q hq e=>by omega))
        have X4:=az.trans gJ
        have bJ:=gJ.obj aR aO
        obtain ⟨i',hi',j9⟩:=hq' rfl
        have hii:=Option.some.inj (hi.symm.trans hi')
        subst hii
        have kM:=iU.ext (aQ.trans' (S:=No) aW (fun q hq e=>by omega)) (fun _ _=>aO)
        have hti:d2.text=i.d.text:=congrArg (·.1) j9
        have htp:d2.ps.map aX.pl=i.d.ps.map aX.pl:=congrArg (·.2.2.1) j9
        have htr:d2.ran=i.d.ran:=congrArg (·.2.2.2.2.1) j9
        obtain ⟨text,vo,oids,GG,I8,vr,I9,CB,vH⟩:=d2
        dsimp only at hti htp htr
        subst hti
        subst htr
        dsimp only [PD.cells] at bC
        obtain ⟨A6,c6,hvo,_⟩:=id kM.oids
        have okp:=kM.ps
        obtain ⟨_,⟨_,A7,c7,hvp,_⟩,_⟩:=id kM.ps
        obtain ⟨_,⟨_,A8,c8,hvr,_⟩,_⟩:=id kM.rs
        dsimp only at hvo hvp hvr okp
        subst hvo
        subst hvp
        subst hvr)
       all_goals (refine Go ?_;refine Gs [(0,_),(3,_),(6,_),(7,_)] ?_;refine G3 ?_;refine WL.step (cL (by kernel_rfl) rfl rfl) rfl rfl rfl ?_;refine Gn ?_;refine aH 1 2 ?_ TT.mk;refine aw 2 ?_;refine WC.skip ?_;refine Gn ?_;refine G2 ?_;refine WL.ld rfl (by first | exact aa bC rfl | assumption) rfl rfl rfl ?_;refine WL.call (vs:=[_]) rfl Tryz.call214 rfl (kp _) rfl rfl rfl ?_;rintro _ h5 ⟨rfl,aM⟩;refine WL.aj (an (fun w=>Tryz.zeroValue278 w)) rfl rfl rfl ?_;rintro _ h6 ⟨b8,rfl,qQ,bX,aN⟩;refine WL.ax (al Tryz.sizeOf278 rfl rfl rfl bX rfl (by simp [Value.oneCell'])) rfl rfl ?_;rintro _ h7 ⟨ca,ba⟩;have ns:Ext No h4 h7:=aM.trans (aN.trans' ba (fun q hq e=>by omega));refine Gn ?_;refine Gs [(0,_),(3,_),(6,_),(8,_)] ?_;refine WC.seq ?_;refine WC.sr ?_;refine WL.step (ay Tryz.isAgg278 Tryz.sizeOf278 rfl rfl (by exact At.av ca)) rfl rfl rfl ?_;refine WL.call (vs:=[_]) rfl Tryz.call215 rfl (kr _) rfl rfl rfl ?_;rintro _ h8 ⟨rfl,bz⟩;have jO:=ns.trans bz;have X8:=X4.trans jO;have nu:=jO.obj bC aO;have jH:=bz.obj ca aO;have fQ:=jO.obj bJ aO;have zS:=okp.aq jO;have k8:=k.aq X8;refine Gn ?_;refine aH 3 4 ?_ TT.mk;refine aw 4 ?_;refine WC.skip ?_;refine Gn ?_;refine G3 ?_;refine WL.ld rfl (by first | exact aa nu rfl | assumption) rfl rfl rfl ?_;rw [hran])
       all_goals (refine WL.step (ak rfl) rfl rfl rfl ?_;refine bK 58 ?_ TT.mk;refine Gg ?_;first | refine WL.pass rfl rfl rfl ?_ | (refine WL.ld rfl (by first | exact aa jH rfl | assumption) rfl rfl rfl ?_))
       all_goals (refine Gg ?_;refine Go ?_;refine Gs [(0,_),(3,_),(8,_),(62,_)] ?_;refine aH 7 8 ?_ TT.mk;refine aw 8 ?_;refine WC.skip ?_;refine Gn ?_;refine G2 ?_;refine WL.step (ay Tryz.isAgg278 Tryz.sizeOf278 rfl rfl (by exact At.av jH)) rfl rfl rfl ?_)
       all_goals (
        refine WL.call (vs:=[_,_]) rfl Tryz.call220 rfl (kt _ k8) rfl rfl rfl ?_
        rintro _ h9 ⟨v9,B9,c9,rfl,O9,GI,L9,P9,k9,J7,FB,t9⟩
        dsimp only [fM] at GI ⊢
        have T9:=(Tn.no (A:=A) (P:=P) X8).trans t9
        have FC:=t9.1.obj fQ (k8.not fQ (by decide) (by decide) (by decide)))
       all_goals (refine Go ?_;refine Gs [(0,_),(3,_),(7,_),(9,_)] ?_;refine G3 ?_;refine WL.step (rX (by kernel_rfl) rfl rfl) rfl rfl rfl ?_;refine Gn ?_;refine aH 9 10 ?_ TT.mk;refine aw 9 ?_;refine WC.jl 6 dm (by kernel_rfl) ?_;show WS _ _ _ [_,_,_,_,_,_] _ _ _)
       all_goals (refine WS.step (ak rfl) rfl rfl rfl ?_;refine WS.step (ae rfl) rfl rfl rfl ?_;refine WS.step (ad rfl Tryz.underlying153 rfl Tryz.sizeOf150) rfl rfl rfl ?_;refine WS.step (aA Tryz.isAgg150 rfl (by first | exact aa k9.se.bm rfl | assumption)) rfl rfl rfl ?_;refine WS.step (ad rfl Tryz.underlying42 rfl Tryz.sizeOf9) rfl rfl rfl ?_;refine WS.step (aA Tryz.isAgg9 rfl (by first | exact aa FC rfl | assumption)) rfl rfl rfl ?_;refine WS.nil ?_;show WL _ _ _ [_] _ _ _)
       all_goals (refine WL.call (vs:=[_,_,_]) rfl Tryz.call216 rfl (CF k9 p) rfl rfl rfl ?_;rintro _ iG ⟨Lz,sy,J8,t10,ct⟩;have xc:=O9.ext' ct (fun q hq ⟨cs,e⟩=>by obtain ⟨_,z⟩:=bO O9.own hq;rw [e] at z;simp at z) (fun b hb q e=>absurd e (FA GI hTn.2 b hb q));refine WL.nil ?_;refine Gn ?_;refine Gs [(7,_),(9,_)] ?_;refine G2 ?_;refine Gs [(4,_),(5,_)] ?_;refine Gt ?_;exact ⟨v9,B9,c9,rfl,xc.mono X8.size,GI,L9,Lz,sy,J7,by rw [J8,FB],T9.trans t10⟩)
   · dsimp only
     rw [hT] at kt
     unfold fR.cells mh at kp kr kt
     rcases (show i.d.ran=true∧(bh i.d.text).k=1∨i.d.ran=false by
       cases h1:i.d.ran
       · exact .inr rfl
       · exact .inl ⟨rfl,Classical.not_not.1 fun e=>hc ⟨h1,e⟩⟩) with ⟨hran,LA⟩ | hran
     all_goals
       refine calls [(0,_),(1,_)] Tryz.func149 rfl Tryz.ntmps149 rfl ⟨rfl,rfl,trivial⟩ ?_
       all_goals (refine WC.sr ?_;refine WL.aj (aG rfl) rfl rfl rfl ?_;rintro _ h1 ⟨b3,rfl,bR,aR,az⟩;refine Go ?_;refine G2 ?_;refine WL.ld rfl (by first | exact aa aR rfl | assumption) rfl rfl rfl ?_)
       all_goals (
        refine WL.call (vs:=[_,_]) rfl Tryz.call213 rfl (eJ (k.aq az) lm p nT) rfl rfl rfl ?_
        rintro _ h2 ⟨⟨d2,rfl,iU,f2,hq'⟩,aI⟩
        rw [he] at hq' ⊢
        dsimp only [fM])
       all_goals (refine Go ?_;refine WL.aj (an (fun w=>Tryz.zeroValue273 w)) rfl rfl rfl ?_;rintro _ h3 ⟨b6,rfl,gl,bq,aQ⟩;refine WL.ax (al Tryz.sizeOf273 rfl rfl rfl bq rfl (eQ iU)) rfl rfl ?_;rintro _ h4 ⟨bC,aW⟩)
       all_goals (
        have gJ:Ext No h1 h4:=aI.trans (aQ.trans' aW (fun q hq e=>by omega))
        have X4:=az.trans gJ
        have bJ:=gJ.obj aR aO
        obtain ⟨i',hi',j9⟩:=hq' rfl
        have hii:=Option.some.inj (hi.symm.trans hi')
        subst hii
        have kM:=iU.ext (aQ.trans' (S:=No) aW (fun q hq e=>by omega)) (fun _ _=>aO)
        have hti:d2.text=i.d.text:=congrArg (·.1) j9
        have htp:d2.ps.map aX.pl=i.d.ps.map aX.pl:=congrArg (·.2.2.1) j9
        have htr:d2.ran=i.d.ran:=congrArg (·.2.2.2.2.1) j9
        obtain ⟨text,vo,oids,GG,I8,vr,I9,CB,vH⟩:=d2
        dsimp only at hti htp htr
        subst hti
        subst htr
        dsimp only [PD.cells] at bC
        obtain ⟨A6,c6,hvo,_⟩:=id kM.oids
        have okp:=kM.ps
        obtain ⟨_,⟨_,A7,c7,hvp,_⟩,_⟩:=id kM.ps
        obtain ⟨_,⟨_,A8,c8,hvr,_⟩,_⟩:=id kM.rs
        dsimp only at hvo hvp hvr okp
        subst hvo
        subst hvp
        subst hvr)
       all_goals (refine Go ?_;refine Gs [(0,_),(3,_),(6,_),(7,_)] ?_;refine G3 ?_;refine WL.step (cL (by kernel_rfl) rfl rfl) rfl rfl rfl ?_;refine Gn ?_;refine aH 1 2 ?_ TT.mk;refine aw 2 ?_;refine WC.skip ?_;refine Gn ?_;refine G2 ?_;refine WL.ld rfl (by first | exact aa bC rfl | assumption) rfl rfl rfl ?_;refine WL.call (vs:=[_]) rfl Tryz.call214 rfl (kp _) rfl rfl rfl ?_;rintro _ h5 ⟨rfl,aM⟩;refine WL.aj (an (fun w=>Tryz.zeroValue278 w)) rfl rfl rfl ?_;rintro _ h6 ⟨b8,rfl,qQ,bX,aN⟩;refine WL.ax (al Tryz.sizeOf278 rfl rfl rfl bX rfl (by simp [Value.oneCell'])) rfl rfl ?_;rintro _ h7 ⟨ca,ba⟩;have ns:Ext No h4 h7:=aM.trans (aN.trans' ba (fun q hq e=>by omega));refine Gn ?_;refine Gs [(0,_),(3,_),(6,_),(8,_)] ?_;refine WC.seq ?_;refine WC.sr ?_;refine WL.step (ay Tryz.isAgg278 Tryz.sizeOf278 rfl rfl (by exact At.av ca)) rfl rfl rfl ?_;refine WL.call (vs:=[_]) rfl Tryz.call215 rfl (kr _) rfl rfl rfl ?_;rintro _ h8 ⟨rfl,bz⟩;have jO:=ns.trans bz;have X8:=X4.trans jO;have nu:=jO.obj bC aO;have jH:=bz.obj ca aO;have fQ:=jO.obj bJ aO;have zS:=okp.aq jO;have k8:=k.aq X8;refine Gn ?_;refine aH 3 4 ?_ TT.mk;refine aw 4 ?_;refine WC.skip ?_;refine Gn ?_;refine G3 ?_;refine WL.ld rfl (by first | exact aa nu rfl | assumption) rfl rfl rfl ?_;rw [hran])
       all_goals (refine WL.step (ak rfl) rfl rfl rfl ?_;refine bK 58 ?_ TT.mk;refine Gg ?_;first | refine WL.pass rfl rfl rfl ?_ | (refine WL.ld rfl (by first | exact aa jH rfl | assumption) rfl rfl rfl ?_))
       all_goals (refine Gg ?_;refine Go ?_;refine Gs [(0,_),(3,_),(8,_),(62,_)] ?_;refine aH 7 8 ?_ TT.mk;refine aw 8 ?_;refine WC.skip ?_;refine Gn ?_;refine G2 ?_;refine WL.step (ay Tryz.isAgg278 Tryz.sizeOf278 rfl rfl (by exact At.av jH)) rfl rfl rfl ?_;refine WL.call (vs:=[_,_]) rfl Tryz.call220 rfl (kt _ k8) rfl rfl rfl ?_;rintro _ h9 ⟨v9,B9,c9,rfl,O9,GI,L9,P9,k9,J7,FB,t9⟩;dsimp only [fM] at GI ⊢)
       all_goals (refine Go ?_;refine Gs [(0,_),(3,_),(7,_),(9,_)] ?_;refine G3 ?_;refine WL.step (zd (by kernel_rfl) rfl rfl) rfl rfl rfl ?_;refine Gn ?_;refine aH 9 10 ?_ TT.mk;refine aw 10 ?_;refine WC.skip ?_;refine Gn ?_;refine Gs [(7,_),(9,_)] ?_;refine G2 ?_;refine Gs [(4,_),(5,_)] ?_;refine Gt ?_;exact ⟨v9,B9,c9,rfl,O9.mono X8.size,GI,L9,P9,k9,J7,FB,(Tn.no (A:=A) (P:=P) X8).trans t9⟩)
theorem xd (k:Ss h A st sk ov cnt L P) (lm:jg (ck st sk ov cnt L P)) (f:Fm) (hf:f.ok h) (fl:gG f) :
   ag Tryz.prog 149 ⟨[.pointer (some ⟨A.bs,0,none⟩),.agg ⟨f.cells⟩]⟩ h (cj h A P (cd (ck st sk ov cnt L P) f.p)):=by
 rcases he:gE (ck st sk ov cnt L P) f.portal with _ | ⟨ea,ec⟩
 · obtain ⟨i,hi⟩:=nr he
   cases hr:gb (bh i.d.text)
   · exact ur k lm f hf fl he hi hr
   · exact uo k lm f hf fl he hi hr
 · have hpe : cd (ck st sk ov cnt L P) f.p = (ck st sk ov cnt L P, [], some (ea, ec)) := by
     unfold cd
     rw [show gE (ck st sk ov cnt L P) f.p.portal=_ from he]
   rw [hpe]
   obtain ⟨⟨e1,_⟩,⟨e2,_⟩,⟨e3,_⟩,e4,_⟩:=hf
   obtain ⟨oY,nT,wZ,jN,zJ,_⟩:=fl
   obtain ⟨fk,w,n,p,t,vo,o,vf,fs,vs,rs,vp,ps,mx⟩:=f
   dsimp only at e1 e2 e3 e4 oY nT wZ jN zJ he
   obtain ⟨A1,c1,rfl,_⟩:=e1
   obtain ⟨_,_,rfl,_⟩:=e2
   obtain ⟨_,_,rfl,_⟩:=e3
   obtain ⟨A4,c4,rfl,_⟩:=e4
   dsimp only [Fm.cells]
   refine calls [(0,_),(1,_)] Tryz.func149 rfl Tryz.ntmps149 rfl ⟨rfl,rfl,trivial⟩ ?_
   refine WC.sr ?_;refine WL.aj (aG rfl) rfl rfl rfl ?_
   rintro _ h1 ⟨b3,rfl,bR,aR,az⟩
   refine Go ?_;refine G2 ?_;refine WL.ld rfl (by first | exact aa aR rfl | assumption) rfl rfl rfl ?_
   refine WL.call (vs:=[_,_]) rfl Tryz.call213 rfl (eJ (k.aq az) lm p nT) rfl rfl rfl ?_
   rintro _ h2 ⟨⟨d2,rfl,iU,f2,hq'⟩,aI⟩
   rw [he] at hq' ⊢
   dsimp only [fM]
   refine Go ?_;refine WL.aj (an (fun w=>Tryz.zeroValue273 w)) rfl rfl rfl ?_
   rintro _ h3 ⟨b6,rfl,gl,bq,aQ⟩
   refine WL.ax (al Tryz.sizeOf273 rfl rfl rfl bq rfl (eQ iU)) rfl rfl ?_
   rintro _ h4 ⟨bC,aW⟩
   have X4:Ext No h h4:=(az.trans aI).trans (aQ.trans' aW (fun q hq e=>by omega))
   refine Go ?_;refine Gs [(0,_),(3,_),(6,_),(7,_)] ?_;refine G3 ?_;refine WL.step (fF (by kernel_rfl) rfl rfl) rfl rfl rfl ?_
   refine Gn ?_
   refine aH 1 2 ?_ TT.mk
   all_goals (refine aw 1 ?_)
   refine G2 ?_;refine Gs [(4,_),(5,_)] ?_;refine Gt ?_
   exact cj.err rfl (.of (k.aq X4) (Tn.no X4))
end
section
variable {h h':ah} {A:Ad} {st:Int} {sk ov:Bool} {cnt:Int} {L:List (List UInt8 × gy)} {P:List (List UInt8 × ee)}
theorem qi (k:Ss h A st sk ov cnt L P) (n:List UInt8):ag Tryz.prog 221 ⟨[.pointer (some ⟨A.bp,0,none⟩),St n]⟩ h fun _ h'=>∃ P',(∀ q∈P',q∈P)∧Ss h' A st sk ov cnt L P'∧fN P'=cb (fN P) n∧Tn A P h h' P':=by
 rcases hg:bG P n with _ | i
 · refine (yM n k.se.pb k.se.pm (by rw [cN,hg];rfl)).mono fun u h' ⟨_,e⟩=>?_
   subst e
   have hde:cb P n=P:=List.filter_eq_self.2 fun q hq=>by simpa using my hg q hq
   exact ⟨P,fun _ h=>h,k,(congrArg fN hde).symm.trans (mC _ _),Tn.no (.refl _ _)⟩
 · refine (DG (k.pe hg)).mono fun u h' ⟨_,hm,hx⟩=>?_
   rw [ez] at hm
   have kk:=k.cG hx hm (fun q hq=>(cB hq).1)
   exact ⟨_,fun q hq=>(cB hq).1,kk.1,mC _ _,kk.2⟩
theorem eT.trans {L1:List (List UInt8 × gy)} {P1:List (List UInt8 × ee)} {h1:ah} {r:fS} {u:Value} (t:Tn A P h h1 P1) (hL:∀ q∈L1,q∈L) (hP:∀ q∈P1,q∈P) (d:eT h1 A L1 P1 r u h'):eT h A L P r u h':=by
 obtain ⟨v,B,c,e,O,p,L2,P2,s1,s2,k,e1,e2,t2⟩:=d
 exact ⟨v,B,c,e,O.mono t.1.size,p,L2,P2,fun q hq=>hL q (s1 q hq),fun q hq=>hP q (s2 q hq),k,e1,e2,t.trans t2⟩
theorem vI (k:Ss h A st sk ov cnt L P) (lm:jg (ck st sk ov cnt L P)) (f:Fm) (hf:f.ok h) (fl:gG f):ag Tryz.prog 151 ⟨[.pointer (some ⟨A.bs,0,none⟩),.agg ⟨f.cells⟩]⟩ h (eT h A L P (dy (ck st sk ov cnt L P) f.p)):=by
 have hcl:cnt < 1000000:=lm.c
 have hco:=k.cok
 obtain ⟨⟨e1,_⟩,⟨e2,_⟩,⟨e3,_⟩,e4,_⟩:=hf
 obtain ⟨oY,nT,wZ,jN,zJ,_⟩:=fl
 obtain ⟨fk,w,n,p,t,vo,o,vf,fs,vs,rs,vp,ps,mx⟩:=f
 dsimp only at e1 e2 e3 e4 oY nT wZ jN zJ
 obtain ⟨A1,c1,rfl,_⟩:=e1
 obtain ⟨_,_,rfl,_⟩:=e2
 obtain ⟨_,_,rfl,_⟩:=e3
 obtain ⟨A4,c4,rfl,_⟩:=e4
 dsimp only [Fm.cells,Fm.p]
 have hpe : dy (ck st sk ov cnt L P) ⟨fk, w, n, p, t, o, ps.map aX.pl, mx⟩ = match jF t st with
     | some e=>(⟨st,sk,ov,cnt,cb (qd L) [],cb (fN P) []⟩,[],some e)
     | none=>if gb (bh t)=true then (⟨st,sk,ov,(cY (bh t) [] cnt).2,cb (qd L) [],cb (fN P) []⟩,oX (om (bh t) 0) :: cQ (cY (bh t) [] cnt).1 false,none)
       else cG ⟨st,sk,ov,cnt,cb (qd L) [],cb (fN P) []⟩ (bh t):=rfl
 rw [hpe]
 clear hpe
 have kp:=fun h'=>oN (h:=h') t (by omega)
 have kr:=fun h'=>kj (h:=h') (bh t)
 have kc:=fun h'=>oO (h:=h') (bh t) 0
 have kt:=fun (g:ah) (L:List (List UInt8 × gy)) (P:List (List UInt8 × ee)) (k:Ss g A st sk ov cnt L P)=>zN k (bh t)
 have ke:=fun (g:ah) (cn:Int) (hb:g[A.be]?=some (.cells ⟨[.map (some A.me),In cn]⟩ 104 (0,0))) (hc:0≤cn∧cn≤1000000)=>su hb hc (bh t) (vp:=nS) [] ⟨Rd.nil _ _,⟨by simp,_,_,rfl,by simp [maxLen]⟩,by simp⟩
 have kre:=fun (g:ah) (L:List (List UInt8 × gy)) (P:List (List UInt8 × ee)) (k:Ss g A st sk ov cnt L P)=>iZ k t (by omega)
 unfold fR.cells mh at kp kr kc kt ke
 simp only [List.map_nil] at ke
 rcases hr:jF t st with _ | ⟨ra,rb⟩
 · rw [hr] at kre
   dsimp only
   cases hw:gb (bh t)
   · rw [hw] at kr
     rw [if_neg (by decide)]
     refine calls [(0,_),(1,_)] Tryz.func151 rfl Tryz.ntmps151 rfl ⟨rfl,rfl,trivial⟩ ?_
     refine WC.sr ?_;refine WL.aj (aG rfl) rfl rfl rfl ?_
     rintro _ h1 ⟨b3,rfl,bR,aR,az⟩
     have k1:=k.aq az
     refine Go ?_;refine G2 ?_;refine WL.step (ae rfl) rfl rfl rfl (Go ?_);refine WL.ld rfl (by first | exact aa k1.se.bm rfl | assumption) rfl rfl rfl ?_
     refine WL.ax (fo rfl fB Tryz.underlying149 Tryz.underlying9 rfl rfl k1.se.stm) rfl rfl ?_
     rintro _ h2 ⟨oZ,aI⟩
     rw [ez] at oZ
     obtain ⟨k2,t2⟩:=k1.nj aI oZ (fun q hq=>.inl (cB hq).1)
     have bH:=t2.1.obj aR (k1.not aR (by decide) (by decide) (by decide))
     refine Gn ?_;refine Gs [(0,_),(3,_)] ?_;refine G2 ?_;refine WL.step (ae rfl) rfl rfl rfl (Go ?_);refine WL.ld rfl (by first | exact aa k2.se.bm rfl | assumption) rfl rfl rfl ?_
     refine WL.call (vs:=[_,_]) rfl Tryz.call221 rfl (qi k2 []) rfl rfl rfl ?_
     rintro _ h4 ⟨P4,HP,k4,HQ,t4⟩
     have bC:=t4.1.obj bH (k2.not bH (by decide) (by decide) (by decide))
     have T4:=((Tn.no (A:=A) (P:=P) az).trans t2).trans t4
     refine Gn ?_;refine Gs [(0,_),(3,_)] ?_;refine G3 ?_;refine WL.ld rfl (by first | exact aa bC rfl | assumption) rfl rfl rfl ?_
     refine WL.call (vs:=[_,_]) rfl Tryz.call203 rfl (kre _ _ _ k4) rfl rfl rfl ?_
     rintro _ h5 ⟨rfl,aM⟩
     dsimp only [fM]
     have k5:=k4.aq aM
     have bV:=aM.obj bC aO
     have T5:=T4.trans (Tn.no aM)
     refine Go ?_;refine Gs [(0,_),(3,_),(6,_)] ?_;refine G2 ?_;refine WL.step (cL (by kernel_rfl) rfl rfl) rfl rfl rfl ?_
     refine Gn ?_
     refine aH 1 2 ?_ TT.mk
     all_goals (refine aw 2 ?_)
     refine WC.skip ?_;refine Gn ?_;refine G2 ?_;refine WL.ld rfl (by first | exact aa bV rfl | assumption) rfl rfl rfl ?_
     refine WL.call (vs:=[_]) rfl Tryz.call214 rfl (kp _) rfl rfl rfl ?_
     rintro _ h6 ⟨rfl,aN⟩
     refine WL.aj (an (fun w=>Tryz.zeroValue278 w)) rfl rfl rfl ?_
     rintro _ h7 ⟨b7,rfl,xG,ca,ba⟩
     refine WL.ax (al Tryz.sizeOf278 rfl rfl rfl ca rfl (by simp [Value.oneCell'])) rfl rfl ?_
     rintro _ h8 ⟨bE,bz⟩
     have HR:Ext No h5 h8:=aN.trans (ba.trans' bz (fun q hq e=>by omega))
     refine Gn ?_;refine Gs [(0,_),(7,_)] ?_;refine WC.seq ?_;refine WC.sr ?_;refine WL.step (ay Tryz.isAgg278 Tryz.sizeOf278 rfl rfl (by exact At.av bE)) rfl rfl rfl ?_
     refine WL.call (vs:=[_]) rfl Tryz.call215 rfl (kr _) rfl rfl rfl ?_
     rintro _ h9 ⟨rfl,bZ⟩
     have bY:=bZ.obj bE aO
     have k9:=k5.aq (HR.trans bZ)
     have T9:=T5.trans (Tn.no (HR.trans bZ))
     refine Go ?_
     refine aH 3 4 ?_ TT.mk
     all_goals (refine aw 3 ?_)
     refine G2 ?_;refine WL.step (ay Tryz.isAgg278 Tryz.sizeOf278 rfl rfl (by exact At.av bY)) rfl rfl rfl ?_
     refine WL.call (vs:=[_,_]) rfl Tryz.call220 rfl (kt _ _ _ k9) rfl rfl rfl ?_
     rintro _ qh ⟨v11,MZ,J9,rfl,d11⟩
     refine Go ?_;refine Gs [(4,_),(5,_)] ?_;refine Gt ?_
     have hs:ck st sk ov cnt (cb L []) P4=⟨st,sk,ov,cnt,cb (qd L) [],cb (fN P) []⟩:=by simp only [ck,kA,HQ]
     rw [← hs]
     exact eT.trans T9 (fun q hq=>(cB hq).1) HP ⟨v11,MZ,J9,rfl,d11⟩
   · rw [hw] at kr
     rw [if_pos rfl]
     refine calls [(0,_),(1,_)] Tryz.func151 rfl Tryz.ntmps151 rfl ⟨rfl,rfl,trivial⟩ ?_
     refine WC.sr ?_;refine WL.aj (aG rfl) rfl rfl rfl ?_
     rintro _ h1 ⟨b3,rfl,bR,aR,az⟩
     have k1:=k.aq az
     refine Go ?_;refine G2 ?_;refine WL.step (ae rfl) rfl rfl rfl (Go ?_);refine WL.ld rfl (by first | exact aa k1.se.bm rfl | assumption) rfl rfl rfl ?_
     refine WL.ax (fo rfl fB Tryz.underlying149 Tryz.underlying9 rfl rfl k1.se.stm) rfl rfl ?_
     rintro _ h2 ⟨oZ,aI⟩
     rw [ez] at oZ
     obtain ⟨k2,t2⟩:=k1.nj aI oZ (fun q hq=>.inl (cB hq).1)
     have bH:=t2.1.obj aR (k1.not aR (by decide) (by decide) (by decide))
     refine Gn ?_;refine Gs [(0,_),(3,_)] ?_;refine G2 ?_;refine WL.step (ae rfl) rfl rfl rfl (Go ?_);refine WL.ld rfl (by first | exact aa k2.se.bm rfl | assumption) rfl rfl rfl ?_
     refine WL.call (vs:=[_,_]) rfl Tryz.call221 rfl (qi k2 []) rfl rfl rfl ?_
     rintro _ h4 ⟨P4,HP,k4,HQ,t4⟩
     have bC:=t4.1.obj bH (k2.not bH (by decide) (by decide) (by decide))
     have T4:=((Tn.no (A:=A) (P:=P) az).trans t2).trans t4
     refine Gn ?_;refine Gs [(0,_),(3,_)] ?_;refine G3 ?_;refine WL.ld rfl (by first | exact aa bC rfl | assumption) rfl rfl rfl ?_
     refine WL.call (vs:=[_,_]) rfl Tryz.call203 rfl (kre _ _ _ k4) rfl rfl rfl ?_
     rintro _ h5 ⟨rfl,aM⟩
     dsimp only [fM]
     have k5:=k4.aq aM
     have bV:=aM.obj bC aO
     have T5:=T4.trans (Tn.no aM)
     refine Go ?_;refine Gs [(0,_),(3,_),(6,_)] ?_;refine G2 ?_;refine WL.step (cL (by kernel_rfl) rfl rfl) rfl rfl rfl ?_
     refine Gn ?_
     refine aH 1 2 ?_ TT.mk
     all_goals (refine aw 2 ?_)
     refine WC.skip ?_;refine Gn ?_;refine G2 ?_;refine WL.ld rfl (by first | exact aa bV rfl | assumption) rfl rfl rfl ?_
     refine WL.call (vs:=[_]) rfl Tryz.call214 rfl (kp _) rfl rfl rfl ?_
     rintro _ h6 ⟨rfl,aN⟩
     refine WL.aj (an (fun w=>Tryz.zeroValue278 w)) rfl rfl rfl ?_
     rintro _ h7 ⟨b7,rfl,xG,ca,ba⟩
     refine WL.ax (al Tryz.sizeOf278 rfl rfl rfl ca rfl (by simp [Value.oneCell'])) rfl rfl ?_
     rintro _ h8 ⟨bE,bz⟩
     have HR:Ext No h5 h8:=aN.trans (ba.trans' bz (fun q hq e=>by omega))
     refine Gn ?_;refine Gs [(0,_),(7,_)] ?_;refine WC.seq ?_;refine WC.sr ?_;refine WL.step (ay Tryz.isAgg278 Tryz.sizeOf278 rfl rfl (by exact At.av bE)) rfl rfl rfl ?_
     refine WL.call (vs:=[_]) rfl Tryz.call215 rfl (kr _) rfl rfl rfl ?_
     rintro _ h9 ⟨rfl,bZ⟩
     have bY:=bZ.obj bE aO
     have k9:=k5.aq (HR.trans bZ)
     have T9:=T5.trans (Tn.no (HR.trans bZ))
     refine Go ?_
     refine aH 3 4 ?_ TT.mk
     all_goals (refine aw 4 ?_)
     refine WC.skip ?_;refine Gn ?_;refine WC.sr ?_;refine WL.step (ay Tryz.isAgg278 Tryz.sizeOf278 rfl rfl (by exact At.av bY)) rfl rfl rfl ?_
     refine WL.call (vs:=[_,_]) rfl Tryz.call223 rfl (kc _) rfl rfl rfl ?_
     rintro _ iG ⟨rfl,ct⟩
     refine WL.call (vs:=[_]) rfl Tryz.call222 rfl (vE _) rfl rfl rfl ?_
     rintro _ qh ⟨M1,rfl,Ka,DR,f11,cM⟩
     refine WL.aj (au (vs:=[_]) (cs:=[_,_,_,_,_,_,_,_,_,_,_]) (fun | [.agg ⟨[a0,a1,a2,a3,a4,a5,a6,a7,a8,a9,gY]⟩]=>[a0,a1,a2,a3,a4,a5,a6,a7,a8,a9,gY] | _=>[]) Tryz.underlying80 rfl rfl (by kernel_rfl)) rfl rfl rfl ?_
     rintro _ qS ⟨DS,rfl,Kb,bT,ey⟩
     have CG:=(ct.trans cM).trans ey
     have Bu:=k9.aq CG
     have M3:=ct.size
     have M4:=cM.size
     have GH:cz h9 qS (.slice (some ⟨DS,0,none⟩) 1 1) [M1]:=.of Ka (fun q hq=>by have:=f11 q hq;omega) ey bT Kb (by omega)
     have zW:=CG.obj bY aO
     have OJ:=T9.trans (Tn.no CG)
     have n1:¬ (A.bs=A.be∨A.bs=DS):=fun e=>e.elim (bw Bu.se.bm Bu.se.eb (by decide)) (bw Bu.se.bm bT (by decide))
     have n2:¬ (b7=A.be∨b7=DS):=fun e=>e.elim (bw zW Bu.se.eb (by decide)) (bw zW bT (by decide))
     have n3:¬ DS=A.be:=bw bT Bu.se.eb (by decide)
     refine Go ?_;refine Gs [(0,_),(7,_),(8,_)] ?_;refine WC.seq ?_;refine WC.bW (fun h'=>Ext (fun q=>q=A.be∨q=DS) qS h') 11 11 rfl dm ?_
     refine WH.tk 0 rfl (fun hq hC=>ak rfl) rfl rfl rfl ?_
     refine WH.tk 1 rfl (fun hq hC=>ak rfl) rfl rfl rfl ?_
     refine WH.tk 2 rfl (fun hq hC=>ae rfl) rfl rfl rfl ?_
     refine WH.tk 3 rfl (fun hq hC=>ad rfl Tryz.underlying153 rfl Tryz.sizeOf46) rfl rfl rfl ?_
     refine WH.tk 4 rfl (fun hq hC=>aA Tryz.isAgg46 rfl (by first | exact hC.cell (by first | exact aa Bu.se.bm rfl | assumption) n1)) rfl rfl rfl ?_
     refine WH.tk 5 rfl (fun hq hC=>ay Tryz.isAgg278 Tryz.sizeOf278 rfl rfl (by exact (At.av zW).ext hC n2)) rfl rfl rfl ?_
     refine WH.one 6 (by kernel_rfl) ?_
     refine aC.call (vs:=[_,_,_]) rfl rfl Tryz.call217 rfl (ke _ _ Bu.se.eb hco) rfl rfl rfl ?_ (fun _=>by kernel_rfl)
     rintro uR FD ⟨LL,rL,pL,fL,cw,gw⟩
     obtain ⟨Kc,t13⟩:=Bu.zP gw cw (by unfold cY;split <;> (try split) <;> (try split) <;> dsimp only <;> omega)
     have hlim:=zQ pL (gH _ _ (by simp))
     have M6:=GH.ext' gw (fun q hq e=>by simp only [Value.ownBlock,Option.some.injEq] at hq;omega) (fun b hb q hq e=>by have:=GH.bf b hb q hq;have:=ai k9.se.eb;omega)
     refine ⟨fun _=>gw.mono fun _ _ e=>.inl e,?_⟩
     refine WH.one 7 (by kernel_rfl) ?_
     refine aC.call (vs:=[_,_]) rfl rfl Tryz.call218 rfl (qf LL rL false hlim.1 hlim.2) rfl rfl rfl ?_ (fun _=>by kernel_rfl)
     rintro OL CH ⟨OM,GJ,FE,il⟩
     obtain ⟨ON,OO,rfl,_⟩:=GJ.own.slice
     have FF:Ext (fun q=>q=A.be∨q=DS) qS CH:=(gw.mono fun _ _ e=>.inl e).trans (il.mono fun _ _ e=>e.elim)
     have HS:=M6.aq il
     refine ⟨fun _=>FF,?_⟩
     refine WH.one 8 (by kernel_rfl) ?_
     refine aC.run rfl (aT (sz:=11) (bytes:=168) rfl Tryz.underlying80 (show Tryz.prog.info? 140=some Tryz.t140 by kernel_rfl) rfl rfl rfl rfl (by decide) rfl rfl HS.own GJ.own.rd (fun v hv=>by obtain ⟨b,hb,hv⟩:=List.mem_flatMap.1 hv;exact (GJ.ok b hb).one v hv) (by have:=GJ.own.len;have:=congrArg List.length FE;simp [cQ] at this;simp only [maxLen,List.length_singleton];omega) (by have:=congrArg List.length FE;simp [cQ] at this;simp only [List.length_singleton];omega)) rfl rfl rfl ?_ (fun _=>by kernel_rfl)
     rintro OP HT ⟨Ke,qj,Kg⟩
     refine ⟨fun _=>FF.trans (qj.mono fun q _ e=>.inr (by simpa [Value.ownBlock] using e.symm)),?_⟩
     have Kh:Ext (fun q=>q=A.be∨q=DS) qS HT:=FF.trans (qj.mono fun q _ e=>.inr (by simpa [Value.ownBlock] using e.symm))
     refine WH.tk 9 rfl (fun hq hC=>aP rfl) rfl rfl rfl ?_
     refine WH.tk 10 rfl (fun hq hC=>aP rfl) rfl rfl rfl ?_
     refine WH.done (by kernel_rfl) ?_
     refine Gn ?_;refine Gs [(4,_),(5,_)] ?_;refine Gt ?_
     have X9:Ext (fun q=>q=A.be) h9 HT:=(CG.mono (S':=fun q=>q=A.be) fun _ _ e=>e.elim).trans' Kh (fun q hq e=>e.elim id (fun e=>by omega))
     have db:=qj.obj (il.obj cw aO) (fun e=>n3 (by simpa [Value.ownBlock] using e))
     obtain ⟨M8,t15⟩:=k9.zP X9 db Kc.cok
     have Na:=ey.size
     have OQ:=gw.size
     have Nb:=HS.append (GJ.mono (h0:=h9) (by omega)) (fun c hc z hz e=>by simp only [Value.ownBlock,Option.some.injEq] at e;have:=GJ.bf c hc z hz;have:=ai bT;omega) (by have:=il.size;omega) Ke qj Kg
     exact ⟨_,_,(fun e=>absurd rfl e),rfl,Nb.mono T9.1.size,by rw [List.map_append,FE,pL,List.map_singleton,DR];rfl,_,_,fun q hq=>(cB hq).1,HP,M8,kA _ _,HQ,T9.trans t15⟩
 · rw [hr] at kre
   dsimp only
   refine calls [(0,_),(1,_)] Tryz.func151 rfl Tryz.ntmps151 rfl ⟨rfl,rfl,trivial⟩ ?_
   refine WC.sr ?_;refine WL.aj (aG rfl) rfl rfl rfl ?_
   rintro _ h1 ⟨b3,rfl,bR,aR,az⟩
   have k1:=k.aq az
   refine Go ?_;refine G2 ?_;refine WL.step (ae rfl) rfl rfl rfl (Go ?_);refine WL.ld rfl (by first | exact aa k1.se.bm rfl | assumption) rfl rfl rfl ?_
   refine WL.ax (fo rfl fB Tryz.underlying149 Tryz.underlying9 rfl rfl k1.se.stm) rfl rfl ?_
   rintro _ h2 ⟨oZ,aI⟩
   rw [ez] at oZ
   obtain ⟨k2,t2⟩:=k1.nj aI oZ (fun q hq=>.inl (cB hq).1)
   have bH:=t2.1.obj aR (k1.not aR (by decide) (by decide) (by decide))
   refine Gn ?_;refine Gs [(0,_),(3,_)] ?_;refine G2 ?_;refine WL.step (ae rfl) rfl rfl rfl (Go ?_);refine WL.ld rfl (by first | exact aa k2.se.bm rfl | assumption) rfl rfl rfl ?_
   refine WL.call (vs:=[_,_]) rfl Tryz.call221 rfl (qi k2 []) rfl rfl rfl ?_
   rintro _ h4 ⟨P4,HP,k4,HQ,t4⟩
   have bC:=t4.1.obj bH (k2.not bH (by decide) (by decide) (by decide))
   have T4:=((Tn.no (A:=A) (P:=P) az).trans t2).trans t4
   refine Gn ?_;refine Gs [(0,_),(3,_)] ?_;refine G3 ?_;refine WL.ld rfl (by first | exact aa bC rfl | assumption) rfl rfl rfl ?_
   refine WL.call (vs:=[_,_]) rfl Tryz.call203 rfl (kre _ _ _ k4) rfl rfl rfl ?_
   rintro _ h5 ⟨rfl,aM⟩
   dsimp only [fM]
   have k5:=k4.aq aM
   have bV:=aM.obj bC aO
   have T5:=T4.trans (Tn.no aM)
   refine Go ?_;refine Gs [(0,_),(3,_),(6,_)] ?_;refine G2 ?_;refine WL.step (fF (by kernel_rfl) rfl rfl) rfl rfl rfl ?_
   refine Gn ?_
   refine aH 1 2 ?_ TT.mk
   all_goals (refine aw 1 ?_)
   refine G2 ?_;refine Gs [(4,_),(5,_)] ?_;refine Gt ?_
   have hs:ck st sk ov cnt (cb L []) P4=⟨st,sk,ov,cnt,cb (qd L) [],cb (fN P) []⟩:=by simp only [ck,kA,HQ]
   rw [← hs]
   exact ⟨_,[],fun _=>rfl,rfl,cz.nil _ _,rfl,_,_,fun q hq=>(cB hq).1,HP,k5,rfl,rfl,T5⟩
end
section
variable {h h':ah} {bs ms bp mp be me:Nat} {st st':Int} {sk ov:Bool} {cnt:Int} {L P P' R:List (List UInt8 × Value)} {S:Nat→Prop}
theorem vJ {h:ah} (t:Value):ag Tryz.prog 102 ⟨[.nilIface,t]⟩ h fun u h'=>u=.bool false∧h'=h:=by
 refine calls [(0,_),(1,_)] Tryz.func102 rfl Tryz.ntmps102 rfl ⟨rfl,rfl,trivial⟩ ?_
 refine G2 ?_;refine G3 ?_;refine WL.step (rX (by kernel_rfl) rfl rfl) rfl rfl rfl ?_
 refine Gn ?_
 refine aH 1 2 ?_ TT.mk
 all_goals (refine aw 1 ?_)
 refine G2 ?_;refine Gs [(4,_)] ?_;refine Gt ?_
 exact ⟨rfl,rfl⟩
end
section
variable {h h':ah} {bs ms bp mp be me:Nat} {st st':Int} {sk ov:Bool} {cnt:Int} {L P P' R:List (List UInt8 × Value)} {S:Nat→Prop}
abbrev L1:List (List UInt8 × Value):=[(([97]:List UInt8),.agg ⟨[St p4,nS]⟩)]
end
end Go.Proofs.YtopgddfgefnmbaaGreatDoor
namespace Go.Proofs.YtopgddfgefnmbaaGreatDoor
open Go Go.RowKit Go.Extern.Stop Go.Stop Go.Extern
open Go.RK (St In)
theorem Rf.xe (t:Addr) (w:World):(ReflectliteValue.unpack (.iface 171 (.pointer (some t)))).run Tryz.prog w
   = .ok (.agg #[.pointer (some ⟨4,171,none⟩),.pointer (some ⟨w.heap.size,0,none⟩),.int .u64 150]) (w.alloc (.cells #[.pointer (some t)] 171)):=by kernel_rfl
theorem Rf.type27 (a:Addr) (w:World):(ReflectliteValue.methodAny (ReflectliteValue.valueError "reflectlite.Value.Type" 0) (fun t _ _ _=>ReflectliteType.toType t) #[.agg #[.pointer (some ⟨4,171,none⟩),.pointer (some a),.int .u64 150]]).run Tryz.prog w
   = .ok (.iface 290 (.agg #[.pointer (some ⟨4,171,none⟩)])) w:=by kernel_rfl
theorem Rf.uu (h:Value) (w:World):(Go.method 512 290 (.agg #[h]) "Kind").run Tryz.prog w=.ok (338,h) w:=by kernel_rfl
theorem Rf.FG (w:World):((ReflectliteType.abiMethod fun t=>(fun a:Nat=>Value.int IntKind.u8 (a:Int)) <$> Rtype.kind t) #[.pointer (some ⟨4,171,none⟩)]).run Tryz.prog w=.ok (.int .u8 22) w:=by kernel_rfl
theorem Rf.FH (w:World):((ReflectliteType.abiMethod fun t=>(fun a:Nat=>Value.int IntKind.u8 (a:Int)) <$> Rtype.kind t) #[.pointer (some ⟨4,169,none⟩)]).run Tryz.prog w=.ok (.int .u8 25) w:=by kernel_rfl
theorem LB (z:Sem Value) (f:TypeId→Addr→Nat→Nat→Sem Value) (v:Value) :
   ReflectliteValue.method z f #[v]=(do match ← ReflectliteValue.parts v with | none=>z | some (t,a,fl)=>f t a fl (fl % 32)):=rfl
theorem Rf.vK (a:Addr) (w:World):(ReflectliteValue.parts (.agg #[.pointer (some ⟨4,171,none⟩),.pointer (some a),.int .u64 150])).run Tryz.prog w=.ok (some (171,a,150)) w:=by kernel_rfl
theorem Rf.CI (a p:Addr) (W:World) (ha:W.cell? a=some (.pointer (some p))) :
   (ReflectliteValue.method (ReflectliteValue.valueError "reflectlite.Value.IsNil" 0) ReflectliteValue.isNil #[.agg #[.pointer (some ⟨4,171,none⟩),.pointer (some a),.int .u64 150]]).run Tryz.prog W=.ok (.bool false) W:=by
 rw [LB]
 simp only [Sem.run_bind,Rf.vK,Result.andThen]
 simp [ReflectliteValue.isNil,loadVar,isAgg,underlying,Tryz.underlying171,ha,Result.andThen]
theorem Rf.uv (h:Value) (w:World):(Go.method 512 290 (.agg #[h]) "Elem").run Tryz.prog w=.ok (349,.agg #[h]) w:=by kernel_rfl
theorem Rf.lA (h:Value) (w:World):(Go.method 512 290 (.agg #[h]) "Implements").run Tryz.prog w=.ok (350,.agg #[h]) w:=by kernel_rfl
theorem Rf.jI (h:Value) (w:World):(Go.method 512 290 (.agg #[h]) "AssignableTo").run Tryz.prog w=.ok (347,.agg #[h]) w:=by kernel_rfl
theorem Rf.FI (w:World):(ReflectliteType.method ReflectliteType.elem #[.agg #[.pointer (some ⟨4,171,none⟩)]]).run Tryz.prog w=.ok (.iface 290 (.agg #[.pointer (some ⟨4,169,none⟩)])) w:=by kernel_rfl
theorem Rf.qk (w:World):(ReflectliteType.relation "Implements" ReflectliteType.implements_ #[.agg #[.pointer (some ⟨4,169,none⟩)],.iface 290 (.agg #[.pointer (some ⟨4,165,none⟩)])]).run Tryz.prog w=.ok (.bool true) w:=by kernel_rfl
theorem Rf.zX (v:Value) (w:World):(ReflectliteType.typeOf #[.iface 169 v]).run Tryz.prog w=.ok (.iface 290 (.agg #[.pointer (some ⟨4,169,none⟩)])) w:=by kernel_rfl
theorem Rf.ql (w:World):(ReflectliteType.relation "AssignableTo" ReflectliteType.assignableTo #[.agg #[.pointer (some ⟨4,169,none⟩)],.iface 290 (.agg #[.pointer (some ⟨4,169,none⟩)])]).run Tryz.prog w=.ok (.bool true) w:=by kernel_rfl
theorem Rf.xf (a c:List UInt8) (w:World):(ReflectliteValue.unpack (.iface 169 (.agg #[St a,St c]))).run Tryz.prog w
   = .ok (.agg #[.pointer (some ⟨4,169,none⟩),.pointer (some ⟨w.heap.size,0,none⟩),.int .u64 153]) (w.alloc (.cells #[St a,St c] 169)):=by kernel_rfl
theorem Rf.zY (w:World):(Rtype.elem? 171).run Tryz.prog w=.ok (some 169) w:=by kernel_rfl
theorem Rf.Ki (p:Addr) (w:World):(ReflectliteValue.mk 169 p ReflectliteValue.flagAddr).run Tryz.prog w=.ok (.agg #[.pointer (some ⟨4,169,none⟩),.pointer (some p),.int .u64 409]) w:=by kernel_rfl
theorem Rf.CJ (a p:Addr) (W:World) (ha:W.cell? a=some (.pointer (some p))) :
   (ReflectliteValue.method (ReflectliteValue.valueError "reflectlite.Value.Elem" 0) ReflectliteValue.elem #[.agg #[.pointer (some ⟨4,171,none⟩),.pointer (some a),.int .u64 150]]).run Tryz.prog W
     = .ok (.agg #[.pointer (some ⟨4,169,none⟩),.pointer (some p),.int .u64 409]) W:=by
 rw [LB]
 simp only [Sem.run_bind,Rf.vK,Result.andThen]
 simp [ReflectliteValue.elem,loadVar,isAgg,underlying,Tryz.underlying171,ha,Result.andThen,Rf.zY,Rf.Ki]
theorem Nc (v x:Value):ReflectliteValue.set #[v,x]=(do
   let (some (dst,a,fl),some (src,b,_)):=(← ReflectliteValue.parts v,← ReflectliteValue.parts x)
     | unsupported (.noEntry "extern/(internal/reflectlite.Value).Set.zeroValue")
   if fl / ReflectliteValue.flagAddr % 2 == 0 then unsupported (.noEntry "extern/(internal/reflectlite.Value).Set.unaddressable")
   let val ← loadVar src b
   if ← Rtype.directlyAssignable dst src then storeVar dst a val
   else if ← Rtype.implements dst src then
     if (← Rtype.kind src) == 20 then
       match val with
       | .nilIface=>unsupported (.noEntry "extern/reflectlite: a nil value of one interface type handed on as a value of another")
       | _=>storeVar dst a val
     else storeVar dst a (.iface src val)
   else panicString ("reflectlite.Set: value of type " ++ (← Rtype.spelt src) ++ " is not assignable to type " ++ (← Rtype.spelt dst))
   pure (.tuple #[])):=rfl
theorem Rf.zZ (a:Addr) (w:World):(ReflectliteValue.parts (.agg #[.pointer (some ⟨4,169,none⟩),.pointer (some a),.int .u64 409])).run Tryz.prog w=.ok (some (169,a,409)) w:=by kernel_rfl
theorem Rf.CK (a:Addr) (w:World):(ReflectliteValue.parts (.agg #[.pointer (some ⟨4,169,none⟩),.pointer (some a),.int .u64 153])).run Tryz.prog w=.ok (some (169,a,153)) w:=by kernel_rfl
theorem Rf.Aa (w:World):(Rtype.directlyAssignable 169 169).run Tryz.prog w=.ok true w:=by kernel_rfl
end Go.Proofs.YtopgddfgefnmbaaGreatDoor
namespace Go.Proofs.YtopgddfgefnmbaaGreatDoor
open Go Go.RowKit Go.Extern.Stop Go.Stop Go.Extern
open Go.RK (St In)
theorem dR (h:Array Obj) (o:Obj) {k:Nat} (hk:k < h.size):(h.push o)[k]?=h[k]?:=by simp [Array.getElem?_push,Nat.ne_of_lt hk]
theorem Rf.HU (a c:List UInt8) (bt b:Nat) (o1 o2:Value) (W:World) (hb:W.heap[b]?=some (.cells ⟨[St a,St c]⟩ 169 (0,0))) (ht:W.heap[bt]?=some (.cells ⟨[o1,o2]⟩ 169 (0,0))) :
   ∃ w',(ReflectliteValue.set #[.agg #[.pointer (some ⟨4,169,none⟩),.pointer (some ⟨bt,0,none⟩),.int .u64 409],.agg #[.pointer (some ⟨4,169,none⟩),.pointer (some ⟨b,0,none⟩),.int .u64 153]]).run Tryz.prog W
     = .ok (.tuple #[]) w'∧Go.RK.eo W w'∧w'.heap=W.heap.setIfInBounds bt (.cells ⟨[St a,St c]⟩ 169 (0,0)):=by
 have i1:=Tryz.isAgg169 W
 have s1:=Tryz.sizeOf169 W
 have l1:(loadCells ⟨b,0,none⟩ 2).run Tryz.prog W=.ok #[St a,St c] W:=run_loadCells_list W _ [St a,St c] fun j v hj=>by rw [Addr.add_lit];exact Go.RK.At.av hb j v hj
 obtain ⟨w',hr,hs,hh⟩:=Go.RK.cJ (P:=Tryz.prog) bt 169 [St a,St c] 0 0 [o1,o2] W ht (by simp) (by simp [Value.oneCell'])
 refine ⟨w',?_,hs,by rw [hh];simp⟩
 rw [Nc]
 simp only [Sem.run_bind,Rf.zZ,Rf.CK,Result.andThen]
 simp [ReflectliteValue.flagAddr,loadVar,i1,s1,l1,Result.andThen,Rf.Aa,storeVar,Value.cells,hr]
theorem FJ (a c:List UInt8) (bt:Nat) (o1 o2:Value) (w:World) (hg:w.cell? ⟨0,0,none⟩=some (.iface 290 (.agg #[.pointer (some ⟨4,165,none⟩)]))) (LC:w.heap[bt]?=some (.cells ⟨[o1,o2]⟩ 169 (0,0))) :
   Calls Tryz.prog 102 #[.iface 169 (.agg #[St a,St c]),.iface 171 (.pointer (some ⟨bt,0,none⟩))] w fun ev w'=>ev=.returned (.bool true)∧Go.RK.eo ((((w.alloc (.cells #[.pointer (some ⟨bt,0,none⟩)] 171)).alloc (.cells #[.pointer (some ⟨4,171,none⟩),.pointer (some ⟨w.heap.size,0,none⟩),.int .u64 150] 218)).alloc (.cells #[.pointer (some ⟨4,171,none⟩),.pointer (some ⟨w.heap.size,0,none⟩),.int .u64 150] 218)).alloc (.cells #[St a,St c] 169)) w'∧w'.heap=((((w.alloc (.cells #[.pointer (some ⟨bt,0,none⟩)] 171)).alloc (.cells #[.pointer (some ⟨4,171,none⟩),.pointer (some ⟨w.heap.size,0,none⟩),.int .u64 150] 218)).alloc (.cells #[.pointer (some ⟨4,171,none⟩),.pointer (some ⟨w.heap.size,0,none⟩),.int .u64 150] 218)).alloc (.cells #[St a,St c] 169)).heap.setIfInBounds bt (.cells ⟨[St a,St c]⟩ 169 (0,0)):=by
 have h6:=@run_callFunc_extern Tryz.prog 152 _ (fun args=>ReflectliteValue.unpack (args.getD 0 (.tuple #[]))) Tryz.func152 (by kernel_rfl) (by kernel_rfl) (by kernel_rfl) (by kernel_rfl)
 have h7:=@run_callFunc_extern Tryz.prog 153 _ (ReflectliteValue.methodAny (ReflectliteValue.valueError "reflectlite.Value.Type" 0) (fun t _ _ _=>ReflectliteType.toType t)) Tryz.func153 (by kernel_rfl) (by kernel_rfl) (by kernel_rfl) (by kernel_rfl)
 have h8:=@run_callFunc_extern Tryz.prog 154 _ (ReflectliteValue.method (ReflectliteValue.valueError "reflectlite.Value.IsNil" 0) ReflectliteValue.isNil) Tryz.func154 (by kernel_rfl) (by kernel_rfl) (by kernel_rfl) (by kernel_rfl)
 have OR:=@run_callFunc_extern Tryz.prog 338 _ (ReflectliteType.abiMethod fun t=>do pure (.int .u8 (← Rtype.kind t))) Tryz.func338 (by kernel_rfl) (by kernel_rfl) (by kernel_rfl) (by kernel_rfl)
 have OS:=@run_callFunc_extern Tryz.prog 349 _ (ReflectliteType.method ReflectliteType.elem) Tryz.func349 (by kernel_rfl) (by kernel_rfl) (by kernel_rfl) (by kernel_rfl)
 have OT:=@run_callFunc_extern Tryz.prog 350 _ (ReflectliteType.relation "Implements" ReflectliteType.implements_) Tryz.func350 (by kernel_rfl) (by kernel_rfl) (by kernel_rfl) (by kernel_rfl)
 have iG:=@run_callFunc_extern Tryz.prog 224 _ ReflectliteType.typeOf Tryz.func224 (by kernel_rfl) (by kernel_rfl) (by kernel_rfl) (by kernel_rfl)
 have OU:=@run_callFunc_extern Tryz.prog 347 _ (ReflectliteType.relation "AssignableTo" ReflectliteType.assignableTo) Tryz.func347 (by kernel_rfl) (by kernel_rfl) (by kernel_rfl) (by kernel_rfl)
 have qh:=@run_callFunc_extern Tryz.prog 225 _ (ReflectliteValue.method (ReflectliteValue.valueError "reflectlite.Value.Elem" 0) ReflectliteValue.elem) Tryz.func225 (by kernel_rfl) (by kernel_rfl) (by kernel_rfl) (by kernel_rfl)
 have qS:=@run_callFunc_extern Tryz.prog 226 _ ReflectliteValue.set Tryz.func226 (by kernel_rfl) (by kernel_rfl) (by kernel_rfl) (by kernel_rfl)
 have tO:=Rf.zX
 have mA:=Rf.jI
 have OV:=Rf.ql
 have OW:=Rf.xf
 have f6:=Rf.xe
 have f7:=Rf.type27
 have mK:=Rf.uu
 have mE:=Rf.uv
 have mI:=Rf.lA
 have OX:=Rf.FG
 have OY:=Rf.FH
 have OZ:=Rf.FI
 have i25:=Rf.qk
 have n8:=Rf.CI ⟨w.heap.size,0,none⟩ ⟨bt,0,none⟩ ((w.alloc (.cells #[.pointer (some ⟨bt,0,none⟩)] 171)).alloc (.cells #[.pointer (some ⟨4,171,none⟩),.pointer (some ⟨w.heap.size,0,none⟩),.int .u64 150] 218)) (by simp)
 have hlt:0 < w.heap.size:=by
   rcases Nat.eq_zero_or_pos w.heap.size with h0 | h
   · simp [World.cell?,h0] at hg
   · exact h
 have gg:((w.alloc (.cells #[.pointer (some ⟨bt,0,none⟩)] 171)).alloc (.cells #[.pointer (some ⟨4,171,none⟩),.pointer (some ⟨w.heap.size,0,none⟩),.int .u64 150] 218)).cell? ⟨0,0,none⟩=some (.iface 290 (.agg #[.pointer (some ⟨4,165,none⟩)])):=by
   rw [World.cell?_alloc_lt _ _ ⟨0,0,none⟩ (by simp),World.cell?_alloc_lt _ _ ⟨0,0,none⟩ hlt];exact hg
 have htl:bt < w.heap.size:=Go.RK.ai LC
 have el:=Rf.CJ ⟨w.heap.size,0,none⟩ ⟨bt,0,none⟩ (((w.alloc (.cells #[.pointer (some ⟨bt,0,none⟩)] 171)).alloc (.cells #[.pointer (some ⟨4,171,none⟩),.pointer (some ⟨w.heap.size,0,none⟩),.int .u64 150] 218)).alloc (.cells #[.pointer (some ⟨4,171,none⟩),.pointer (some ⟨w.heap.size,0,none⟩),.int .u64 150] 218)) (by rw [World.cell?_alloc_lt _ _ ⟨w.heap.size,0,none⟩ (by simp;omega)];simp)
 obtain ⟨w',st,hsm,hhp⟩:=Rf.HU a c bt (w.heap.size+1+1+1) o1 o2 ((((w.alloc (.cells #[.pointer (some ⟨bt,0,none⟩)] 171)).alloc (.cells #[.pointer (some ⟨4,171,none⟩),.pointer (some ⟨w.heap.size,0,none⟩),.int .u64 150] 218)).alloc (.cells #[.pointer (some ⟨4,171,none⟩),.pointer (some ⟨w.heap.size,0,none⟩),.int .u64 150] 218)).alloc (.cells #[St a,St c] 169))
   (by simp only [World.alloc];rw [Array.getElem?_push,if_pos (by simp)])
   (by simp only [World.alloc];rw [dR _ _ (by simp;omega),dR _ _ (by simp;omega),dR _ _ (by simp;omega),dR _ _ htl];exact LC)
 go_enter Tryz.func102,Tryz.ntmps102
 go_wp2
 refine wp_loop_rounds 1 ?_
 rw [rounds_succ]
 go_wp2
 go_ret
 exact ⟨rfl,hsm,hhp⟩
end Go.Proofs.YtopgddfgefnmbaaGreatDoor
namespace Go.Proofs.YtopgddfgefnmbaaGreatDoor
open Go Go.RK
def Er (h:ah):Prop:=At h 0 0 [.iface 290 (.agg #[.pointer (some ⟨4,165,none⟩)])]
theorem Er.aq {h h':ah} (e:Er h) (a:Ext No h h'):Er h':=At.ext e a aO
theorem Er.ext {h h':ah} {S:Nat→Prop} (e:Er h) (a:Ext S h h') (hS:¬ S 0):Er h':=At.ext e a hS
theorem o6 {h:ah} {bt:Nat} {o1 o2:Value} (a c:List UInt8) (er:Er h) (hb:h[bt]?=some (.cells ⟨[o1,o2]⟩ 169 (0,0))) :
   ag Tryz.prog 102 ⟨[.iface 169 (.agg ⟨[St a,St c]⟩),.iface 171 (.pointer (some ⟨bt,0,none⟩))]⟩ h fun u h'=>u=.bool true∧h'[bt]?=some (.cells ⟨[St a,St c]⟩ 169 (0,0))∧Ext (fun q=>q=bt) h h':=fun w hw=>by
 subst hw
 have hlt:=ai hb
 refine (FJ a c bt o1 o2 w (er 0 _ rfl) hb).mono fun e w' ⟨he,hsm,hhp⟩=>?_
 refine ⟨⟨hsm.tape,hsm.os,hsm.output,hsm.drawn⟩,_,he,rfl,?_,?_,?_⟩
 · rw [hhp]
   simp only [World.alloc,Array.getElem?_setIfInBounds,↓reduceIte]
   rw [if_pos (by simp;omega)]
 · rw [hhp]
   simp only [World.alloc,Array.size_setIfInBounds,Array.size_push]
   omega
 · intro b hbl hS
   rw [hhp]
   simp only [World.alloc,Array.getElem?_setIfInBounds]
   rw [if_neg (fun e=>hS e.symm),dR _ _ (by simp;omega),dR _ _ (by simp;omega),dR _ _ (by simp;omega),dR _ _ hbl]
theorem HV:Tryz.prog.globalNamed "errors.errorType" = some 0:=by kernel_rfl
theorem HW:(Tryz.prog.cutTypes.find? (·.1 == "internal/reflectlite.rtype")).map (·.2)=some 290:=by kernel_rfl
theorem FK:((List.range 412).filter fun t=>Tryz.prog.rowNamed t [101,114,114,111,114])=[165]:=by kernel_rfl
theorem CL:Tryz.prog.types.size=412:=by kernel_rfl
section
variable {h h':ah} {A:Ad} {st:Int} {sk ov:Bool} {cnt:Int} {L:List (List UInt8 × gy)} {P:List (List UInt8 × ee)}
theorem Ss.Ab (k:Ss h A st sk ov cnt L P) {st':Int} {sk' ov':Bool} {P':List (List UInt8 × ee)} (x:Ext (fun z=>z=A.bs∨z=A.mp) h h') (hb:h'[A.bs]?=some (.cells ⟨[.map (some A.ms),.pointer (some ⟨A.bp,0,none⟩),.pointer (some ⟨A.be,0,none⟩),.int .u8 st',.bool sk',.bool ov']⟩ 153 (0,0))) (hm:Mp .string St h' A.mp (eS vA P')) (hP:∀ q∈P',q∈P) (hs:iK st'):Ss h' A st' sk' ov' cnt L P'∧Tn A P h h' P':=by
 have hlt:=ai k.se.bm
 have x1:=Ext.set (S:=fun z=>z=A.bs) h A.bs (.cells ⟨[.map (some A.ms),.pointer (some ⟨A.bp,0,none⟩),.pointer (some ⟨A.be,0,none⟩),.int .u8 st',.bool sk',.bool ov']⟩ 153 (0,0)) rfl
 obtain ⟨k1,t1⟩:=k.js x1 (dD k.se.bm) hs
 have x2:Ext (fun z=>z=A.mp) (h.setIfInBounds A.bs (.cells ⟨[.map (some A.ms),.pointer (some ⟨A.bp,0,none⟩),.pointer (some ⟨A.be,0,none⟩),.int .u8 st',.bool sk',.bool ov']⟩ 153 (0,0))) h':=by
   refine ⟨by rw [Array.size_setIfInBounds];exact x.size,fun z hz hn=>?_⟩
   rw [Array.size_setIfInBounds] at hz
   by_cases e:z=A.bs
   · subst e
     rw [hb,dD k.se.bm]
   · rw [Array.getElem?_setIfInBounds_ne (fun y=>e y.symm)]
     exact x.ab z hz (fun y=>y.elim e hn)
 obtain ⟨k2,t2⟩:=k1.cG x2 hm hP
 exact ⟨k2,t1.trans t2⟩
theorem Ae {h:ah} {v:Value} {c t:List UInt8} (hr:Rd h v 2 4 ((jN ([69,82,82,79,82]:List UInt8) c t).flatMap bj.cells)):Bk.ok h ⟨69,0,[],[],[],0,0,nS,[],nS,[],nS,[],v,jN ([69,82,82,79,82]:List UInt8) c t⟩:=⟨⟨Rd.nil _ _,by simp⟩,⟨Rd.nil _ _,by simp⟩,gv _ _,⟨hr,by simp [jN,maxLen]⟩⟩
theorem DT {v:Value} {c t:List UInt8} {q:Nat} (hq:Bk.F ⟨69,0,[],[],[],0,0,nS,[],nS,[],nS,[],v,jN ([69,82,82,79,82]:List UInt8) c t⟩ q):v.ownBlock=some q:=by
 rcases hq with ⟨e,_⟩ | ⟨e,_⟩ | e | ⟨_,e⟩
 · exact absurd e (Nat.lt_irrefl 0)
 · exact absurd e (Nat.lt_irrefl 0)
 · exact (fu rfl e).elim
 · exact e
theorem sA (k:Ss h A st sk ov cnt L P) (c t:List UInt8):ag Tryz.prog 103 ⟨[.pointer (some ⟨A.bs,0,none⟩),.agg ⟨[St c,St t]⟩]⟩ h fun u h'=>(∃ b:Bk,u=.agg ⟨b.cells⟩∧b.ok h'∧b.p=oo c t∧∀ z,b.F z→h.size≤z) ∧
   (∃ P',(∀ q∈P',q∈P)∧Ss h' A (eU st) sk ov cnt L P'∧fN P'=(if eU st=69 then [] else fN P)∧Tn A P h h' P')∧Ext (fun q=>q=A.bs∨q=A.mp) h h':=by
 have hso:=ni k.sto
 have kf:=fun h'=>zo (h:=h') k.sto
 have lb:=ai k.se.bm
 by_cases e:eU st=69
 · rw [if_pos e]
   rw [e] at kf ⊢
   refine calls [(0,_),(1,_)] Tryz.func103 rfl Tryz.ntmps103 rfl ⟨rfl,rfl,trivial⟩ ?_
   refine WC.sr ?_;refine WL.aj (aG rfl) rfl rfl rfl ?_
   rintro _ h1 ⟨b3,rfl,bR,aR,az⟩
   refine WL.aj (an (fun w=>Tryz.zeroValue140 w)) rfl rfl rfl ?_
   rintro _ h2 ⟨b4,rfl,gg,bH,aI⟩
   have k2:=(k.aq az).aq aI
   have bT:=aI.obj aR aO
   have s1:=az.size
   refine Gn ?_;refine G2 ?_;refine WL.step (ae rfl) rfl rfl rfl (Go ?_);refine WL.ld rfl (by first | exact aa k2.se.bm rfl | assumption) rfl rfl rfl ?_
   refine WL.call (vs:=[_]) rfl Tryz.call156 rfl (kf _) rfl rfl rfl ?_
   rintro _ hz ⟨rfl,_⟩
   subst hz
   refine WL.step (ae rfl) rfl rfl rfl (Go ?_);refine WL.ax (aB Tryz.sizeOf5 rfl rfl k2.se.bm (Nat.le_of_ble_eq_true rfl) rfl rfl) rfl rfl ?_
   rintro _ h3 ⟨bq,aQ⟩
   obtain ⟨k3,t3⟩:=k2.js aQ bq (by first | exact e▸hso | exact hso)
   have CM:=aQ.obj bT (fun e=>bw bT k2.se.bm (by decide) e)
   have sl:=aQ.obj bH (fun e=>bw bH k2.se.bm (by decide) e)
   have Kj:Ext (fun q=>q=A.bs) h h3:=((az.trans aI).mono fun _ _ e=>e.elim).trans aQ
   refine Gn ?_;refine Gs [(0,_),(3,_),(4,_)] ?_;refine G3 ?_;refine WL.step (ae rfl) rfl rfl rfl (Go ?_);refine WL.ld rfl (by first | exact aa k3.se.bm rfl | assumption) rfl rfl rfl (Go ?_)
   refine Gs [(0,_),(3,_),(4,_),(17,_)] ?_
   refine aH 1 2 ?_ TT.mk
   all_goals (refine aw 1 ?_)
   refine WC.region (Go ?_);refine WL.step (ae rfl) rfl rfl rfl (Go ?_);refine WL.ld rfl (by first | exact aa k3.se.bm rfl | assumption) rfl rfl rfl ?_
   refine WL.call (vs:=[_]) rfl Tryz.call145 rfl (qg k3) rfl rfl rfl ?_
   rintro _ h4 ⟨rfl,k4,t4,aW⟩
   have Ag:=aW.obj CM (fun e=>dX k3.se.pm CM e)
   have gj:=aW.obj sl (fun e=>dX k3.se.pm sl e)
   have HX:Ext (fun q=>q=A.bs∨q=A.mp) h h4:=(Kj.mono fun _ _ e=>.inl e).trans (aW.mono fun _ _ e=>.inr e)
   refine Gn ?_;refine Gn ?_;refine G2 ?_;refine WL.ld rfl (by first | exact aa Ag rfl | assumption) rfl rfl rfl (Go ?_)
   refine WL.ld rfl (by first | exact aa Ag rfl | assumption) rfl rfl rfl ?_
   refine WL.call (vs:=[_,_]) rfl Tryz.call157 rfl (vw c t) rfl rfl rfl ?_
   rintro _ h5 ⟨v5,rfl,eF,aM,fO⟩
   obtain ⟨A5,c5,rfl,_⟩:=eF.slice
   refine WL.ax (al Tryz.sizeOf140 rfl rfl rfl (aM.obj gj aO) rfl (by simp [eB,Value.oneCell'])) rfl rfl ?_
   rintro _ h6 ⟨bX,aN⟩
   have DU:=(HX.trans (aM.mono fun _ _ e=>e.elim)).trans' aN (fun q hq e=>by omega)
   have kk:=k.Ab (P':=[]) DU (aN.obj (aM.obj k4.se.bm aO) (bw k4.se.bm gj (by decide))) ((k4.se.pm.ext aM aO).ext aN (fun e=>dX k4.se.pm gj e.symm)) (fun q hq=>nomatch hq) (e▸hso)
   refine Gn ?_;refine Gs [(4,_)] ?_;refine WC.ret ?_
   repeat' (with_reducible first | refine aZ ?_ | refine aV ?_)
   refine cm _ ⟨⟨_,rfl,bB Tryz.isAgg140 Tryz.sizeOf140 bX rfl⟩,trivial⟩ ?_
   exact ⟨⟨⟨69,0,[],[],[],0,0,nS,[],nS,[],nS,[],.slice A5 4 c5,jN ([69,82,82,79,82]:List UInt8) c t⟩,rfl,Ae (eF.ext aN (fun q hq z=>by have:=fO q hq;have:=ai gj;omega)).rd,rfl,fun z hz=>by have:=fO z (DT hz);have:=HX.size;omega⟩,⟨[],(fun q hq=>nomatch hq),kk.1,rfl,kk.2⟩,DU⟩
 · rw [if_neg e]
   refine calls [(0,_),(1,_)] Tryz.func103 rfl Tryz.ntmps103 rfl ⟨rfl,rfl,trivial⟩ ?_
   refine WC.sr ?_;refine WL.aj (aG rfl) rfl rfl rfl ?_
   rintro _ h1 ⟨b3,rfl,bR,aR,az⟩
   refine WL.aj (an (fun w=>Tryz.zeroValue140 w)) rfl rfl rfl ?_
   rintro _ h2 ⟨b4,rfl,gg,bH,aI⟩
   have k2:=(k.aq az).aq aI
   have bT:=aI.obj aR aO
   have s1:=az.size
   refine Gn ?_;refine G2 ?_;refine WL.step (ae rfl) rfl rfl rfl (Go ?_);refine WL.ld rfl (by first | exact aa k2.se.bm rfl | assumption) rfl rfl rfl ?_
   refine WL.call (vs:=[_]) rfl Tryz.call156 rfl (kf _) rfl rfl rfl ?_
   rintro _ hz ⟨rfl,_⟩
   subst hz
   refine WL.step (ae rfl) rfl rfl rfl (Go ?_);refine WL.ax (aB Tryz.sizeOf5 rfl rfl k2.se.bm (Nat.le_of_ble_eq_true rfl) rfl rfl) rfl rfl ?_
   rintro _ h3 ⟨bq,aQ⟩
   obtain ⟨k3,t3⟩:=k2.js aQ bq (by first | exact e▸hso | exact hso)
   have CM:=aQ.obj bT (fun e=>bw bT k2.se.bm (by decide) e)
   have sl:=aQ.obj bH (fun e=>bw bH k2.se.bm (by decide) e)
   have Kj:Ext (fun q=>q=A.bs) h h3:=((az.trans aI).mono fun _ _ e=>e.elim).trans aQ
   refine Gn ?_;refine Gs [(0,_),(3,_),(4,_)] ?_;refine G3 ?_;refine WL.step (ae rfl) rfl rfl rfl (Go ?_);refine WL.ld rfl (by first | exact aa k3.se.bm rfl | assumption) rfl rfl rfl ?_
   have Ag:=CM
   have gj:=sl
   have k4:=k3
   have HX:Ext (fun q=>q=A.bs∨q=A.mp) h h3:=Kj.mono fun _ _ e=>.inl e
   refine Go ?_;refine Gs [(0,_),(3,_),(4,_),(17,_)] ?_
   refine aH 1 2 ?_ TT.mk
   all_goals (refine aw 2 ?_)
   refine WC.skip ?_;refine Gn ?_;refine G2 ?_;refine WL.ld rfl (by first | exact aa Ag rfl | assumption) rfl rfl rfl (Go ?_)
   refine WL.ld rfl (by first | exact aa Ag rfl | assumption) rfl rfl rfl ?_
   refine WL.call (vs:=[_,_]) rfl Tryz.call157 rfl (vw c t) rfl rfl rfl ?_
   rintro _ h5 ⟨v5,rfl,eF,aM,fO⟩
   obtain ⟨A5,c5,rfl,_⟩:=eF.slice
   refine WL.ax (al Tryz.sizeOf140 rfl rfl rfl (aM.obj gj aO) rfl (by simp [eB,Value.oneCell'])) rfl rfl ?_
   rintro _ h6 ⟨bX,aN⟩
   have DU:=(HX.trans (aM.mono fun _ _ e=>e.elim)).trans' aN (fun q hq e=>by omega)
   have kk:=k.Ab DU (aN.obj (aM.obj k4.se.bm aO) (bw k4.se.bm gj (by decide))) ((k4.se.pm.ext aM aO).ext aN (fun e=>dX k4.se.pm gj e.symm)) (fun q hq=>hq) hso
   refine Gn ?_;refine Gs [(4,_)] ?_;refine WC.ret ?_
   repeat' (with_reducible first | refine aZ ?_ | refine aV ?_)
   refine cm _ ⟨⟨_,rfl,bB Tryz.isAgg140 Tryz.sizeOf140 bX rfl⟩,trivial⟩ ?_
   exact ⟨⟨⟨69,0,[],[],[],0,0,nS,[],nS,[],nS,[],.slice A5 4 c5,jN ([69,82,82,79,82]:List UInt8) c t⟩,rfl,Ae (eF.ext aN (fun q hq z=>by have:=fO q hq;have:=ai gj;omega)).rd,rfl,fun z hz=>by have:=fO z (DT hz);have:=HX.size;omega⟩,⟨_,(fun q hq=>hq),kk.1,rfl,kk.2⟩,DU⟩
end
section
variable {h h':ah} {A:Ad} {st:Int} {sk ov:Bool} {cnt:Int} {L:List (List UInt8 × gy)} {P:List (List UInt8 × ee)}
theorem cj.DV {g:ah} {r:fS} {u:Value} (x:Ext No h g) (d:cj g A P r u h'):cj h A P r u h':=by
 obtain ⟨v,B,c,e,O,p,L',P',k,e1,e2,t⟩:=d
 exact ⟨v,B,c,e,O.mono x.size,p,L',P',k,e1,e2,(Tn.no x).trans t⟩
def FL (Φ:Value→Value→ah→Prop) (u:Value) (h':ah):Prop:=∃ v e,u=.tuple ⟨[v,e]⟩∧Φ v e h'
abbrev nw (F:Nat) (h:ah) (u:Value) (f:Fm) (Φ:Value→Value→ah→Prop):Prop:=∀ g,Ext No h g→ag Tryz.prog F ⟨[u,.agg ⟨f.cells⟩]⟩ g (FL Φ)
theorem vL {u:Value} {f:Fm} {Φ:Value→Value→ah→Prop} (hf:f.ok h)
   (hk:(f.kind=80∧nw 146 h u f Φ)∨(f.kind=66∧nw 147 h u f Φ)∨(f.kind=68∧nw 148 h u f Φ)∨(f.kind=69∧nw 149 h u f Φ) ∨
     (f.kind=67∧nw 150 h u f Φ)∨(f.kind=81∧nw 151 h u f Φ) ∨
     ((f.kind ≠ 80∧f.kind ≠ 66∧f.kind ≠ 68∧f.kind ≠ 69∧f.kind ≠ 67∧f.kind ≠ 81)∧∀ g,Ext No h g→Φ (.slice none 0 0) .nilIface g)) :
   ag Tryz.prog 101 ⟨[u,.agg ⟨f.cells⟩]⟩ h (FL Φ):=by
 obtain ⟨⟨e1,_⟩,⟨e2,_⟩,⟨e3,_⟩,e4,_⟩:=hf
 obtain ⟨fk,w,n,p,t,vo,o,vf,fs,vs,rs,vp,ps,mx⟩:=f
 dsimp only at e1 e2 e3 e4 hk
 obtain ⟨_,_,rfl,_⟩:=e1
 obtain ⟨_,_,rfl,_⟩:=e2
 obtain ⟨_,_,rfl,_⟩:=e3
 obtain ⟨_,_,rfl,_⟩:=e4
 unfold nw at hk
 dsimp only [Fm.cells] at hk ⊢
 rcases hk with ⟨rfl,kp⟩ | ⟨rfl,kp⟩ | ⟨rfl,kp⟩ | ⟨rfl,kp⟩ | ⟨rfl,kp⟩ | ⟨rfl,kp⟩ | ⟨⟨n1,n2,n3,n4,n5,n6⟩,kp⟩
 all_goals
   refine calls [(0,_),(1,_)] Tryz.func101 rfl Tryz.ntmps101 rfl ⟨rfl,rfl,trivial⟩ ?_
   all_goals (refine WC.sr ?_;refine WL.aj (aG rfl) rfl rfl rfl ?_;rintro _ h1 ⟨b3,rfl,bR,aR,az⟩;refine Go ?_;refine G3 ?_;refine WL.ld rfl (by first | exact aa aR rfl | assumption) rfl rfl rfl ?_;refine Gn ?_;refine Gs [(0,_),(3,_),(7,_)] ?_;refine WC.block ?_;refine G2 ?_;refine aH 1 2 ?_ TT.mk)
   all_goals try (
   refine aw 1 ?_
   all_goals (refine G2 ?_;refine WL.step (ay Tryz.isAgg42 Tryz.sizeOf42 rfl rfl (by exact At.av aR)) rfl rfl rfl ?_;refine WL.call (vs:=[_,_]) rfl Tryz.call146 rfl (kp _ az) rfl rfl rfl ?_;rintro _ h2 ⟨v,e,rfl,D⟩;refine Go ?_;refine Gs [(4,_),(5,_)] ?_;refine Gt ?_;first | exact ⟨v,e,rfl,D⟩ | exact ⟨_,_,rfl,kp _ az⟩ | (exfalso;omega))
   skip)
   all_goals (refine aw 2 ?_;refine G2 ?_;refine aH 3 4 ?_ TT.mk)
   all_goals try (
   refine aw 3 ?_
   all_goals (refine G2 ?_;refine WL.step (ay Tryz.isAgg42 Tryz.sizeOf42 rfl rfl (by exact At.av aR)) rfl rfl rfl ?_;refine WL.call (vs:=[_,_]) rfl Tryz.call147 rfl (kp _ az) rfl rfl rfl ?_;rintro _ h2 ⟨v,e,rfl,D⟩;refine Go ?_;refine Gs [(4,_),(5,_)] ?_;refine Gt ?_;first | exact ⟨v,e,rfl,D⟩ | exact ⟨_,_,rfl,kp _ az⟩ | (exfalso;omega))
   skip)
   all_goals (refine aw 4 ?_;refine G2 ?_;refine Gs [(0,_),(3,_),(7,_),(22,_)] ?_;refine aH 5 6 ?_ TT.mk)
   all_goals try (
   refine aw 5 ?_
   all_goals (refine G2 ?_;refine WL.step (ay Tryz.isAgg42 Tryz.sizeOf42 rfl rfl (by exact At.av aR)) rfl rfl rfl ?_;refine WL.call (vs:=[_,_]) rfl Tryz.call148 rfl (kp _ az) rfl rfl rfl ?_;rintro _ h2 ⟨v,e,rfl,D⟩;refine Go ?_;refine Gs [(4,_),(5,_)] ?_;refine Gt ?_;first | exact ⟨v,e,rfl,D⟩ | exact ⟨_,_,rfl,kp _ az⟩ | (exfalso;omega))
   skip)
   all_goals (refine aw 6 ?_;refine G2 ?_;refine aH 7 8 ?_ TT.mk)
   all_goals try (
   refine aw 7 ?_
   all_goals (refine G2 ?_;refine WL.step (ay Tryz.isAgg42 Tryz.sizeOf42 rfl rfl (by exact At.av aR)) rfl rfl rfl ?_;refine WL.call (vs:=[_,_]) rfl Tryz.call149 rfl (kp _ az) rfl rfl rfl ?_;rintro _ h2 ⟨v,e,rfl,D⟩;refine Go ?_;refine Gs [(4,_),(5,_)] ?_;refine Gt ?_;first | exact ⟨v,e,rfl,D⟩ | exact ⟨_,_,rfl,kp _ az⟩ | (exfalso;omega))
   skip)
   all_goals (refine aw 8 ?_;refine G2 ?_;refine Gs [(0,_),(3,_),(7,_),(36,_)] ?_;refine aH 9 10 ?_ TT.mk)
   all_goals try (
   refine aw 9 ?_
   all_goals (refine G2 ?_;refine WL.step (ay Tryz.isAgg42 Tryz.sizeOf42 rfl rfl (by exact At.av aR)) rfl rfl rfl ?_;refine WL.call (vs:=[_,_]) rfl Tryz.call150 rfl (kp _ az) rfl rfl rfl ?_;rintro _ h2 ⟨v,e,rfl,D⟩;refine Go ?_;refine Gs [(4,_),(5,_)] ?_;refine Gt ?_;first | exact ⟨v,e,rfl,D⟩ | exact ⟨_,_,rfl,kp _ az⟩ | (exfalso;omega))
   skip)
   all_goals (refine aw 10 ?_;refine G2 ?_;refine aH 11 12 ?_ TT.mk)
   all_goals try (
   refine aw 11 ?_
   all_goals (refine G2 ?_;refine WL.step (ay Tryz.isAgg42 Tryz.sizeOf42 rfl rfl (by exact At.av aR)) rfl rfl rfl ?_;refine WL.call (vs:=[_,_]) rfl Tryz.call151 rfl (kp _ az) rfl rfl rfl ?_;rintro _ h2 ⟨v,e,rfl,D⟩;refine Go ?_;refine Gs [(4,_),(5,_)] ?_;refine Gt ?_;first | exact ⟨v,e,rfl,D⟩ | exact ⟨_,_,rfl,kp _ az⟩ | (exfalso;omega))
   skip)
   all_goals (refine aw 12 ?_;refine WC.skip ?_;refine Gn ?_;refine Gs [] ?_;refine G2 ?_;refine Gt ?_;first | exact ⟨v,e,rfl,D⟩ | exact ⟨_,_,rfl,kp _ az⟩ | (exfalso;omega))
theorem cj.two {g:ah} {r:fS} {u:Value} (x:Ext No h g) (d:cj g A P r u h'):FL (fun v e h'=>cj h A P r (.tuple ⟨[v,e]⟩) h') u h':=by
 obtain ⟨v,B,c,rfl,d⟩:=d
 exact ⟨v,_,rfl,cj.DV x ⟨v,B,c,rfl,d⟩⟩
theorem FM (k:Ss h A st sk ov cnt L P) (lm:jg (ck st sk ov cnt L P)) (f:Fm) (hf:f.ok h) (hF:∀ q,f.F q→¬ Mu A P q) (fl:gG f):ag Tryz.prog 101 ⟨[.pointer (some ⟨A.bs,0,none⟩),.agg ⟨f.cells⟩]⟩ h (FL fun v e h'=>cj h A P (ei (ck st sk ov cnt L P) f.p) (.tuple ⟨[v,e]⟩) h'):=by
 have e0 : ei (ck st sk ov cnt L P) f.p = if f.kind = 80 then eD (ck st sk ov cnt L P) f.p else if f.kind = 66 then fG (ck st sk ov cnt L P) f.p else if f.kind = 68 then cy (ck st sk ov cnt L P) f.p else if f.kind = 69 then cd (ck st sk ov cnt L P) f.p
     else if f.kind=67 then gF (ck st sk ov cnt L P) f.p else if f.kind=81 then dy (ck st sk ov cnt L P) f.p else (ck st sk ov cnt L P,[],none):=rfl
 rw [e0]
 refine vL hf ?_
 by_cases e1:f.kind=80
 · exact .inl ⟨e1,fun g x=>by rw [if_pos e1];exact (Cu (k.aq x) f (hf.aq x) hF fl).mono fun _ _ d=>d.two x⟩
 refine .inr ?_
 rw [if_neg e1]
 by_cases e2:f.kind=66
 · exact .inl ⟨e2,fun g x=>by rw [if_pos e2];exact (Fs (k.aq x) lm f (hf.aq x) hF fl).mono fun _ _ d=>d.two x⟩
 refine .inr ?_
 rw [if_neg e2]
 by_cases e3:f.kind=68
 · exact .inl ⟨e3,fun g x=>by rw [if_pos e3];exact (uk (k.aq x) lm f (hf.aq x) fl).mono fun _ _ d=>d.two x⟩
 refine .inr ?_
 rw [if_neg e3]
 by_cases e4:f.kind=69
 · exact .inl ⟨e4,fun g x=>by rw [if_pos e4];exact (xd (k.aq x) lm f (hf.aq x) fl).mono fun _ _ d=>d.two x⟩
 refine .inr ?_
 rw [if_neg e4]
 by_cases e5:f.kind=67
 · exact .inl ⟨e5,fun g x=>by rw [if_pos e5];exact (Fx (k.aq x) f (hf.aq x)).mono fun _ _ d=>d.two x⟩
 refine .inr ?_
 rw [if_neg e5]
 by_cases e6:f.kind=81
 · exact .inl ⟨e6,fun g x=>by rw [if_pos e6];exact (vI (k.aq x) lm f (hf.aq x) fl).mono fun _ _ d=>d.Lu.two x⟩
 refine .inr ⟨⟨e1,e2,e3,e4,e5,e6⟩,fun g x=>?_⟩
 rw [if_neg e6]
 exact cj.DV x ⟨_,[],fun e=>absurd rfl e,rfl,cz.nil _ _,rfl,.of (k.aq x) (Tn.no (.refl _ _))⟩
theorem FN (k:Ss h A st sk ov cnt L P) (lm:jg (ck st sk ov cnt L P)) (f:Fm) (hf:f.ok h) (fl:gG f) (e6:f.kind=81):ag Tryz.prog 101 ⟨[.pointer (some ⟨A.bs,0,none⟩),.agg ⟨f.cells⟩]⟩ h (FL fun v e h'=>eT h A L P (dy (ck st sk ov cnt L P) f.p) (.tuple ⟨[v,e]⟩) h') :=
 vL hf (.inr (.inr (.inr (.inr (.inr (.inl ⟨e6,fun g x=>(vI (k.aq x) lm f (hf.aq x) fl).mono fun _ _ d=>by
   obtain ⟨v,B,c,rfl,d⟩:=d
   exact ⟨v,_,rfl,eT.trans (Tn.no x) (fun _ h=>h) (fun _ h=>h) ⟨v,B,c,rfl,d⟩⟩⟩))))))
end
structure nx (f:gi):Prop where
 t:f.text.length≤100000
 o:f.oids.length≤20000
 m:f.params.length≤100000
structure dP (n:Nat) (s:SP):Prop where
 l:∀ q∈s.L,q.2.1.length≤100000∧q.2.2.length≤20000
 p:∀ q∈s.P,q.2.1.length≤100000∧q.2.2.1.length≤20000∧q.2.2.2.1.length≤100000∧jw q.2.2.2.2.1
 c:0≤s.cnt∧s.cnt≤n
 k:s.L.length≤n
theorem dP.Kk {n:Nat} {s:SP} (k:dP n s) (hn:n < 1000000):jg s:=⟨fun q hq=>(k.l q hq).1,fun q hq=>k.p q hq,by have:=k.c;omega⟩
theorem dP.mono {n m:Nat} {s:SP} (k:dP n s) (h:n≤m):dP m s:=⟨k.l,k.p,by have:=k.c;omega,by have:=k.k;omega⟩
theorem Ah {κ α:Type} [DecidableEq κ] (E:List (κ × α)) (n:κ):(cb E n).length≤E.length:=by unfold cb;exact List.length_filter_le _ _
theorem Ai {κ α:Type} [DecidableEq κ] (E:List (κ × α)) (n:κ) (v:α):(cl E n v).length≤E.length+1:=by
 unfold cl
 split
 · rw [List.length_map];omega
 · simp
section
variable {n:Nat} {s:SP}
theorem dP.uw (k:dP n s) (x:List UInt8):dP n { s with L:=cb s.L x }:=⟨fun q hq=>k.l q (cB hq).1,k.p,k.c,Nat.le_trans (Ah _ _) k.k⟩
theorem dP.sB (k:dP n s) (x:List UInt8):dP n { s with P:=cb s.P x }:=⟨k.l,fun q hq=>k.p q (cB hq).1,k.c,k.k⟩
theorem dP.FO (k:dP n s) (x:List UInt8) (v:Fi) (h1:v.1.length≤100000) (h2:v.2.length≤20000):dP (n+1) { s with L:=cl s.L x v } :=
 ⟨fun q hq=>by
   rcases cu hq with rfl | ⟨hq,_⟩
   · exact ⟨h1,h2⟩
   · exact k.l q hq,k.p,⟨k.c.1,by have:=k.c;show s.cnt≤_;omega⟩,Nat.le_trans (Ai _ _ _) (by have:=k.k;omega)⟩
theorem dP.lq (k:dP n s) (x:List UInt8) (v:Fj) (h:v.1.length≤100000∧v.2.1.length≤20000∧v.2.2.1.length≤100000∧jw v.2.2.2.1):dP n { s with P:=cl s.P x v } :=
 ⟨k.l,fun q hq=>by
   rcases cu hq with rfl | ⟨hq,_⟩
   · exact h
   · exact k.p q hq,k.c,k.k⟩
theorem dP.of (k:dP n s) {s':SP} (h1:s'.L=s.L) (h2:s'.P=s.P∨s'.P=[]) (h3:s'.cnt=s.cnt):dP n s' :=
 ⟨h1▸k.l,by rcases h2 with e | e <;> rw [e];exact k.p;exact (fun _ h=>nomatch h),h3▸k.c,h1▸k.k⟩
theorem dt {κ α:Type} [DecidableEq κ] {E:List (κ × α)} {n:κ} {v:α} (h:bG E n=some v):(n,v)∈E:=b0 h
theorem o7:jw []:=⟨Nat.zero_le _,(fun _ h=>nomatch h)⟩
theorem kC (v:fR) (ps:List eC) (c:Int):c≤(cY v ps c).2∧(cY v ps c).2≤c+1:=by
 unfold cY
 split
 · exact ⟨Int.le_refl _,by dsimp only;omega⟩
 · split
   · exact ⟨Int.le_refl _,by dsimp only;omega⟩
   · split
     · exact ⟨by dsimp only;omega,Int.le_refl _⟩
     · exact ⟨Int.le_refl _,by dsimp only;omega⟩
theorem xg {rs:List (List eC)} (ov:Bool) (m:Int) (h:jw rs):jw (dJ rs ov m).2.1:=by
 unfold dJ
 split
 · exact h
 · exact ⟨by simp only [List.length_drop];have:=h.1;omega,fun r hr=>h.2 r (List.mem_of_mem_drop hr)⟩
theorem ux (k:dP n s) (f:gi) (ff:nx f):dP (n+1) (eD s f).1:=by
 have k1:dP n (if f.name=[] then { s with L:=cb s.L [] } else s):=by
   split
   · exact k.uw _
   · exact k
 unfold eD
 dsimp only
 generalize (if f.name=[] then { s with L:=cb s.L [] } else s)=s1 at k1 ⊢
 split
 · exact k1.mono (by omega)
 · split
   · exact k1.mono (by omega)
   · exact k1.FO _ _ ff.t ff.o
theorem xh (k:dP n s) (f:gi) (ff:nx f):dP (n+1) (fG s f).1:=by
 unfold fG
 split
 · exact k.mono (by omega)
 · split
   · exact k.mono (by omega)
   · rename_i t ht
     have hm:=k.l _ (dt ht)
     split
     · exact k.mono (by omega)
     · split
       · exact k.mono (by omega)
       · exact (k.lq _ _ ⟨hm.1,hm.2,ff.m,o7⟩).mono (by omega)
theorem ot (k:dP n s) (f:gi):dP (n+1) (cy s f).1:=by
 have e:(cy s f).1=s:=by
   unfold cy
   split <;> split <;> (try split) <;> rfl
 rw [e]
 exact k.mono (by omega)
theorem o8 (k:dP n s) (v:fR):dP n (cG s v).1:=by
 unfold cG
 split
 · exact k
 · split
   · exact k
   · refine k.of rfl ?_ rfl
     dsimp only
     split
     · exact .inr rfl
     · exact .inl rfl
theorem qm (k:dP n s) (f:gi):dP (n+1) (cd s f).1:=by
 unfold cd
 split
 · exact k.mono (by omega)
 · split
   · exact k.mono (by omega)
   · rename_i t o ps rs ran ov hg
     have hm:=k.p _ (dt hg)
     dsimp only at hm
     have hc:=k.c
     split
     · have hrs : jw (if ran = true then (rs, s.cnt) else cY (bh t) ps s.cnt).1 ∧ s.cnt ≤ (if ran = true then (rs, s.cnt) else cY (bh t) ps s.cnt).2 ∧ (if ran = true then (rs, s.cnt) else cY (bh t) ps s.cnt).2 ≤ s.cnt + 1 := by
         split
         · exact ⟨hm.2.2.2,Int.le_refl _,by dsimp only;omega⟩
         · exact ⟨gH _ _ hm.2.2.1,kC _ _ _⟩
       dsimp only
       generalize (if ran=true then (rs,s.cnt) else cY (bh t) ps s.cnt)=rc at hrs ⊢
       have k1:dP (n+1) { s with cnt:=rc.2 }:=⟨k.l,k.p,by dsimp only;omega,by have:=k.k;dsimp only;omega⟩
       exact k1.lq _ _ ⟨hm.1,hm.2.1,hm.2.2.1,xg _ _ hrs.1⟩
     · split
       · exact k.mono (by omega)
       · have kt:=o8 k (bh t)
         split
         · rename_i s1 out he
           rw [he] at kt
           dsimp only at kt ⊢
           split
           · exact kt.mono (by omega)
           · exact (kt.lq _ _ ⟨hm.1,hm.2.1,hm.2.2.1,o7⟩).mono (by omega)
         · exact kt.mono (by omega)
theorem xi (k:dP n s) (f:gi):dP (n+1) (gF s f).1:=by
 unfold gF
 split
 · exact (k.uw _).mono (by omega)
 · exact (k.sB _).mono (by omega)
theorem uy (k:dP n s) (f:gi):dP (n+1) (dy s f).1:=by
 have k1:dP n { s with L:=cb s.L [],P:=cb s.P [] }:=(k.uw []).sB []
 have k2:dP (n+1) { s with L:=cb s.L [],P:=cb s.P [],cnt:=(cY (bh f.text) [] s.cnt).2 }:=⟨k1.l,k1.p,by have:=kC (bh f.text) [] s.cnt;have hc:=k.c;dsimp only;omega,by have:=k1.k;dsimp only at this ⊢;omega⟩
 unfold dy
 dsimp only
 split
 · exact k1.mono (by omega)
 · split
   · exact k2
   · exact (o8 k1 _).mono (by omega)
theorem xj (k:dP n s) (f:gi) (ff:nx f):dP (n+1) (ei s f).1:=by
 unfold ei
 split
 · exact ux k f ff
 · split
   · exact xh k f ff
   · split
     · exact ot k f
     · split
       · exact qm k f
       · split
         · exact xi k f
         · split
           · exact uy k f
           · exact k.mono (by omega)
theorem lB (k:dP n s):dP n (dY s).1:=by
 refine k.of rfl ?_ rfl
 unfold dY
 dsimp only
 split
 · exact .inr rfl
 · exact .inl rfl
theorem sC (k:dP n s) (c t:List UInt8):dP n (hJ s c t).1:=by
 refine k.of rfl ?_ rfl
 unfold hJ
 dsimp only
 split
 · exact .inr rfl
 · exact .inl rfl
theorem xk (f:gi) {r:fS} (k:dP n r.1):dP n (fH f r).1:=by
 unfold fH
 rcases he:r.2.2 with _ | ⟨c,t⟩
 · dsimp only
   split
   · exact lB k
   · exact k
 · dsimp only
   have kf:dP n (hJ { r.1 with sk:=decide (f.kind ≠ 81) } c t).1:=sC (s:={ r.1 with sk:=decide (f.kind ≠ 81) }) (k.of rfl (.inl rfl) rfl) c t
   split
   · exact lB kf
   · exact kf
theorem CN (k:dP n s) (f:gi) (ff:nx f):dP (n+1) (iw s f).1:=by
 have km:dP (n+1) s:=k.mono (by omega)
 unfold iw
 split
 · exact km
 · split
   · exact km.of rfl (.inl rfl) rfl
   · split
     · exact lB (km.of rfl (.inl rfl) rfl)
     · split
       · exact km
       · exact xk f (xj k f ff)
end
theorem jc (a b:List UInt8):aY (a++b)=(aY a && aY b):=by
 unfold aY
 rw [List.contains_eq_any_beq,List.any_append,List.contains_eq_any_beq,List.contains_eq_any_beq,Bool.not_or]
theorem uz (m:Nat):aY (cX m)=true:=by
 induction m using Nat.strongRecOn with
 | _ m ih =>
   have hd:∀ k,k < 10→aY [UInt8.ofNat (48+k)]=true:=by decide
   by_cases h:m < 10
   · rw [mB h]
     exact hd m h
   · rw [p8 h,show (UInt8.ofNat (48+m % 10) :: cX (m / 10))=[UInt8.ofNat (48+m % 10)]++cX (m / 10) from rfl,jc,hd _ (by omega),ih (m / 10) (by omega)]
     rfl
theorem o9 (m:Nat):aY (xK m)=true:=by
 have:=uz m
 unfold aY xK at *
 rw [List.contains_eq_any_beq] at *
 rwa [List.any_reverse]
theorem uA (n:Int):aY (dr n)=true:=by
 unfold dr
 split
 · rw [show (45 :: xK n.natAbs)=[45]++xK n.natAbs from rfl,jc,o9]
   rfl
 · exact o9 _
section
variable (N M:Nat) (G:Prop)
def Aj (o:List Int):Prop:=o.length≤N∧(G→∀ n∈o,0≤n∧n≤4294967295)
def eG (ps:List eC):Prop:=ps.length≤N∧∀ c∈ps,c.2.length≤M∧(G→c.1=true→c.2.length=0)
structure Inv (s:SP):Prop where
 l:∀ q∈s.L,Aj N G q.2.2
 p:∀ q∈s.P,Aj N G q.2.2.1∧eG N M G q.2.2.2.1∧∀ r∈q.2.2.2.2.1,eG N M G r
 c:0≤s.cnt∧s.cnt≤1000000
def gI (x:jb):Prop:=x.kind=69∨(∃ k,x={ kind:=k }∧(k=49∨k=50∨k=51∨k=73∨k=110∨k=115))∨(∃ t,x={ kind:=67,tag:=t }∧aY t=true∧t.length≤1000)∨(∃ o,x={ kind:=116,oids:=o }∧Aj N G o)∨(∃ r,x={ kind:=68,row:=r }∧eG N M G r)∨(∃ n:Int,x=oX n∧n≤max N 1)
end
section
variable {N M:Nat} {G:Prop} {s:SP}
theorem gI.plain {k:Int} (h:k=49∨k=50∨k=51∨k=73∨k=110∨k=115):∀ x∈[({ kind:=k }:jb)],gI N M G x:=fun x hx=>by
 obtain rfl:=List.mem_singleton.1 hx
 exact .inr (.inl ⟨k,rfl,h⟩)
theorem Inv.uw (k:Inv N M G s) (x:List UInt8):Inv N M G { s with L:=cb s.L x }:=⟨fun q hq=>k.l q (cB hq).1,k.p,k.c⟩
theorem Inv.sB (k:Inv N M G s) (x:List UInt8):Inv N M G { s with P:=cb s.P x }:=⟨k.l,fun q hq=>k.p q (cB hq).1,k.c⟩
theorem Inv.FO (k:Inv N M G s) (x:List UInt8) (v:Fi) (h:Aj N G v.2):Inv N M G { s with L:=cl s.L x v } :=
 ⟨fun q hq=>by
   rcases cu hq with rfl | ⟨hq,_⟩
   · exact h
   · exact k.l q hq,k.p,k.c⟩
theorem Inv.lq (k:Inv N M G s) (x:List UInt8) (v:Fj) (h:Aj N G v.2.1∧eG N M G v.2.2.1∧∀ r∈v.2.2.2.1,eG N M G r):Inv N M G { s with P:=cl s.P x v } :=
 ⟨k.l,fun q hq=>by
   rcases cu hq with rfl | ⟨hq,_⟩
   · exact h
   · exact k.p q hq,k.c⟩
theorem Inv.of (k:Inv N M G s) {s':SP} (h1:s'.L=s.L) (h2:s'.P=s.P∨s'.P=[]) (h3:s'.cnt=s.cnt):Inv N M G s' :=
 ⟨h1▸k.l,by rcases h2 with e | e <;> rw [e];exact k.p;exact (fun _ h=>nomatch h),h3▸k.c⟩
theorem vM {n:Int} (hN:1≤N) (hM:100≤M) (hn:0≤n∧n≤1000001):eG N M G [(false,dr n)]:=⟨hN,fun c hc=>by
 obtain rfl:=List.mem_singleton.1 hc
 exact ⟨by have:=dk n (by omega);show (dr n).length≤M;omega,fun _ e=>by cases e⟩⟩
theorem pa (v:fR) {ps:List eC} {c:Int} (hN:1≤N) (hM:100≤M) (hc:0≤c∧c≤1000000) (h:eG N M G ps):∀ r∈(cY v ps c).1,eG N M G r:=by
 unfold cY
 split
 · intro r hr
   obtain ⟨i,hi,rfl⟩:=List.mem_map.1 hr
   have:=ja v.n
   have:=List.mem_range.1 hi
   exact vM hN hM (by omega)
 · split
   · intro r hr
     obtain rfl:=List.mem_singleton.1 hr
     exact h
   · split
     · intro r hr
       obtain rfl:=List.mem_singleton.1 hr
       exact vM hN hM (by omega)
     · exact fun _ h=>nomatch h
theorem CO {n:Nat} (h:n≤100000):aY (wY n)=true∧(wY n).length≤1000:=by
 unfold wY
 have:=dk (n:Int) (by omega)
 exact ⟨by rw [jc,uA];rfl,by rw [List.length_append];simp;omega⟩
theorem lV {rs:List (List eC)} (more:Bool) (hl:rs.length≤100000) (h:∀ r∈rs,eG N M G r):∀ x∈cQ rs more,gI N M G x:=fun x hx=>by
 unfold cQ at hx
 rcases List.mem_append.1 hx with hx | hx
 · obtain ⟨r,hr,rfl⟩:=List.mem_map.1 hx
   exact .inr (.inr (.inr (.inr (.inl ⟨r,rfl,h r hr⟩))))
 · obtain rfl:=List.mem_singleton.1 hx
   split
   · exact .inr (.inl ⟨115,rfl,by omega⟩)
   · exact .inr (.inr (.inl ⟨_,rfl,CO hl⟩))
theorem vN (v:fR) {o:List Int} (h:Aj N G o):om v o.length≤max N 1:=by
 unfold om
 have:=h.1
 split
 · omega
 · split <;> omega
theorem ny (t:Fi) (h:Aj N G t.2):gI N M G (iM t):=by
 unfold iM
 split
 · exact .inr (.inr (.inr (.inr (.inr ⟨_,rfl,vN _ h⟩))))
 · exact .inr (.inl ⟨110,rfl,by omega⟩)
theorem xl (st:Int) (v:fR):aY (eV st v).2=true∧(eV st v).2.length≤1000:=by
 unfold eV
 split
 · unfold r5
   split <;> exact ⟨rfl,Nat.le_of_ble_eq_true rfl⟩
 · split <;> exact ⟨rfl,Nat.le_of_ble_eq_true rfl⟩
theorem pc (k:Inv N M G s) (v:fR):Inv N M G (cG s v).1∧∀ x∈(cG s v).2.1,gI N M G x:=by
 unfold cG
 split
 · exact ⟨k,gI.plain (by omega)⟩
 · split
   · exact ⟨k,fun _ h=>nomatch h⟩
   · refine ⟨k.of rfl ?_ rfl,fun x hx=>?_⟩
     · dsimp only
       split
       · exact .inr rfl
       · exact .inl rfl
     · obtain rfl:=List.mem_singleton.1 hx
       exact .inr (.inr (.inl ⟨_,rfl,xl _ _⟩))
theorem uB (k:Inv N M G s) (f:gi) (hq:Aj N G f.oids):Inv N M G (eD s f).1∧∀ x∈(eD s f).2.1,gI N M G x:=by
 have k1:Inv N M G (if f.name=[] then { s with L:=cb s.L [] } else s):=by
   split
   · exact k.uw _
   · exact k
 unfold eD
 dsimp only
 generalize (if f.name=[] then { s with L:=cb s.L [] } else s)=s1 at k1 ⊢
 split
 · exact ⟨k1,fun _ h=>nomatch h⟩
 · split
   · exact ⟨k1,fun _ h=>nomatch h⟩
   · exact ⟨k1.FO _ _ hq,gI.plain (by omega)⟩
theorem xm (k:Inv N M G s) (f:gi) (hr:eG N M G f.params):Inv N M G (fG s f).1∧∀ x∈(fG s f).2.1,gI N M G x:=by
 unfold fG
 split
 · exact ⟨k,fun _ h=>nomatch h⟩
 · split
   · exact ⟨k,fun _ h=>nomatch h⟩
   · rename_i t ht
     have hm:=k.l _ (dt ht)
     split
     · exact ⟨k,fun _ h=>nomatch h⟩
     · split
       · exact ⟨k,fun _ h=>nomatch h⟩
       · exact ⟨k.lq _ _ ⟨hm,hr,fun _ h=>nomatch h⟩,gI.plain (by omega)⟩
theorem ou (k:Inv N M G s) (f:gi):Inv N M G (cy s f).1∧∀ x∈(cy s f).2.1,gI N M G x:=by
 unfold cy
 split
 · split
   · exact ⟨k,fun _ h=>nomatch h⟩
   · split
     · exact ⟨k,fun _ h=>nomatch h⟩
     · rename_i t ht
       have hm:=k.l _ (dt ht)
       refine ⟨k,fun x hx=>?_⟩
       rcases List.mem_cons.1 hx with rfl | hx
       · exact .inr (.inr (.inr (.inl ⟨_,rfl,hm⟩)))
       · obtain rfl:=List.mem_singleton.1 hx
         exact ny _ hm
 · split
   · exact ⟨k,fun _ h=>nomatch h⟩
   · split
     · exact ⟨k,fun _ h=>nomatch h⟩
     · rename_i t ht
       have hm:=k.p _ (dt ht)
       refine ⟨k,fun x hx=>?_⟩
       obtain rfl:=List.mem_singleton.1 hx
       exact ny _ hm.1
theorem CP {rs:List (List eC)} (ov:Bool) (m:Int) (hl:rs.length≤100000) (h:∀ r∈rs,eG N M G r):((dJ rs ov m).1.length≤100000∧∀ r∈(dJ rs ov m).1,eG N M G r)∧∀ r∈(dJ rs ov m).2.1,eG N M G r:=by
 unfold dJ
 split
 · exact ⟨⟨Nat.zero_le _,fun _ h=>nomatch h⟩,h⟩
 · exact ⟨⟨by dsimp only;rw [List.length_take];omega,fun r hr=>h r (List.mem_of_mem_take hr)⟩,fun r hr=>h r (List.mem_of_mem_drop hr)⟩
theorem qn (k:Inv N M G s) {n:Nat} (lm:dP n s) (hn:n < 1000000) (hN:1≤N) (hM:100≤M) (f:gi):Inv N M G (cd s f).1∧∀ x∈(cd s f).2.1,gI N M G x:=by
 unfold cd
 split
 · exact ⟨k,fun _ h=>nomatch h⟩
 · split
   · exact ⟨k,fun _ h=>nomatch h⟩
   · rename_i t o ps rs ran ov hg
     have hm:=k.p _ (dt hg)
     have hl:=lm.p _ (dt hg)
     have hc:=lm.c
     dsimp only at hm hl
     split
     · have hrs : (∀ r ∈ (if ran = true then (rs, s.cnt) else cY (bh t) ps s.cnt).1, eG N M G r) ∧ (if ran = true then (rs, s.cnt) else cY (bh t) ps s.cnt).1.length ≤ 100000 ∧ s.cnt ≤ (if ran = true then (rs, s.cnt) else cY (bh t) ps s.cnt).2 ∧ (if ran = true then (rs, s.cnt) else cY (bh t) ps s.cnt).2 ≤ s.cnt + 1 := by
         split
         · exact ⟨hm.2.2,hl.2.2.2.1,Int.le_refl _,by dsimp only;omega⟩
         · exact ⟨pa _ hN hM (by omega) hm.2.1,(gH _ _ hl.2.2.1).1,kC _ _ _⟩
       dsimp only
       generalize (if ran=true then (rs,s.cnt) else cY (bh t) ps s.cnt)=rc at hrs ⊢
       have k1:Inv N M G { s with cnt:=rc.2 }:=⟨k.l,k.p,by dsimp only;omega⟩
       have hf:=CP ov f.max hrs.2.1 hrs.1
       exact ⟨k1.lq _ _ ⟨hm.1,hm.2.1,hf.2⟩,lV _ hf.1.1 hf.1.2⟩
     · split
       · exact ⟨k,fun _ h=>nomatch h⟩
       · have kt:=pc k (bh t)
         split
         · rename_i s1 out he
           rw [he] at kt
           dsimp only at kt ⊢
           refine ⟨?_,kt.2⟩
           split
           · exact kt.1
           · exact kt.1.lq _ _ ⟨hm.1,hm.2.1,fun _ h=>nomatch h⟩
         · exact kt
theorem xn (k:Inv N M G s) (f:gi):Inv N M G (gF s f).1∧∀ x∈(gF s f).2.1,gI N M G x:=by
 unfold gF
 split
 · exact ⟨k.uw _,gI.plain (by omega)⟩
 · exact ⟨k.sB _,gI.plain (by omega)⟩
theorem uC (k:Inv N M G s) {n:Nat} (lm:dP n s) (hn:n < 1000000) (hN:1≤N) (hM:100≤M) (f:gi):Inv N M G (dy s f).1∧∀ x∈(dy s f).2.1,gI N M G x:=by
 have hc:=lm.c
 have k1:Inv N M G { s with L:=cb s.L [],P:=cb s.P [] }:=(k.uw []).sB []
 have h0:eG N M G ([]:List eC):=⟨Nat.zero_le _,fun _ h=>nomatch h⟩
 have he:=kC (bh f.text) [] s.cnt
 unfold dy
 dsimp only
 split
 · exact ⟨k1,fun _ h=>nomatch h⟩
 · split
   · refine ⟨⟨k1.l,k1.p,by dsimp only;omega⟩,fun x hx=>?_⟩
     rcases List.mem_cons.1 hx with rfl | hx
     · exact .inr (.inr (.inr (.inr (.inr ⟨_,rfl,vN (G:=G) (o:=[]) _ ⟨Nat.zero_le _,fun _ _ h=>nomatch h⟩⟩))))
     · exact lV _ (gH _ _ (Nat.zero_le _)).1 (pa _ hN hM (by omega) h0) x hx
   · exact pc k1 _
theorem xo (k:Inv N M G s) {n:Nat} (lm:dP n s) (hn:n < 1000000) (hN:1≤N) (hM:100≤M) (f:gi) (hq:Aj N G f.oids) (hr:eG N M G f.params):Inv N M G (ei s f).1∧∀ x∈(ei s f).2.1,gI N M G x:=by
 unfold ei
 split
 · exact uB k f hq
 · split
   · exact xm k f hr
   · split
     · exact ou k f
     · split
       · exact qn k lm hn hN hM f
       · split
         · exact xn k f
         · split
           · exact uC k lm hn hN hM f
           · exact ⟨k,fun _ h=>nomatch h⟩
theorem pd (k:Inv N M G s):Inv N M G (dY s).1:=by
 refine k.of rfl ?_ rfl
 unfold dY
 dsimp only
 split
 · exact .inr rfl
 · exact .inl rfl
def DW (s:SP) (f:gi):Bool := !s.ov && (decide (f.kind=83) || decide (f.kind=81) && !s.sk)
theorem CQ (k:Inv N M G s) {n:Nat} (lm:dP n s) (hn:n < 1000000) (hN:1≤N) (hM:100≤M) (f:gi) (hq:Aj N G f.oids) (hr:eG N M G f.params) :
   Inv N M G (iw s f).1∧∃ l,(iw s f).2=l++(if DW s f=true then [{ kind:=90,status:=(iw s f).1.st }] else [])∧∀ x∈l,gI N M G x:=by
 unfold iw DW
 by_cases h1:s.ov=true
 · rw [if_pos h1]
   exact ⟨k,[],by simp [h1],fun _ h=>nomatch h⟩
 · rw [if_neg h1]
   have e1:s.ov=false:=by simpa using h1
   by_cases h2:f.kind=88
   · rw [if_pos h2]
     exact ⟨k.of rfl (.inl rfl) rfl,[],by simp [e1,h2],fun _ h=>nomatch h⟩
   · rw [if_neg h2]
     by_cases h3:f.kind=83
     · rw [if_pos h3]
       exact ⟨pd (k.of (s':={ s with sk:=false }) rfl (.inl rfl) rfl),[],by simp [e1,h3,dY],fun _ h=>nomatch h⟩
     · rw [if_neg h3]
       by_cases h4:s.sk=true
       · rw [if_pos h4]
         exact ⟨k,[],by simp [h4,h3],fun _ h=>nomatch h⟩
       · rw [if_neg h4]
         have e4:s.sk=false:=by simpa using h4
         have kd:=xo k lm hn hN hM f hq hr
         generalize ei s f=r at kd ⊢
         obtain ⟨s1,out,e⟩:=r
         dsimp only at kd
         obtain ⟨s2,o2,he,ki,ko⟩:∃ s2 o2,fH f (s1,out,e)=(if f.kind=81 then ((dY s2).1,o2++[(dY s2).2]) else (s2,o2))∧Inv N M G s2∧∀ x∈o2,gI N M G x:=by
           rcases e with _ | ⟨c,t⟩
           · exact ⟨s1,out,rfl,kd.1,kd.2⟩
           · refine ⟨_,_,rfl,kd.1.of rfl ?_ rfl,fun x hx=>?_⟩
             · dsimp only [hJ]
               split
               · exact .inr rfl
               · exact .inl rfl
             · rcases List.mem_append.1 hx with hx | hx
               · exact kd.2 x hx
               · obtain rfl:=List.mem_singleton.1 hx
                 exact .inl rfl
         rw [he]
         by_cases h5:f.kind=81
         · rw [if_pos h5]
           exact ⟨pd ki,o2,by simp [e1,e4,h5,dY],ko⟩
         · rw [if_neg h5]
           exact ⟨ki,o2,by simp [h3,h5],ko⟩
end
def xp (p:jb):Bk:=⟨p.kind,p.status,p.tag,p.name,p.value,p.n,p.m,jE,p.oids,jE,p.cols,jE,p.row.map fun c=>⟨c.1,jE,c.2⟩,jE,p.fields⟩
theorem uD (p:jb):(xp p).p=p:=by
 unfold xp Bk.p
 dsimp only
 rw [List.map_map,show (aX.pl ∘ fun c:eC=>(⟨c.1,jE,c.2⟩:aX))=id from rfl,List.map_id]
theorem qp {φ:Bool→List UInt8→Prop} (l:List aX):(∀ c∈l,φ c.null c.bytes) ↔ ∀ c∈l.map aX.pl,φ c.1 c.2:=by simp [aX.pl]
theorem Kl {a b:Bk} (e:a.p=b.p):(sY a).pl=(sY b).pl:=by
 obtain ⟨k,st,t,n,v,x,y,vo,lo,vc,lc,vr,lr,vf,lf⟩:=a
 obtain ⟨k',st',t',n',v',x',y',vo',lo',vc',lc',vr',lr',vf',lf'⟩:=b
 simp only [Bk.p,jb.mk.injEq] at e
 obtain ⟨rfl,rfl,rfl,rfl,rfl,rfl,rfl,rfl,rfl,er,rfl⟩:=e
 unfold sY
 dsimp only
 repeat' split
 all_goals first | rfl | simp only [Bk.pl,er]
theorem Km {a b:Bk} (e:a.p=b.p):a.pl=b.pl:=by
 simp only [Bk.p,jb.mk.injEq] at e
 simp only [Bk.pl,e]
theorem uE {a b:Bk} (e:a.p=b.p) (h:a.may):b.may:=by
 have e1:=Kl e
 have e2:=Km e
 simp only [Bk.p,jb.mk.injEq] at e
 obtain ⟨h1,h2,h3,h4,h5,h6,h7,h8,h9,iG,qh,qS⟩:=h
 obtain ⟨k1,k2,k3,k4,k5,k6,k7,k8,k9,sy,zU⟩:=e
 refine ⟨k1▸h1,k3▸h2,k4▸h3,k5▸h4,k9▸h5,zU▸h6,⟨?_,?_⟩,k8▸h8,k6▸h9,k7▸iG,?_,e1▸e2▸qS⟩
 · have:=congrArg List.length sy
   simp only [List.length_map] at this
   have:=h7.1
   omega
 · have:=(qp (φ:=fun n l=>(n=true→l.length=0)∧l.length≤1048576) a.row).1 h7.2
   rw [sy] at this
   exact (qp (φ:=fun n l=>(n=true→l.length=0)∧l.length≤1048576) b.row).2 this
 · unfold Bk.mb at *
   rw [← k1,← k2]
   exact qh
theorem vO {a b:Bk} (e:a.p=b.p):eh a=eh b:=by
 obtain ⟨k,st,t,n,v,x,y,vo,lo,vc,lc,vr,lr,vf,lf⟩:=a
 obtain ⟨k',st',t',n',v',x',y',vo',lo',vc',lc',vr',lr',vf',lf'⟩:=b
 simp only [Bk.p,jb.mk.injEq] at e
 obtain ⟨rfl,rfl,rfl,rfl,rfl,rfl,rfl,rfl,rfl,er,rfl⟩:=e
 have hl:lr.length=lr'.length:=by have:=congrArg List.length er;simpa using this
 have hf:∀ l:List aX,l.flatMap dI=(l.map aX.pl).flatMap fun c=>if c.1 then be 4294967295 4 else be c.2.length 4++c.2:=fun l=>by rw [List.flatMap_map];rfl
 unfold eh
 dsimp only
 rw [hl,hf lr,hf lr',er]
open Classical in
noncomputable def eE (p:jb):List (Int × List UInt8):=if (xp p).may then [(p.kind,eh (xp p))] else []
def Kn (k:Int):Prop:=k=90∨k=67∨k=68∨k=84∨k=116∨k=69∨k=82∨k=75∨k=49∨k=50∨k=51∨k=110∨k=115∨k=73
structure jh (p:jb):Prop where
 kind:Kn p.kind
 status:0≤p.status∧p.status≤255
 codes:∀ f∈p.fields,0≤f.k∧f.k≤255
 oids:p.oids.length≤100
 cols:p.cols.length≤100
 row:p.row.length≤100
 fields:p.fields.length≤100
 names:∀ c∈p.cols,c.nm.length≤1000
 cells:∀ c∈p.row,c.2.length≤1000
 texts:∀ f∈p.fields,f.t.length≤200000
 tag:p.tag.length≤1000
 name:p.name.length≤1000
 value:p.value.length≤1000
theorem jh.of {b:Bk} {p:jb} (e:b.p=p) (k:jh p):b.Hn∧b.wf∧Kn b.kind:=by
 subst e
 obtain ⟨h1,h2,h3,h4,h5,h6,h7,h8,h9,iG,qh,qS,FD⟩:=k
 refine ⟨⟨h4,h5,by simpa [Bk.p] using h6,h7,h8,(qp (φ:=fun _ l=>l.length≤1000) b.row).2 h9,iG,qh,qS,FD⟩,⟨?_,h2,h3⟩,h1⟩
 have:Kn b.kind:=h1
 unfold Kn at this
 omega
def LD (p:jb) (h:ah) (u:Value) (h':ah):Prop:=∃ (k:Int) (v:Value) (e:Int),u=.tuple ⟨[.agg ⟨[.int .u8 k,v]⟩,In e]⟩∧Ext No h h'∧((e ≠ 0∧eE p=[]∧v=jE)∨(e=0∧k=p.kind∧∃ l,eE p=[(p.kind,l)]∧Own h' v 5 1 l.length (bA l)∧∀ q,v.ownBlock=some q→h.size≤q))
theorem vP {h:ah} (b:Bk) (hb:b.ok h) (hm:jh b.p):ag Tryz.prog 98 ⟨[.agg ⟨b.cells⟩]⟩ h (LD b.p h):=by
 obtain ⟨md,wf,kn⟩:=jh.of rfl hm
 have e:(xp b.p).p=b.p:=uD _
 by_cases hmay:b.may
 · have ho:eE b.p=[(b.kind,eh b)]:=by unfold eE;rw [if_pos (uE e.symm hmay),vO e];rfl
   exact (E0 b hb wf md hmay (by unfold Kn at kn;omega)).mono fun u h' ⟨v',e1,e2,e3,e4⟩=>⟨_,_,_,e1,e3,.inr ⟨rfl,rfl,_,ho,e2,e4⟩⟩
 · have ho:eE b.p=[]:=by unfold eE;rw [if_neg fun z=>hmay (uE e z)]
   exact (zc b hb wf.kind md hmay).mono fun u h' ⟨e1,hne,eu,hx⟩=>⟨_,_,_,eu,hx,.inl ⟨hne,ho,rfl⟩⟩
end Go.Proofs.YtopgddfgefnmbaaGreatDoor
namespace Go.Proofs.YtopgddfgefnmbaaGreatDoor
open Go Go.RK
abbrev mj:=Int × Value × List UInt8
def uF (x:mj):List Value:=[.int .u8 x.1,x.2.1]
def mj.pl (x:mj):Int × List UInt8:=(x.1,x.2.2)
structure Sd (h:ah) (v:Value) (M:List mj):Prop where
 row:Own h v 53 2 M.length (M.flatMap uF)
 bod:∀ x∈M,Own h x.2.1 5 1 x.2.2.length (bA x.2.2)
theorem hX {h:ah} {v:Value} {T:TypeId} {sz n:Nat} {xs:List Value} (k:Own h v T sz n xs):v.oneCell'=true:=by
 obtain ⟨A,c,rfl,_⟩:=k.slice
 rfl
section
variable {h h':ah} {v:Value} {M:List mj} {S:Nat→Prop}
theorem Sd.one (k:Sd h v M):∀ x∈M.flatMap uF,x.oneCell'=true:=fun x hx=>by
 obtain ⟨y,hy,hx⟩:=List.mem_flatMap.1 hx
 simp only [uF,List.mem_cons,List.not_mem_nil,or_false] at hx
 rcases hx with rfl | rfl
 · rfl
 · exact hX (k.bod y hy)
theorem Sd.ext (k:Sd h v M) (x:Ext S h h') (h1:∀ q,v.ownBlock=some q→¬ S q) (h2:∀ y∈M,∀ q,y.2.1.ownBlock=some q→¬ S q):Sd h' v M:=⟨k.row.ext x h1,fun y hy=>(k.bod y hy).ext x (h2 y hy)⟩
theorem Sd.aq (k:Sd h v M) (x:Ext No h h'):Sd h' v M:=k.ext x (fun _ _=>aO) (fun _ _ _ _=>aO)
theorem Sd.lt (k:Sd h v M):(∀ q,v.ownBlock=some q→q < h.size)∧∀ y∈M,∀ q,y.2.1.ownBlock=some q→q < h.size:=⟨fun _ hq=>k.row.lt hq,fun y hy _ hq=>(k.bod y hy).lt hq⟩
theorem Sd.nil (h:ah):Sd h (.slice none 0 0) []:=⟨Own.nil _ _ _,(fun _ h=>nomatch h)⟩
theorem Sd.off (k:Sd h v M) {b:Nat} {cs:List Value} {T:TypeId} (hb:h[b]?=some (.cells ⟨cs⟩ T (0,0))) (h1:T ≠ 53) (h2:T ≠ 5):v.ownBlock ≠ some b∧∀ y∈M,y.2.1.ownBlock ≠ some b:=⟨bQ k.row hb h1,fun y hy=>bQ (k.bod y hy) hb h2⟩
end
theorem DX {h:ah} {b:Nat} {w0 f s p i v:Value} {bg ov:Bool} {M0:List mj} (L:List Bk) (hv:Rd h v 11 L.length (L.flatMap Bk.cells)) (hb:h[b]?=some (.cells ⟨lR w0 f s p i bg ov⟩ 96 (0,0))) (hs:Sd h w0 M0) (hm:M0.length+L.length≤10000)
   (hne:∀ q,v.ownBlock=some q→q ≠ b∧w0.ownBlock ≠ some q) (hone:∀ y∈L,∀ v∈y.cells,v.oneCell'=true) (hke:∀ y∈L,∀ g:ah,Ext (fun q=>q=b∨w0.ownBlock=some q) h g→ag Tryz.prog 98 ⟨[.agg ⟨y.cells⟩]⟩ g (LD y.p g)) :
   ag Tryz.prog 57 ⟨[.pointer (some ⟨b,0,none⟩),v]⟩ h fun _ h'=>∃ (w:Value) (M:List mj),M.map mj.pl=M0.map mj.pl++L.flatMap (fun y=>eE y.p)∧h'[b]?=some (.cells ⟨lR w f s p i bg ov⟩ 96 (0,0))∧Sd h' w M∧Ext (fun q=>q=b∨w0.ownBlock=some q) h h'∧(∀ q,w.ownBlock=some q→w0.ownBlock=some q∨h.size≤q)∧∀ x∈M,x∈M0∨∀ q,x.2.1.ownBlock=some q→h.size≤q:=by
 unfold lR at *
 have lb:=ai hb
 have O0:=hs.lt
 obtain ⟨A,c,rfl,_⟩:=id hv
 refine calls [(0,_),(1,_)] Tryz.func57 rfl Tryz.ntmps57 rfl ⟨rfl,rfl,trivial⟩ ?_
 refine G2 ?_;refine WC.block ?_;refine WC.bD (X:=Nat × Value × List mj) (fun x=>([(10,In (x.1:Int))]:Fr)) [(0,_),(8,_),(9,_)] (fun x h'=>x.1≤L.length∧x.2.2.map mj.pl=M0.map mj.pl++(L.take x.1).flatMap (fun y=>eE y.p)∧h'[b]?=some (.cells ⟨[x.2.1,f,s,p,i,.bool bg,.bool ov]⟩ 96 (0,0))∧Sd h' x.2.1 x.2.2∧Ext (fun q=>q=b∨w0.ownBlock=some q) h h'∧(∀ q,x.2.1.ownBlock=some q→w0.ownBlock=some q∨h.size≤q)∧(∀ y∈x.2.2,y∈M0∨∀ q,y.2.1.ownBlock=some q→h.size≤q)∧x.2.2.length≤M0.length+x.1) (fun x=>L.length - x.1) ((0,w0,M0)) ⟨rfl,rfl,rfl,rfl,trivial⟩ (by exact ⟨Nat.zero_le _,by simp,hb,hs,.refl _ _,fun q hq=>.inl hq,fun y hy=>.inl hy,Nat.le_refl _⟩) ?_
 rintro ⟨j,w,M⟩ h1 ⟨hj,hM,aR,fT,az,ik,hfm,hlm⟩
 dsimp only at hj hM aR fT ik hfm hlm
 obtain ⟨A1,c1,rfl,_⟩:=id fT.row.slice
 refine WC.sub [(10,_),(0,_),(8,_),(9,_)] ⟨rfl,rfl,rfl,rfl,trivial⟩ ?_
 dsimp only
 refine G2 ?_;refine WC.seq ?_
 refine aH 1 2 (Hb.mk fun hb=>?_) (Hb.mk fun hb=>?_)
 all_goals try (
 refine aw 1 ?_
 refine WC.skip ?_
 skip)
 all_goals try (
 refine aw 2 ?_
 refine WC.exit ?_
 repeat' (with_reducible first | refine aU ?_ | refine aD rfl ?_ | refine aJ ?_ | refine aL ?_ | refine aS ?_)
 refine Br.out (i:=1000) ?_
 skip)
 all_goals (refine Gn ?_;first | refine Br.ab ?_ | refine WC.seq ?_)
 all_goals (first | refine Br.ab ?_ | refine WC.block ?_)
 all_goals (first | refine Br.ab ?_ | refine WC.sr ?_)
 all_goals (
  first
    | (refine Br.ab ?_)
    | (obtain ⟨y,hy⟩:∃ y,L[j]?=some y:=⟨_,List.getElem?_eq_getElem (by omega)⟩
       obtain ⟨bL,oL,hA,hbL,hat⟩:=Rd.at_ (hv.ext az (fun q hq e=>e.elim (hne q hq).1 (hne q hq).2)) (by omega)
       subst hA
       have hel:=hat.elem (sz:=11) (fun _=>rfl) hy
       have kee:=hke y (List.mem_of_getElem? hy)
       have hbl:h.size≤h1.size:=az.size
       have htk:(L.take (j+1)).flatMap (fun y=>eE y.p)=(L.take j).flatMap (fun y=>eE y.p)++eE y.p:=by rw [List.take_add_one,hy,List.flatMap_append];simp))
 all_goals (first | refine Br.ab ?_ | (refine WL.step (aE Tryz.underlying80 Tryz.sizeOf140 rfl rfl rfl (by omega) (by first | rfl | assumption)) rfl rfl rfl ?_))
 all_goals (first | refine Br.ab ?_ | (refine WL.step (ay Tryz.isAgg140 Tryz.sizeOf140 rfl rfl (by exact hel)) rfl rfl rfl ?_))
 all_goals (
  first
    | (refine Br.ab ?_)
    | (refine WL.aj (an (fun w=>Tryz.zeroValue140 w)) rfl rfl rfl ?_
       rintro _ h2 ⟨b5,rfl,qR,bV,aI⟩))
 all_goals (
  first
    | (refine Br.ab ?_)
    | (refine WL.ax (al Tryz.sizeOf140 rfl rfl rfl bV rfl (fun v hv=>hone y (List.mem_of_getElem? hy) v hv)) rfl rfl ?_
       rintro _ h3 ⟨Ce,aQ⟩
       have X3:Ext No h1 h3:=aI.trans' aQ (fun q hq e=>by omega)))
 all_goals (refine Gn ?_;first | refine Br.ab ?_ | refine WC.sr ?_)
 all_goals (first | refine Br.ab ?_ | (refine WL.step (ay Tryz.isAgg140 Tryz.sizeOf140 rfl rfl (by exact At.av Ce)) rfl rfl rfl ?_))
 all_goals (
  first
    | (refine Br.ab ?_)
    | (refine WL.call (vs:=[_]) rfl Tryz.call98 rfl (kee _ (az.trans (X3.mono fun _ _ e=>e.elim))) rfl rfl rfl ?_
       rintro _ h4 ⟨k4,v4,e4,rfl,aW,hen⟩
       have LF:v4.oneCell'=true:=by
        rcases hen with ⟨_,_,rfl⟩ | ⟨_,_,l,_,o,_⟩
        · rfl
        · exact hX o))
 all_goals (refine Go ?_)
 all_goals (
  first
    | (refine Br.ab ?_)
    | (refine WL.aj (an (fun w=>Tryz.zeroValue53 w)) rfl rfl rfl ?_
       rintro _ h5 ⟨b6,rfl,qQ,bX,aM⟩))
 all_goals (
  first
    | (refine Br.ab ?_)
    | (refine WL.ax (al Tryz.sizeOf53 rfl rfl rfl bX rfl (by intro x hx;simp only [List.mem_cons,List.not_mem_nil,or_false] at hx;rcases hx with rfl | rfl;rfl;exact LF)) rfl rfl ?_
       rintro _ h6 ⟨E1,aN⟩
       have X6:Ext No h1 h6:=((X3.trans aW).trans aM).trans' aN (fun q hq e=>by have:=X3.size;have:=aW.size;omega)
       have dx:=X6.obj aR aO
       have GK:=fT.aq X6
       have Nd:=ai aR
       have g6:h1.size≤b6:=by have:=X3.size;have:=aW.size;omega
       have hlt:∀ q,(Value.slice A1 M.length c1).ownBlock=some q→q < h1.size:=fun q hq=>fT.row.lt hq
       have nW:(Value.slice A1 M.length c1).ownBlock ≠ some b:=bQ fT.row aR (by decide)
       have LG:(Value.slice A1 M.length c1).ownBlock ≠ some b6:=fun e=>by have:=hlt _ e;omega
       have FP:Ext No h4 h6:=aM.trans' aN (fun q hq e=>by omega)))
 all_goals (refine Go ?_;first | refine Br.ab ?_ | refine Gs [(0,_),(6,_),(7,_),(8,_),(9,_),(10,_)] ?_)
 all_goals (first | refine Br.ab ?_ | refine WC.sr ?_)
 all_goals (refine Go ?_;first | refine Br.ab ?_ | (refine aH 3 4 (Hb.mk fun hb=>?_) (Hb.mk fun hb=>?_)))
 all_goals try (
 refine aw 3 ?_
 obtain ⟨rfl,l4,Nf,LH,Ng⟩:k4=y.p.kind∧∃ l,eE y.p=[(y.p.kind,l)]∧Own h4 v4 5 1 l.length (bA l)∧∀ q,v4.ownBlock=some q→h3.size≤q:=by
  rcases hen with ⟨z,_⟩ | ⟨z1,z2,z3⟩
  · exfalso;simp_all
  · exact ⟨z2,z3⟩
 refine WC.bW (fun h'=>Ext (fun q=>(Value.slice A1 M.length c1).ownBlock=some q) h6 h') 10 11 rfl dm ?_
 refine WH.tk 0 rfl (fun hq hC=>ak rfl) rfl rfl rfl ?_
 refine WH.tk 1 rfl (fun hq hC=>ak rfl) rfl rfl rfl ?_
 refine WH.tk 2 rfl (fun hq hC=>ae rfl) rfl rfl rfl ?_
 refine WH.tk 3 rfl (fun hq hC=>ad rfl Tryz.underlying96 rfl Tryz.sizeOf94) rfl rfl rfl ?_
 refine WH.tk 4 rfl (fun hq hC=>aA Tryz.isAgg94 rfl (by first | exact hC.cell (by first | exact aa dx rfl | assumption) (by first | exact nW | exact LG))) rfl rfl rfl ?_
 refine WH.tk 5 rfl (fun hq hC=>ay Tryz.isAgg53 Tryz.sizeOf53 rfl rfl (by exact (At.av E1).ext hC LG)) rfl rfl rfl ?_
 refine WH.one 6 (by kernel_rfl) ?_
 refine aC.run rfl (au (vs:=[_]) (cs:=[_,_]) (fun | [.agg ⟨[a0,a1]⟩]=>[a0,a1] | _=>[]) Tryz.underlying94 rfl rfl (by kernel_rfl)) rfl rfl rfl ?_ (fun _=>by kernel_rfl)
 rintro _ h7 ⟨b7,rfl,xG,ca,ba⟩
 have DJ:Ext (fun q=>(Value.slice A1 M.length c1).ownBlock=some q) h6 h7:=ba.mono fun _ _ e=>e.elim
 refine ⟨fun _=>DJ,?_⟩
 refine WH.one 7 (by kernel_rfl) ?_
 refine aC.run rfl (aT (sz:=2) (bytes:=32) rfl Tryz.underlying94 (show Tryz.prog.info? 53=some Tryz.t53 by kernel_rfl) rfl rfl rfl rfl (by decide) rfl rfl (GK.row.ext ba (fun _ _=>aO)) (bx (len:=1) (sz:=2) (cs:=uF (y.p.kind,v4,l4)) ca rfl) (by intro x hx;simp only [uF,List.mem_cons,List.not_mem_nil,or_false] at hx;rcases hx with rfl | rfl;rfl;exact LF) (by simp only [maxLen];omega) (by omega)) rfl rfl rfl ?_ (fun _=>by kernel_rfl)
 rintro v8 h8 ⟨jK,bz,tC⟩
 have xI:=DJ.trans bz
 refine ⟨fun _=>xI,?_⟩
 refine WH.one 8 (by kernel_rfl) ?_
 refine aC.run rfl (bN.r (ae rfl)) rfl rfl rfl ?_ (fun _=>by kernel_rfl)
 rintro _ hz ⟨rfl,_⟩
 subst hz
 refine ⟨fun _=>by first | assumption | trivial,?_⟩
 refine WH.one 9 (by kernel_rfl) ?_
 refine aC.run rfl (bN.r (ad rfl Tryz.underlying96 rfl Tryz.sizeOf94)) rfl rfl rfl ?_ (fun _=>by kernel_rfl)
 rintro _ hz ⟨rfl,_⟩
 subst hz
 refine ⟨fun _=>by first | assumption | trivial,?_⟩
 refine WH.one 10 (by kernel_rfl) ?_
 obtain ⟨A8,c8,rfl,_⟩:=id jK.slice
 refine aC.cO rfl (aB Tryz.sizeOf94 rfl rfl (xI.obj dx nW) (Nat.le_of_ble_eq_true rfl) rfl rfl) rfl rfl ?_ (fun _=>by kernel_rfl)
 rintro _ h9 ⟨bY,bZ⟩
 refine ⟨fun e=>(by cases e),?_⟩
 have l7:=X6.size
 have O1:=ba.size
 have EA:∀ q,(Value.slice A8 (M.length+1) c8).ownBlock=some q→(Value.slice A1 M.length c1).ownBlock=some q∨h1.size≤q:=fun q hq=>tC.elim (fun e=>.inl (e▸hq)) (fun e=>.inr (by rw [e] at hq;cases hq;omega))
 have X8:Ext (fun q=>q=b∨w0.ownBlock=some q) h h8:=(az.trans (X6.mono fun _ _ e=>e.elim)).trans' xI (fun q hq e=>.inr ((ik q e).elim id fun z=>by omega))
 have nbod:∀ z∈M,∀ q,z.2.1.ownBlock=some q→(Value.slice A1 M.length c1).ownBlock ≠ some q:=fun z hz q hq e=>by obtain ⟨_,a1⟩:=bO (fT.bod z hz) hq;obtain ⟨_,a2⟩:=bO fT.row e;rw [a1] at a2;simp at a2
 have bE:=xI.obj dx nW
 have Nh:Own h8 v4 5 1 l4.length (bA l4):=(LH.ext FP (fun _ _=>aO)).ext xI (fun q hq e=>by have:=hlt q e;obtain ⟨_,a1⟩:=bO LH hq;obtain ⟨_,a2⟩:=bO fT.row e;have a3:=((X3.trans aW)).obj a2 aO;rw [a1] at a3;simp at a3)
 have Ni:Own h8 (Value.slice A8 (M.length+1) c8) 53 2 (M++[(y.p.kind,v4,l4)]).length ((M++[(y.p.kind,v4,l4)]).flatMap uF):=by rw [List.length_append,List.flatMap_append];exact jK
 have vQ:Sd h8 (Value.slice A8 (M.length+1) c8) (M++[(y.p.kind,v4,l4)]):=⟨Ni,fun z hz=>(List.mem_append.1 hz).elim (fun hz=>(GK.bod z hz).ext xI (fun q hq e=>nbod z hz q hq e)) (fun e=>by rw [List.mem_singleton.1 e];exact Nh)⟩
 have uG:=vQ.ext bZ (fun q hq e=>bQ vQ.row bE (by decide) (e▸hq)) (fun z hz q hq e=>bQ (vQ.bod z hz) bE (by decide) (e▸hq))
 have Ko:(M++[(y.p.kind,v4,l4)]).map mj.pl=M0.map mj.pl++(L.take (j+1)).flatMap (fun y=>eE y.p):=by rw [List.map_append,hM,htk,Nf,List.append_assoc];rfl
 have Kp:∀ z∈M++[(y.p.kind,v4,l4)],z∈M0∨∀ q,z.2.1.ownBlock=some q→h.size≤q:=fun z hz=>(List.mem_append.1 hz).elim (hfm z) (fun e=>by rw [List.mem_singleton.1 e];exact .inr fun q hq=>by have:=Ng q hq;have:=X3.size;omega)
 refine WH.done (by kernel_rfl) ?_
 skip)
 all_goals try (
 refine aw 4 ?_
 refine WC.skip ?_
 skip)
 all_goals (refine Gn ?_;first | refine Br.ab ?_ | refine Gs [(0,_),(8,_),(9,_),(10,_)] ?_)
 all_goals (first | refine Br.ab ?_ | refine WC.region ?_)
 all_goals (refine Go ?_;first | refine Br.ab ?_ | (exact ⟨(j+1,_,_),⟨rfl,rfl,rfl,rfl,trivial⟩,(by first | exact ⟨by omega,Ko,bY,uG,X8.trans (bZ.mono fun _ _ e=>.inl e),fun q hq=>(EA q hq).elim (ik q) (fun z=>.inr (by omega)),Kp,by dsimp only;simp only [List.length_append,List.length_cons,List.length_nil];omega⟩ | exact ⟨by omega,by rw [hM,htk];rcases hen with ⟨_,z,_⟩ | ⟨z,_⟩;rw [z,List.append_nil];exfalso;simp_all,dx,GK,az.trans (X6.mono fun _ _ e=>e.elim),ik,hfm,by dsimp only;omega⟩),(by dsimp only;omega)⟩))
 try (refine Br.mk (i:=1000) ?_)
 refine Gn ?_
 refine fA [] trivial ?_
 exact ⟨_,M,by rw [hM,List.take_of_length_le (by omega)],aR,fT,az,ik,hfm⟩
def Part (hd:Nat) (l:List UInt8):Prop:=l.length < hd+4∨(hd+4≤l.length∧∃ n:Nat,ij ((l.drop hd).take 4)=(n:Int)∧(4≤n∧n≤65536)∧l.length < hd+n)
theorem Ak {h:ah} {A:Option Addr} {c:Nat} (l k:Nat) (hl:l < k+4) (hm:l≤1000000) (hk:k≤10) :
   ag Tryz.prog 176 ⟨[.slice A l c,In (k:Int),In 4]⟩ h fun u h'=>u=.tuple ⟨[In 0,In 3]⟩∧h'=h:=by
 refine calls [(0,_),(1,_),(2,_)] Tryz.func176 rfl Tryz.ntmps176 rfl ⟨rfl,rfl,rfl,trivial⟩ ?_
 refine G2 ?_;refine WC.seq ?_;refine WC.block ?_;refine G3 ?_;refine WL.call (vs:=[_]) rfl Tryz.call180 rfl (vm) rfl rfl rfl ?_
 rintro _ hz ⟨rfl,_⟩
 subst hz
 refine Go ?_;refine Gs [(0,_),(1,_),(2,_),(11,_)] ?_
 refine aH 1 2 ?_ TT.mk
 all_goals (refine aw 2 ?_)
 refine WC.region (Go ?_);refine Gn ?_
 refine aH 3 4 ?_ TT.mk
 all_goals (refine aw 4 ?_)
 refine G3 ?_;refine Gs [(0,_),(1,_),(2,_),(17,_)] ?_
 refine aH 5 6 (Hb.mk fun hb=>?_) (Hb.mk fun hb=>?_)
 all_goals try (
 refine aw 5 ?_
 refine WC.skip ?_
 skip)
 all_goals try (
 refine aw 6 ?_
 refine WC.region (Go ?_)
 skip)
 all_goals (refine Gn ?_;first | refine aH 7 8 ?_ TT.mk | (refine aH 7 8 (Hb.mk fun hb=>?_) (Hb.mk fun hb=>?_)))
 all_goals try (
 refine aw 7 ?_
 all_goals (refine G2 ?_;refine Gs [(6,_),(7,_)] ?_;refine Gt ?_;first | exact ⟨rfl,rfl⟩ | (exfalso;omega))
 skip)
 all_goals (refine aw 8 ?_)
 refine WC.skip ?_;refine Gn ?_;refine WC.sr ?_
 (exfalso;omega)
section
variable {h h':ah} {b:Nat} {ty:Bool} {v:Value} {l:List UInt8} {S:Nat→Prop}
theorem qu (k:Fw h b ty v l) (hd:Nat) (he:(if ty=true then 1 else 0)=hd) (hl:l.length < hd+4) (hm:l.length≤1000000):ag Tryz.prog 171 ⟨[.pointer (some ⟨b,0,none⟩)]⟩ h fun u h'=>u=.tuple ⟨[In 0,.bool false]⟩∧Ext No h h':=by
 have hb:=k.bm
 have ho:=k.own
 have I7:hd≤1:=by rw [← he];split <;> omega
 obtain ⟨B,d,rfl,_⟩:=id ho.slice
 have kh:=fun h'=>iW (h:=h') ty
 rw [he] at kh
 have kg:=fun h'=>Ak (h:=h') (A:=B) (c:=d) l.length hd hl hm (by omega)
 refine calls [(0,_)] Tryz.func171 rfl Tryz.ntmps171 rfl ⟨rfl,trivial⟩ ?_
 refine G2 ?_;refine WC.seq ?_;refine WC.bW (fun h'=>Ext No h h') 15 15 rfl dm ?_
 refine WH.tk 0 rfl (fun hq hC=>ak rfl) rfl rfl rfl ?_
 refine WH.tk 1 rfl (fun hq hC=>ae rfl) rfl rfl rfl ?_
 refine WH.tk 2 rfl (fun hq hC=>ad rfl Tryz.underlying147 rfl Tryz.sizeOf23) rfl rfl rfl ?_
 refine WH.tk 3 rfl (fun hq hC=>aA Tryz.isAgg23 rfl (by first | exact hC.cell (by first | exact aa hb rfl | assumption) aO)) rfl rfl rfl ?_
 refine WH.tk 4 rfl (fun hq hC=>ak rfl) rfl rfl rfl ?_
 refine WH.tk 5 rfl (fun hq hC=>ae rfl) rfl rfl rfl ?_
 refine WH.tk 6 rfl (fun hq hC=>ad rfl Tryz.underlying147 rfl Tryz.sizeOf145) rfl rfl rfl ?_
 refine WH.tk 7 rfl (fun hq hC=>ay Tryz.isAgg145 Tryz.sizeOf145 rfl rfl (by exact At.pre (xs:=[_]) (ys:=[_,_,_,_]) ((At.av hb).ext hC aO))) rfl rfl rfl ?_
 refine WH.one 8 (by kernel_rfl) ?_
 refine aC.call (vs:=[_]) rfl rfl Tryz.call88 rfl (kh _) rfl rfl rfl ?_ (fun _=>by kernel_rfl)
 rintro _ h1 ⟨rfl,az⟩
 refine ⟨fun _=>az,?_⟩
 refine WH.one 9 (by kernel_rfl) ?_
 refine aC.call (vs:=[_,_,_]) rfl rfl Tryz.call176 rfl (kg _) rfl rfl rfl ?_ (fun _=>by kernel_rfl)
 rintro _ hq ⟨rfl,hz⟩
 replace hz:=hz.symm
 subst hz
 refine ⟨fun _=>az,?_⟩
 refine WH.tk 10 rfl (fun hq hC=>ak rfl) rfl rfl rfl ?_
 refine WH.tk 11 rfl (fun hq hC=>bP rfl rfl) rfl rfl rfl ?_
 refine WH.tk 12 rfl (fun hq hC=>bP rfl rfl) rfl rfl rfl ?_
 refine WH.tk 13 rfl (fun hq hC=>aP rfl) rfl rfl rfl ?_
 refine WH.tk 14 rfl (fun hq hC=>aP rfl) rfl rfl rfl ?_
 refine WH.done (by kernel_rfl) ?_
 refine Gn ?_;refine Gs [(4,_),(5,_)] ?_;refine G2 ?_;refine Gs [(2,_),(3,_)] ?_;refine Gt ?_
 exact ⟨rfl,by first | exact az | exact hC⟩
theorem ow (k:Fw h b ty v l) (hd:Nat) (he:(if ty=true then 1 else 0)=hd) (hp:Part hd l) (hm:l.length≤1000000) :
   ag Tryz.prog 121 ⟨[.pointer (some ⟨b,0,none⟩)]⟩ h fun u h'=>(∃ n:Int,u=.tuple ⟨[In n,.bool false,In 0]⟩)∧Fw h' b ty v l∧Ext (fun q=>q=b) h h':=by
 have hb:=k.bm
 have lb:=ai hb
 obtain ⟨B,d,rfl,_⟩:=id k.own.slice
 rcases hp with hp | ⟨hp,n,hn,h4,hl⟩
 ·
   have ks:=qu k hd he hp hm
   refine calls [(0,_)] Tryz.func121 rfl Tryz.ntmps121 rfl ⟨rfl,trivial⟩ ?_
   refine G2 ?_;refine G3 ?_;refine WL.step (ae rfl) rfl rfl rfl (Go ?_);refine WL.ld rfl (by first | exact aa hb rfl | assumption) rfl rfl rfl (Go ?_)
   refine Gs [(0,_),(12,_)] ?_
   refine aH 1 2 ?_ TT.mk
   all_goals (refine aw 2 ?_)
   refine WC.skip ?_;refine Gn ?_;refine G2 ?_;refine WL.call (vs:=[_]) rfl Tryz.call171 rfl (ks) rfl rfl rfl ?_
   rintro _ h1 ⟨rfl,az⟩
   refine Go ?_;refine Gs [(0,_),(5,_),(6,_)] ?_;refine G3 ?_
   refine aH 3 4 ?_ TT.mk
   all_goals (refine aw 3 ?_)
   refine G2 ?_;refine Gs [(2,_),(3,_),(4,_)] ?_;refine Gt ?_
   exact ⟨⟨_,rfl⟩,k.aq az,az.mono fun _ _ e=>e.elim⟩
 ·
   have ks:=vn k hd he hp hm
   rw [hn] at ks
   have kc:=fun (g:ah) (x:Ext No h g)=>rF (k.aq x) n h4
   have kh:=fun h'=>iW (h:=h') ty
   rw [he] at kh
   refine calls [(0,_)] Tryz.func121 rfl Tryz.ntmps121 rfl ⟨rfl,trivial⟩ ?_
   refine G2 ?_;refine G3 ?_;refine WL.step (ae rfl) rfl rfl rfl (Go ?_);refine WL.ld rfl (by first | exact aa hb rfl | assumption) rfl rfl rfl (Go ?_)
   refine Gs [(0,_),(12,_)] ?_
   refine aH 1 2 ?_ TT.mk
   all_goals (refine aw 2 ?_)
   refine WC.skip ?_;refine Gn ?_;refine G2 ?_;refine WL.call (vs:=[_]) rfl Tryz.call171 rfl (ks) rfl rfl rfl ?_
   rintro _ h1 ⟨rfl,az⟩
   have aR:=az.obj hb aO
   refine Go ?_;refine Gs [(0,_),(5,_),(6,_)] ?_;refine G3 ?_
   refine aH 3 4 ?_ TT.mk
   all_goals (refine aw 4 ?_)
   refine WC.skip ?_;refine Gn ?_;refine G3 ?_;refine WL.call (vs:=[_,_]) rfl Tryz.call172 rfl (kc _ az) rfl rfl rfl ?_
   rintro _ hq ⟨rfl,hz⟩
   replace hz:=hz.symm
   subst hz
   refine WL.step (ae rfl) rfl rfl rfl (Go ?_);refine WL.ax (aB Tryz.sizeOf48 rfl rfl aR (Nat.le_of_ble_eq_true rfl) rfl rfl) rfl rfl ?_
   rintro _ h2 ⟨bH,aI⟩
   have k2:Fw h2 b ty (.slice B l.length d) l:=⟨bH,(k.aq az).own.ext aI (k.aq az).ne⟩
   refine Gn ?_;refine Gs [(0,_),(5,_)] ?_;refine G2 ?_;refine WL.step (ae rfl) rfl rfl rfl (Go ?_);refine WL.ld rfl (by first | exact aa bH rfl | assumption) rfl rfl rfl (Go ?_)
   refine Gs [(0,_),(5,_),(34,_)] ?_
   refine aH 5 6 ?_ TT.mk
   all_goals (refine aw 6 ?_)
   refine WC.skip ?_;refine Gn ?_;refine G2 ?_;refine WL.step (ae rfl) rfl rfl rfl (Go ?_);refine WL.step (ay Tryz.isAgg145 Tryz.sizeOf145 rfl rfl (by exact At.pre (xs:=[_]) (ys:=[_,_,_,_]) (At.av bH))) rfl rfl rfl ?_
   refine WL.call (vs:=[_]) rfl Tryz.call88 rfl (kh _) rfl rfl rfl ?_
   rintro _ h3 ⟨rfl,aQ⟩
   have k3:=k2.aq aQ
   have bq:=k3.bm
   have X3:Ext (fun q=>q=b) h h3:=(az.mono fun _ _ e=>e.elim).trans (aI.trans (aQ.mono fun _ _ e=>e.elim))
   refine Go ?_;refine Gs [(0,_),(7,_)] ?_;refine WC.seq ?_;refine WC.fU dm (by kernel_rfl) ?_
   refine WQ.aK (ak rfl) rfl rfl rfl ?_;refine WQ.aK (ak rfl) rfl rfl rfl ?_;refine WQ.aK (ak rfl) rfl rfl rfl ?_;refine WQ.aK (ae rfl) rfl rfl rfl ?_;refine WQ.aK (ad rfl Tryz.underlying147 rfl Tryz.sizeOf23) rfl rfl rfl ?_;refine WQ.aK (aA Tryz.isAgg23 rfl (by first | exact aa bq rfl | assumption)) rfl rfl rfl ?_
   refine WQ.aK (cq rfl Tryz.underlying23 rfl) rfl rfl rfl ?_
   first | (refine WQ.aK (bN.fy (by omega) (mJ rfl rfl)) rfl rfl rfl ?_)
   refine WQ.aK (aP rfl) rfl rfl rfl ?_;refine WQ.aK (aP rfl) rfl rfl rfl ?_;refine WQ.aK (aP rfl) rfl rfl rfl ?_;refine WQ.nil ?_;refine Gn ?_;refine Gs [(2,_),(3,_),(4,_)] ?_;refine Gt ?_
   exact ⟨⟨_,rfl⟩,k3,X3⟩
theorem qw (k:Fw h b ty v l) (hd:Nat) (he:(if ty=true then 1 else 0)=hd) (hp:Part hd l) (hm:l.length≤1000000) :
   ag Tryz.prog 86 ⟨[.pointer (some ⟨b,0,none⟩)]⟩ h fun u h'=>u=.tuple ⟨[.agg ⟨[.int .u8 0,.slice none 0 0]⟩,.bool false,In 0]⟩∧Fw h' b ty v l∧Ext (fun q=>q=b) h h':=by
 have kr:=fun (h':ah) (k:Fw h' b ty v l)=>j8 k
 have kw:=fun (h':ah) (k:Fw h' b ty v l)=>ow k hd he hp hm
 have lb:=ai k.bm
 refine calls [(0,_)] Tryz.func86 rfl Tryz.ntmps86 rfl ⟨rfl,trivial⟩ ?_
 refine WC.sr ?_;refine WL.aj (an (fun w=>Tryz.zeroValue53 w)) rfl rfl rfl ?_
 rintro _ h1 ⟨b1,rfl,bR,aR,az⟩
 have k1:=k.aq az
 refine Go ?_;refine G3 ?_;refine WL.call (vs:=[_]) rfl Tryz.call85 rfl (kr _ k1) rfl rfl rfl ?_
 rintro _ hq ⟨rfl,hz⟩
 replace hz:=hz.symm
 subst hz
 refine Go ?_;refine Gs [(0,_),(2,_),(11,_)] ?_
 refine aH 1 2 ?_ TT.mk
 all_goals (refine aw 2 ?_)
 refine WC.skip ?_;refine Gn ?_;refine G2 ?_;refine WL.call (vs:=[_]) rfl Tryz.call121 rfl (kw _ k1) rfl rfl rfl ?_
 rintro _ h2 ⟨⟨n2,rfl⟩,k2,aI⟩
 have bT:=aI.obj aR (fun e=>by omega)
 refine Go ?_;refine Gs [(0,_),(2,_),(5,_),(6,_),(7,_)] ?_;refine G3 ?_
 refine aH 3 4 ?_ TT.mk
 all_goals (refine aw 3 ?_)
 refine WC.sr ?_;refine WL.step (aF (vs:=[]) (cs:=[_,_]) (fun | []=>[(.int .u8 0),(.slice none 0 0)] | _=>[]) rfl rfl (by kernel_rfl)) rfl rfl rfl (Go ?_)
 refine WL.ax (al Tryz.sizeOf53 rfl rfl rfl bT rfl (by simp [Value.oneCell'])) rfl rfl ?_
 rintro _ h3 ⟨bq,aQ⟩
 refine Go ?_;refine Gs [(2,_),(3,_),(4,_)] ?_;refine WC.ret ?_
 repeat' (with_reducible first | refine aZ ?_ | refine aV ?_)
 refine mP _ _ _ ⟨⟨_,rfl,bB Tryz.isAgg53 Tryz.sizeOf53 (by assumption) rfl⟩,rfl,rfl,trivial⟩ ?_
 exact ⟨rfl,k2.ext aQ (fun e=>by omega) (fun q hq e=>bQ k2.own bT (by decide) (e▸hq)),((az.mono fun _ _ e=>e.elim).trans aI).trans' aQ (fun q hq e=>by omega)⟩
theorem qx (k:Fw h b ty v l) (hd:Nat) (he:(if ty=true then 1 else 0)=hd) (hp:Part hd l) (hm:l.length≤1000000) :
   ag Tryz.prog 53 ⟨[.pointer (some ⟨b,0,none⟩)]⟩ h fun u h'=>u=.tuple ⟨[.agg ⟨[.int .u8 0,.slice none 0 0]⟩,.bool false,In 0]⟩∧Fw h' b ty v l∧Ext (fun q=>q=b) h h':=by
 have kp:=fun (h':ah) (k:Fw h' b ty v l)=>qw k hd he hp hm
 have lb:=ai k.bm
 refine calls [(0,_)] Tryz.func53 rfl Tryz.ntmps53 rfl ⟨rfl,trivial⟩ ?_
 refine WC.sr ?_;refine WL.aj (an (fun w=>Tryz.zeroValue53 w)) rfl rfl rfl ?_
 rintro _ h1 ⟨b1,rfl,bR,aR,az⟩
 have k1:=k.aq az
 refine Go ?_;refine G2 ?_;refine WL.call (vs:=[_]) rfl Tryz.call86 rfl (kp _ k1) rfl rfl rfl ?_
 rintro _ h2 ⟨rfl,k2,aI⟩
 have bT:=aI.obj aR (fun e=>by omega)
 refine Go ?_;refine WL.aj (an (fun w=>Tryz.zeroValue53 w)) rfl rfl rfl ?_
 rintro _ h3 ⟨b5,rfl,qR,bV,aQ⟩
 refine WL.ax (al Tryz.sizeOf53 rfl rfl rfl bV rfl (by simp [Value.oneCell'])) rfl rfl ?_
 rintro _ h4 ⟨rI,aW⟩
 have X:Ext No h2 h4:=aQ.trans' aW (fun q hq e=>by omega)
 have k4:=k2.aq X
 have bJ:=X.obj bT aO
 have X4:Ext (fun q=>q=b) h h4:=((az.mono fun _ _ e=>e.elim).trans aI).trans (X.mono fun _ _ e=>e.elim)
 refine Go ?_;refine Gs [(0,_),(2,_),(5,_),(6,_),(7,_)] ?_;refine G3 ?_
 refine aH 1 2 ?_ TT.mk
 all_goals (refine aw 2 ?_)
 refine WC.skip ?_;refine Gn ?_;refine WC.sr ?_;refine WL.step (ay Tryz.isAgg53 Tryz.sizeOf53 rfl rfl (by exact At.av rI)) rfl rfl rfl (Go ?_)
 refine WL.ax (al Tryz.sizeOf53 rfl rfl rfl bJ rfl (by simp [Value.oneCell'])) rfl rfl ?_
 rintro _ h5 ⟨Nj,aM⟩
 refine Go ?_;refine Gs [(2,_),(3,_),(4,_)] ?_;refine WC.ret ?_
 repeat' (with_reducible first | refine aZ ?_ | refine aV ?_)
 refine mP _ _ _ ⟨⟨_,rfl,bB Tryz.isAgg53 Tryz.sizeOf53 (by assumption) rfl⟩,rfl,rfl,trivial⟩ ?_
 exact ⟨rfl,k4.ext aM (fun e=>by omega) (fun q hq e=>bQ k4.own bJ (by decide) (e▸hq)),X4.trans' aM (fun q hq e=>by omega)⟩
end
section
variable {h h':ah} {A:Ad} {st:Int} {sk ov:Bool} {cnt:Int} {L:List (List UInt8 × gy)} {P:List (List UInt8 × ee)}
def Ja (h:ah) (A:Ad) (P:List (List UInt8 × ee)) (x:SP × List jb) (u:Value) (h':ah):Prop:=(∃ B,cz h h' u B∧B.map Bk.p=x.2)∧Sv h A P h' x.1
theorem Kq (k:Ss h A st sk ov cnt L P) (f:Fm) (hf:f.ok h) (hk:ov=true∨f.kind=88∨f.kind=83∨sk=true) :
   ag Tryz.prog 58 ⟨[.pointer (some ⟨A.bs,0,none⟩),.agg ⟨f.cells⟩]⟩ h (Ja h A P (iw (ck st sk ov cnt L P) f.p)):=by
 have kr:=fun (g:ah) (k:Ss g A st sk ov cnt L P)=>kW k.se.bm
 have hd:iw (ck st sk ov cnt L P) f.p=if ov=true then (ck st sk ov cnt L P,[]) else if f.kind=88 then (ck st sk true cnt L P,[]) else if f.kind=83 then ((dY (ck st false ov cnt L P)).1,[{ kind:=90,status:=st }]) else if sk=true then (ck st sk ov cnt L P,[]) else fH f.p (ei (ck st sk ov cnt L P) f.p):=rfl
 rw [hd]
 clear hd
 obtain ⟨⟨e1,_⟩,⟨e2,_⟩,⟨e3,_⟩,e4,_⟩:=hf
 obtain ⟨fk,w,n,p,t,vo,o,vf,fs,vs,rs,vp,ps,mx⟩:=f
 dsimp only at e1 e2 e3 e4 hk
 obtain ⟨_,_,rfl,_⟩:=e1
 obtain ⟨_,_,rfl,_⟩:=e2
 obtain ⟨_,_,rfl,_⟩:=e3
 obtain ⟨_,_,rfl,_⟩:=e4
 dsimp only [Fm.cells]
 by_cases e1:ov=true
 · rw [if_pos e1]
   subst e1
   refine calls [(0,_),(1,_)] Tryz.func58 rfl Tryz.ntmps58 rfl ⟨rfl,rfl,trivial⟩ ?_
   refine WC.sr ?_;refine WL.aj (aG rfl) rfl rfl rfl ?_
   rintro _ h1 ⟨b3,rfl,bR,aR,az⟩
   have k1:=k.aq az
   have hb:=k1.se.bm
   have lb:=ai k.se.bm
   have n3:¬ b3=A.bs:=by omega
   refine Go ?_;refine G3 ?_;refine WL.call (vs:=[_]) rfl Tryz.call99 rfl (kr _ k1) rfl rfl rfl ?_
   rintro _ hz ⟨rfl,_⟩
   subst hz
   refine Go ?_;refine Gs [(0,_),(3,_),(10,_)] ?_
   refine aH 1 2 ?_ TT.mk
   all_goals (refine aw 1 ?_)
   refine G2 ?_;refine Gt ?_
   exact ⟨⟨[],cz.nil _ _,rfl⟩,.of k1 (Tn.no az)⟩
 rw [if_neg e1]
 obtain rfl:ov=false:=by simpa using e1
 by_cases e2:fk=88
 · rw [if_pos e2]
   refine calls [(0,_),(1,_)] Tryz.func58 rfl Tryz.ntmps58 rfl ⟨rfl,rfl,trivial⟩ ?_
   refine WC.sr ?_;refine WL.aj (aG rfl) rfl rfl rfl ?_
   rintro _ h1 ⟨b3,rfl,bR,aR,az⟩
   have k1:=k.aq az
   have hb:=k1.se.bm
   have lb:=ai k.se.bm
   have n3:¬ b3=A.bs:=by omega
   refine Go ?_;refine G3 ?_;refine WL.call (vs:=[_]) rfl Tryz.call99 rfl (kr _ k1) rfl rfl rfl ?_
   rintro _ hz ⟨rfl,_⟩
   subst hz
   refine Go ?_;refine Gs [(0,_),(3,_),(10,_)] ?_
   refine aH 1 2 ?_ TT.mk
   all_goals (refine aw 2 ?_)
   refine WC.skip ?_;refine Gn ?_;refine WC.seq ?_;refine WC.block ?_;refine G2 ?_;refine WL.ld rfl (by first | exact aa aR rfl | assumption) rfl rfl rfl (Go ?_)
   refine Gs [(0,_),(3,_),(11,_)] ?_
   refine aH 3 4 ?_ TT.mk
   all_goals (refine aw 3 ?_)
   refine G2 ?_;refine WL.step (ae rfl) rfl rfl rfl (Go ?_);refine WL.ax (aB Tryz.sizeOf4 rfl rfl hb (Nat.le_of_ble_eq_true rfl) rfl rfl) rfl rfl ?_
   rintro _ h2 ⟨bH,aI⟩
   obtain ⟨k2,t2⟩:=k1.js aI bH k1.sto
   refine Gn ?_;refine Gs [] ?_;refine G2 ?_;refine Gt ?_
   exact ⟨⟨[],cz.nil _ _,rfl⟩,.of k2 ((Tn.no az).trans t2)⟩
 rw [if_neg e2]
 by_cases e3:fk=83
 · rw [if_pos e3]
   have ks:=fun (g:ah) (k:Ss g A st false false cnt L P)=>Cz k
   unfold Ff at ks
   refine calls [(0,_),(1,_)] Tryz.func58 rfl Tryz.ntmps58 rfl ⟨rfl,rfl,trivial⟩ ?_
   refine WC.sr ?_;refine WL.aj (aG rfl) rfl rfl rfl ?_
   rintro _ h1 ⟨b3,rfl,bR,aR,az⟩
   have k1:=k.aq az
   have hb:=k1.se.bm
   have lb:=ai k.se.bm
   have n3:¬ b3=A.bs:=by omega
   refine Go ?_;refine G3 ?_;refine WL.call (vs:=[_]) rfl Tryz.call99 rfl (kr _ k1) rfl rfl rfl ?_
   rintro _ hz ⟨rfl,_⟩
   subst hz
   refine Go ?_;refine Gs [(0,_),(3,_),(10,_)] ?_
   refine aH 1 2 ?_ TT.mk
   all_goals (refine aw 2 ?_)
   refine WC.skip ?_;refine Gn ?_;refine WC.seq ?_;refine WC.block ?_;refine G2 ?_;refine WL.ld rfl (by first | exact aa aR rfl | assumption) rfl rfl rfl (Go ?_)
   refine Gs [(0,_),(3,_),(11,_)] ?_
   refine aH 3 4 ?_ TT.mk
   all_goals (refine aw 4 ?_)
   refine G2 ?_;refine WL.ld rfl (by first | exact aa aR rfl | assumption) rfl rfl rfl (Go ?_)
   refine Gs [(0,_),(3,_),(18,_)] ?_
   refine aH 5 6 ?_ TT.mk
   all_goals (refine aw 5 ?_)
   refine G2 ?_;refine WL.step (ae rfl) rfl rfl rfl (Go ?_);refine WL.ax (aB Tryz.sizeOf4 rfl rfl hb (Nat.le_of_ble_eq_true rfl) rfl rfl) rfl rfl ?_
   rintro _ h2 ⟨bH,aI⟩
   obtain ⟨k2,t2⟩:=k1.js aI bH k1.sto
   refine Gn ?_;refine Gs [(0,_)] ?_;refine G2 ?_;refine WL.call (vs:=[_]) rfl Tryz.call100 rfl (ks _ k2) rfl rfl rfl ?_
   rintro _ h3 ⟨rfl,⟨L3,P3,k3,Nk,Nl,t3⟩,aQ⟩
   refine WL.aj (au (vs:=[_]) (cs:=[_,_,_,_,_,_,_,_,_,_,_]) (fun | [.agg ⟨[a0,a1,a2,a3,a4,a5,a6,a7,a8,a9,gY]⟩]=>[a0,a1,a2,a3,a4,a5,a6,a7,a8,a9,gY] | _=>[]) Tryz.underlying80 rfl rfl (by kernel_rfl)) rfl rfl rfl ?_
   rintro _ h4 ⟨b4,rfl,oG,bC,aW⟩
   refine Go ?_;refine Gs [(4,_)] ?_;refine Gt ?_
   have T3:=((Tn.no (A:=A) (P:=P) az).trans t2).trans t3
   exact ⟨⟨[kL 90 st []],.tag bC (by have:=T3.1.size;omega),rfl⟩,L3,P3,k3.aq aW,Nk,Nl,T3.trans (Tn.no aW)⟩
 rw [if_neg e3]
 obtain rfl:sk=true:=by
   rcases hk with hk | hk | hk | hk
   · cases hk
   · exact absurd hk e2
   · exact absurd hk e3
   · exact hk
 rw [if_pos rfl]
 refine calls [(0,_),(1,_)] Tryz.func58 rfl Tryz.ntmps58 rfl ⟨rfl,rfl,trivial⟩ ?_
 refine WC.sr ?_;refine WL.aj (aG rfl) rfl rfl rfl ?_
 rintro _ h1 ⟨b3,rfl,bR,aR,az⟩
 have k1:=k.aq az
 have hb:=k1.se.bm
 have lb:=ai k.se.bm
 have n3:¬ b3=A.bs:=by omega
 refine Go ?_;refine G3 ?_;refine WL.call (vs:=[_]) rfl Tryz.call99 rfl (kr _ k1) rfl rfl rfl ?_
 rintro _ hz ⟨rfl,_⟩
 subst hz
 refine Go ?_;refine Gs [(0,_),(3,_),(10,_)] ?_
 refine aH 1 2 ?_ TT.mk
 all_goals (refine aw 2 ?_)
 refine WC.skip ?_;refine Gn ?_;refine WC.seq ?_;refine WC.block ?_;refine G2 ?_;refine WL.ld rfl (by first | exact aa aR rfl | assumption) rfl rfl rfl (Go ?_)
 refine Gs [(0,_),(3,_),(11,_)] ?_
 refine aH 3 4 ?_ TT.mk
 all_goals (refine aw 4 ?_)
 refine G2 ?_;refine WL.ld rfl (by first | exact aa aR rfl | assumption) rfl rfl rfl (Go ?_)
 refine Gs [(0,_),(3,_),(18,_)] ?_
 refine aH 5 6 ?_ TT.mk
 all_goals (refine aw 6 ?_)
 refine G2 ?_;refine WL.step (ae rfl) rfl rfl rfl (Go ?_);refine WL.ld rfl (by first | exact aa hb rfl | assumption) rfl rfl rfl (Go ?_)
 refine Gs [(0,_),(3,_),(28,_)] ?_
 refine aH 7 8 ?_ TT.mk
 all_goals (refine aw 7 ?_)
 refine G2 ?_;refine Gt ?_
 exact ⟨⟨[],cz.nil _ _,rfl⟩,.of k1 (Tn.no az)⟩
theorem CR (k:Ss h A st sk ov cnt L P):ag Tryz.prog 100 ⟨[.pointer (some ⟨A.bs,0,none⟩)]⟩ h fun u h'=>u=.agg ⟨Ff 90 st []⟩∧(∃ P',(∀ q∈P',q∈P)∧Ss h' A st sk ov cnt L P'∧fN P'=(if st=73 then [] else fN P)∧Tn A P h h' P')∧Ext (fun q=>q=A.mp) h h':=by
 refine (so k).mono fun u h' ⟨e,kk,tt,x⟩=>⟨e,⟨_,?_,kk,?_,tt⟩,x⟩
 · intro q hq
   split at hq
   · exact nomatch hq
   · exact hq
 · split <;> rfl
theorem cz.sD {h0 h:ah} {B:List Bk} (k:cz h0 h nS B):B=[]:=by
 obtain ⟨_,_,e,_⟩:=k.own.slice
 simp only [nS,Value.slice.injEq] at e
 exact List.eq_nil_of_length_eq_zero (by omega)
theorem qy {a b c d:Value} (h:Value.tuple ⟨[a,b]⟩=.tuple ⟨[c,d]⟩):a=c∧b=d:=by simpa using h
theorem Ss.HY {g g':ah} {S:Nat→Prop} {st':Int} {sk' ov':Bool} {cnt':Int} {L':List (List UInt8 × gy)} {P':List (List UInt8 × ee)} (k:Ss h A st sk ov cnt L P) (k':Ss g A st' sk' ov' cnt' L' P') (sL:∀ q∈L',q∈L) (sP:∀ q∈P',q∈P) (x:Ext S g g') (hS:∀ q,S q→h.size≤q):Ss g' A st' sk' ov' cnt' L' P':=by
 have nS':∀ {q:Nat},q < h.size→¬ S q:=fun hq e=>by have:=hS _ e;omega
 have e:=k'.se
 refine ⟨⟨x.obj e.bm (nS' (ai k.se.bm)),e.stm.ext x (nS' k.se.stm.lt),x.obj e.pb (nS' (ai k.se.pb)),e.pm.ext x (nS' k.se.pm.lt),x.obj e.eb (nS' (ai k.se.eb)),e.em.ext x (nS' k.se.em.lt),e.ne⟩,fun q hq=>?_,fun q hq=>?_,k'.dis,k'.sto,k'.cok,k'.zz.up x.size⟩
 · exact ⟨(k'.sok q hq).1.ext' x (fun z h0 hz=>nS' ((k.sok q (sL q hq)).1.lt h0 hz)),(k'.sok q hq).2⟩
 · exact ⟨x.obj (k'.pok q hq).1 (nS' (ai (k.pok q (sP q hq)).1)),(k'.pok q hq).2.1.ext x (fun z hz=>nS' ((k.pok q (sP q hq)).2.1.lt hz)),(k'.pok q hq).2.2⟩
theorem Kr (er:Er h) (h0:¬ Mu A P 0) (k:Ss h A st false false cnt L P) (f:Fm) (hf:f.ok h) (hk:f.kind ≠ 88∧f.kind ≠ 83∧f.kind ≠ 81) {r:fS}
   (kd:∀ g,Ext No h g→ag Tryz.prog 101 ⟨[.pointer (some ⟨A.bs,0,none⟩),.agg ⟨f.cells⟩]⟩ g (FL fun v e h'=>cj g A P r (.tuple ⟨[v,e]⟩) h')) :
   ag Tryz.prog 58 ⟨[.pointer (some ⟨A.bs,0,none⟩),.agg ⟨f.cells⟩]⟩ h (Ja h A P (fH f.p r)):=by
 have kr:=fun (g:ah) (k:Ss g A st false false cnt L P)=>kW k.se.bm
 obtain ⟨⟨e1,_⟩,⟨e2,_⟩,⟨e3,_⟩,e4,_⟩:=hf
 obtain ⟨fk,w,n,p,t,vo,o,vf,fs,vs,rs,vp,ps,mx⟩:=f
 dsimp only at e1 e2 e3 e4 hk
 obtain ⟨_,_,rfl,_⟩:=e1
 obtain ⟨_,_,rfl,_⟩:=e2
 obtain ⟨_,_,rfl,_⟩:=e3
 obtain ⟨_,_,rfl,_⟩:=e4
 obtain ⟨O3,O5,Al⟩:=hk
 dsimp only [Fm.cells,Fm.p] at kd ⊢
 rcases r with ⟨⟨oq,DP,zR,Bv,CS,CT⟩,out,_ | ⟨ec,et⟩⟩
 · have hr:fH ⟨fk,w,n,p,t,o,ps.map aX.pl,mx⟩ (⟨oq,DP,zR,Bv,CS,CT⟩,out,none)=(⟨oq,DP,zR,Bv,CS,CT⟩,out):=if_neg Al
   rw [hr]
   clear hr
   refine calls [(0,_),(1,_)] Tryz.func58 rfl Tryz.ntmps58 rfl ⟨rfl,rfl,trivial⟩ ?_
   refine WC.sr ?_;refine WL.aj (aG rfl) rfl rfl rfl ?_
   rintro _ h1 ⟨b3,rfl,bR,aR,az⟩
   have k1:=k.aq az
   have hb:=k1.se.bm
   have lb:=ai k.se.bm
   have n3:¬ b3=A.bs:=by omega
   refine Go ?_;refine G3 ?_;refine WL.call (vs:=[_]) rfl Tryz.call99 rfl (kr _ k1) rfl rfl rfl ?_
   rintro _ hz ⟨rfl,_⟩
   subst hz
   refine Go ?_;refine Gs [(0,_),(3,_),(10,_)] ?_
   refine aH 1 2 ?_ TT.mk
   all_goals (refine aw 2 ?_)
   refine WC.skip ?_;refine Gn ?_;refine WC.seq ?_;refine WC.block ?_;refine G2 ?_;refine WL.ld rfl (by first | exact aa aR rfl | assumption) rfl rfl rfl (Go ?_)
   refine Gs [(0,_),(3,_),(11,_)] ?_
   refine aH 3 4 ?_ TT.mk
   all_goals (refine aw 4 ?_)
   refine G2 ?_;refine WL.ld rfl (by first | exact aa aR rfl | assumption) rfl rfl rfl (Go ?_)
   refine Gs [(0,_),(3,_),(18,_)] ?_
   refine aH 5 6 ?_ TT.mk
   all_goals (refine aw 6 ?_)
   refine G2 ?_;refine WL.step (ae rfl) rfl rfl rfl (Go ?_);refine WL.ld rfl (by first | exact aa hb rfl | assumption) rfl rfl rfl (Go ?_)
   refine Gs [(0,_),(3,_),(28,_)] ?_
   refine aH 7 8 ?_ TT.mk
   all_goals (refine aw 8 ?_)
   refine WC.skip ?_;refine Gn ?_;refine G2 ?_;refine WL.step (ay Tryz.isAgg42 Tryz.sizeOf42 rfl rfl (by exact At.av aR)) rfl rfl rfl ?_
   refine WL.call (vs:=[_,_]) rfl Tryz.call101 rfl (kd _ az) rfl rfl rfl ?_
   rintro _ h2 ⟨u2,e2,rfl,v2,B2,c2,heq,O2,xL,L2,P2,k2,Am,An,t2⟩
   obtain ⟨q1,q2⟩:=qy heq
   subst q1 q2
   dsimp only [fM] at xL k2 Am An ⊢
   subst Am
   subst An
   have bT:=t2.1.obj aR (k1.not aR (by decide) (by decide) (by decide))
   refine Go ?_;refine Gs [(0,_),(3,_),(5,_),(6,_)] ?_;refine WC.sr ?_;refine WL.aj (an (fun w=>Tryz.zeroValue169 w)) rfl rfl rfl ?_
   rintro _ h3 ⟨b7,rfl,gl,bq,aQ⟩
   have hbK:=aQ.obj bT aO
   have kK:=k2.aq aQ
   have OK:=(O2.mono az.size).aq aQ
   have TK:=((Tn.no (A:=A) (P:=P) az).trans t2).trans (Tn.no aQ)
   refine Gn ?_;refine G3 ?_;refine WL.step (fE ⟨_,Tryz.underlying171,fun _ h=>by cases h⟩ rfl) rfl rfl rfl ?_
   refine WL.call (vs:=[_,_]) rfl Tryz.call102 rfl (vJ _) rfl rfl rfl ?_
   rintro _ hz ⟨rfl,_⟩
   subst hz
   refine Gn ?_
   refine aH 9 10 ?_ TT.mk
   all_goals (refine aw 10 ?_)
   refine WC.skip ?_;refine Gn ?_;refine G3 ?_;refine WL.ld rfl (by first | exact aa hbK rfl | assumption) rfl rfl rfl (Go ?_)
   refine Gs [(0,_),(5,_),(56,_)] ?_
   refine aH 11 12 ?_ TT.mk
   all_goals (refine aw 12 ?_)
   refine WC.skip ?_;refine Gn ?_;refine G2 ?_;refine Gs [(4,_)] ?_;refine Gt ?_
   exact ⟨⟨B2,OK,xL⟩,L2,P2,kK,rfl,rfl,TK⟩
 · have hr:fH ⟨fk,w,n,p,t,o,ps.map aX.pl,mx⟩ (⟨oq,DP,zR,Bv,CS,CT⟩,out,some (ec,et))=(⟨eU oq,decide (fk ≠ 81),zR,Bv,CS,if eU oq=69 then [] else CT⟩,out++[oo ec et]):=if_neg Al
   rw [hr]
   clear hr
   refine calls [(0,_),(1,_)] Tryz.func58 rfl Tryz.ntmps58 rfl ⟨rfl,rfl,trivial⟩ ?_
   refine WC.sr ?_;refine WL.aj (aG rfl) rfl rfl rfl ?_
   rintro _ h1 ⟨b3,rfl,bR,aR,az⟩
   have k1:=k.aq az
   have hb:=k1.se.bm
   have lb:=ai k.se.bm
   have n3:¬ b3=A.bs:=by omega
   refine Go ?_;refine G3 ?_;refine WL.call (vs:=[_]) rfl Tryz.call99 rfl (kr _ k1) rfl rfl rfl ?_
   rintro _ hz ⟨rfl,_⟩
   subst hz
   refine Go ?_;refine Gs [(0,_),(3,_),(10,_)] ?_
   refine aH 1 2 ?_ TT.mk
   all_goals (refine aw 2 ?_)
   refine WC.skip ?_;refine Gn ?_;refine WC.seq ?_;refine WC.block ?_;refine G2 ?_;refine WL.ld rfl (by first | exact aa aR rfl | assumption) rfl rfl rfl (Go ?_)
   refine Gs [(0,_),(3,_),(11,_)] ?_
   refine aH 3 4 ?_ TT.mk
   all_goals (refine aw 4 ?_)
   refine G2 ?_;refine WL.ld rfl (by first | exact aa aR rfl | assumption) rfl rfl rfl (Go ?_)
   refine Gs [(0,_),(3,_),(18,_)] ?_
   refine aH 5 6 ?_ TT.mk
   all_goals (refine aw 6 ?_)
   refine G2 ?_;refine WL.step (ae rfl) rfl rfl rfl (Go ?_);refine WL.ld rfl (by first | exact aa hb rfl | assumption) rfl rfl rfl (Go ?_)
   refine Gs [(0,_),(3,_),(28,_)] ?_
   refine aH 7 8 ?_ TT.mk
   all_goals (refine aw 8 ?_)
   refine WC.skip ?_;refine Gn ?_;refine G2 ?_;refine WL.step (ay Tryz.isAgg42 Tryz.sizeOf42 rfl rfl (by exact At.av aR)) rfl rfl rfl ?_
   refine WL.call (vs:=[_,_]) rfl Tryz.call101 rfl (kd _ az) rfl rfl rfl ?_
   rintro _ h2 ⟨u2,e2,rfl,v2,B2,c2,heq,O2,xL,L2,P2,k2,Am,An,t2⟩
   obtain ⟨q1,q2⟩:=qy heq
   subst q1 q2
   dsimp only [fM] at xL k2 Am An ⊢
   subst Am
   subst An
   have bT:=t2.1.obj aR (k1.not aR (by decide) (by decide) (by decide))
   refine Go ?_;refine Gs [(0,_),(3,_),(5,_),(6,_)] ?_;refine WC.sr ?_;refine WL.aj (an (fun w=>Tryz.zeroValue169 w)) rfl rfl rfl ?_
   rintro _ h3 ⟨b7,rfl,gl,bq,aQ⟩
   have hbK:=aQ.obj bT aO
   have kK:=k2.aq aQ
   have OK:=(O2.mono az.size).aq aQ
   have TK:=((Tn.no (A:=A) (P:=P) az).trans t2).trans (Tn.no aQ)
   refine Gn ?_;refine G3 ?_;refine WL.step (fE ⟨_,Tryz.underlying171,fun _ h=>by cases h⟩ rfl) rfl rfl rfl ?_
   have Ks:Er h3:=((er.aq az).ext t2.1 (fun e=>h0 e)).aq aQ
   have hv:=c2 (by simp)
   subst hv
   obtain rfl:=O2.sD
   obtain rfl:out=[]:=xL.symm
   refine WL.call (vs:=[_,_]) rfl Tryz.call102 rfl (o6 ec et Ks bq) rfl rfl rfl ?_
   rintro _ h4 ⟨rfl,bC,aW⟩
   have X4:Ext No h2 h4:=aQ.trans' aW (fun q hq e=>by omega)
   have k4:=k2.aq X4
   have bJ:=X4.obj bT aO
   have Kt:b7 ≠ A.bs:=fun e=>by have:=ai k2.se.bm;omega
   refine Gn ?_
   refine aH 9 10 ?_ TT.mk
   all_goals (refine aw 9 ?_)
   refine G2 ?_;refine WL.ld rfl (by first | exact aa bJ rfl | assumption) rfl rfl rfl (Go ?_)
   refine WL.step (ae rfl) rfl rfl rfl (Go ?_);refine WL.ax (aB Tryz.sizeOf4 rfl rfl k4.se.bm (Nat.le_of_ble_eq_true rfl) rfl rfl) rfl rfl ?_
   rintro _ h5 ⟨bV,aM⟩
   obtain ⟨k5,t5⟩:=k4.js aM bV k4.sto
   have db:=t5.1.obj bJ (k4.not bJ (by decide) (by decide) (by decide))
   have yO:=aM.obj bC Kt
   refine Gn ?_;refine Gs [(0,_),(3,_),(5,_),(7,_)] ?_;refine WC.region (Go ?_);refine WL.step (ay Tryz.isAgg169 Tryz.sizeOf169 rfl rfl (by exact At.av yO)) rfl rfl rfl ?_
   refine WL.call (vs:=[_,_]) rfl Tryz.call103 rfl (sA k5 ec et) rfl rfl rfl ?_
   rintro _ h6 ⟨⟨b6,rfl,Aq,Ku,Kv⟩,⟨P6,LI,k6,Kw,t6⟩,aN⟩
   have dx:=t6.1.obj db (k5.not db (by decide) (by decide) (by decide))
   refine WL.aj (au (vs:=[_]) (cs:=[_,_,_,_,_,_,_,_,_,_,_]) (fun | [.agg ⟨[a0,a1,a2,a3,a4,a5,a6,a7,a8,a9,gY]⟩]=>[a0,a1,a2,a3,a4,a5,a6,a7,a8,a9,gY] | _=>[]) Tryz.underlying80 rfl rfl (by kernel_rfl)) rfl rfl rfl ?_
   rintro _ h7 ⟨b8,rfl,xG,ca,ba⟩
   refine WL.aj (aT (sz:=11) (bytes:=168) rfl Tryz.underlying80 (show Tryz.prog.info? 140=some Tryz.t140 by kernel_rfl) rfl rfl rfl rfl (by decide) rfl rfl (Own.nil _ _ 11) (bx (len:=1) (sz:=11) ca rfl) Aq.one (by simp only [maxLen];omega) (by omega)) rfl rfl rfl ?_
   rintro v8 h8 ⟨jK,bz,tC⟩
   have X8:Ext No h6 h8:=ba.trans (bz.mono fun _ _ e=>by cases e)
   have hbK:=X8.obj dx aO
   have kK:=k6.aq X8
   have T4:=((Tn.no (A:=A) (P:=P) az).trans t2).trans (Tn.no X4)
   have T5:=T4.trans t5
   have TK:=(T5.trans t6).trans (Tn.no X8)
   have s5:=T5.1.size
   have s7:=ba.size
   have s6:=t6.1.size
   have OK:cz h h8 v8 ([]++[b6]):=(cz.nil h h7).snoc (Aq.ext ba fun _ _=>aO) (fun z hz=>by have:=Kv z hz;omega) (fun _ _ e=>by cases e) (by omega) jK bz tC
   refine Go ?_;refine Gn ?_;refine G3 ?_;refine WL.ld rfl (by first | exact aa hbK rfl | assumption) rfl rfl rfl (Go ?_)
   refine Gs [(0,_),(5,_),(56,_)] ?_
   refine aH 11 12 ?_ TT.mk
   all_goals (refine aw 12 ?_)
   refine WC.skip ?_;refine Gn ?_;refine G2 ?_;refine Gs [(4,_)] ?_;refine Gt ?_
   exact ⟨⟨[]++[b6],OK,by simp [Ku]⟩,L2,P6,by show Ss h8 A (eU oq) (decide (fk ≠ 81)) zR Bv L2 P6;rw [decide_eq_true Al];exact kK,rfl,Kw,TK⟩
theorem Kx (er:Er h) (h0:¬ Mu A P 0) (k:Ss h A st false false cnt L P) (f:Fm) (hf:f.ok h) (Al:f.kind=81) {r:fS} (hlen:r.2.1.length≤1000000)
   (kd:∀ g,Ext No h g→ag Tryz.prog 101 ⟨[.pointer (some ⟨A.bs,0,none⟩),.agg ⟨f.cells⟩]⟩ g (FL fun v e h'=>eT g A L P r (.tuple ⟨[v,e]⟩) h')) :
   ag Tryz.prog 58 ⟨[.pointer (some ⟨A.bs,0,none⟩),.agg ⟨f.cells⟩]⟩ h (Ja h A P (fH f.p r)):=by
 have kr:=fun (g:ah) (k:Ss g A st false false cnt L P)=>kW k.se.bm
 have ks:=fun (g:ah) (st:Int) (sk ov:Bool) (cnt:Int) (L:List (List UInt8 × gy)) (P:List (List UInt8 × ee)) (k:Ss g A st sk ov cnt L P)=>CR k
 obtain ⟨⟨e1,_⟩,⟨e2,_⟩,⟨e3,_⟩,e4,_⟩:=hf
 obtain ⟨fk,w,n,p,t,vo,o,vf,fs,vs,rs,vp,ps,mx⟩:=f
 dsimp only at e1 e2 e3 e4 Al
 obtain ⟨_,_,rfl,_⟩:=e1
 obtain ⟨_,_,rfl,_⟩:=e2
 obtain ⟨_,_,rfl,_⟩:=e3
 obtain ⟨_,_,rfl,_⟩:=e4
 subst Al
 unfold Ff at ks
 dsimp only [Fm.cells,Fm.p] at kd ⊢
 rcases r with ⟨⟨oq,DP,zR,Bv,CS,CT⟩,out,_ | ⟨ec,et⟩⟩
 · have hr:fH ⟨81,w,n,p,t,o,ps.map aX.pl,mx⟩ (⟨oq,DP,zR,Bv,CS,CT⟩,out,none)=(⟨oq,DP,zR,Bv,CS,if oq=73 then [] else CT⟩,out++[{ kind:=90,status:=oq }]):=rfl
   rw [hr]
   clear hr
   refine calls [(0,_),(1,_)] Tryz.func58 rfl Tryz.ntmps58 rfl ⟨rfl,rfl,trivial⟩ ?_
   refine WC.sr ?_;refine WL.aj (aG rfl) rfl rfl rfl ?_
   rintro _ h1 ⟨b3,rfl,bR,aR,az⟩
   have k1:=k.aq az
   have hb:=k1.se.bm
   have lb:=ai k.se.bm
   have n3:¬ b3=A.bs:=by omega
   refine Go ?_;refine G3 ?_;refine WL.call (vs:=[_]) rfl Tryz.call99 rfl (kr _ k1) rfl rfl rfl ?_
   rintro _ hz ⟨rfl,_⟩
   subst hz
   refine Go ?_;refine Gs [(0,_),(3,_),(10,_)] ?_
   refine aH 1 2 ?_ TT.mk
   all_goals (refine aw 2 ?_)
   refine WC.skip ?_;refine Gn ?_;refine WC.seq ?_;refine WC.block ?_;refine G2 ?_;refine WL.ld rfl (by first | exact aa aR rfl | assumption) rfl rfl rfl (Go ?_)
   refine Gs [(0,_),(3,_),(11,_)] ?_
   refine aH 3 4 ?_ TT.mk
   all_goals (refine aw 4 ?_)
   refine G2 ?_;refine WL.ld rfl (by first | exact aa aR rfl | assumption) rfl rfl rfl (Go ?_)
   refine Gs [(0,_),(3,_),(18,_)] ?_
   refine aH 5 6 ?_ TT.mk
   all_goals (refine aw 6 ?_)
   refine G2 ?_;refine WL.step (ae rfl) rfl rfl rfl (Go ?_);refine WL.ld rfl (by first | exact aa hb rfl | assumption) rfl rfl rfl (Go ?_)
   refine Gs [(0,_),(3,_),(28,_)] ?_
   refine aH 7 8 ?_ TT.mk
   all_goals (refine aw 8 ?_)
   refine WC.skip ?_;refine Gn ?_;refine G2 ?_;refine WL.step (ay Tryz.isAgg42 Tryz.sizeOf42 rfl rfl (by exact At.av aR)) rfl rfl rfl ?_
   refine WL.call (vs:=[_,_]) rfl Tryz.call101 rfl (kd _ az) rfl rfl rfl ?_
   rintro _ h2 ⟨u2,e2,rfl,v2,B2,c2,heq,O2,xL,L2,P2,Ky,Kz,k2,Am,An,t2⟩
   obtain ⟨q1,q2⟩:=qy heq
   subst q1 q2
   dsimp only [fM] at xL k2 Am An ⊢
   subst Am
   subst An
   have bT:=t2.1.obj aR (k1.not aR (by decide) (by decide) (by decide))
   refine Go ?_;refine Gs [(0,_),(3,_),(5,_),(6,_)] ?_;refine WC.sr ?_;refine WL.aj (an (fun w=>Tryz.zeroValue169 w)) rfl rfl rfl ?_
   rintro _ h3 ⟨b7,rfl,gl,bq,aQ⟩
   have hbK:=aQ.obj bT aO
   have kK:=k2.aq aQ
   have OK:=(O2.mono az.size).aq aQ
   have TK:=((Tn.no (A:=A) (P:=P) az).trans t2).trans (Tn.no aQ)
   refine Gn ?_;refine G3 ?_;refine WL.step (fE ⟨_,Tryz.underlying171,fun _ h=>by cases h⟩ rfl) rfl rfl rfl ?_
   have hlB:B2.length≤1000000:=by rw [← xL,List.length_map] at hlen;exact hlen
   replace hlen:=hlB
   refine WL.call (vs:=[_,_]) rfl Tryz.call102 rfl (vJ _) rfl rfl rfl ?_
   rintro _ hz ⟨rfl,_⟩
   subst hz
   refine Gn ?_
   refine aH 9 10 ?_ TT.mk
   all_goals (refine aw 10 ?_)
   refine WC.skip ?_;refine Gn ?_;refine G3 ?_;refine WL.ld rfl (by first | exact aa hbK rfl | assumption) rfl rfl rfl (Go ?_)
   refine Gs [(0,_),(5,_),(56,_)] ?_
   refine aH 11 12 ?_ TT.mk
   all_goals (refine aw 11 ?_)
   refine WC.region (Go ?_);refine WL.call (vs:=[_]) rfl Tryz.call100 rfl (ks _ _ _ _ _ _ _ kK) rfl rfl rfl ?_
   rintro _ h9 ⟨rfl,⟨P9,KA,k9,FB,t9⟩,bZ⟩
   have O9:=OK.ext bZ (fun q hq=>by subst hq;exact k.se.pm.lt)
   refine WL.aj (au (vs:=[_]) (cs:=[_,_,_,_,_,_,_,_,_,_,_]) (fun | [.agg ⟨[a0,a1,a2,a3,a4,a5,a6,a7,a8,a9,gY]⟩]=>[a0,a1,a2,a3,a4,a5,a6,a7,a8,a9,gY] | _=>[]) Tryz.underlying80 rfl rfl (by kernel_rfl)) rfl rfl rfl ?_
   rintro _ iG ⟨LJ,rfl,FQ,fI,ct⟩
   have xc:=O9.aq ct
   have sy:=k9.aq ct
   have CD:=(TK.trans t9).trans (Tn.no (A:=A) (P:=P9) ct)
   obtain ⟨Nn,Cd,rfl,_⟩:=xc.own.slice
   refine WL.aj (aT (sz:=11) (bytes:=168) rfl Tryz.underlying80 (show Tryz.prog.info? 140=some Tryz.t140 by kernel_rfl) rfl rfl rfl rfl (by decide) rfl rfl xc.own (bx (len:=1) (sz:=11) fI rfl) (by simp [Value.oneCell']) (by have:=hlen;simp only [maxLen,List.length_append,List.length_singleton,List.nil_append] at *;omega) (by have:=hlen;simp only [List.length_append,List.length_singleton,List.nil_append] at *;omega)) rfl rfl rfl ?_
   rintro v11 qh ⟨uH,cM,FR⟩
   have KB:=xc.snoc (b:=kL 90 oq []) (hU _ _ _ _) (fun _ e=>(iN e).elim) (fun _ e=>(iN e).elim) CD.1.size uH cM FR
   refine Go ?_;refine Gn ?_;refine G2 ?_;refine Gs [(4,_)] ?_;refine Gt ?_
   have FT:Ext No iG iG:=.refl _ _
   have zU:=k.HY sy Ky (fun q hq=>Kz q (KA q hq)) cM (fun q hq=>xc.vf q hq)
   exact ⟨⟨B2++[kL 90 oq []],KB,by rw [List.map_append,xL];rfl⟩,L2,P9,zU,rfl,FB,CD.1.trans' cM (fun q hq e=>by have:=xc.vf q e;omega),CD.2⟩
 · have hr:fH ⟨81,w,n,p,t,o,ps.map aX.pl,mx⟩ (⟨oq,DP,zR,Bv,CS,CT⟩,out,some (ec,et))=(⟨eU oq,false,zR,Bv,CS,if eU oq=73 then [] else (if eU oq=69 then [] else CT)⟩,(out++[oo ec et])++[{ kind:=90,status:=eU oq }]):=rfl
   rw [hr]
   clear hr
   refine calls [(0,_),(1,_)] Tryz.func58 rfl Tryz.ntmps58 rfl ⟨rfl,rfl,trivial⟩ ?_
   refine WC.sr ?_;refine WL.aj (aG rfl) rfl rfl rfl ?_
   rintro _ h1 ⟨b3,rfl,bR,aR,az⟩
   have k1:=k.aq az
   have hb:=k1.se.bm
   have lb:=ai k.se.bm
   have n3:¬ b3=A.bs:=by omega
   refine Go ?_;refine G3 ?_;refine WL.call (vs:=[_]) rfl Tryz.call99 rfl (kr _ k1) rfl rfl rfl ?_
   rintro _ hz ⟨rfl,_⟩
   subst hz
   refine Go ?_;refine Gs [(0,_),(3,_),(10,_)] ?_
   refine aH 1 2 ?_ TT.mk
   all_goals (refine aw 2 ?_)
   refine WC.skip ?_;refine Gn ?_;refine WC.seq ?_;refine WC.block ?_;refine G2 ?_;refine WL.ld rfl (by first | exact aa aR rfl | assumption) rfl rfl rfl (Go ?_)
   refine Gs [(0,_),(3,_),(11,_)] ?_
   refine aH 3 4 ?_ TT.mk
   all_goals (refine aw 4 ?_)
   refine G2 ?_;refine WL.ld rfl (by first | exact aa aR rfl | assumption) rfl rfl rfl (Go ?_)
   refine Gs [(0,_),(3,_),(18,_)] ?_
   refine aH 5 6 ?_ TT.mk
   all_goals (refine aw 6 ?_)
   refine G2 ?_;refine WL.step (ae rfl) rfl rfl rfl (Go ?_);refine WL.ld rfl (by first | exact aa hb rfl | assumption) rfl rfl rfl (Go ?_)
   refine Gs [(0,_),(3,_),(28,_)] ?_
   refine aH 7 8 ?_ TT.mk
   all_goals (refine aw 8 ?_)
   refine WC.skip ?_;refine Gn ?_;refine G2 ?_;refine WL.step (ay Tryz.isAgg42 Tryz.sizeOf42 rfl rfl (by exact At.av aR)) rfl rfl rfl ?_
   refine WL.call (vs:=[_,_]) rfl Tryz.call101 rfl (kd _ az) rfl rfl rfl ?_
   rintro _ h2 ⟨u2,e2,rfl,v2,B2,c2,heq,O2,xL,L2,P2,Ky,Kz,k2,Am,An,t2⟩
   obtain ⟨q1,q2⟩:=qy heq
   subst q1 q2
   dsimp only [fM] at xL k2 Am An ⊢
   subst Am
   subst An
   have bT:=t2.1.obj aR (k1.not aR (by decide) (by decide) (by decide))
   refine Go ?_;refine Gs [(0,_),(3,_),(5,_),(6,_)] ?_;refine WC.sr ?_;refine WL.aj (an (fun w=>Tryz.zeroValue169 w)) rfl rfl rfl ?_
   rintro _ h3 ⟨b7,rfl,gl,bq,aQ⟩
   have hbK:=aQ.obj bT aO
   have kK:=k2.aq aQ
   have OK:=(O2.mono az.size).aq aQ
   have TK:=((Tn.no (A:=A) (P:=P) az).trans t2).trans (Tn.no aQ)
   refine Gn ?_;refine G3 ?_;refine WL.step (fE ⟨_,Tryz.underlying171,fun _ h=>by cases h⟩ rfl) rfl rfl rfl ?_
   have Ks:Er h3:=((er.aq az).ext t2.1 (fun e=>h0 e)).aq aQ
   have hv:=c2 (by simp)
   subst hv
   obtain rfl:=O2.sD
   obtain rfl:out=[]:=xL.symm
   refine WL.call (vs:=[_,_]) rfl Tryz.call102 rfl (o6 ec et Ks bq) rfl rfl rfl ?_
   rintro _ h4 ⟨rfl,bC,aW⟩
   have X4:Ext No h2 h4:=aQ.trans' aW (fun q hq e=>by omega)
   have k4:=k2.aq X4
   have bJ:=X4.obj bT aO
   have Kt:b7 ≠ A.bs:=fun e=>by have:=ai k2.se.bm;omega
   refine Gn ?_
   refine aH 9 10 ?_ TT.mk
   all_goals (refine aw 9 ?_)
   refine G2 ?_;refine WL.ld rfl (by first | exact aa bJ rfl | assumption) rfl rfl rfl (Go ?_)
   refine WL.step (ae rfl) rfl rfl rfl (Go ?_);refine WL.ax (aB Tryz.sizeOf4 rfl rfl k4.se.bm (Nat.le_of_ble_eq_true rfl) rfl rfl) rfl rfl ?_
   rintro _ h5 ⟨bV,aM⟩
   obtain ⟨k5,t5⟩:=k4.js aM bV k4.sto
   have db:=t5.1.obj bJ (k4.not bJ (by decide) (by decide) (by decide))
   have yO:=aM.obj bC Kt
   refine Gn ?_;refine Gs [(0,_),(3,_),(5,_),(7,_)] ?_;refine WC.region (Go ?_);refine WL.step (ay Tryz.isAgg169 Tryz.sizeOf169 rfl rfl (by exact At.av yO)) rfl rfl rfl ?_
   refine WL.call (vs:=[_,_]) rfl Tryz.call103 rfl (sA k5 ec et) rfl rfl rfl ?_
   rintro _ h6 ⟨⟨b6,rfl,Aq,Ku,Kv⟩,⟨P6,LI,k6,Kw,t6⟩,aN⟩
   have dx:=t6.1.obj db (k5.not db (by decide) (by decide) (by decide))
   refine WL.aj (au (vs:=[_]) (cs:=[_,_,_,_,_,_,_,_,_,_,_]) (fun | [.agg ⟨[a0,a1,a2,a3,a4,a5,a6,a7,a8,a9,gY]⟩]=>[a0,a1,a2,a3,a4,a5,a6,a7,a8,a9,gY] | _=>[]) Tryz.underlying80 rfl rfl (by kernel_rfl)) rfl rfl rfl ?_
   rintro _ h7 ⟨b8,rfl,xG,ca,ba⟩
   refine WL.aj (aT (sz:=11) (bytes:=168) rfl Tryz.underlying80 (show Tryz.prog.info? 140=some Tryz.t140 by kernel_rfl) rfl rfl rfl rfl (by decide) rfl rfl (Own.nil _ _ 11) (bx (len:=1) (sz:=11) ca rfl) Aq.one (by simp only [maxLen];omega) (by omega)) rfl rfl rfl ?_
   rintro v8 h8 ⟨jK,bz,tC⟩
   have X8:Ext No h6 h8:=ba.trans (bz.mono fun _ _ e=>by cases e)
   have hbK:=X8.obj dx aO
   have kK:=k6.aq X8
   have T4:=((Tn.no (A:=A) (P:=P) az).trans t2).trans (Tn.no X4)
   have T5:=T4.trans t5
   have TK:=(T5.trans t6).trans (Tn.no X8)
   have s5:=T5.1.size
   have s7:=ba.size
   have s6:=t6.1.size
   have OK:cz h h8 v8 ([]++[b6]):=(cz.nil h h7).snoc (Aq.ext ba fun _ _=>aO) (fun z hz=>by have:=Kv z hz;omega) (fun _ _ e=>by cases e) (by omega) jK bz tC
   refine Go ?_;refine Gn ?_;refine G3 ?_;refine WL.ld rfl (by first | exact aa hbK rfl | assumption) rfl rfl rfl (Go ?_)
   refine Gs [(0,_),(5,_),(56,_)] ?_
   refine aH 11 12 ?_ TT.mk
   all_goals (refine aw 11 ?_)
   refine WC.region (Go ?_);refine WL.call (vs:=[_]) rfl Tryz.call100 rfl (ks _ _ _ _ _ _ _ kK) rfl rfl rfl ?_
   rintro _ h9 ⟨rfl,⟨P9,KA,k9,FB,t9⟩,bZ⟩
   have O9:=OK.ext bZ (fun q hq=>by subst hq;exact k.se.pm.lt)
   refine WL.aj (au (vs:=[_]) (cs:=[_,_,_,_,_,_,_,_,_,_,_]) (fun | [.agg ⟨[a0,a1,a2,a3,a4,a5,a6,a7,a8,a9,gY]⟩]=>[a0,a1,a2,a3,a4,a5,a6,a7,a8,a9,gY] | _=>[]) Tryz.underlying80 rfl rfl (by kernel_rfl)) rfl rfl rfl ?_
   rintro _ iG ⟨LJ,rfl,FQ,fI,ct⟩
   have xc:=O9.aq ct
   have sy:=k9.aq ct
   have CD:=(TK.trans t9).trans (Tn.no (A:=A) (P:=P9) ct)
   obtain ⟨Nn,Cd,rfl,_⟩:=xc.own.slice
   refine WL.aj (aT (sz:=11) (bytes:=168) rfl Tryz.underlying80 (show Tryz.prog.info? 140=some Tryz.t140 by kernel_rfl) rfl rfl rfl rfl (by decide) rfl rfl xc.own (bx (len:=1) (sz:=11) fI rfl) (by simp [Value.oneCell']) (by have:=hlen;simp only [maxLen,List.length_append,List.length_singleton,List.nil_append] at *;omega) (by have:=hlen;simp only [List.length_append,List.length_singleton,List.nil_append] at *;omega)) rfl rfl rfl ?_
   rintro v11 qh ⟨uH,cM,FR⟩
   have KB:=xc.snoc (b:=kL 90 (eU oq) []) (hU _ _ _ _) (fun _ e=>(iN e).elim) (fun _ e=>(iN e).elim) CD.1.size uH cM FR
   refine Go ?_;refine Gn ?_;refine G2 ?_;refine Gs [(4,_)] ?_;refine Gt ?_
   have zU:=k.HY sy Ky (fun q hq=>Kz q (LI q (KA q hq))) cM (fun q hq=>xc.vf q hq)
   exact ⟨⟨([]++[b6])++[kL 90 (eU oq) []],KB,by rw [List.map_append,List.map_append,List.map_nil,List.map_singleton,Ku];rfl⟩,L2,P9,zU,rfl,by rw [FB,Kw],CD.1.trans' cM (fun q hq e=>by have:=xc.vf q e;omega),CD.2⟩
end
theorem uI (s:SP) (f:gi):(dy s f).2.1.length≤1000000:=by
 have ht:∀ (s:SP) (v:fR),(cG s v).2.1.length≤1:=fun s v=>by unfold cG;split <;> (try split) <;> simp
 unfold dy
 dsimp only
 split
 · simp
 · split
   · have:=(gH (bh f.text) s.cnt (ps:=[]) (by simp)).1
     simp [cQ]
     omega
   · exact Nat.le_trans (ht _ _) (by omega)
section
variable {h h':ah} {A:Ad} {st:Int} {sk ov:Bool} {cnt:Int} {L:List (List UInt8 × gy)} {P:List (List UInt8 × ee)}
theorem KC (er:Er h) (h0:¬ Mu A P 0) (k:Ss h A st sk ov cnt L P) (lm:jg (ck st sk ov cnt L P)) (f:Fm) (hf:f.ok h) (hF:∀ q,f.F q→¬ Mu A P q) (fl:gG f) :
   ag Tryz.prog 58 ⟨[.pointer (some ⟨A.bs,0,none⟩),.agg ⟨f.cells⟩]⟩ h (Ja h A P (iw (ck st sk ov cnt L P) f.p)):=by
 by_cases ha:ov=true∨f.kind=88∨f.kind=83∨sk=true
 · exact Kq k f hf ha
 · simp only [not_or] at ha
   obtain ⟨a1,a2,a3,a4⟩:=ha
   obtain rfl:ov=false:=by simpa using a1
   obtain rfl:sk=false:=by simpa using a4
   have e:iw (ck st false false cnt L P) f.p=fH f.p (ei (ck st false false cnt L P) f.p):=by
     unfold iw
     rw [if_neg (show ¬ (ck st false false cnt L P).ov=true from by simp [ck]),if_neg (show ¬ f.p.kind=88 from a2),if_neg (show ¬ f.p.kind=83 from a3),if_neg (show ¬ (ck st false false cnt L P).sk=true from by simp [ck])]
   rw [e]
   by_cases Al:f.kind=81
   · have eq : ei (ck st false false cnt L P) f.p = dy (ck st false false cnt L P) f.p := by
       unfold ei
       rw [show f.p.kind=81 from Al]
       rfl
     rw [eq]
     exact Kx er h0 k f hf Al (uI _ _) fun g x=>FN (k.aq x) lm f (hf.aq x) fl Al
   · exact Kr er h0 k f hf ⟨a2,a3,Al⟩ fun g x=>FM (k.aq x) lm f (hf.aq x) hF fl
end
def nU (h0 h:ah) (A:Ad) (s:SP):Prop:=∃ L P,Ss h A s.st s.sk s.ov s.cnt L P∧qd L=s.L∧fN P=s.P∧(∀ q,Mu A P q→h0.size≤q)∧∀ q,A.z q→h0.size≤q
def Bh (h0 h:ah) (q:Nat):Prop:=h0.size≤q∧∀ cs T,h[q]?=some (.cells cs T (0,0))→T=153∨T=104∨T=273
theorem uJ {h0 h:ah} {v:Value} {T:TypeId} {sz n:Nat} {xs:List Value} (ho:Own h v T sz n xs) (hT:¬ (T=153∨T=104∨T=273)):∀ q,v.ownBlock=some q→¬ Bh h0 h q:=fun q hq e=>by
 obtain ⟨_,⟨rfl,_⟩ | ⟨g,cap,cur,rfl,hg,_⟩⟩:=ho
 · cases hq
 · simp only [Value.ownBlock,Option.some.injEq] at hq
   subst hq
   exact hT (e.2 _ _ hg)
theorem Er.pos {h:ah} (e:Er h):0 < h.size:=by
 have:=e 0 _ rfl
 unfold cell at this
 rcases hq:h[0]? with _ | o
 · simp [hq] at this
 · exact ai hq
section
variable {h0 h h':ah} {A:Ad} {s:SP}
theorem nU.aq (k:nU h0 h A s) (x:Ext No h h'):nU h0 h' A s:=by
 obtain ⟨L,P,k,e1,e2,e3,e4⟩:=k
 exact ⟨L,P,k.aq x,e1,e2,e3,e4⟩
theorem nU.bm (k:nU h0 h A s):h[A.bs]?=some (.cells ⟨[.map (some A.ms),.pointer (some ⟨A.bp,0,none⟩),.pointer (some ⟨A.be,0,none⟩),.int .u8 s.st,.bool s.sk,.bool s.ov]⟩ 153 (0,0)):=by
 obtain ⟨L,P,k,_⟩:=k
 exact k.se.bm
abbrev qz:SP:=⟨73,false,false,0,[],[]⟩
theorem CU:dP 0 qz:=⟨(fun _ h=>nomatch h),(fun _ h=>nomatch h),⟨Int.le_refl _,Int.le_refl _⟩,Nat.le_refl _⟩
theorem HZ {be me:Nat} (hb:h[be]?=some (.cells ⟨[.map (some me),In 0]⟩ 104 (0,0))) (hm:Mp .string St h me ([]:List (List UInt8 × Value))) (x:Ext No h0 h) (g1:h0.size≤be) :
   ag Tryz.prog 49 ⟨[.pointer (some ⟨be,0,none⟩)]⟩ h fun u h'=>∃ A:Ad,u=.pointer (some ⟨A.bs,0,none⟩)∧nU h0 h' A qz∧Ext No h h':=by
 refine (rQ (some ⟨be,0,none⟩)).mono fun u h' ⟨bs,ms,bp,mp,e,hbs,hms,hbp,hmp,l1,l2,l3,l4,hx⟩=>?_
 have lm:=hm.lt
 have s0:=x.size
 refine ⟨⟨bs,ms,bp,mp,be,me,fun _=>False⟩,e,⟨[],[],⟨⟨hbs,hms,hbp,hmp,hx.obj hb aO,hm.ext hx aO,by dsimp only;omega,by dsimp only;omega,by dsimp only;omega⟩,(fun _ h=>nomatch h),(fun _ h=>nomatch h),(fun _ h=>nomatch h),.inl rfl,by decide,⟨(fun _ h=>nomatch h),(fun _ h=>nomatch h),fun _ h=>h.elim⟩⟩,rfl,rfl,fun q hq=>?_,fun _ h=>h.elim⟩,hx⟩
 rcases hq with hq | hq | hq | hq | ⟨r,hr,_⟩
 · have:q=bs:=hq
   omega
 · have:q=ms:=hq
   omega
 · have:q=mp:=hq
   omega
 · have:q=be:=hq
   omega
 · exact nomatch hr
end
theorem KD {h0 h1 h:ah} {A:Ad} {s:SP} (k:nU h0 h1 A s) {n:Nat} (lm:dP n s) (hn:n < 1000000) (er:Er h) (hz:0 < h0.size) (x:Ext No h1 h) (x0:h0.size≤h1.size) (f:Fm) (hf:f.ok h) (hF:∀ q,f.F q→h1.size≤q) (fl:gG f) :
   ag Tryz.prog 58 ⟨[.pointer (some ⟨A.bs,0,none⟩),.agg ⟨f.cells⟩]⟩ h fun u h'=>(∃ B,cz h h' u B∧B.map Bk.p=(iw s f.p).2)∧nU h0 h' A (iw s f.p).1∧Ext (Bh h0 h) h h':=by
 obtain ⟨L,P,k1,e1,e2,e3,e4⟩:=k
 obtain ⟨st,sk,ov,cnt,LL,PP⟩:=s
 dsimp only at e1 e2 k1
 subst e1 e2
 have k:=k1.aq x
 refine (KC er (fun e=>by have:=e3 _ e;omega) k (lm.Kk hn) f hf (fun q hq e=>by have:=k1.lt e;have:=hF q hq;omega) fl).mono fun u h' ⟨hB,L',P',k',p1,p2,t⟩=>?_
 refine ⟨hB,⟨L',P',k',p1,p2,fun q hq=>?_,e4⟩,t.1.mono fun q _ e=>⟨e3 q e,fun cs T hq=>Classical.byContradiction fun hT=>k.not hq (fun z=>hT (.inl z)) (fun z=>hT (.inr (.inl z))) (fun z=>hT (.inr (.inr z))) e⟩⟩
 by_cases hl:q < h.size
 · exact e3 q (t.2 q hl hq)
 · have:=x.size;omega
noncomputable def gk:List (Int × List UInt8):=tI.flatMap fun y=>eE y.p
theorem lC {k st n m:Int} (h:Kn k) (hs:0≤st∧st≤255):jh (gB k st n m).p :=
 ⟨h,hs,(fun _ h=>nomatch h),by simp [gB,Bk.p],by simp [gB,Bk.p],by simp [gB,Bk.p],by simp [gB,Bk.p],(fun _ h=>nomatch h),by simp [gB,Bk.p],(fun _ h=>nomatch h),by simp [gB,Bk.p],by simp [gB,Bk.p],by simp [gB,Bk.p]⟩
theorem sE {h:ah} {b:Nat} {f s p i v:Value} {bg ov:Bool} (hv:Rd h v 11 3 pP) (hb:h[b]?=some (.cells ⟨lR (.slice none 0 0) f s p i bg ov⟩ 96 (0,0))) (hne:∀ q,v.ownBlock=some q→q ≠ b) :
   ag Tryz.prog 57 ⟨[.pointer (some ⟨b,0,none⟩),v]⟩ h fun _ h'=>∃ (w:Value) (M:List mj),M.map mj.pl=gk∧h'[b]?=some (.cells ⟨lR w f s p i bg ov⟩ 96 (0,0))∧Sd h' w M∧Ext (fun q=>q=b) h h'∧(∀ q,w.ownBlock=some q→h.size≤q)∧∀ x∈M,∀ q,x.2.1.ownBlock=some q→h.size≤q:=by
 refine (DX tI (by simpa [pP] using hv) hb (Sd.nil h) (by decide) (fun q hq=>⟨hne q hq,by simp [Value.ownBlock]⟩) (by simp [gB,Bk.cells,Value.oneCell']) (fun y hy g _=>?_)).mono fun u h' ⟨w,M,hM,hb',hs,hx,hf,hm⟩=>?_
 · simp only [List.mem_cons,List.not_mem_nil,or_false] at hy
   rcases hy with rfl | rfl | rfl
   · exact vP _ (yo _ _ _ _ _) (lC (by simp [Kn]) (by decide))
   · exact vP _ (yo _ _ _ _ _) (lC (by simp [Kn]) (by decide))
   · exact vP _ (yo _ _ _ _ _) (lC (by simp [Kn]) (by decide))
 · exact ⟨w,M,hM,hb',hs,hx.mono fun q _ e=>e.elim id fun z=>by simp [Value.ownBlock] at z,fun q hq=>(hf q hq).elim (fun z=>by simp [Value.ownBlock] at z) id,fun x hx=>(hm x hx).elim (fun z=>nomatch z) id⟩
theorem CV {h:ah} {b fb:Nat} {s w v:Value} {l:List UInt8} {k:Int} (hb:h[b]?=some (.cells ⟨lR (.slice none 0 0) (.pointer (some ⟨fb,0,none⟩)) s (.slice none 0 0) (In 0) false false⟩ 96 (0,0))) (kf:Fw h fb false v l) (hw:Rd h w 1 12 (bA jr)) :
   ag Tryz.prog 55 ⟨[.pointer (some ⟨b,0,none⟩),.agg ⟨[.int .u8 k,w]⟩]⟩ h fun _ h'=>∃ (w:Value) (M:List mj),M.map mj.pl=gk∧h'[b]?=some (.cells ⟨lR w (.pointer (some ⟨fb,0,none⟩)) s (.slice none 0 0) (In 0) true false⟩ 96 (0,0))∧Sd h' w M∧Fw h' fb true v l∧Ext (fun q=>q=b∨q=fb) h h'∧(∀ q,w.ownBlock=some q→h.size≤q)∧∀ x∈M,∀ q,x.2.1.ownBlock=some q→h.size≤q:=by
 have kb:=fun (h':ah)=>Ew (h:=h')
 have lb:=ai hb
 have lf:=ai kf.bm
 have vR:b ≠ fb:=fun e=>by have:=kf.bm;rw [← e,hb] at this;simp at this
 obtain ⟨A,c,rfl,_⟩:=id hw
 refine calls [(0,_),(1,_)] Tryz.func55 rfl Tryz.ntmps55 rfl ⟨rfl,rfl,trivial⟩ ?_
 refine WC.sr ?_;refine WL.aj (aG rfl) rfl rfl rfl ?_
 rintro _ h1 ⟨b1,rfl,bR,aR,az⟩
 refine Gn ?_;refine G2 ?_;refine WL.ld rfl (by first | exact aa aR rfl | assumption) rfl rfl rfl ?_
 refine WL.call (vs:=[_]) rfl Tryz.call90 rfl (tH (hw.aq az)) rfl rfl rfl ?_
 rintro _ h2 ⟨p2,rfl,dc,aI,eI⟩
 obtain ⟨A2,c2,rfl,_⟩:=id dc.slice
 refine Go ?_;refine WL.aj (an (fun w=>Tryz.zeroValue62 w)) rfl rfl rfl ?_
 rintro _ h3 ⟨b4,rfl,oG,bC,aQ⟩
 refine WL.ax (al Tryz.sizeOf62 rfl rfl rfl bC rfl (by simp [Value.oneCell'])) rfl rfl ?_
 rintro _ h4 ⟨gj,aW⟩
 have X4:Ext No h h4:=((az.trans aI).trans aQ).trans' aW (fun q hq e=>by have:=az.size;have:=aI.size;omega)
 have ox:=X4.obj hb aO
 have Bw:=kf.aq X4
 have l4:=X4.size
 refine Go ?_;refine Gs [(0,_),(4,_),(5,_)] ?_;refine WC.block ?_;refine G3 ?_
 refine aH 1 2 ?_ TT.mk
 all_goals (refine aw 2 ?_)
 refine WC.region (Go ?_);refine WL.ld rfl (by first | exact aa gj rfl | assumption) rfl rfl rfl (Go ?_)
 refine Gn ?_
 refine aH 3 4 ?_ TT.mk
 all_goals (refine aw 4 ?_)
 refine G2 ?_;refine WL.ld rfl (by first | exact aa gj rfl | assumption) rfl rfl rfl (Go ?_)
 refine Gs [(0,_),(21,_)] ?_
 refine aH 5 6 ?_ TT.mk
 all_goals (refine aw 5 ?_)
 refine WC.seq ?_;refine WC.bW (fun h'=>∃ w,h'[b]?=some (.cells ⟨lR w (.pointer (some ⟨fb,0,none⟩)) s (.slice none 0 0) (In 0) false false⟩ 96 (0,0))) 11 11 rfl dm ?_
 refine WH.tk 0 rfl (fun hq hC=>ak rfl) rfl rfl rfl ?_ (hC:=(by first | exact ⟨_,ox⟩ | assumption))
 refine WH.tk 1 rfl (fun hq hC=>ak rfl) rfl rfl rfl ?_ (hC:=(by first | exact ⟨_,ox⟩ | assumption))
 refine WH.tk 2 rfl (fun hq hC=>ae rfl) rfl rfl rfl ?_ (hC:=(by first | exact ⟨_,ox⟩ | assumption))
 refine WH.tk 3 rfl (fun hq hC=>ad rfl Tryz.underlying96 rfl Tryz.sizeOf60) rfl rfl rfl ?_ (hC:=(by first | exact ⟨_,ox⟩ | assumption))
 refine WH.tk 4 rfl (fun hq hC=>aA Tryz.isAgg60 rfl ((by obtain ⟨w,e⟩:=hC;exact aa e rfl))) rfl rfl rfl ?_ (hC:=(by first | exact ⟨_,ox⟩ | assumption))
 refine WH.tk 5 rfl (fun hq hC=>ak rfl) rfl rfl rfl ?_ (hC:=(by first | exact ⟨_,ox⟩ | assumption))
 refine WH.tk 6 rfl (fun hq hC=>ae rfl) rfl rfl rfl ?_ (hC:=(by first | exact ⟨_,ox⟩ | assumption))
 refine WH.tk 7 rfl (fun hq hC=>ad rfl Tryz.underlying96 rfl Tryz.sizeOf3) rfl rfl rfl ?_ (hC:=(by first | exact ⟨_,ox⟩ | assumption))
 refine WH.tk 8 rfl (fun hq hC=>aA Tryz.isAgg3 rfl ((by obtain ⟨w,e⟩:=hC;exact aa e rfl))) rfl rfl rfl ?_ (hC:=(by first | exact ⟨_,ox⟩ | assumption))
 refine WH.one 9 (by kernel_rfl) ?_
 refine aC.call (vs:=[_,_]) rfl rfl Tryz.call91 rfl (kb _) rfl rfl rfl ?_ (fun _=>by kernel_rfl)
 rintro v6 h6 ⟨gu,aN,iH⟩
 have bX:=aN.obj ox aO
 refine ⟨fun _=>⟨_,bX⟩,?_⟩
 refine WH.one 10 (by kernel_rfl) ?_
 refine aC.call (vs:=[_,_]) rfl rfl Tryz.call57 rfl (sE gu.rd bX (fun q hq e=>by have:=iH q hq;omega)) rfl rfl rfl ?_ (fun _=>by kernel_rfl)
 rintro _ h7 ⟨w7,M7,Np,ca,Bx,ba,JT,H0⟩
 have DJ:∃ w,h7[b]?=some (.cells ⟨lR w (.pointer (some ⟨fb,0,none⟩)) s (.slice none 0 0) (In 0) false false⟩ 96 (0,0)):=⟨_,ca⟩
 have X6:=X4.trans aN
 have l6:=X6.size
 have Nq:=(kf.aq X6).ext ba (fun e=>vR e.symm) (fun q hq e=>bQ (kf.aq X6).own bX (by decide) (e▸hq))
 have Nr:∀ q,w7.ownBlock=some q→q ≠ fb:=fun q hq e=>by have:=JT q hq;omega
 have X7:Ext (fun q=>q=b∨q=fb) h h7:=(X6.mono fun _ _ e=>e.elim).trans (ba.mono fun _ _ e=>.inl e)
 refine ⟨fun _=>DJ,?_⟩
 refine WH.done (by kernel_rfl) ?_
 refine Gn ?_;refine Gs [(0,_)] ?_;refine G2 ?_;refine WL.step (ae rfl) rfl rfl rfl (Go ?_);refine WL.ld rfl (by first | exact aa ca rfl | assumption) rfl rfl rfl ?_
 refine WL.call (vs:=[_]) rfl Tryz.call92 rfl (yx Nq) rfl rfl rfl ?_
 rintro _ h8 ⟨rfl,FU,bz⟩
 have bE:=bz.obj ca vR
 have vQ:=Bx.ext bz (fun q hq e=>Nr q hq e) (fun y hy q hq e=>by have:=H0 y hy q hq;omega)
 refine Gn ?_;refine Gs [(0,_)] ?_;refine WC.region (Go ?_);refine WL.step (ae rfl) rfl rfl rfl (Go ?_);refine WL.ax (aB Tryz.sizeOf4 rfl rfl bE (Nat.le_of_ble_eq_true rfl) rfl rfl) rfl rfl ?_
 rintro _ h9 ⟨bY,bZ⟩
 have uG:=vQ.ext bZ (fun q hq e=>(vQ.off bE (by decide) (by decide)).1 (e▸hq)) (fun y hy q hq e=>(vQ.off bE (by decide) (by decide)).2 y hy (e▸hq))
 have Jb:=FU.ext bZ (fun e=>vR e.symm) (fun q hq e=>bQ FU.own bE (by decide) (e▸hq))
 refine Gn ?_;refine Gn ?_
 refine fA [] trivial ?_
 exact ⟨_,_,Np,bY,uG,Jb,(X7.trans (bz.mono fun _ _ e=>.inr e)).trans (bZ.mono fun _ _ e=>.inl e),fun q hq=>(by have:=JT q hq;omega),fun x hx q hq=>(by have:=H0 x hx q hq;omega)⟩
theorem nz {h:ah} {b fb:Nat} {s v:Value} {r:List UInt8} (hb:h[b]?=some (.cells ⟨lR (.slice none 0 0) (.pointer (some ⟨fb,0,none⟩)) s (.slice none 0 0) (In 0) false false⟩ 96 (0,0))) (kf:Fw h fb false v (di++r)) (hr:r.length≤100000) :
   ag Tryz.prog 26 ⟨[.pointer (some ⟨b,0,none⟩)]⟩ h fun u h'=>u=.tuple ⟨[.agg ⟨Gy⟩,.bool false]⟩∧∃ (w:Value) (M:List mj) (v':Value),M.map mj.pl=gk∧h'[b]?=some (.cells ⟨lR w (.pointer (some ⟨fb,0,none⟩)) s (.slice none 0 0) (In 0) true false⟩ 96 (0,0))∧Sd h' w M∧Fw h' fb true v' r∧Ext (fun q=>q=b∨q=fb∨v.ownBlock=some q) h h'∧(∀ q,w.ownBlock=some q→h.size≤q)∧(∀ x∈M,∀ q,x.2.1.ownBlock=some q→h.size≤q)∧v'.ownBlock=v.ownBlock:=by
 have kr:=fun (g:ah) (hb:g[b]?=some (.cells ⟨lR (.slice none 0 0) (.pointer (some ⟨fb,0,none⟩)) s (.slice none 0 0) (In 0) false false⟩ 96 (0,0)))=>dV hb
 have hll:di.length=16:=by decide
 have kn:=fun (g:ah) (k:Fw g fb false v (di++r))=>vq k 0 16 rfl (by rw [List.drop_zero,List.take_append_of_le_length (by decide)];decide) (by decide) (by rw [List.length_append];omega) (by rw [List.length_append];omega)
 have lb:=ai hb
 have lf:=ai kf.bm
 have vR:b ≠ fb:=fun e=>by have:=kf.bm;rw [← e,hb] at this;simp at this
 have hlt:∀ q,v.ownBlock=some q→q < h.size:=fun q hq=>kf.own.lt hq
 have nvb:v.ownBlock ≠ some b:=bQ kf.own hb (by decide)
 have eb:((di++r).drop (0+4)).take (16 - 4)=jr:=by
   rw [List.drop_append_of_le_length (by decide),List.take_append_of_le_length (by decide)]
   decide
 have er:(di++r).drop (0+16)=r:=by
   rw [Nat.zero_add,← hll,List.drop_left]
 rw [eb,er] at kn
 refine calls [(0,_)] Tryz.func26 rfl Tryz.ntmps26 rfl ⟨rfl,trivial⟩ ?_
 refine WC.sr ?_;refine WL.aj (an (fun w=>Tryz.zeroValue42 w)) rfl rfl rfl ?_
 rintro _ h1 ⟨b1,rfl,bR,aR,az⟩
 have fT:=az.obj hb aO
 have Ns:=kf.aq az
 refine Go ?_;refine G3 ?_;refine WL.call (vs:=[_]) rfl Tryz.call51 rfl (kr _ fT) rfl rfl rfl ?_
 rintro _ hq ⟨rfl,hz⟩
 replace hz:=hz.symm
 subst hz
 refine Go ?_
 refine bK 11 ?_ TT.mk
 refine Gg ?_;refine WL.step (ae rfl) rfl rfl rfl ?_;refine Gg ?_;refine WL.ld rfl (by first | exact aa fT rfl | assumption) rfl rfl rfl (Go ?_)
 refine Gs [(0,_),(2,_),(16,_)] ?_
 refine aH 1 2 ?_ TT.mk
 all_goals (refine aw 2 ?_)
 refine WC.skip ?_;refine Gn ?_;refine G2 ?_;refine WL.step (ae rfl) rfl rfl rfl (Go ?_);refine WL.ld rfl (by first | exact aa fT rfl | assumption) rfl rfl rfl ?_
 refine WL.call (vs:=[_]) rfl Tryz.call53 rfl (kn _ Ns) rfl rfl rfl ?_
 rintro _ h2 ⟨w2,v2,rfl,dc,Bt,aI,eI,Ed⟩
 have dc:Own h2 w2 5 1 12 (bA jr):=dc
 obtain ⟨A2,c2,rfl,_⟩:=id dc.slice
 have pz:=aI.obj fT (fun e=>e.elim vR nvb)
 have bT:=aI.obj aR (fun e=>by rcases e with e | e;omega;have:=hlt _ e;omega)
 refine Go ?_;refine WL.aj (an (fun w=>Tryz.zeroValue53 w)) rfl rfl rfl ?_
 rintro _ h3 ⟨b4,rfl,oG,bC,aQ⟩
 refine WL.ax (al Tryz.sizeOf53 rfl rfl rfl bC rfl (by simp [Value.oneCell'])) rfl rfl ?_
 rintro _ h4 ⟨gj,aW⟩
 have ta:Ext No h2 h4:=aQ.trans' aW (fun q hq e=>by omega)
 have wz:=ta.obj pz aO
 have Bw:=Bt.aq ta
 have fP:=dc.ext ta (fun _ _=>aO)
 have bJ:=ta.obj bT aO
 have X4:Ext (fun q=>q=b∨q=fb∨v.ownBlock=some q) h h4:=(az.mono fun _ _ e=>e.elim).trans ((aI.mono fun _ _ e=>.inr e).trans (ta.mono fun _ _ e=>e.elim))
 refine Go ?_;refine Gs [(0,_),(2,_),(4,_),(5,_),(6,_)] ?_;refine WC.seq ?_;refine WC.block ?_;refine G2 ?_
 refine aH 3 4 ?_ TT.mk
 all_goals (refine aw 4 ?_)
 refine G2 ?_;refine Gs [(0,_),(2,_),(4,_),(34,_)] ?_
 refine aH 5 6 ?_ TT.mk
 all_goals (refine aw 6 ?_)
 refine G2 ?_;refine WL.step (ae rfl) rfl rfl rfl (Go ?_);refine WL.ld rfl (by first | exact aa wz rfl | assumption) rfl rfl rfl (Go ?_)
 refine Gs [(0,_),(2,_),(4,_),(38,_)] ?_
 refine aH 7 8 ?_ TT.mk
 all_goals (refine aw 7 ?_)
 refine G2 ?_;refine WL.step (ay Tryz.isAgg53 Tryz.sizeOf53 rfl rfl (by exact At.av gj)) rfl rfl rfl ?_
 refine WL.call (vs:=[_,_]) rfl Tryz.call55 rfl (CV wz Bw fP.rd) rfl rfl rfl ?_
 rintro _ h5 ⟨w5,M5,GL,KE,KF,H2,aM,fO,H3⟩
 have db:=aM.obj bJ (fun e=>by have:=az.size;omega)
 refine Gn ?_;refine Gs [(2,_)] ?_;refine WC.sr ?_;refine WL.step (aF (vs:=[]) (cs:=[_,_,_,_,_,_,_,_,_,_]) (fun | []=>[(.int .u8 0),(.int .u8 0),(St []),(St []),(St []),(.slice none 0 0),(.slice none 0 0),(.slice none 0 0),(.slice none 0 0),(.int .i64 0)] | _=>[]) rfl rfl (by kernel_rfl)) rfl rfl rfl ?_
 refine WL.ax (al Tryz.sizeOf42 rfl rfl rfl db rfl (by simp [Value.oneCell'])) rfl rfl ?_
 rintro _ h6 ⟨bX,aN⟩
 have X6:Ext (fun q=>q=b∨q=fb∨v.ownBlock=some q) h h6:=(X4.trans (aM.mono fun _ _ e=>e.elim .inl fun e=>.inr (.inl e))).trans' aN (fun q hq e=>by omega)
 have l4:=X4.size
 have Nt:=KF.ext aN (fun q hq e=>(KF.off db (by decide) (by decide)).1 (e▸hq)) (fun y hy q hq e=>(KF.off db (by decide) (by decide)).2 y hy (e▸hq))
 refine Go ?_;refine WC.ret ?_
 repeat' (with_reducible first | refine aZ ?_ | refine aV ?_)
 refine cV _ _ ⟨⟨_,rfl,bB Tryz.isAgg42 Tryz.sizeOf42 (by assumption) rfl⟩,rfl,trivial⟩ ?_
 exact ⟨rfl,w5,M5,_,GL,aN.obj KE (fun e=>by omega),Nt,H2.ext aN (fun e=>by omega) (fun q hq e=>bQ H2.own db (by decide) (e▸hq)),X6,fun q hq=>(by have:=fO q hq;omega),fun x hx q hq=>(by have:=H3 x hx q hq;omega),Ed⟩
def FV (h:ah) (q:Nat):Prop:=∃ (cs:Array Value) (T:TypeId),h[q]?=some (.cells cs T (0,0))∧T ≠ 153∧T ≠ 104∧T ≠ 273∧T ≠ 189
section
variable {h0 h h':ah} {A:Ad} {st:Int} {sk ov:Bool} {cnt:Int} {L:List (List UInt8 × gy)} {P:List (List UInt8 × ee)} {S:Nat→Prop} {s:SP}
theorem Ss.xq (k:Ss h A st sk ov cnt L P) (x:Ext S h h') (hS:∀ q,S q→A.z q∧FV h q):Ss h' A st sk ov cnt L P:=by
 have e:=k.se
 have nB:∀ {b:Nat} {cs:Array Value} {T:TypeId},h[b]?=some (.cells cs T (0,0))→(T=153∨T=104∨T=273∨T=189)→¬ S b:=fun hb hT e=>by
   obtain ⟨_,cs,T,hq,t1,t2,t3,t4⟩:=hS _ e
   rcases hT with rfl | rfl | rfl | rfl
   · exact bw hq hb t1 rfl
   · exact bw hq hb t2 rfl
   · exact bw hq hb t3 rfl
   · exact bw hq hb t4 rfl
 have nM:∀ {m:Nat} {E:List (List UInt8 × Value)},Mp .string St h m E→¬ S m:=fun hm e=>by
   obtain ⟨_,cs,T,hq,_⟩:=hS _ e
   exact dX hm hq rfl
 exact ⟨⟨x.obj e.bm (nB e.bm (.inl rfl)),e.stm.ext x (nM e.stm),x.obj e.pb (nB e.pb (.inr (.inr (.inr rfl)))),e.pm.ext x (nM e.pm),x.obj e.eb (nB e.eb (.inr (.inl rfl))),e.em.ext x (nM e.em),e.ne⟩,
   fun q hq=>⟨(k.sok q hq).1.ext' x (fun z h0 hz e=>k.zz.l q hq z h0 hz (hS z e).1),(k.sok q hq).2⟩,
   fun q hq=>⟨x.obj (k.pok q hq).1 (nB (k.pok q hq).1 (.inr (.inr (.inl rfl)))),(k.pok q hq).2.1.ext x (fun z hz e=>k.zz.p q hq z hz (hS z e).1),(k.pok q hq).2.2⟩,k.dis,k.sto,k.cok,k.zz.up x.size⟩
theorem Ss.FW (k:Ss h A st sk ov cnt L P) (x:Ext S h h') (hS:∀ q,S q→A.z q∧FV h q) {z':Nat→Prop} (hz:∀ q,z' q→(A.z q∨h.size≤q)∧q < h'.size):Ss h' { A with z:=z' } st sk ov cnt L P:=by
 have k':=k.xq x hS
 exact ⟨k'.se,k'.sok,k'.pok,k'.dis,k'.sto,k'.cok,⟨fun q hq z h0 GC e=>(hz z e).1.elim (k.zz.l q hq z h0 GC) (fun y=>by have:=(k.sok q hq).1.lt h0 GC;omega),fun q hq z GC e=>(hz z e).1.elim (k.zz.p q hq z GC) (fun y=>by have:=(k.pok q hq).2.1.lt GC;omega),fun q hq=>(hz q hq).2⟩⟩
theorem nU.FW (k:nU h0 h A s) (x:Ext S h h') (hS:∀ q,S q→A.z q∧FV h q) {z':Nat→Prop} (hz:∀ q,z' q→(A.z q∨h.size≤q)∧q < h'.size) (x0:h0.size≤h.size):nU h0 h' { A with z:=z' } s:=by
 obtain ⟨L,P,k,e1,e2,e3,e4⟩:=k
 exact ⟨L,P,k.FW x hS hz,e1,e2,e3,fun q hq=>(hz q hq).1.elim (e4 q) (fun y=>by omega)⟩
theorem nU.xq (k:nU h0 h A s) (x:Ext S h h') (hS:∀ q,S q→A.z q∧FV h q):nU h0 h' A s:=by
 obtain ⟨L,P,k,e1,e2,e3,e4⟩:=k
 exact ⟨L,P,k.xq x hS,e1,e2,e3,e4⟩
end
def sF (h0:ah) (q:Nat):Prop:=h0.size≤q
structure Sq (h0 h:ah) (b fb:Nat) (A:Ad) (s:SP) (bg:Bool) (l:List UInt8) (v w:Value) (M:List mj):Prop where
 bm:h[b]?=some (.cells ⟨lR w (.pointer (some ⟨fb,0,none⟩)) (.pointer (some ⟨A.bs,0,none⟩)) (.slice none 0 0) (In 0) bg s.ov⟩ 96 (0,0))
 fw:Fw h fb bg v l
 se:nU h0 h A s
 sd:Sd h w M
 nv:∀ x∈M,∀ q,x.2.1.ownBlock=some q→v.ownBlock ≠ some q
 z:∀ q,A.z q ↔ (q=b∨q=fb∨v.ownBlock=some q∨w.ownBlock=some q)
 x0:h0.size≤h.size
def qA (h0 h:ah) (b:Nat) (s:SP) (bg:Bool) (l:List UInt8) (O:List (Int × List UInt8)):Prop:=∃ fb A v w M,Sq h0 h b fb A s bg l v w M∧M.map mj.pl=O
section
variable {h0 h h':ah} {b fb:Nat} {A:Ad} {s:SP} {bg:Bool} {l:List UInt8} {v w:Value} {M:List mj} {O:List (Int × List UInt8)} {S:Nat→Prop}
theorem qB {v:Value} {T:TypeId} {sz n:Nat} {xs:List Value} (ho:Own h v T sz n xs) (hT:T ≠ 153∧T ≠ 104∧T ≠ 273∧T ≠ 189):∀ q,v.ownBlock=some q→FV h q:=fun q hq=>by
 obtain ⟨_,⟨rfl,_⟩ | ⟨g,cap,cur,rfl,hg,_⟩⟩:=ho
 · cases hq
 · simp only [Value.ownBlock,Option.some.injEq] at hq
   subst hq
   exact ⟨_,_,hg,hT⟩
theorem Sq.H4 (k:Sq h0 h b fb A s bg l v w M):∀ q,A.z q→A.z q∧FV h q:=fun q hq=>⟨hq,by
 rcases (k.z q).1 hq with rfl | rfl | e | e
 · exact ⟨_,_,k.bm,by decide,by decide,by decide,by decide⟩
 · exact ⟨_,_,k.fw.bm,by decide,by decide,by decide,by decide⟩
 · exact qB k.fw.own (by decide) q e
 · exact qB k.sd.row (by decide) q e⟩
theorem Sq.lo (k:Sq h0 h b fb A s bg l v w M):∀ q,A.z q→h0.size≤q:=by
 obtain ⟨_,_,_,_,_,_,e4⟩:=k.se
 exact e4
theorem Sq.vR (k:Sq h0 h b fb A s bg l v w M):b ≠ fb:=fun e=>by have:=k.fw.bm;rw [← e,k.bm] at this;simp at this
theorem Sq.aq (k:Sq h0 h b fb A s bg l v w M) (x:Ext No h h'):Sq h0 h' b fb A s bg l v w M:=⟨x.obj k.bm aO,k.fw.aq x,k.se.aq x,k.sd.aq x,k.nv,k.z,by have:=x.size;have:=k.x0;omega⟩
theorem qA.aq (k:qA h0 h b s bg l O) (x:Ext No h h'):qA h0 h' b s bg l O:=by
 obtain ⟨fb,A,v,w,M,k,e⟩:=k
 exact ⟨fb,A,v,w,M,k.aq x,e⟩
theorem Sq.LK (k:Sq h0 h b fb A s bg l v w M) (x:Ext (fun q=>q=fb) h h') (kf:Fw h' fb bg v l):Sq h0 h' b fb A s bg l v w M :=
 have hb:=k.fw.bm
 ⟨x.obj k.bm (fun e=>k.vR e),kf,k.se.xq x (fun q e=>k.H4 q ((k.z q).2 (.inr (.inl e)))),k.sd.ext x (fun q hq e=>(k.sd.off hb (by decide) (by decide)).1 (e▸hq)) (fun y hy q hq e=>(k.sd.off hb (by decide) (by decide)).2 y hy (e▸hq)),k.nv,k.z,by have:=x.size;have:=k.x0;omega⟩
theorem vS (k:Sq h0 h b fb A s bg l v w M) (ho:s.ov=false) (hp:Part (if bg=true then 1 else 0) l) (hm:l.length≤1000000) :
   ag Tryz.prog 26 ⟨[.pointer (some ⟨b,0,none⟩)]⟩ h fun u h'=>u=.tuple ⟨[.agg ⟨Gy⟩,.bool false]⟩∧Sq h0 h' b fb A s bg l v w M∧Ext (sF h0) h h':=by
 have hs:=k.bm
 rw [ho] at hs
 have hfl:=k.lo fb ((k.z fb).2 (.inr (.inl rfl)))
 have kr:=fun (g:ah) (hb:g[b]?=some (.cells ⟨lR w (.pointer (some ⟨fb,0,none⟩)) (.pointer (some ⟨A.bs,0,none⟩)) (.slice none 0 0) (In 0) bg false⟩ 96 (0,0)))=>dV hb
 have kn:=fun (g:ah) (k:Fw g fb bg v l)=>qx k _ rfl hp hm
 have lf:=ai k.fw.bm
 have x0:=k.x0
 refine calls [(0,_)] Tryz.func26 rfl Tryz.ntmps26 rfl ⟨rfl,trivial⟩ ?_
 refine WC.sr ?_;refine WL.aj (an (fun w=>Tryz.zeroValue42 w)) rfl rfl rfl ?_
 rintro _ h1 ⟨b1,rfl,bR,aR,az⟩
 have fT:=az.obj hs aO
 have k1:=k.aq az
 refine Go ?_;refine G3 ?_;refine WL.call (vs:=[_]) rfl Tryz.call51 rfl (kr _ fT) rfl rfl rfl ?_
 rintro _ hq ⟨rfl,hz⟩
 replace hz:=hz.symm
 subst hz
 refine Go ?_
 refine bK 11 ?_ TT.mk
 refine Gg ?_;refine WL.step (ae rfl) rfl rfl rfl ?_;refine Gg ?_;refine WL.ld rfl (by first | exact aa fT rfl | assumption) rfl rfl rfl (Go ?_)
 refine Gs [(0,_),(2,_),(16,_)] ?_
 refine aH 1 2 ?_ TT.mk
 all_goals (refine aw 2 ?_)
 refine WC.skip ?_;refine Gn ?_;refine G2 ?_;refine WL.step (ae rfl) rfl rfl rfl (Go ?_);refine WL.ld rfl (by first | exact aa fT rfl | assumption) rfl rfl rfl ?_
 refine WL.call (vs:=[_]) rfl Tryz.call53 rfl (kn _ k1.fw) rfl rfl rfl ?_
 rintro _ h2 ⟨rfl,Bt,aI⟩
 have k2:=k1.LK aI Bt
 have bT:=aI.obj aR (fun e=>by omega)
 refine Go ?_;refine WL.aj (an (fun w=>Tryz.zeroValue53 w)) rfl rfl rfl ?_
 rintro _ h3 ⟨b4,rfl,oG,bC,aQ⟩
 refine WL.ax (al Tryz.sizeOf53 rfl rfl rfl bC rfl (by simp [Value.oneCell'])) rfl rfl ?_
 rintro _ h4 ⟨gj,aW⟩
 have ta:Ext No h2 h4:=aQ.trans' aW (fun q hq e=>by omega)
 have k4:=k2.aq ta
 have bJ:=ta.obj bT aO
 have X4:Ext (sF h0) h h4:=(az.mono fun _ _ e=>e.elim).trans ((aI.mono fun _ _ e=>by subst e;exact hfl).trans (ta.mono fun _ _ e=>e.elim))
 refine Go ?_;refine Gs [(0,_),(2,_),(4,_),(5,_),(6,_)] ?_;refine WC.seq ?_;refine WC.block ?_;refine G2 ?_
 refine aH 3 4 ?_ TT.mk
 all_goals (refine aw 4 ?_)
 refine G2 ?_;refine Gs [(0,_),(2,_),(4,_),(34,_)] ?_
 refine aH 5 6 ?_ TT.mk
 all_goals (refine aw 5 ?_)
 refine WC.sr ?_;refine WL.step (aF (vs:=[]) (cs:=[_,_,_,_,_,_,_,_,_,_]) (fun | []=>[(.int .u8 0),(.int .u8 0),(St []),(St []),(St []),(.slice none 0 0),(.slice none 0 0),(.slice none 0 0),(.slice none 0 0),(.int .i64 0)] | _=>[]) rfl rfl (by kernel_rfl)) rfl rfl rfl ?_
 refine WL.ax (al Tryz.sizeOf42 rfl rfl rfl bJ rfl (by simp [Value.oneCell'])) rfl rfl ?_
 rintro _ h5 ⟨bV,aM⟩
 have X5:Ext (fun q=>q=fb) h h5:=(((az.mono fun _ _ e=>e.elim).trans aI).trans (ta.mono fun _ _ e=>e.elim)).trans' aM (fun q hq e=>by omega)
 have H2:=k4.fw.ext aM (fun e=>by omega) (fun q hq e=>bQ k4.fw.own bJ (by decide) (e▸hq))
 refine Go ?_;refine Gs [(2,_),(3,_)] ?_;refine WC.ret ?_
 repeat' (with_reducible first | refine aZ ?_ | refine aV ?_)
 refine cV _ _ ⟨⟨_,rfl,bB Tryz.isAgg42 Tryz.sizeOf42 (by assumption) rfl⟩,rfl,trivial⟩ ?_
 exact ⟨rfl,k.LK X5 H2,X5.mono fun q _ e=>by subst e;exact hfl⟩
theorem xr (k:qA h0 h b s bg l O) (ho:s.ov=false) (hp:Part (if bg=true then 1 else 0) l) (hm:l.length≤1000000) :
   ag Tryz.prog 26 ⟨[.pointer (some ⟨b,0,none⟩)]⟩ h fun u h'=>u=.tuple ⟨[.agg ⟨Gy⟩,.bool false]⟩∧qA h0 h' b s bg l O∧Ext (sF h0) h h':=by
 obtain ⟨fb,A,v,w,M,k,e⟩:=k
 exact (vS k ho hp hm).mono fun u h' ⟨a,k,x⟩=>⟨a,⟨fb,A,v,w,M,k,e⟩,x⟩
theorem xt (k:qA h0 h b s bg l O) (ho:s.ov=true) :
   ag Tryz.prog 26 ⟨[.pointer (some ⟨b,0,none⟩)]⟩ h fun u h'=>u=.tuple ⟨[.agg ⟨Gy⟩,.bool false]⟩∧qA h0 h' b s bg l O∧Ext No h h':=by
 have k0:=k
 obtain ⟨fb,A,v,w,M,k,e⟩:=k
 have hs:=k.bm
 rw [ho] at hs
 have kr:=fun (g:ah) (hb:g[b]?=some (.cells ⟨lR w (.pointer (some ⟨fb,0,none⟩)) (.pointer (some ⟨A.bs,0,none⟩)) (.slice none 0 0) (In 0) bg true⟩ 96 (0,0)))=>dV hb
 refine calls [(0,_)] Tryz.func26 rfl Tryz.ntmps26 rfl ⟨rfl,trivial⟩ ?_
 refine WC.sr ?_;refine WL.aj (an (fun w=>Tryz.zeroValue42 w)) rfl rfl rfl ?_
 rintro _ h1 ⟨b1,rfl,bR,aR,az⟩
 have fT:=az.obj hs aO
 refine Go ?_;refine G3 ?_;refine WL.call (vs:=[_]) rfl Tryz.call51 rfl (kr _ fT) rfl rfl rfl ?_
 rintro _ hq ⟨rfl,hz⟩
 replace hz:=hz.symm
 subst hz
 refine Go ?_
 refine bK 11 ?_ TT.mk
 refine Gg ?_;refine WL.step (ae rfl) rfl rfl rfl ?_;refine Gg ?_;refine WL.ld rfl (by first | exact aa fT rfl | assumption) rfl rfl rfl (Go ?_)
 refine Gs [(0,_),(2,_),(16,_)] ?_
 refine aH 1 2 ?_ TT.mk
 all_goals (refine aw 1 ?_)
 refine WC.sr ?_;refine WL.step (aF (vs:=[]) (cs:=[_,_,_,_,_,_,_,_,_,_]) (fun | []=>[(.int .u8 0),(.int .u8 0),(St []),(St []),(St []),(.slice none 0 0),(.slice none 0 0),(.slice none 0 0),(.slice none 0 0),(.int .i64 0)] | _=>[]) rfl rfl (by kernel_rfl)) rfl rfl rfl ?_
 refine WL.ax (al Tryz.sizeOf42 rfl rfl rfl aR rfl (by simp [Value.oneCell'])) rfl rfl ?_
 rintro _ h2 ⟨bH,aI⟩
 have X2:Ext No h h2:=az.trans' aI (fun q hq e=>by omega)
 refine Go ?_;refine WC.ret ?_
 repeat' (with_reducible first | refine aZ ?_ | refine aV ?_)
 refine cV _ _ ⟨⟨_,rfl,bB Tryz.isAgg42 Tryz.sizeOf42 (by assumption) rfl⟩,rfl,trivial⟩ ?_
 exact ⟨rfl,k0.aq X2,X2⟩
theorem xu {x:Value} (k:qA h0 h b s bg l O) (ho:s.ov=true) (hx:∃ A n c,x=.slice A n c) :
   ag Tryz.prog 25 ⟨[.pointer (some ⟨b,0,none⟩),x]⟩ h fun _ h'=>qA h0 h' b s bg l O∧h'=h:=by
 have k0:=k
 obtain ⟨fb,A,v,w,M,k,e⟩:=k
 have hs:=k.bm
 rw [ho] at hs
 have kr:=dV hs
 obtain ⟨B,n,c,rfl⟩:=hx
 refine calls [(0,_),(1,_)] Tryz.func25 rfl Tryz.ntmps25 rfl ⟨rfl,rfl,trivial⟩ ?_
 refine G2 ?_;refine WC.seq ?_;refine WC.block ?_;refine G2 ?_;refine WL.call (vs:=[_]) rfl Tryz.call51 rfl (kr) rfl rfl rfl ?_
 rintro _ hq ⟨rfl,hz⟩
 replace hz:=hz.symm
 subst hz
 refine Go ?_;refine Gs [(0,_),(1,_),(5,_)] ?_
 refine aH 1 2 ?_ TT.mk
 all_goals (refine aw 2 ?_)
 refine G2 ?_;refine WL.step (ae rfl) rfl rfl rfl (Go ?_);refine WL.ld rfl (by first | exact aa hs rfl | assumption) rfl rfl rfl (Go ?_)
 refine Gs [(0,_),(1,_),(9,_)] ?_
 refine aH 3 4 ?_ TT.mk
 all_goals (refine aw 3 ?_)
 refine G2 ?_;refine Gt ?_
 exact ⟨k0,rfl⟩
theorem vT {x:Value} {m:List UInt8} (k:Sq h0 h b fb A s bg l v w M) (ho:s.ov=false) (hr:Rd h x 1 m.length (bA m)) (hl:l.length+m.length≤262144) :
   ag Tryz.prog 25 ⟨[.pointer (some ⟨b,0,none⟩),x]⟩ h fun _ h'=>(∃ A' v',Sq h0 h' b fb A' s bg (l++m) v' w M)∧Ext (sF h0) h h':=by
 have hs:=k.bm
 rw [ho] at hs
 refine (vv hs k.fw hr hl).mono fun u h' ⟨_,v',kf,hx,hv⟩=>?_
 have hz:∀ q,(q=fb∨v.ownBlock=some q)→A.z q:=fun q e=>(k.z q).2 (e.elim (fun e=>.inr (.inl e)) (fun e=>.inr (.inr (.inl e))))
 have hfb:=k.fw.bm
 have hwb:∀ q,w.ownBlock=some q→¬ (q=fb∨v.ownBlock=some q):=fun q hq e=>e.elim (fun e=>(k.sd.off hfb (by decide) (by decide)).1 (e▸hq)) (fun e=>by obtain ⟨_,a1⟩:=bO k.sd.row hq;obtain ⟨_,a2⟩:=bO k.fw.own e;rw [a1] at a2;simp at a2)
 have hmb:∀ y∈M,∀ q,y.2.1.ownBlock=some q→¬ (q=fb∨v.ownBlock=some q):=fun y hy q hq e=>e.elim (fun e=>(k.sd.off hfb (by decide) (by decide)).2 y hy (e▸hq)) (k.nv y hy q hq)
 have s1:=hx.size
 have lb:=ai k.bm
 have lf:=ai hfb
 refine ⟨⟨{ A with z:=fun q=>q=b∨q=fb∨v'.ownBlock=some q∨w.ownBlock=some q },v',⟨hx.obj k.bm (fun e=>e.elim k.vR (bQ k.fw.own k.bm (by decide))),kf,k.se.FW hx (fun q e=>k.H4 q (hz q e)) (fun q hq=>?_) k.x0,k.sd.ext hx hwb hmb,fun y hy q hq e=>(hv q e).elim (k.nv y hy q hq) (fun z=>by have:=k.sd.lt.2 y hy q hq;omega),fun q=>Iff.rfl,by have:=k.x0;omega⟩⟩,hx.mono fun q _ e=>k.lo q (hz q e)⟩
 rcases hq with hq | hq | hq | hq
 · exact ⟨.inl ((k.z q).2 (.inl hq)),by omega⟩
 · exact ⟨.inl ((k.z q).2 (.inr (.inl hq))),by omega⟩
 · exact ⟨(hv q hq).imp (fun z=>(k.z q).2 (.inr (.inr (.inl z)))) id,kf.own.lt hq⟩
 · exact ⟨.inl ((k.z q).2 (.inr (.inr (.inr hq)))),by have:=k.sd.lt.1 q hq;omega⟩
theorem FX {x:Value} {m:List UInt8} (k:qA h0 h b s bg l O) (ho:s.ov=false) (hr:Rd h x 1 m.length (bA m)) (hl:l.length+m.length≤262144) :
   ag Tryz.prog 25 ⟨[.pointer (some ⟨b,0,none⟩),x]⟩ h fun _ h'=>qA h0 h' b s bg (l++m) O∧Ext (sF h0) h h':=by
 obtain ⟨fb,A,v,w,M,k,e⟩:=k
 exact (vT k ho hr hl).mono fun u h' ⟨⟨A',v',k⟩,x⟩=>⟨⟨fb,A',v',w,M,k,e⟩,x⟩
end
structure Fm.vU (b:Fm):Prop where
 oids:b.oids.length≤50
 formats:b.formats.length≤50
 results:b.results.length≤50
 params:b.params.length≤50
 cells:∀ c∈b.params,c.bytes.length≤300
 name:b.name.length≤300
 portal:b.portal.length≤300
 text:b.text.length≤1000
theorem Nu {h h0:ah} (c:aX) (hk:c.ok h0):ag Tryz.prog 47 ⟨[.agg ⟨c.cells⟩]⟩ h fun u h'=>u=.bool (decide (300 < c.bytes.length))∧Ext No h h':=by
 obtain ⟨nl,v,bs⟩:=c
 obtain ⟨A,cc,e,_⟩:=hk.1
 simp only at e
 subst e
 dsimp only [aX.cells]
 refine calls [(0,_)] Tryz.func47 rfl Tryz.ntmps47 rfl ⟨rfl,trivial⟩ ?_
 refine WC.sr ?_;refine WL.aj (aG rfl) rfl rfl rfl ?_
 rintro _ h1 ⟨b1,rfl,bR,aR,az⟩
 refine Go ?_;refine G2 ?_;refine Ld ?_;refine Go ?_;refine Gs [(2,_)] ?_;refine Gt ?_
 exact ⟨congrArg Value.bool (decide_eq_decide.2 (by omega)),az⟩
def nA (b:Fm):Bool:=decide ((b.oids.length≤50∧b.formats.length≤50∧b.results.length≤50∧b.params.length≤50)∧(b.params.any fun c=>decide (300 < c.bytes.length))=false∧b.name.length≤300∧b.portal.length≤300∧b.text.length≤1000)
theorem uK {b:Fm} (h:nA b=true):b.vU:=by
 obtain ⟨⟨h1,h2,h3,h4⟩,h5,h6,h7,h8⟩:=of_decide_eq_true h
 exact ⟨h1,h2,h3,h4,fun c hc=>by simpa using List.any_eq_false.1 h5 c hc,h6,h7,h8⟩
theorem qC {h:ah} (b:Fm) (hb:b.ok h):ag Tryz.prog 22 ⟨[.agg ⟨b.cells⟩]⟩ h fun u h'=>u=.bool (nA b)∧Ext No h h':=by
 obtain ⟨⟨ho,_⟩,⟨hf,_⟩,⟨hs,_⟩,hr⟩:=hb
 obtain ⟨k,w,n,p,t,vo,lo,vf,lf,vs,ls,vp,lp,mx⟩:=b
 dsimp only at ho hf hs hr
 obtain ⟨LM,qP,qO⟩:=hr
 have hrm:lp.length≤maxLen:=by have:=qP.1;unfold reachBytes at this;unfold maxLen;omega
 obtain ⟨Ao,co,rfl,_⟩:=id ho
 obtain ⟨Af,cf,rfl,_⟩:=id hf
 obtain ⟨As,cs,rfl,_⟩:=id hs
 obtain ⟨Ap,cp,rfl,_⟩:=id LM
 dsimp only [Fm.cells]
 refine calls [(0,_)] Tryz.func22 rfl Tryz.ntmps22 rfl ⟨rfl,trivial⟩ ?_
 refine WC.sr ?_;refine WL.aj (aG rfl) rfl rfl rfl ?_
 rintro _ g1 ⟨b1,rfl,bR,aR,H5⟩
 refine Go ?_;refine G3 ?_;refine Ld ?_;refine Go ?_
 refine bK 7 (Hb.mk fun hb=>?_) (Hb.mk fun hb=>?_)
 all_goals (refine Gg ?_;first | refine WL.pass rfl rfl rfl ?_ | refine Ld ?_)
 all_goals (refine Gg ?_;refine Go ?_;first | refine bK 13 ?_ TT.mk | (refine bK 13 (Hb.mk fun hb=>?_) (Hb.mk fun hb=>?_)))
 all_goals (refine Gg ?_;first | refine WL.pass rfl rfl rfl ?_ | refine Ld ?_)
 all_goals (refine Gg ?_;refine Go ?_;first | refine bK 19 ?_ TT.mk | (refine bK 19 (Hb.mk fun hb=>?_) (Hb.mk fun hb=>?_)))
 all_goals (refine Gg ?_;first | refine WL.pass rfl rfl rfl ?_ | refine Ld ?_)
 all_goals (refine Gg ?_;refine Go ?_;refine Gs [(1,_),(24,_)] ?_;first | refine aH 1 2 ?_ TT.mk | (refine aH 1 2 (Hb.mk fun hb=>?_) (Hb.mk fun hb=>?_)))
 all_goals try (
 refine aw 1 ?_
 all_goals (refine G2 ?_;refine Gt ?_)
 all_goals (
  first
   | (refine ⟨congrArg Value.bool (decide_eq_false fun z=>?_).symm,?_⟩
      · obtain ⟨⟨z1,z2,z3,z4⟩,z5,z6,z7,z8⟩:=z
        dsimp only at z1 z2 z3 z4 z5 z6 z7 z8
        first | omega | (rw [GM] at z5;cases z5)
      · first | exact ia | exact H5)
   | (refine ⟨congrArg Value.bool (decide_eq_decide.2 ⟨fun z=>⟨⟨?_,?_,?_,?_⟩,GM,?_,?_,?_⟩,fun z=>?_⟩),ia⟩
      all_goals first | (obtain ⟨⟨z1,z2,z3,z4⟩,z5,z6,z7,z8⟩:=z;dsimp only at z1 z2 z3 z4 z6 z7 z8;omega) | (show _≤_;(try dsimp only);omega)))
 skip)
 all_goals (refine aw 2 ?_)
 refine WC.skip ?_;refine Gn ?_;refine G3 ?_;refine WL.ld rfl (by first | exact aa aR rfl | assumption) rfl rfl rfl ?_
 refine WL.call (vs:=[_,_]) rfl Tryz.call46 rfl (vx lp (fun c=>decide (300 < c.bytes.length)) Tryz.call47 (fs:=[]) (us:=[]) (LM.aq H5) hrm (fun x hx h' hx'=>Nu x (qO x hx))) rfl rfl rfl ?_
 rintro _ g2 ⟨rfl,aI⟩
 have bH:=aI.obj aR aO
 have ia:=H5.trans aI
 cases GM:lp.any fun c=>decide (300 < c.bytes.length)
 all_goals (refine Gn ?_;refine aH 3 4 ?_ TT.mk)
 all_goals try (
 refine aw 3 ?_
 refine G2 ?_;refine Gs [(2,_)] ?_;refine Gt ?_
 first
  | (refine ⟨congrArg Value.bool (decide_eq_false fun z=>?_).symm,?_⟩
     · obtain ⟨⟨z1,z2,z3,z4⟩,z5,z6,z7,z8⟩:=z
       dsimp only at z1 z2 z3 z4 z5 z6 z7 z8
       first | omega | (rw [GM] at z5;cases z5)
     · first | exact ia | exact H5)
  | (refine ⟨congrArg Value.bool (decide_eq_decide.2 ⟨fun z=>⟨⟨?_,?_,?_,?_⟩,GM,?_,?_,?_⟩,fun z=>?_⟩),ia⟩
     all_goals first | (obtain ⟨⟨z1,z2,z3,z4⟩,z5,z6,z7,z8⟩:=z;dsimp only at z1 z2 z3 z4 z6 z7 z8;omega) | (show _≤_;(try dsimp only);omega))
 skip)
 all_goals (refine aw 4 ?_)
 refine WC.skip ?_;refine Gn ?_;refine Gs [(1,_)] ?_;refine G2 ?_;refine WL.ld rfl (by first | exact aa bH rfl | assumption) rfl rfl rfl (Go ?_)
 refine bK 32 (Hb.mk fun hb=>?_) (Hb.mk fun hb=>?_)
 all_goals (refine Gg ?_;first | refine WL.pass rfl rfl rfl ?_ | (refine WL.ld rfl (by first | exact aa bH rfl | assumption) rfl rfl rfl ?_))
 all_goals (refine Gg ?_;refine Go ?_;first | refine bK 38 ?_ TT.mk | (refine bK 38 (Hb.mk fun hb=>?_) (Hb.mk fun hb=>?_)))
 all_goals (refine Gg ?_;first | refine WL.pass rfl rfl rfl ?_ | (refine WL.ld rfl (by first | exact aa bH rfl | assumption) rfl rfl rfl ?_))
 all_goals (refine Gg ?_;refine Go ?_;refine Gs [(2,_)] ?_;refine Gt ?_)
 all_goals (
  first
   | (refine ⟨congrArg Value.bool (decide_eq_false fun z=>?_).symm,?_⟩
      · obtain ⟨⟨z1,z2,z3,z4⟩,z5,z6,z7,z8⟩:=z
        dsimp only at z1 z2 z3 z4 z5 z6 z7 z8
        first | omega | (rw [GM] at z5;cases z5)
      · first | exact ia | exact H5)
   | (refine ⟨congrArg Value.bool (decide_eq_decide.2 ⟨fun z=>⟨⟨?_,?_,?_,?_⟩,GM,?_,?_,?_⟩,fun z=>?_⟩),ia⟩
      all_goals first | (obtain ⟨⟨z1,z2,z3,z4⟩,z5,z6,z7,z8⟩:=z;dsimp only at z1 z2 z3 z4 z6 z7 z8;omega) | (show _≤_;(try dsimp only);omega)))
theorem KG {h h0:ah} (f:Fm) (hf:f.ok h0) (x:Ext No h0 h):ag Tryz.prog 21 ⟨[.agg ⟨f.cells⟩]⟩ h fun u h'=>u=.bool (!nA f)∧Ext No h h':=by
 have kp:=fun h' (y:Ext No h h')=>qC f ((hf.aq x).aq y)
 obtain ⟨⟨e1,_⟩,⟨e2,_⟩,⟨e3,_⟩,e4,_⟩:=hf
 obtain ⟨fk,w,n,p,t,vo,o,vf,fs,vs,rs,vp,ps,mx⟩:=f
 dsimp only at e1 e2 e3 e4
 obtain ⟨_,_,rfl,_⟩:=e1
 obtain ⟨_,_,rfl,_⟩:=e2
 obtain ⟨_,_,rfl,_⟩:=e3
 obtain ⟨_,_,rfl,_⟩:=e4
 dsimp only [Fm.cells] at kp ⊢
 refine calls [(0,_)] Tryz.func21 rfl Tryz.ntmps21 rfl ⟨rfl,trivial⟩ ?_
 refine WC.sr ?_;refine WL.aj (aG rfl) rfl rfl rfl ?_
 rintro _ h1 ⟨b1,rfl,bR,aR,az⟩
 refine Go ?_;refine WC.sr ?_;refine WL.step (ay Tryz.isAgg42 Tryz.sizeOf42 rfl rfl (by exact At.av aR)) rfl rfl rfl ?_
 refine WL.call (vs:=[_]) rfl Tryz.call22 rfl (kp _ az) rfl rfl rfl ?_
 rintro _ h2 ⟨rfl,aI⟩
 refine Go ?_;refine Gs [(2,_)] ?_;refine Gt ?_
 exact ⟨rfl,az.trans aI⟩
theorem qD {h:ah} {v:Value} (l:List Fm) (p:Fm→Bool) {fk:Nat} {fs us:List Value} (hcf:∀ (args:Array Value) (w:World),(callFunc fk args).run Tryz.prog w=.ok (.enter fk args) w) (hr:Rd h v 10 l.length (l.flatMap Fm.cells)) (hm:l.length≤maxLen)
   (hp:∀ x∈l,∀ h',Ext No h h'→ag Tryz.prog fk ⟨fs++[.agg ⟨Fm.cells x⟩]++us⟩ h' fun u h''=>u=.bool (p x)∧Ext No h' h'') :
   ag Tryz.prog 45 ⟨[v,.func (.func fk) ⟨fs⟩ ⟨us⟩]⟩ h fun u h'=>u=In (jB p l)∧Ext No h h':=by
 obtain ⟨A,c,rfl,_⟩:=id hr
 unfold maxLen at hm
 refine calls [(0,_),(1,_)] Tryz.func45 rfl Tryz.ntmps45 rfl ⟨rfl,rfl,trivial⟩ ?_
 refine G2 ?_;refine G3 ?_;refine WC.block ?_;refine WC.bD (X:=Nat) (fun x=>([(8,In (x:Int))]:Fr)) [(0,_),(1,_),(7,_)] (fun k h'=>Ext No h h'∧k≤l.length∧∀ x∈l.take k,p x=false) (fun k=>l.length - k) (0) ⟨rfl,rfl,rfl,rfl,trivial⟩ (by exact ⟨.refl _ _,Nat.zero_le _,by simp⟩) ?_
 rintro k h1 ⟨az,hk,hn⟩
 refine WC.sub [(8,_),(0,_),(1,_),(7,_)] ⟨rfl,rfl,rfl,rfl,trivial⟩ ?_;refine G2 ?_;refine WC.seq ?_
 refine aH 1 2 (Hb.mk fun hb=>?_) (Hb.mk fun hb=>?_)
 all_goals try (
 refine aw 1 ?_
 refine WC.skip ?_
 skip)
 all_goals try (
 refine aw 2 ?_
 refine WC.exit ?_
 repeat' (with_reducible first | refine aU ?_ | refine aD rfl ?_ | refine aJ ?_ | refine aL ?_ | refine aS ?_)
 refine Br.out (i:=1000) ?_
 skip)
 all_goals (refine Gn ?_;first | refine Br.ab ?_ | refine WC.seq ?_)
 all_goals (first | refine Br.ab ?_ | refine WC.block ?_)
 all_goals (first | refine Br.ab ?_ | refine WC.sr ?_)
 all_goals (refine Go ?_;first | refine Br.ab ?_ | refine WC.sr ?_)
 all_goals (first | refine Br.ab ?_ | refine WL.step (ak rfl) rfl rfl rfl ?_)
 all_goals (first | refine Br.ab ?_ | refine WL.step (ak rfl) rfl rfl rfl ?_)
 all_goals (
  first
    | (refine Br.ab ?_)
    | (obtain ⟨b,o,hA,hbL,hat⟩:=Rd.at_ (hr.aq az) (by omega)
       obtain ⟨y,hy⟩:∃ y,l[k]?=some y:=⟨_,List.getElem?_eq_getElem (by omega)⟩
       have hc:At h1 b (o+k * 10) (Fm.cells y):=At.elem Fm.len hat hy))
 all_goals (first | refine Br.ab ?_ | refine WL.step (ak rfl) rfl rfl rfl ?_)
 all_goals (first | refine Br.ab ?_ | (refine WL.step (aE Tryz.underlying22 Tryz.sizeOf42 rfl rfl rfl (by omega) (by first | rfl | assumption)) rfl rfl rfl ?_))
 all_goals (first | refine Br.ab ?_ | (refine WL.step (ay Tryz.isAgg42 Tryz.sizeOf42 rfl rfl (by assumption)) rfl rfl rfl ?_))
 all_goals (
  first
    | (refine Br.ab ?_)
    | (refine WL.fC (vs:=[_]) rfl rfl hcf rfl (hp y (List.mem_of_getElem? hy) h1 az) rfl rfl rfl ?_
       rintro _ h2 ⟨rfl,aI⟩))
 all_goals (first | refine Br.ab ?_ | cases hpy:p y)
 all_goals (refine Gn ?_;first | refine Br.ab ?_ | refine Gs [(0,_),(1,_),(5,_),(7,_),(8,_),(16,_)] ?_)
 all_goals (first | refine Br.ab ?_ | refine aH 3 4 ?_ TT.mk)
 all_goals try (
 refine aw 3 ?_
 refine G2 ?_;refine Gs [(4,_)] ?_;refine Gt ?_
 first | exact ⟨by rw [dg (by rw [List.take_of_length_le (by omega)] at hn;exact hn)],az⟩ | exact ⟨by rw [de hy hpy hn],az.trans aI⟩
 skip)
 all_goals try (
 refine aw 4 ?_
 refine WC.skip ?_
 skip)
 all_goals (refine Gn ?_;first | refine Br.ab ?_ | refine WC.region ?_)
 all_goals (refine Go ?_;first | refine Br.ab ?_ | (exact ⟨k+1,⟨rfl,rfl,rfl,rfl,trivial⟩,(by exact ⟨az.trans aI,by omega,dh hn hy hpy⟩),(by omega)⟩))
 try (refine Br.mk (i:=1000) ?_)
 refine Gn ?_;refine Gs [] ?_;refine G2 ?_;refine Gt ?_
 first | exact ⟨by rw [dg (by rw [List.take_of_length_le (by omega)] at hn;exact hn)],az⟩ | exact ⟨by rw [de hy hpy hn],az.trans aI⟩
theorem FY {h:ah} {v:Value} (l:List Fm) (p:Fm→Bool) {fk:Nat} {fs us:List Value} (hcf:∀ (args:Array Value) (w:World),(callFunc fk args).run Tryz.prog w=.ok (.enter fk args) w) (hr:Rd h v 10 l.length (l.flatMap Fm.cells)) (hm:l.length≤maxLen)
   (hp:∀ x∈l,∀ h',Ext No h h'→ag Tryz.prog fk ⟨fs++[.agg ⟨Fm.cells x⟩]++us⟩ h' fun u h''=>u=.bool (p x)∧Ext No h' h'') :
   ag Tryz.prog 20 ⟨[v,.func (.func fk) ⟨fs⟩ ⟨us⟩]⟩ h fun u h'=>u=.bool (l.any p)∧Ext No h h':=by
 refine calls [(0,_),(1,_)] Tryz.func20 rfl Tryz.ntmps20 rfl ⟨rfl,rfl,trivial⟩ ?_
 refine G2 ?_;refine G2 ?_;refine WL.call (vs:=[_,_]) rfl Tryz.call45 rfl (qD l p hcf hr hm hp) rfl rfl rfl ?_
 rintro _ h1 ⟨rfl,az⟩
 refine WL.step (dv rfl rfl) rfl rfl rfl (Go ?_);refine Gs [(4,_)] ?_;refine Gt ?_
 exact ⟨by rw [dT],az⟩
theorem qE {h:ah} {v:Value} (L:List Fm) (k:EP h v L) (many:Int):ag Tryz.prog 6 ⟨[v,In many]⟩ h fun u h'=>(∃ x,u=.bool x∧(x=true→(L.length:Int)≤many∧∀ f∈L,f.vU))∧Ext No h h':=by
 obtain ⟨hr,hl,ok⟩:=k
 have kh:=FY L (fun f => !nA f) Tryz.call21 (fs:=[]) (us:=[]) hr hl (fun x hx h' hx'=>KG x (ok x hx) hx')
 obtain ⟨A,c,rfl,_⟩:=id hr
 unfold maxLen at hl
 refine calls [(0,_),(1,_)] Tryz.func6 rfl Tryz.ntmps6 rfl ⟨rfl,rfl,trivial⟩ ?_
 refine G2 ?_;refine G2 ?_
 refine bK 9 (Hb.mk fun hb=>?_) (Hb.mk fun hb=>?_)
 all_goals (refine Gg ?_)
 all_goals (
  first
    | (refine WL.pass rfl rfl rfl ?_)
    | (refine WL.call (vs:=[_,_]) rfl Tryz.call20 rfl (kh) rfl rfl rfl ?_
       rintro _ h2 ⟨rfl,aI⟩))
 all_goals (refine Gg ?_;refine Go ?_;refine Gs [(4,_)] ?_;refine Gt ?_)
 all_goals (
  first
   | (refine ⟨⟨_,rfl,fun z=>?_⟩,aI⟩
      refine ⟨by omega,fun f hf=>uK ?_⟩
      have z2:(L.any fun f => !nA f)=false:=by simpa using z
      simpa using List.any_eq_false.1 z2 f hf)
   | exact ⟨⟨false,rfl,fun z=>by cases z⟩,.refl _ _⟩)
theorem FZ {n:Int} (h : -32768≤n∧n≤65535):Rt n 2:=by
 unfold Rt
 rw [show (256:Int) ^ 2=65536 from rfl]
 omega
theorem vV {n:Int} (h : -2147483648≤n∧n≤4294967295):Rt n 4:=by
 unfold Rt
 rw [show (256:Int) ^ 4=4294967296 from rfl]
 omega
theorem CW:Sz 2:=.inr (.inl rfl)
theorem CX:Sz 4:=.inr (.inr rfl)
theorem pf {α:Type} {f:α→List UInt8} {n:Nat} (l:List α) (h:∀ x∈l,(f x).length≤n):(l.flatMap f).length≤l.length * n:=by
 induction l with
 | nil=>simp
 | cons a l ih =>
   have h1:=ih (fun x hx=>h x (by simp [hx]))
   have h2:=h a (by simp)
   simp only [List.flatMap_cons,List.length_append,List.length_cons,Nat.add_mul,Nat.one_mul]
   omega
theorem nC {α:Type} {f:α→List UInt8} {n:Nat} (l:List α) (k:Nat) (h:∀ x∈l,(f x).length≤n):((l.take k).flatMap f).length≤l.length * n :=
 Nat.le_trans (pf _ fun x hx=>h x (List.mem_of_mem_take hx)) (Nat.mul_le_mul_right n (by rw [List.length_take];omega))
theorem jJ {α:Type} {f:α→List UInt8} {l:List α} {k:Nat} {y:α} (hy:l[k]?=some y):(l.take (k+1)).flatMap f=(l.take k).flatMap f++f y:=by
 rw [List.take_add_one,hy,List.flatMap_append]
 simp
def cE (c:aX):List UInt8:=if c.null then be 4294967295 4 else be c.bytes.length 4++c.bytes
theorem sG {c:aX} (h:c.bytes.length≤1000):(cE c).length≤1100:=by unfold cE;split <;> simp [bn] <;> omega
def uM (h:ah) (v:Value) (h':ah) (v':Value):Prop:=Ext (fun q=>v.ownBlock=some q) h h'∧∀ q,v'.ownBlock=some q→v.ownBlock=some q∨h.size≤q
theorem uM.fresh {g h h':ah} {v v':Value} (a:uM h v h' v') (x:Ext No g h) (f:∀ q,v.ownBlock=some q→g.size≤q):Ext No g h'∧∀ q,v'.ownBlock=some q→g.size≤q :=
 ⟨x.trans' a.1 (fun q hq e=>by have:=f q e;omega),fun q e=>(a.2 q e).elim (f q) (fun z=>by have:=x.size;omega)⟩
theorem Au {h:ah} {v:Value} (l s:List UInt8) (hv:Own h v 5 1 l.length (bA l)) (hl:l.length+s.length≤1000000000) :
   ag Tryz.prog 65 ⟨[v,St s]⟩ h fun u h'=>Own h' u 5 1 (l++s++[0]).length (bA (l++s++[0]))∧uM h v h' u:=by
 obtain ⟨A0,c0,rfl,_⟩:=id hv.slice
 refine calls [(0,_),(1,_)] Tryz.func65 rfl Tryz.ntmps65 rfl ⟨rfl,rfl,trivial⟩ ?_
 refine G2 ?_;refine G2 ?_;refine WL.aj (fW rfl Tryz.underlying23 Tryz.underlying9 (show Tryz.prog.info? 5=some Tryz.t5 by kernel_rfl) rfl rfl rfl rfl rfl hv (by omega)) rfl rfl rfl ?_
 rintro v1 h1 ⟨jM,az,Gw,_⟩
 refine WL.aj (au (vs:=[_]) (cs:=[_]) (fun | [a0]=>[a0] | _=>[]) Tryz.underlying23 rfl rfl (by kernel_rfl)) rfl rfl rfl ?_
 rintro _ h2 ⟨b2,rfl,gg,bH,aI⟩
 refine WL.aj (aT (sz:=1) (bytes:=1) rfl Tryz.underlying23 (show Tryz.prog.info? 5=some Tryz.t5 by kernel_rfl) rfl rfl rfl rfl (by decide) rfl rfl (jM.ext aI (fun _ _=>aO)) (bx bH rfl) (by simp [Value.oneCell']) (by simp only [maxLen];omega) (by omega)) rfl rfl rfl ?_
 rintro v3 h3 ⟨dN,aQ,wB⟩
 refine Go ?_;refine Gs [(4,_)] ?_;refine Gt ?_
 have ik:∀ q,v1.ownBlock=some q→(Value.slice A0 l.length c0).ownBlock=some q∨h.size≤q:=Gw
 have s1:=az.size
 have s2:=aI.size
 refine ⟨?_,(az.trans (aI.mono fun _ _ e=>e.elim)).trans' aQ (fun q hq e=>(ik q e).elim id (fun z=>by omega)),fun q hq=>wB.elim (fun e=>ik q (e▸hq)) (fun e=>.inr (by rw [e] at hq;cases hq;omega))⟩
 rw [show (l++s++[(0:UInt8)]).length=l.length+s.length+1 by simp [Nat.add_assoc],show bA (l++s++[0])=bA l++bA s++[Value.int .u8 0] by simp only [bA,List.map_append,List.map_cons,List.map_nil];rfl]
 exact dN
theorem CY {h:ah} {v w:Value} (l:List UInt8) (L:List Int) (hv:Rd h v 1 l.length (bA l)) (hw:Rd h w 1 L.length (ints L)) (hl:l.length≤1000000) (hm:L.length≤100) {s:Nat} (hs:Sz s) (h4:s≤4) (hn:∀ n∈L,Rt n s) :
   ag Tryz.prog 64 ⟨[v,w,In s]⟩ h fun u h'=>Own h' u 5 1 (l++be L.length 2++L.flatMap fun n=>be n s).length (bA (l++be L.length 2++L.flatMap fun n=>be n s))∧Ext No h h'∧∀ q,u.ownBlock=some q→h.size≤q:=by
 obtain ⟨A0,c0,rfl,_⟩:=id hv
 obtain ⟨A,c,rfl,_⟩:=id hw
 have hfl:∀ j,((L.take j).flatMap fun n=>be n s).length≤1000:=fun j=>Nat.le_trans (nC (n:=s) L j fun x hx=>by rw [bn];exact Nat.le_refl _) (Nat.le_trans (Nat.mul_le_mul hm h4) (by decide))
 refine calls [(0,_),(1,_),(2,_)] Tryz.func64 rfl Tryz.ntmps64 rfl ⟨rfl,rfl,rfl,trivial⟩ ?_
 refine G2 ?_;refine G2 ?_;refine WL.call (vs:=[_,_,_]) rfl Tryz.call62 rfl (j6 l (L.length:Int) 2 CW (FZ (by omega)) hv (by omega)) rfl rfl rfl ?_
 rintro v1 h1 ⟨jM,az,ik⟩
 refine Go ?_;refine Gs [(0,_),(1,_),(2,_)] ?_;refine G3 ?_;refine WC.block ?_;refine WC.bD (X:=Nat × Value) (fun x=>([(7,In (x.1:Int)),(0,x.2)]:Fr)) [(1,_),(2,_)] (fun y h'=>y.1≤L.length∧Own h' y.2 5 1 (l++be (L.length:Int) 2++(L.take y.1).flatMap fun n=>be n s).length (bA (l++be (L.length:Int) 2++(L.take y.1).flatMap fun n=>be n s))∧Ext No h h'∧∀ q,y.2.ownBlock=some q→h.size≤q) (fun y=>L.length - y.1) ((0,v1)) ⟨rfl,rfl,rfl,rfl,trivial⟩ (by exact ⟨Nat.zero_le _,by simpa using jM,az,ik⟩) ?_
 rintro ⟨k,u⟩ h2 ⟨hk,dc,aI,eI⟩
 dsimp only at hk dc eI
 refine WC.sub [(0,_),(7,_),(1,_),(2,_)] ⟨rfl,rfl,rfl,rfl,trivial⟩ ?_
 dsimp only
 refine G3 ?_
 refine aH 1 2 (Hb.mk fun hb=>?_) (Hb.mk fun hb=>?_)
 all_goals try (
 refine aw 1 ?_
 refine WC.skip ?_
 skip)
 all_goals try (
 refine aw 2 ?_
 refine WC.exit ?_
 repeat' (with_reducible first | refine aU ?_ | refine aD rfl ?_ | refine aJ ?_ | refine aL ?_ | refine aS ?_)
 refine Br.out (i:=1000) ?_
 skip)
 all_goals (refine Gn ?_;first | refine Br.ab ?_ | refine Gs [(0,_),(1,_),(2,_),(7,_)] ?_)
 all_goals (first | refine Br.ab ?_ | refine WC.seq ?_)
 all_goals (first | refine Br.ab ?_ | refine WC.block ?_)
 all_goals (first | refine Br.ab ?_ | refine WC.region ?_)
 all_goals (
  first
    | (refine Br.ab ?_)
    | (obtain ⟨bL,oL,hA,hbL,hat⟩:=Rd.at_ (hw.aq aI) (by omega)
       obtain ⟨yy,hy⟩:∃ y,L[k]?=some y:=⟨_,List.getElem?_eq_getElem (by omega)⟩
       have hyo:=hn _ (List.mem_of_getElem? hy)
       have hcd:cell h2 ⟨bL,oL+k * 1,none⟩=some (In yy):=hat.get k (gT hy) (by omega)
       have hlj:=hfl k))
 all_goals (first | refine Br.ab ?_ | refine WL.step (ak rfl) rfl rfl rfl ?_)
 all_goals (refine Go ?_;first | refine Br.ab ?_ | (refine WL.step (aE Tryz.underlying39 Tryz.sizeOf3 rfl rfl rfl (by omega) (by first | rfl | assumption)) rfl rfl rfl ?_))
 all_goals (first | refine Br.ab ?_ | (refine WL.ld rfl (by first | exact hcd | assumption) rfl rfl rfl ?_))
 all_goals (refine Go ?_)
 all_goals (
  first
    | (refine Br.ab ?_)
    | (refine WL.call (vs:=[_,_,_]) rfl Tryz.call62 rfl (j6 _ yy s hs hyo dc.rd (by simp only [List.length_append,bn];omega)) rfl rfl rfl ?_
       rintro v3 h3 ⟨dN,aQ,gS⟩))
 all_goals (refine Go ?_;first | refine Br.ab ?_ | refine Gs [(0,_),(1,_),(2,_),(7,_)] ?_)
 all_goals (first | refine Br.ab ?_ | refine WC.region ?_)
 all_goals (refine Go ?_;first | refine Br.ab ?_ | (exact ⟨(k+1,_),⟨rfl,rfl,rfl,rfl,trivial⟩,(by exact ⟨by omega,by rw [jJ hy,← List.append_assoc];exact dN,aI.trans aQ,fun q e=>(by have:=gS q e;have:=aI.size;omega)⟩),(by simp;omega)⟩))
 try (refine Br.mk (i:=1000) ?_)
 refine Gn ?_;refine Gs [(0,_)] ?_;refine G2 ?_;refine Gt ?_
 rw [List.take_of_length_le (by omega)] at dc
 exact ⟨dc,aI,eI⟩
theorem Av:be (-1) 4=be 4294967295 4:=by
 have h:∀ i,i < 4→bI (-1+256 ^ 4) i=bI (-1) i:=fun i hi=>yg hi
 exact (iS (m := -1+256 ^ 4) (n := -1) h (by decide) 4).symm
theorem F0 {h:ah} {v vr:Value} (l:List UInt8) (R:List aX) (hv:Rd h v 1 l.length (bA l)) (hR:cF h vr R) (hl:l.length≤1000000) (hm:R.length≤100) (hc:∀ c∈R,c.bytes.length≤1000) :
   ag Tryz.prog 66 ⟨[v,vr]⟩ h fun u h'=>Own h' u 5 1 (l++be R.length 2++R.flatMap cE).length (bA (l++be R.length 2++R.flatMap cE))∧Ext No h h'∧∀ q,u.ownBlock=some q→h.size≤q:=by
 obtain ⟨A0,c0,rfl,_⟩:=id hv
 obtain ⟨hr,⟨_,A,cc,rfl,_⟩,hok⟩:=hR
 have hfl:∀ k,((R.take k).flatMap cE).length≤110000:=fun k=>Nat.le_trans (nC R k fun x hx=>sG (hc x hx)) (by omega)
 refine calls [(0,_),(1,_)] Tryz.func66 rfl Tryz.ntmps66 rfl ⟨rfl,rfl,trivial⟩ ?_
 refine G2 ?_;refine G2 ?_;refine WL.call (vs:=[_,_,_]) rfl Tryz.call62 rfl (j6 l (R.length:Int) 2 CW (FZ (by omega)) hv (by omega)) rfl rfl rfl ?_
 rintro v1 h1 ⟨jM,az,ik⟩
 refine Go ?_;refine Gs [(0,_),(1,_)] ?_;refine G3 ?_;refine WC.block ?_;refine WC.bD (X:=Nat × Value) (fun x=>([(5,In (x.1:Int)),(0,x.2)]:Fr)) [(1,_)] (fun y h'=>y.1≤R.length∧Own h' y.2 5 1 (l++be (R.length:Int) 2++(R.take y.1).flatMap cE).length (bA (l++be (R.length:Int) 2++(R.take y.1).flatMap cE))∧Ext No h h'∧∀ q,y.2.ownBlock=some q→h.size≤q) (fun y=>R.length - y.1) ((0,v1)) ⟨rfl,rfl,rfl,trivial⟩ (by exact ⟨Nat.zero_le _,by simpa using jM,az,ik⟩) ?_
 rintro ⟨k,u⟩ h2 ⟨hk,dc,aI,eI⟩
 dsimp only at hk dc eI
 refine WC.sub [(0,_),(5,_),(1,_)] ⟨rfl,rfl,rfl,trivial⟩ ?_
 dsimp only
 refine G3 ?_
 refine aH 1 2 (Hb.mk fun hb=>?_) (Hb.mk fun hb=>?_)
 all_goals try (
 refine aw 1 ?_
 refine WC.skip ?_
 skip)
 all_goals try (
 refine aw 2 ?_
 refine WC.exit ?_
 repeat' (with_reducible first | refine aU ?_ | refine aD rfl ?_ | refine aJ ?_ | refine aL ?_ | refine aS ?_)
 refine Br.out (i:=1000) ?_
 skip)
 all_goals (refine Gn ?_;first | refine Br.ab ?_ | refine Gs [(0,_),(1,_),(5,_)] ?_)
 all_goals (first | refine Br.ab ?_ | refine WC.seq ?_)
 all_goals (first | refine Br.ab ?_ | refine WC.block ?_)
 all_goals (first | refine Br.ab ?_ | refine WC.sr ?_)
 all_goals (
  first
    | (refine Br.ab ?_)
    | (obtain ⟨bL,oL,hA,hbL,hat⟩:=Rd.at_ (hr.aq aI) (by omega)
       obtain ⟨⟨yn,yv,yb⟩,hy⟩:∃ y,R[k]?=some y:=⟨_,List.getElem?_eq_getElem (by omega)⟩
       have hyo:=(hok _ (List.mem_of_getElem? hy)).1
       have hyc:=hc _ (List.mem_of_getElem? hy)
       dsimp only at hyo hyc
       obtain ⟨yA,yc,rfl,_⟩:=id hyo
       have hcd:At h2 bL (oL+k * 2) [.bool yn,.slice yA yb.length yc]:=At.elem aX.len hat hy
       have hlk:=hfl k
       have kO:(l++be (R.length:Int) 2++(R.take k).flatMap cE).length≤2000000:=by simp only [List.length_append,bn];omega
       have Nv:=aI.size
       have Bm:(l++be (R.length:Int) 2++(R.take k).flatMap cE++be (yb.length:Int) 4).length≤3000000:=by rw [List.length_append,bn];omega
       cases yn))
 all_goals (first | refine Br.ab ?_ | refine WL.step (ak rfl) rfl rfl rfl ?_)
 all_goals (refine Go ?_;first | refine Br.ab ?_ | (refine WL.step (aE Tryz.underlying40 Tryz.sizeOf85 rfl rfl rfl (by omega) (by first | rfl | assumption)) rfl rfl rfl ?_))
 all_goals (refine Go ?_;first | refine Br.ab ?_ | (refine WL.ld rfl (by first | exact hcd.get 0 rfl rfl | assumption) rfl rfl rfl ?_))
 all_goals (refine Gn ?_;first | refine Br.ab ?_ | refine Gs [(0,_),(1,_),(5,_),(20,_)] ?_)
 all_goals (first | refine Br.ab ?_ | refine aH 3 4 ?_ TT.mk)
 all_goals try (
 refine aw 3 ?_
 refine WC.region (Go ?_);refine WL.call (vs:=[_,_,_]) rfl Tryz.call62 rfl (j6 _ (-1) 4 CX (vV (by omega)) dc.rd (by omega)) rfl rfl rfl ?_
 rintro v5 h5 ⟨eF,aM,fO⟩
 have nR:=aI.trans aM
 have LN:∀ q,v5.ownBlock=some q→h.size≤q:=fun q e=>by have:=fO q e;omega
 have LO:Own h5 v5 5 1 (l++be (R.length:Int) 2++(R.take (k+1)).flatMap cE).length (bA (l++be (R.length:Int) 2++(R.take (k+1)).flatMap cE)):=by rw [jJ hy,show cE ⟨true,.slice yA yb.length yc,yb⟩=be 4294967295 4 from rfl,← Av,← List.append_assoc];exact eF
 refine Go ?_
 skip)
 all_goals try (
 refine aw 4 ?_
 refine WC.bW (fun h'=>Ext No h2 h') 14 15 rfl dm ?_
 refine WH.tk 0 rfl (fun hq hC=>ak rfl) rfl rfl rfl ?_
 refine WH.tk 1 rfl (fun hq hC=>ak rfl) rfl rfl rfl ?_
 refine WH.tk 2 rfl (fun hq hC=>ak rfl) rfl rfl rfl ?_
 refine WH.tk 3 rfl (fun hq hC=>aE Tryz.underlying40 Tryz.sizeOf85 rfl rfl rfl (by omega) (by first | rfl | assumption)) rfl rfl rfl ?_
 refine WH.tk 4 rfl (fun hq hC=>ad rfl Tryz.underlying85 rfl Tryz.sizeOf23) rfl rfl rfl ?_
 refine WH.tk 5 rfl (fun hq hC=>aA Tryz.isAgg23 rfl (by first | exact hC.cell (by first | exact hcd.get 1 rfl rfl | assumption) aO)) rfl rfl rfl ?_
 refine WH.tk 6 rfl (fun hq hC=>cq rfl Tryz.underlying23 rfl) rfl rfl rfl ?_
 refine WH.tk 8 rfl (fun hq hC=>ak rfl) rfl rfl rfl ?_
 refine WH.tk 9 rfl (fun hq hC=>ak rfl) rfl rfl rfl ?_
 refine WH.tk 10 rfl (fun hq hC=>aE Tryz.underlying40 Tryz.sizeOf85 rfl rfl rfl (by omega) (by first | rfl | assumption)) rfl rfl rfl ?_
 refine WH.tk 11 rfl (fun hq hC=>ad rfl Tryz.underlying85 rfl Tryz.sizeOf23) rfl rfl rfl ?_
 refine WH.tk 12 rfl (fun hq hC=>aA Tryz.isAgg23 rfl (by first | exact hC.cell (by first | exact hcd.get 1 rfl rfl | assumption) aO)) rfl rfl rfl ?_
 refine WH.one 7 (by kernel_rfl) ?_
 refine aC.call (vs:=[_,_,_]) rfl rfl Tryz.call62 rfl (j6 _ (yb.length:Int) 4 CX (vV (by omega)) dc.rd (by omega)) rfl rfl rfl ?_ (fun _=>by kernel_rfl)
 rintro v4 h4 ⟨fP,aW,r8⟩
 refine ⟨fun _=>aW,?_⟩
 refine WH.one 13 (by kernel_rfl) ?_
 refine aC.run rfl (aT (sz:=1) (bytes:=1) rfl Tryz.underlying23 (show Tryz.prog.info? 5=some Tryz.t5 by kernel_rfl) rfl rfl rfl rfl (by decide) rfl rfl fP ((hyo.aq aI).aq aW) (by intro c hc;obtain ⟨b,_,rfl⟩:=List.mem_map.1 hc;rfl) (by simp only [maxLen];omega) (by omega)) rfl rfl rfl ?_ (fun _=>by kernel_rfl)
 rintro v5 h5 ⟨eF,aM,Bm⟩
 refine ⟨fun _=>aW.trans' aM (fun q hq e=>by have:=r8 q e;omega),?_⟩
 have DF:Ext No h2 h5:=aW.trans' aM (fun q hq e=>by have:=r8 q e;omega)
 have nR:=aI.trans DF
 have LN:∀ q,v5.ownBlock=some q→h.size≤q:=fun q e=>Bm.elim (fun z=>by have:=r8 q (z▸e);omega) (fun z=>by rw [z] at e;cases e;have:=aW.size;omega)
 have LO:Own h5 v5 5 1 (l++be (R.length:Int) 2++(R.take (k+1)).flatMap cE).length (bA (l++be (R.length:Int) 2++(R.take (k+1)).flatMap cE)):=by rw [jJ hy,show cE ⟨false,.slice yA yb.length yc,yb⟩=be yb.length 4++yb from rfl,← List.append_assoc,← List.append_assoc,List.length_append (bs:=yb),show ∀ m:List UInt8,bA (m++yb)=bA m++bA yb from fun m=>List.map_append ..];exact eF
 refine WH.one 14 (by kernel_rfl) ?_
 refine aC.run rfl (bN.r (aP rfl)) rfl rfl rfl ?_ (fun _=>by kernel_rfl)
 rintro _ hz ⟨rfl,_⟩
 subst hz
 refine ⟨fun _=>aW.trans' aM (fun q hq e=>by have:=r8 q e;omega),?_⟩
 refine WH.done (by kernel_rfl) ?_
 skip)
 all_goals (refine Gn ?_;first | refine Br.ab ?_ | refine WC.region ?_)
 all_goals (refine Go ?_;first | refine Br.ab ?_ | (exact ⟨(k+1,_),⟨rfl,rfl,rfl,trivial⟩,(by exact ⟨by omega,LO,nR,LN⟩),(by simp;omega)⟩))
 try (refine Br.mk (i:=1000) ?_)
 refine Gn ?_;refine Gs [(0,_)] ?_;refine G2 ?_;refine Gt ?_
 rw [List.take_of_length_le (by omega)] at dc
 exact ⟨dc,aI,eI⟩
def K6 (k : Int) : Prop := k = 66 ∨ k = 67 ∨ k = 68 ∨ k = 69 ∨ k = 72 ∨ k = 80 ∨ k = 81 ∨ k = 83 ∨ k = 88
theorem CZ {h : ah} (k : Int) : ag Tryz.prog 107 ⟨[.int .u8 k]⟩ h fun u h' => (∃ x, u = In x ∧ (x = 1 ↔ K6 k)) ∧ h' = h := by
 unfold K6
 refine calls [(0, _)] Tryz.func107 rfl Tryz.ntmps107 rfl ⟨rfl, trivial⟩ ?_
 refine G2 ?_; refine G3 ?_; refine WC.block ?_; refine G3 ?_
 refine aH 1 2 (Hb.mk fun hb => ?_) (Hb.mk fun hb => ?_)
 all_goals try (
 refine aw 1 ?_
 refine WC.skip ?_
 skip)
 all_goals try (
 refine aw 2 ?_
 refine G2 ?_; refine Gs [(3, _), (4, _)] ?_
 refine aH 3 4 (Hb.mk fun hb => ?_) (Hb.mk fun hb => ?_)
 all_goals try (
 refine aw 3 ?_
 refine WC.skip ?_
 skip)
 all_goals try (
 refine aw 4 ?_
 refine G2 ?_
 refine aH 5 6 (Hb.mk fun hb => ?_) (Hb.mk fun hb => ?_)
 all_goals try (
 refine aw 5 ?_
 refine WC.skip ?_
 skip)
 all_goals try (
 refine aw 6 ?_
 refine G2 ?_
 refine aH 7 8 (Hb.mk fun hb => ?_) (Hb.mk fun hb => ?_)
 all_goals try (
 refine aw 7 ?_
 refine WC.skip ?_
 skip)
 all_goals try (
 refine aw 8 ?_
 refine G2 ?_
 refine aH 9 10 (Hb.mk fun hb => ?_) (Hb.mk fun hb => ?_)
 all_goals try (
 refine aw 9 ?_
 refine WC.skip ?_
 skip)
 all_goals try (
 refine aw 10 ?_
 refine G2 ?_; refine Gs [(3, _), (4, _)] ?_
 refine aH 11 12 (Hb.mk fun hb => ?_) (Hb.mk fun hb => ?_)
 all_goals try (
 refine aw 11 ?_
 refine WC.skip ?_
 skip)
 all_goals try (
 refine aw 12 ?_
 refine G2 ?_
 refine aH 13 14 (Hb.mk fun hb => ?_) (Hb.mk fun hb => ?_)
 all_goals try (
 refine aw 13 ?_
 refine WC.skip ?_
 skip)
 all_goals try (
 refine aw 14 ?_
 refine G2 ?_
 refine aH 15 16 (Hb.mk fun hb => ?_) (Hb.mk fun hb => ?_)
 all_goals try (
 refine aw 15 ?_
 refine WC.skip ?_
 skip)
 all_goals try (
 refine aw 16 ?_
 refine WC.region (Go ?_)
 skip)
 skip)
 skip)
 skip)
 skip)
 skip)
 skip)
 skip)
 all_goals (refine Gn ?_; refine aH 17 18 (Hb.mk fun hb => ?_) (Hb.mk fun hb => ?_))
 all_goals try (
 refine aw 17 ?_
 all_goals (refine G2 ?_; refine Gt ?_; exact ⟨⟨_, rfl, by omega⟩, rfl⟩)
 skip)
 all_goals (refine aw 18 ?_; refine G3 ?_; first | refine aH 19 20 ?_ TT.mk | (refine aH 19 20 (Hb.mk fun hb => ?_) (Hb.mk fun hb => ?_)))
 all_goals try (
 refine aw 19 ?_
 all_goals (refine WC.skip ?_)
 skip)
 all_goals try (
 refine aw 20 ?_
 refine G2 ?_
 refine aH 21 22 (Hb.mk fun hb => ?_) (Hb.mk fun hb => ?_)
 all_goals try (
 refine aw 21 ?_
 refine WC.skip ?_
 skip)
 all_goals try (
 refine aw 22 ?_
 refine G2 ?_; refine Gs [(3, _), (14, _)] ?_
 refine aH 23 24 (Hb.mk fun hb => ?_) (Hb.mk fun hb => ?_)
 all_goals try (
 refine aw 23 ?_
 refine WC.skip ?_
 skip)
 all_goals try (
 refine aw 24 ?_
 refine G2 ?_
 refine aH 25 26 (Hb.mk fun hb => ?_) (Hb.mk fun hb => ?_)
 all_goals try (
 refine aw 25 ?_
 refine WC.skip ?_
 skip)
 all_goals try (
 refine aw 26 ?_
 refine WC.region (Go ?_)
 skip)
 skip)
 skip)
 skip)
 all_goals (refine Gn ?_; first | refine aH 27 28 ?_ TT.mk | (refine aH 27 28 (Hb.mk fun hb => ?_) (Hb.mk fun hb => ?_)))
 all_goals try (
 refine aw 27 ?_
 all_goals (refine G2 ?_; refine Gt ?_; exact ⟨⟨_, rfl, by omega⟩, rfl⟩)
 skip)
 all_goals (refine aw 28 ?_; refine WC.skip ?_; refine Gn ?_; refine G2 ?_; refine Gt ?_; exact ⟨⟨_, rfl, by omega⟩, rfl⟩)
def zF (k : Int) : Fm := ⟨k, 0, [], [], [], .slice none 0 0, [], .slice none 0 0, [], .slice none 0 0, [], .slice none 0 0, [], 0⟩
def dA (f : Fm) : Fm :=
 if f.kind = 80 then { zF f.kind with name := f.name, text := f.text, vo := f.vo, oids := f.oids }
 else if f.kind = 66 then { zF f.kind with portal := f.portal, name := f.name, vf := f.vf, formats := f.formats, vs := f.vs, results := f.results, vp := f.vp, params := f.params }
 else if f.kind = 67 ∨ f.kind = 68 then (if f.what = 83 then { zF f.kind with what := f.what, name := f.name } else { zF f.kind with what := f.what, portal := f.portal })
 else if f.kind = 69 then { zF f.kind with portal := f.portal, max := f.max }
 else if f.kind = 81 then { zF f.kind with text := f.text }
 else zF f.kind
theorem sH {h : ah} {f : Fm} (k : f.ok h) : (dA f).ok h := by
 obtain ⟨k1, k2, k3, k4⟩ := k
 have z : ∀ x, (zF x).ok h := fun x => ⟨⟨Rd.nil _ _, by simp [zF]⟩, ⟨Rd.nil _ _, by simp [zF]⟩, ⟨Rd.nil _ _, by simp [zF]⟩, fX _⟩
 obtain ⟨z1, z2, z3, z4⟩ := z f.kind
 unfold dA
 repeat' split
 · exact ⟨k1, z2, z3, z4⟩
 · exact ⟨z1, k2, k3, k4⟩
 · exact ⟨z1, z2, z3, z4⟩
 · exact ⟨z1, z2, z3, z4⟩
 · exact ⟨z1, z2, z3, z4⟩
 · exact ⟨z1, z2, z3, z4⟩
 · exact ⟨z1, z2, z3, z4⟩
theorem F1 {h : ah} (f : Fm) (hf : f.ok h) : ag Tryz.prog 111 ⟨[.agg ⟨f.cells⟩]⟩ h fun u h' => u = .agg ⟨(dA f).cells⟩ ∧ Ext No h h' := by
 obtain ⟨⟨e1, _⟩, ⟨e2, _⟩, ⟨e3, _⟩, e4, _⟩ := hf
 obtain ⟨fk, w, n, p, t, vo, o, vf, fs, vs, rs, vp, ps, mx⟩ := f
 dsimp only at e1 e2 e3 e4
 obtain ⟨_, _, rfl, _⟩ := e1
 obtain ⟨_, _, rfl, _⟩ := e2
 obtain ⟨_, _, rfl, _⟩ := e3
 obtain ⟨_, _, rfl, _⟩ := e4
 dsimp only [Fm.cells]
 refine calls [(0, _)] Tryz.func111 rfl Tryz.ntmps111 rfl ⟨rfl, trivial⟩ ?_
 refine WC.sr ?_; refine WL.aj (aG rfl) rfl rfl rfl ?_
 rintro _ h1 ⟨b1, rfl, bR, aR, az⟩
 refine WL.aj (an (fun w => Tryz.zeroValue42 w)) rfl rfl rfl ?_
 rintro _ h2 ⟨b2, rfl, gg, bH, aI⟩
 have rC := aI.obj aR aO
 refine Gn ?_; refine G2 ?_; refine Ld ?_; refine WL.step (aF (vs := [_]) (cs := [_, _, _, _, _, _, _, _, _, _]) (fun | [a0] => [a0, (.int .u8 0), (St []), (St []), (St []), (.slice none 0 0), (.slice none 0 0), (.slice none 0 0), (.slice none 0 0), (.int .i64 0)] | _ => []) rfl rfl (by kernel_rfl)) rfl rfl rfl ?_
 refine WL.aj (an (fun w => Tryz.zeroValue42 w)) rfl rfl rfl ?_
 rintro _ h3 ⟨b3, rfl, gl, bq, aQ⟩
 have yl := aQ.obj rC aO
 have ym := aQ.obj bH aO
 have gr : ¬ b1 = b3 := by have := ai rC; omega
 have kR : ¬ b2 = b3 := by have := ai bH; omega
 refine WL.ax (al Tryz.sizeOf42 rfl rfl rfl (by assumption) rfl (by simp [Value.oneCell'])) rfl rfl ?_
 rintro _ h4 ⟨bC, aW⟩
 have ew := aW.obj yl gr
 have eP := aW.obj ym kR
 have oH : Ext No h h4 := ((az.trans aI).trans aQ).trans' aW (fun q hq e => by have := az.size; have := aI.size; omega)
 refine Gn ?_; refine Gs [(1, _), (2, _), (3, _)] ?_; refine G3 ?_; refine Ld ?_; refine Gn ?_; refine WC.block ?_; refine G2 ?_
 refine aH 1 2 (Hb.mk fun hb => ?_) (Hb.mk fun hb => ?_)
 all_goals try (
 refine aw 1 ?_
 refine WC.bW (fun h' => Ext (fun q => q = b3) h4 h') 11 12 rfl dm ?_
 refine WH.tk 0 rfl (fun hq hC => ad rfl Tryz.underlying42 rfl Tryz.sizeOf9) rfl rfl rfl ?_ (hC := (by first | exact Ext.refl _ _ | assumption | exact aM.trans aN | exact (aM.trans aN).trans ba))
 refine WH.tk 1 rfl (fun hq hC => aA Tryz.isAgg9 rfl (by first | exact hC.cell (by first | exact aa ew rfl | assumption) gr)) rfl rfl rfl ?_ (hC := (by first | exact Ext.refl _ _ | assumption | exact aM.trans aN | exact (aM.trans aN).trans ba))
 refine WH.tk 2 rfl (fun hq hC => ad rfl Tryz.underlying42 rfl Tryz.sizeOf9) rfl rfl rfl ?_ (hC := (by first | exact Ext.refl _ _ | assumption | exact aM.trans aN | exact (aM.trans aN).trans ba))
 refine WH.tk 3 rfl (fun hq hC => aA Tryz.isAgg9 rfl (by first | exact hC.cell (by first | exact aa ew rfl | assumption) gr)) rfl rfl rfl ?_ (hC := (by first | exact Ext.refl _ _ | assumption | exact aM.trans aN | exact (aM.trans aN).trans ba))
 refine WH.tk 4 rfl (fun hq hC => ad rfl Tryz.underlying42 rfl Tryz.sizeOf39) rfl rfl rfl ?_ (hC := (by first | exact Ext.refl _ _ | assumption | exact aM.trans aN | exact (aM.trans aN).trans ba))
 refine WH.tk 5 rfl (fun hq hC => aA Tryz.isAgg39 rfl (by first | exact hC.cell (by first | exact aa ew rfl | assumption) gr)) rfl rfl rfl ?_ (hC := (by first | exact Ext.refl _ _ | assumption | exact aM.trans aN | exact (aM.trans aN).trans ba))
 refine WH.tk 6 rfl (fun hq hC => ad rfl Tryz.underlying42 rfl Tryz.sizeOf9) rfl rfl rfl ?_ (hC := (by first | exact Ext.refl _ _ | assumption | exact aM.trans aN | exact (aM.trans aN).trans ba))
 refine WH.one 7 (by kernel_rfl) ?_
 refine aC.cO rfl (aB Tryz.sizeOf9 rfl rfl (by assumption) (Nat.le_of_ble_eq_true rfl) rfl rfl) rfl rfl ?_ (fun _ => by kernel_rfl)
 rintro _ h5 ⟨bV, aM⟩
 refine ⟨fun _ => aM, ?_⟩
 refine WH.tk 8 rfl (fun hq hC => ad rfl Tryz.underlying42 rfl Tryz.sizeOf9) rfl rfl rfl ?_ (hC := (by first | exact Ext.refl _ _ | assumption | exact aM.trans aN | exact (aM.trans aN).trans ba))
 refine WH.one 9 (by kernel_rfl) ?_
 refine aC.cO rfl (aB Tryz.sizeOf9 rfl rfl (by assumption) (Nat.le_of_ble_eq_true rfl) rfl rfl) rfl rfl ?_ (fun _ => by kernel_rfl)
 rintro _ h6 ⟨bX, aN⟩
 refine ⟨fun _ => aM.trans aN, ?_⟩
 refine WH.tk 10 rfl (fun hq hC => ad rfl Tryz.underlying42 rfl Tryz.sizeOf39) rfl rfl rfl ?_ (hC := (by first | exact Ext.refl _ _ | assumption | exact aM.trans aN | exact (aM.trans aN).trans ba))
 refine WH.one 11 (by kernel_rfl) ?_
 refine aC.cO rfl (aB Tryz.sizeOf39 rfl rfl (by assumption) (Nat.le_of_ble_eq_true rfl) rfl rfl) rfl rfl ?_ (fun _ => by kernel_rfl)
 rintro _ h7 ⟨ca, ba⟩
 refine ⟨fun _ => (aM.trans aN).trans ba, ?_⟩
 have hE := (aM.trans aN).trans ba
 have fi := hE.obj eP kR
 have hbL := ca
 refine WH.done (by kernel_rfl) ?_
 skip)
 all_goals try (
 refine aw 2 ?_
 refine G2 ?_; refine Gs [(1, _), (2, _), (3, _), (8, _), (20, _)] ?_
 refine aH 3 4 (Hb.mk fun hb => ?_) (Hb.mk fun hb => ?_)
 all_goals try (
 refine aw 3 ?_
 refine WC.bW (fun h' => Ext (fun q => q = b3) h4 h') 19 20 rfl dm ?_
 refine WH.tk 0 rfl (fun hq hC => ad rfl Tryz.underlying42 rfl Tryz.sizeOf9) rfl rfl rfl ?_ (hC := (by first | exact Ext.refl _ _ | assumption | exact aM.trans aN | exact (aM.trans aN).trans ba | exact ((aM.trans aN).trans ba).trans bz | exact (((aM.trans aN).trans ba).trans bz).trans bZ))
 refine WH.tk 1 rfl (fun hq hC => aA Tryz.isAgg9 rfl (by first | exact hC.cell (by first | exact aa ew rfl | assumption) gr)) rfl rfl rfl ?_ (hC := (by first | exact Ext.refl _ _ | assumption | exact aM.trans aN | exact (aM.trans aN).trans ba | exact ((aM.trans aN).trans ba).trans bz | exact (((aM.trans aN).trans ba).trans bz).trans bZ))
 refine WH.tk 2 rfl (fun hq hC => ad rfl Tryz.underlying42 rfl Tryz.sizeOf9) rfl rfl rfl ?_ (hC := (by first | exact Ext.refl _ _ | assumption | exact aM.trans aN | exact (aM.trans aN).trans ba | exact ((aM.trans aN).trans ba).trans bz | exact (((aM.trans aN).trans ba).trans bz).trans bZ))
 refine WH.tk 3 rfl (fun hq hC => aA Tryz.isAgg9 rfl (by first | exact hC.cell (by first | exact aa ew rfl | assumption) gr)) rfl rfl rfl ?_ (hC := (by first | exact Ext.refl _ _ | assumption | exact aM.trans aN | exact (aM.trans aN).trans ba | exact ((aM.trans aN).trans ba).trans bz | exact (((aM.trans aN).trans ba).trans bz).trans bZ))
 refine WH.tk 4 rfl (fun hq hC => ad rfl Tryz.underlying42 rfl Tryz.sizeOf39) rfl rfl rfl ?_ (hC := (by first | exact Ext.refl _ _ | assumption | exact aM.trans aN | exact (aM.trans aN).trans ba | exact ((aM.trans aN).trans ba).trans bz | exact (((aM.trans aN).trans ba).trans bz).trans bZ))
 refine WH.tk 5 rfl (fun hq hC => aA Tryz.isAgg39 rfl (by first | exact hC.cell (by first | exact aa ew rfl | assumption) gr)) rfl rfl rfl ?_ (hC := (by first | exact Ext.refl _ _ | assumption | exact aM.trans aN | exact (aM.trans aN).trans ba | exact ((aM.trans aN).trans ba).trans bz | exact (((aM.trans aN).trans ba).trans bz).trans bZ))
 refine WH.tk 6 rfl (fun hq hC => ad rfl Tryz.underlying42 rfl Tryz.sizeOf40) rfl rfl rfl ?_ (hC := (by first | exact Ext.refl _ _ | assumption | exact aM.trans aN | exact (aM.trans aN).trans ba | exact ((aM.trans aN).trans ba).trans bz | exact (((aM.trans aN).trans ba).trans bz).trans bZ))
 refine WH.tk 7 rfl (fun hq hC => aA Tryz.isAgg40 rfl (by first | exact hC.cell (by first | exact aa ew rfl | assumption) gr)) rfl rfl rfl ?_ (hC := (by first | exact Ext.refl _ _ | assumption | exact aM.trans aN | exact (aM.trans aN).trans ba | exact ((aM.trans aN).trans ba).trans bz | exact (((aM.trans aN).trans ba).trans bz).trans bZ))
 refine WH.tk 8 rfl (fun hq hC => ad rfl Tryz.underlying42 rfl Tryz.sizeOf39) rfl rfl rfl ?_ (hC := (by first | exact Ext.refl _ _ | assumption | exact aM.trans aN | exact (aM.trans aN).trans ba | exact ((aM.trans aN).trans ba).trans bz | exact (((aM.trans aN).trans ba).trans bz).trans bZ))
 refine WH.tk 9 rfl (fun hq hC => aA Tryz.isAgg39 rfl (by first | exact hC.cell (by first | exact aa ew rfl | assumption) gr)) rfl rfl rfl ?_ (hC := (by first | exact Ext.refl _ _ | assumption | exact aM.trans aN | exact (aM.trans aN).trans ba | exact ((aM.trans aN).trans ba).trans bz | exact (((aM.trans aN).trans ba).trans bz).trans bZ))
 refine WH.tk 10 rfl (fun hq hC => ad rfl Tryz.underlying42 rfl Tryz.sizeOf9) rfl rfl rfl ?_ (hC := (by first | exact Ext.refl _ _ | assumption | exact aM.trans aN | exact (aM.trans aN).trans ba | exact ((aM.trans aN).trans ba).trans bz | exact (((aM.trans aN).trans ba).trans bz).trans bZ))
 refine WH.one 11 (by kernel_rfl) ?_
 refine aC.cO rfl (aB Tryz.sizeOf9 rfl rfl (by assumption) (Nat.le_of_ble_eq_true rfl) rfl rfl) rfl rfl ?_ (fun _ => by kernel_rfl)
 rintro _ h5 ⟨bV, aM⟩
 refine ⟨fun _ => aM, ?_⟩
 refine WH.tk 12 rfl (fun hq hC => ad rfl Tryz.underlying42 rfl Tryz.sizeOf9) rfl rfl rfl ?_ (hC := (by first | exact Ext.refl _ _ | assumption | exact aM.trans aN | exact (aM.trans aN).trans ba | exact ((aM.trans aN).trans ba).trans bz | exact (((aM.trans aN).trans ba).trans bz).trans bZ))
 refine WH.one 13 (by kernel_rfl) ?_
 refine aC.cO rfl (aB Tryz.sizeOf9 rfl rfl (by assumption) (Nat.le_of_ble_eq_true rfl) rfl rfl) rfl rfl ?_ (fun _ => by kernel_rfl)
 rintro _ h6 ⟨bX, aN⟩
 refine ⟨fun _ => aM.trans aN, ?_⟩
 refine WH.tk 14 rfl (fun hq hC => ad rfl Tryz.underlying42 rfl Tryz.sizeOf39) rfl rfl rfl ?_ (hC := (by first | exact Ext.refl _ _ | assumption | exact aM.trans aN | exact (aM.trans aN).trans ba | exact ((aM.trans aN).trans ba).trans bz | exact (((aM.trans aN).trans ba).trans bz).trans bZ))
 refine WH.one 15 (by kernel_rfl) ?_
 refine aC.cO rfl (aB Tryz.sizeOf39 rfl rfl (by assumption) (Nat.le_of_ble_eq_true rfl) rfl rfl) rfl rfl ?_ (fun _ => by kernel_rfl)
 rintro _ h7 ⟨ca, ba⟩
 refine ⟨fun _ => (aM.trans aN).trans ba, ?_⟩
 refine WH.tk 16 rfl (fun hq hC => ad rfl Tryz.underlying42 rfl Tryz.sizeOf40) rfl rfl rfl ?_ (hC := (by first | exact Ext.refl _ _ | assumption | exact aM.trans aN | exact (aM.trans aN).trans ba | exact ((aM.trans aN).trans ba).trans bz | exact (((aM.trans aN).trans ba).trans bz).trans bZ))
 refine WH.one 17 (by kernel_rfl) ?_
 refine aC.cO rfl (aB Tryz.sizeOf40 rfl rfl (by assumption) (Nat.le_of_ble_eq_true rfl) rfl rfl) rfl rfl ?_ (fun _ => by kernel_rfl)
 rintro _ h8 ⟨bE, bz⟩
 refine ⟨fun _ => ((aM.trans aN).trans ba).trans bz, ?_⟩
 refine WH.tk 18 rfl (fun hq hC => ad rfl Tryz.underlying42 rfl Tryz.sizeOf39) rfl rfl rfl ?_ (hC := (by first | exact Ext.refl _ _ | assumption | exact aM.trans aN | exact (aM.trans aN).trans ba | exact ((aM.trans aN).trans ba).trans bz | exact (((aM.trans aN).trans ba).trans bz).trans bZ))
 refine WH.one 19 (by kernel_rfl) ?_
 refine aC.cO rfl (aB Tryz.sizeOf39 rfl rfl (by assumption) (Nat.le_of_ble_eq_true rfl) rfl rfl) rfl rfl ?_ (fun _ => by kernel_rfl)
 rintro _ h9 ⟨bY, bZ⟩
 refine ⟨fun _ => (((aM.trans aN).trans ba).trans bz).trans bZ, ?_⟩
 have hE := (((aM.trans aN).trans ba).trans bz).trans bZ
 have fi := hE.obj eP kR
 have hbL := bY
 refine WH.done (by kernel_rfl) ?_
 skip)
 all_goals try (
 refine aw 4 ?_
 refine G3 ?_
 refine aH 5 6 (Hb.mk fun hb => ?_) (Hb.mk fun hb => ?_)
 all_goals try (
 refine aw 5 ?_
 refine WC.skip ?_
 skip)
 all_goals try (
 refine aw 6 ?_
 refine WC.region (Go ?_)
 skip)
 all_goals (refine Gn ?_; refine aH 7 8 (Hb.mk fun hb => ?_) (Hb.mk fun hb => ?_))
 all_goals try (
 refine aw 7 ?_
 all_goals (refine G2 ?_; refine Ld ?_; refine Go ?_; refine WL.ax (aB Tryz.sizeOf5 rfl rfl (by assumption) (Nat.le_of_ble_eq_true rfl) rfl rfl) rfl rfl ?_; rintro _ h5 ⟨bV, aM⟩; have uN := aM.obj ew gr; refine Gn ?_; refine Gs [(1, _), (2, _), (3, _)] ?_; refine G2 ?_; refine WL.ld rfl (by first | exact aa uN rfl | assumption) rfl rfl rfl (Go ?_); refine aH 9 10 (Hb.mk fun hb => ?_) (Hb.mk fun hb => ?_))
 all_goals try (
 refine aw 9 ?_
 all_goals (refine WC.region (Go ?_); refine WL.ld rfl (by first | exact aa uN rfl | assumption) rfl rfl rfl (Go ?_); refine WL.ax (aB Tryz.sizeOf9 rfl rfl (by assumption) (Nat.le_of_ble_eq_true rfl) rfl rfl) rfl rfl ?_; rintro _ h6 ⟨bX, aN⟩; have hE := aM.trans aN; have fi := hE.obj eP kR; have hbL := bX; refine Gn ?_)
 skip)
 all_goals try (
 refine aw 10 ?_
 all_goals (refine WC.region (Go ?_); refine WL.ld rfl (by first | exact aa uN rfl | assumption) rfl rfl rfl (Go ?_); refine WL.ax (aB Tryz.sizeOf9 rfl rfl (by assumption) (Nat.le_of_ble_eq_true rfl) rfl rfl) rfl rfl ?_; rintro _ h6 ⟨bX, aN⟩; have hE := aM.trans aN; have fi := hE.obj eP kR; have hbL := bX; refine Gn ?_)
 skip)
 skip)
 all_goals try (
 refine aw 8 ?_
 all_goals (refine G2 ?_; refine Gs [(1, _), (2, _), (3, _), (8, _), (52, _)] ?_; first | refine aH 11 12 ?_ TT.mk | (refine aH 11 12 (Hb.mk fun hb => ?_) (Hb.mk fun hb => ?_)))
 all_goals try (
 refine aw 11 ?_
 all_goals (refine WC.bW (fun h' => Ext (fun q => q = b3) h4 h') 7 8 rfl dm ?_; refine WH.tk 0 rfl (fun hq hC => ad rfl Tryz.underlying42 rfl Tryz.sizeOf9) rfl rfl rfl ?_ (hC := (by first | exact Ext.refl _ _ | assumption | exact aM.trans aN)); refine WH.tk 1 rfl (fun hq hC => aA Tryz.isAgg9 rfl (by first | exact hC.cell (by first | exact aa ew rfl | assumption) gr)) rfl rfl rfl ?_ (hC := (by first | exact Ext.refl _ _ | assumption | exact aM.trans aN)); refine WH.tk 2 rfl (fun hq hC => ad rfl Tryz.underlying42 rfl Tryz.sizeOf3) rfl rfl rfl ?_ (hC := (by first | exact Ext.refl _ _ | assumption | exact aM.trans aN)); refine WH.tk 3 rfl (fun hq hC => aA Tryz.isAgg3 rfl (by first | exact hC.cell (by first | exact aa ew rfl | assumption) gr)) rfl rfl rfl ?_ (hC := (by first | exact Ext.refl _ _ | assumption | exact aM.trans aN)); refine WH.tk 4 rfl (fun hq hC => ad rfl Tryz.underlying42 rfl Tryz.sizeOf9) rfl rfl rfl ?_ (hC := (by first | exact Ext.refl _ _ | assumption | exact aM.trans aN)); refine WH.one 5 (by kernel_rfl) ?_; refine aC.cO rfl (aB Tryz.sizeOf9 rfl rfl (by assumption) (Nat.le_of_ble_eq_true rfl) rfl rfl) rfl rfl ?_ (fun _ => by kernel_rfl); rintro _ h5 ⟨bV, aM⟩; refine ⟨fun _ => aM, ?_⟩; refine WH.tk 6 rfl (fun hq hC => ad rfl Tryz.underlying42 rfl Tryz.sizeOf3) rfl rfl rfl ?_ (hC := (by first | exact Ext.refl _ _ | assumption | exact aM.trans aN)); refine WH.one 7 (by kernel_rfl) ?_; refine aC.cO rfl (aB Tryz.sizeOf3 rfl rfl (by assumption) (Nat.le_of_ble_eq_true rfl) rfl rfl) rfl rfl ?_ (fun _ => by kernel_rfl); rintro _ h6 ⟨bX, aN⟩; refine ⟨fun _ => aM.trans aN, ?_⟩; have hE := aM.trans aN; have fi := hE.obj eP kR; have hbL := bX; refine WH.done (by kernel_rfl) ?_)
 skip)
 all_goals try (
 refine aw 12 ?_
 refine G2 ?_
 refine aH 13 14 (Hb.mk fun hb => ?_) (Hb.mk fun hb => ?_)
 all_goals try (
 refine aw 13 ?_
 refine WC.region (Go ?_); refine Ld ?_; refine Go ?_; refine WL.ax (aB Tryz.sizeOf9 rfl rfl (by assumption) (Nat.le_of_ble_eq_true rfl) rfl rfl) rfl rfl ?_
 rintro _ h5 ⟨bV, hE⟩
 have fi := hE.obj eP kR
 have hbL := bV
 refine Gn ?_
 skip)
 all_goals try (
 refine aw 14 ?_
 refine WC.skip ?_
 skip)
 skip)
 skip)
 skip)
 skip)
 all_goals (refine Gn ?_; refine WC.sr ?_; refine WL.step (ay Tryz.isAgg42 Tryz.sizeOf42 rfl rfl (by exact (by first | exact At.av hbL | exact At.av bC))) rfl rfl rfl ?_; refine WL.ax (al Tryz.sizeOf42 rfl rfl rfl (by first | exact fi | exact eP) rfl (by simp [Value.oneCell'])) rfl rfl ?_; rintro _ h9 ⟨bY, bZ⟩; refine Gn ?_; refine WC.ret ?_; repeat' (with_reducible first | refine aZ ?_ | refine aV ?_))
 all_goals (refine cm _ ⟨⟨_, rfl, bB Tryz.isAgg42 Tryz.sizeOf42 (by assumption) rfl⟩, trivial⟩ ?_)
 all_goals (
  have fT := az.size
  have pz := aI.size
  refine ⟨?_, by first | exact (oH.trans' hE (fun q hq e => by omega)).trans' bZ (fun q hq e => by omega) | exact oH.trans' bZ (fun q hq e => by omega)⟩
  first
   | (exfalso; omega)
   | (simp only [dA, if_pos, *]; rfl)
   | (simp [dA, zF, Fm.cells, *]; done))
theorem C0 {h : ah} (a b : Fm) (ha : a.ok h) (hb : b.ok h) :
   ag Tryz.prog 110 ⟨[.agg ⟨a.cells⟩, .agg ⟨b.cells⟩]⟩ h fun u h' => (∃ x, u = .bool x ∧ (x = true ↔ a.pl = b.pl)) ∧ Ext No h h' := by
 obtain ⟨k1, w1, n1, p1, t1, Lm, o1, Ln, f1, LP, r1, Nw, c1, m1⟩ := a
 obtain ⟨k2, w2, n2, p2, t2, Lo, o2, Lp, f2, Nx, r2, GG, c2, m2⟩ := b
 obtain ⟨⟨ao, lo⟩, ⟨af, lf⟩, ⟨as', ls⟩, ap⟩ := ha
 obtain ⟨⟨bo, ko⟩, ⟨bf, kf⟩, ⟨bs', ks⟩, bp⟩ := hb
 simp only at ao af as' ap bo bf bs' bp lo lf ls ko kf ks
 obtain ⟨Ao, co, rfl, _⟩ := id ao
 obtain ⟨Bo, do_, rfl, _⟩ := id bo
 obtain ⟨Af, cf, rfl, _⟩ := id af
 obtain ⟨Bf, df, rfl, _⟩ := id bf
 obtain ⟨As, cs, rfl, _⟩ := id as'
 obtain ⟨Bs, ds, rfl, _⟩ := id bs'
 obtain ⟨_, ⟨_, Ap, cp, rfl, _⟩, _⟩ := id ap
 obtain ⟨_, ⟨_, Bp, dp, rfl, _⟩, _⟩ := id bp
 dsimp only [Fm.cells, Fm.pl]
 have hpc : (k1 = k2 ∧ w1 = w2 ∧ n1 = n2 ∧ p1 = p2 ∧ t1 = t2 ∧ m1 = m2) ∨ k1 ≠ k2 ∨ (k1 = k2 ∧ w1 ≠ w2) ∨ (k1 = k2 ∧ w1 = w2 ∧ n1 ≠ n2) ∨ (k1 = k2 ∧ w1 = w2 ∧ n1 = n2 ∧ p1 ≠ p2) ∨ (k1 = k2 ∧ w1 = w2 ∧ n1 = n2 ∧ p1 = p2 ∧ t1 ≠ t2) ∨ (k1 = k2 ∧ w1 = w2 ∧ n1 = n2 ∧ p1 = p2 ∧ t1 = t2 ∧ m1 ≠ m2) := by
   by_cases e1 : k1 = k2
   · by_cases e2 : w1 = w2
     · by_cases e3 : n1 = n2
       · by_cases e4 : p1 = p2
         · by_cases e5 : t1 = t2
           · by_cases e6 : m1 = m2
             · exact .inl ⟨e1, e2, e3, e4, e5, e6⟩
             · exact .inr (.inr (.inr (.inr (.inr (.inr ⟨e1, e2, e3, e4, e5, e6⟩)))))
           · exact .inr (.inr (.inr (.inr (.inr (.inl ⟨e1, e2, e3, e4, e5⟩)))))
         · exact .inr (.inr (.inr (.inr (.inl ⟨e1, e2, e3, e4⟩))))
       · exact .inr (.inr (.inr (.inl ⟨e1, e2, e3⟩)))
     · exact .inr (.inr (.inl ⟨e1, e2⟩))
   · exact .inr (.inl e1)
 rcases hpc with ⟨rfl, rfl, rfl, rfl, rfl, rfl⟩ | q | ⟨rfl, q⟩ | ⟨rfl, rfl, q⟩ | ⟨rfl, rfl, rfl, q⟩ | ⟨rfl, rfl, rfl, rfl, q⟩ | ⟨rfl, rfl, rfl, rfl, rfl, q⟩
 all_goals
   refine calls [(0, _), (1, _)] Tryz.func110 rfl Tryz.ntmps110 rfl ⟨rfl, rfl, trivial⟩ ?_
   all_goals (refine WC.sr ?_; refine WL.aj (aG rfl) rfl rfl rfl ?_; rintro _ h1 ⟨b1, rfl, bR, aR, az⟩; refine WL.aj (aG rfl) rfl rfl rfl ?_; rintro _ h2 ⟨b2, rfl, gg, bH, aI⟩; have rv := aI.obj aR aO; have hx := az.trans aI; refine Go ?_; refine G2 ?_; refine Ld ?_; refine Go ?_; refine Ld ?_; refine Go ?_; refine bK 11 ?_ TT.mk; refine Gg ?_; first | refine WL.pass rfl rfl rfl ?_ | refine Ld ?_)
   all_goals (refine Gg ?_; first | refine WL.pass rfl rfl rfl ?_ | refine Ld ?_)
   all_goals (refine Gg ?_; refine Go ?_; refine bK 18 ?_ TT.mk; refine Gg ?_; first | refine WL.pass rfl rfl rfl ?_ | refine Ld ?_)
   all_goals (refine Gg ?_; first | refine WL.pass rfl rfl rfl ?_ | refine Ld ?_)
   all_goals (refine Gg ?_; refine Go ?_; refine bK 25 ?_ TT.mk; refine Gg ?_; first | refine WL.pass rfl rfl rfl ?_ | refine Ld ?_)
   all_goals (refine Gg ?_; first | refine WL.pass rfl rfl rfl ?_ | refine Ld ?_)
   all_goals (refine Gg ?_; refine Go ?_; refine bK 32 ?_ TT.mk; refine Gg ?_; first | refine WL.pass rfl rfl rfl ?_ | refine Ld ?_)
   all_goals (refine Gg ?_; first | refine WL.pass rfl rfl rfl ?_ | refine Ld ?_)
   all_goals (refine Gg ?_; refine Go ?_; refine bK 39 ?_ TT.mk; refine Gg ?_; first | refine WL.pass rfl rfl rfl ?_ | refine Ld ?_)
   all_goals (refine Gg ?_; first | refine WL.pass rfl rfl rfl ?_ | refine Ld ?_)
   all_goals (refine Gg ?_; refine Go ?_; refine Gs [(2, _), (3, _), (5, _)] ?_; refine G2 ?_; refine bK 47 ?_ TT.mk; refine Gg ?_; first | refine WL.pass rfl rfl rfl ?_ | refine Ld ?_)
   all_goals (refine Gg ?_; first | refine WL.pass rfl rfl rfl ?_ | refine Ld ?_)
   all_goals (
    first
      | (refine WL.pass rfl rfl rfl ?_)
      | (refine WL.call (vs := [_, _]) rfl Tryz.call159 rfl ((mU o1 o2 (ao.aq hx) (bo.aq hx) lo ko).dec) rfl rfl rfl ?_
         rintro _ h9 ⟨⟨rfl, q1⟩ | ⟨rfl, q1⟩, lU⟩
         all_goals subst h9))
   all_goals (refine Go ?_; refine bK 54 ?_ TT.mk; refine Gg ?_; first | refine WL.pass rfl rfl rfl ?_ | refine Ld ?_)
   all_goals (refine Gg ?_; first | refine WL.pass rfl rfl rfl ?_ | refine Ld ?_)
   all_goals (
    first
      | (refine WL.pass rfl rfl rfl ?_)
      | (refine WL.call (vs := [_, _]) rfl Tryz.call159 rfl ((mU f1 f2 (af.aq hx) (bf.aq hx) lf kf).dec) rfl rfl rfl ?_
         rintro _ h9 ⟨⟨rfl, q2⟩ | ⟨rfl, q2⟩, lU⟩
         all_goals subst h9))
   all_goals (refine Go ?_; refine bK 61 ?_ TT.mk; refine Gg ?_; first | refine WL.pass rfl rfl rfl ?_ | refine Ld ?_)
   all_goals (refine Gg ?_; first | refine WL.pass rfl rfl rfl ?_ | refine Ld ?_)
   all_goals (
    first
      | (refine WL.pass rfl rfl rfl ?_)
      | (refine WL.call (vs := [_, _]) rfl Tryz.call159 rfl ((mU r1 r2 (as'.aq hx) (bs'.aq hx) ls ks).dec) rfl rfl rfl ?_
         rintro _ h9 ⟨⟨rfl, q3⟩ | ⟨rfl, q3⟩, lU⟩
         all_goals subst h9))
   all_goals (refine Go ?_; refine bK 68 ?_ TT.mk; refine Gg ?_; first | refine WL.pass rfl rfl rfl ?_ | refine Ld ?_)
   all_goals (refine Gg ?_; first | refine WL.pass rfl rfl rfl ?_ | refine Ld ?_)
   all_goals (
    first
      | (refine WL.pass rfl rfl rfl ?_)
      | (refine WL.call (vs := [_, _]) rfl Tryz.call160 rfl ((wF c1 c2 (ap.aq hx) (bp.aq hx)).dec) rfl rfl rfl ?_
         rintro _ h9 ⟨⟨rfl, q4⟩ | ⟨rfl, q4⟩, lU⟩
         all_goals subst h9))
   all_goals (refine Go ?_; refine Gs [(4, _)] ?_; refine Gt ?_; refine ⟨⟨_, rfl, ?_⟩, hx⟩; first | exact ⟨fun _ => (by rw [q1, q2, q3, q4]), fun _ => rfl⟩ | exact ⟨fun z => (by cases z), fun z => by simp only [Prod.mk.injEq] at z; first | exact absurd z.2.2.2.2.2.1 q1 | exact absurd z.2.2.2.2.2.2.1 q2 | exact absurd z.2.2.2.2.2.2.2.1 q3 | exact absurd z.2.2.2.2.2.2.2.2.1 q4 | exact absurd z.1 q | exact absurd z.2.1 q | exact absurd z.2.2.1 q | exact absurd z.2.2.2.1 q | exact absurd z.2.2.2.2.1 q | exact absurd z.2.2.2.2.2.2.2.2.2 q⟩)
end Go.Proofs.YtopgddfgefnmbaaGreatDoor
