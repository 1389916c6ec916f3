/-
  SEVERAL TEXTS IN ONE: Dx18, Dx19, Sx6, Sx7, As30, As31, As32, Dx20, Dx21, Dp1, DigClean, Dp2, EnQ, Qv1, Qv2, Dx22, Dx23, Qv3, Dx24, Qv4, PlF, BkC2, Ck5, Ck6.
-/
import Derived.Test.YtopgddfgefnmbaaGreatDoorPServePieces4
import Derived.WalkKit
import Derived.LaidEql
import Derived.Stop.Asserts
import Derived.RowKitTokens
set_option maxHeartbeats 8000000
set_option maxRecDepth 100000
namespace Go.Proofs.YtopgddfgefnmbaaGreatDoor
open Go Go.RK
section
variable {h h':aj} {A:Ad} {st:Int} {sk ov:Bool} {aY:Int} {L:List (List UInt8 × gX)} {P:List (List UInt8 × eI)}
theorem Cl {b m:Nat} {es:List (List UInt8 × Value)} {v:Value} (name:List UInt8) (hb:h[b]?=some (.cells ⟨[.map (some m)]⟩ 189 (0,0))) (hm:Mp .string St h m es) (hv:dg es name=none) :
   ai Tryz.prog 216 ⟨[.pointer (some ⟨b,0,none⟩),St name,v]⟩ h fun u h'=>u=.bool false∧h'=h:=by
 refine calls [(0,_),(1,_),(2,_)] Tryz.func216 rfl Tryz.ntmps216 rfl ⟨rfl,rfl,rfl,trivial⟩ ?_
 refine G2 ?_;refine G2 ?_;refine WL.call (vs:=[_,_]) rfl Tryz.call256 rfl (qX name hb hm hv) rfl rfl rfl ?_
 rintro _ hz ⟨rfl,_⟩
 subst hz
 refine Go ?_;refine Gs [(2,_),(7,_),(8,_)] ?_;refine G3 ?_
 refine bU 17 ?_ TT.mk
 refine Gg ?_;refine WL.pass rfl rfl rfl ?_;refine Gg ?_;refine WL.pass rfl rfl rfl (Go ?_);refine Gs [(2,_),(7,_),(22,_)] ?_
 refine aJ 1 2 ?_ TT.mk
 aa (refine ay 1 ?_)
 refine G2 ?_;refine Gt ?_
 exact ⟨rfl,rfl⟩
def EA (P:List (List UInt8 × HP)) (n:List UInt8):List (List UInt8 × HP):=match bQ P n with
 | some (t,o,ps,_,dm,ov)=>if dm=true then P else cz P n (t,o,ps,[],true,ov)
 | none=>P
theorem EB (k:Ss h A st sk ov aY L P) (n:List UInt8):ai Tryz.prog 216 ⟨[.pointer (some ⟨A.bp,0,none⟩),St n,nS]⟩ h fun _ h'=>∃ P',Ss h' A st sk ov aY L P'∧gi P'=EA (gi P) n∧Tn A P h h' P'∧Ext (fun q=>∃ cs,h[q]?=some (.cells cs 273 (0,0))) h h':=by
 unfold EA
 rw [gF]
 rcases hg:bQ P n with _ | i
 · refine (Cl n k.se.pb k.se.pm (by rw [cW,hg];rfl)).mono fun u h' ⟨_,e⟩=>?_
   subst e
   exact ⟨P,k,rfl,Tn.no (.refl _ _),.refl _ _⟩
 · rcases hr:i.d.dm
   · refine (F7 k hg [] hr ⟨Rd.nil _ _,⟨by simp,_,_,rfl,by simp [maxLen]⟩,by simp⟩).mono fun u h' ⟨_,P',i',k',e,_,_,t,x⟩=>?_
     exact ⟨P',k',by rw [e];simp only [Option.map_some,PD.pl,hr];rfl,t,x.mono fun q _ e=>⟨_,e▸(k.eJ _ (cm hg)).1⟩⟩
   · refine (DZ (k.pe hg) hr).mono fun u h' ⟨_,e⟩=>?_
     subst e
     exact ⟨P,k,by simp only [Option.map_some,PD.pl,hr,if_true],Tn.no (.refl _ _),.refl _ _⟩
theorem vJ {s s1:SP} {v:gm} {out:List jD} (e:cO s v=(s1,out,none)):s1.P=(if cF v=true then [] else s.P)∧∀ x∈out,x.aU=[]∧x.dt=[]∧x.row=[]∧x.fields=[]:=by
 unfold cO at e
 by_cases e1:v.k=1
 · rw [if_pos e1] at e
   simp only [Prod.mk.injEq] at e
   obtain ⟨rfl,rfl,_⟩:=e
   exact ⟨by rw [if_neg (by simp [cF,e1])],by simp⟩
 · by_cases e2:v.k=8
   · rw [if_neg e1,if_pos e2] at e
     simp at e
   · rw [if_neg e1,if_neg e2] at e
     simp only [Prod.mk.injEq] at e
     obtain ⟨rfl,rfl,_⟩:=e
     exact ⟨rfl,by simp⟩
theorem H3 {B:List Bk} {out:List jD} (e:B.map Bk.p=out) (h:∀ x∈out,x.aU=[]∧x.dt=[]∧x.row=[]∧x.fields=[]):∀ b∈B,∀ q,¬ b.F q:=fun b hb q=>by
 obtain ⟨h1,h2,h3,h4⟩:=h b.p (e▸List.mem_map.2 ⟨b,hb,rfl⟩)
 exact Bk.R6 h1 h2 (List.map_eq_nil_iff.1 h3) h4 q
theorem vK (k:Ss h A st sk ov aY L P) (lm:jJ (cy st sk ov aY L P)) (f:Fm) (hf:f.ok h) (fl:hJ f) {i:eI} (he:hG (cy st sk ov aY L P) f.bm=none) (hi:bQ P f.bm=some i) (hr:gE (bx i.d.text)=false) :
   ai Tryz.prog 149 ⟨[.pointer (some ⟨A.bs,0,none⟩),.agg ⟨f.cells⟩]⟩ h (cx h A P (cu (cy st sk ov aY L P) f.p)):=by
 have zD:bQ (cy st sk ov aY L P).P f.bm=some i.d.pl:=by show bQ (gi P) f.bm=_;rw [gF,hi];rfl
 have nj:=lm.tp _ (cm hi)
 obtain ⟨⟨e1,_⟩,⟨e2,_⟩,⟨e3,_⟩,e4,_⟩:=hf
 obtain ⟨pY,oW,yM,kF,B7,_⟩:=fl
 obtain ⟨fk,w,n,p,t,vo,o,vf,fs,vs,rs,vp,ps,mx⟩:=f
 dsimp only at e1 e2 e3 e4 pY oW yM kF B7 he hi zD nj
 obtain ⟨A1,c1,rfl,_⟩:=e1
 obtain ⟨_,_,rfl,_⟩:=e2
 obtain ⟨_,_,rfl,_⟩:=e3
 obtain ⟨A4,c4,rfl,_⟩:=e4
 dsimp only [Fm.cells,Fm.p]
 have gH : cu (cy st sk ov aY L P) ⟨fk, w, n, p, t, o, ps.map bj.pl, mx⟩ = if i.d.dm = true ∧ (bx i.d.text).k ≠ 1 then (cy st sk ov aY L P, [], some (([53, 53, 48, 48, 48] : List UInt8), ([112, 111, 114, 116, 97, 108, 32, 99, 97, 110, 110, 111, 116, 32, 98, 101, 32, 114, 117, 110] : List UInt8)))
     else match cO (cy st sk ov aY L P) (bx i.d.text) with
       | (s1,out,none)=>({ s1 with P:=if cF (bx i.d.text)=true∨i.d.dm=true then s1.P else cz s1.P p (i.d.text,i.d.aU,i.d.ps.map bj.pl,[],true,i.d.over) },out,none)
       | r=>r:=by
   unfold cu
   dsimp only
   rw [he,zD]
   unfold PD.pl
   dsimp only
   rw [if_neg (by rw [hr];decide)]
   rfl
 rw [gH]
 clear gH
 have kp:=fun h'=>pN (h:=h') i.d.text (by omega)
 have kr:=fun h'=>ll (h:=h') (bx i.d.text)
 have kt:=fun (g:aj) (k:Ss g A st sk ov aY L P)=>(Cd k (bx i.d.text)).mono fun _ _ d=>d.Qe
 rw [hr] at kr
 by_cases hc:i.d.dm=true∧(bx i.d.text).k ≠ 1
 · rw [if_pos hc]
   obtain ⟨lz,Qm⟩:=hc
   unfold gm.cells nb at kp kr kt
   refine calls [(0,_),(1,_)] Tryz.func149 rfl Tryz.ntmps149 rfl ⟨rfl,rfl,trivial⟩ ?_
   refine WC.sr ?_;refine WL.al (aI rfl) rfl rfl rfl ?_
   rintro _ h1 ⟨b3,rfl,b0,aT,aB⟩
   refine Go ?_;refine G2 ?_;refine WL.ld rfl (by first | exact ab aT rfl | assumption) rfl rfl rfl ?_
   refine WL.call (vs:=[_,_]) rfl Tryz.call213 rfl (fh (k.av aB) lm p oW) rfl rfl rfl ?_
   rintro _ h2 ⟨⟨d2,rfl,jv,f2,iR⟩,aK⟩
   rw [he] at iR ⊢
   dsimp only [gh]
   refine Go ?_;refine WL.al (au (fun w=>Tryz.zeroValue273 w)) rfl rfl rfl ?_
   rintro _ h3 ⟨b6,rfl,gN,bC,aS⟩
   refine WL.az (aq Tryz.sizeOf273 rfl rfl rfl bC rfl (fp jv)) rfl rfl ?_
   rintro _ h4 ⟨bN,bh⟩
   have hY:Ext No h1 h4:=aK.trans (aS.trans' bh (fun q hq e=>by omega))
   have X4:=aB.trans hY
   have bT:=hY.obj aT aQ
   obtain ⟨i',oY,lj⟩:=iR rfl
   have B8:=Option.some.inj (hi.symm.trans oY)
   subst B8
   have lK:=jv.ext (aS.trans' (S:=No) bh (fun q hq e=>by omega)) (fun _ _=>aQ)
   have pX:d2.text=i.d.text:=congrArg (·.1) lj
   have Dm:d2.ps.map bj.pl=i.d.ps.map bj.pl:=congrArg (·.2.2.1) lj
   have uw:d2.dm=i.d.dm:=congrArg (·.2.2.2.2.1) lj
   obtain ⟨text,vo,aU,Jq,Mv,vr,Mw,Ex,xj⟩:=d2
   dsimp only at pX Dm uw
   subst pX
   subst uw
   dsimp only [PD.cells] at bN
   obtain ⟨A6,c6,gG,_⟩:=id lK.aU
   have uB:=lK.ps
   obtain ⟨_,⟨_,A7,c7,xk,_⟩,_⟩:=id lK.ps
   obtain ⟨_,⟨_,A8,c8,xl,_⟩,_⟩:=id lK.rs
   dsimp only at gG xk xl uB
   subst gG
   subst xk
   subst xl
   refine Go ?_;refine Gs [(0,_),(3,_),(6,_),(7,_)] ?_;refine G3 ?_;refine WL.step (cU (by kernel_rfl) rfl rfl) rfl rfl rfl ?_
   refine Gn ?_
   refine aJ 1 2 ?_ TT.mk
   aa (refine ay 2 ?_)
   refine WC.skip ?_;refine Gn ?_;refine G2 ?_;refine WL.ld rfl (by first | exact ab bN rfl | assumption) rfl rfl rfl ?_
   refine WL.call (vs:=[_]) rfl Tryz.call214 rfl (kp _) rfl rfl rfl ?_
   rintro _ h5 ⟨rfl,aO⟩
   refine WL.al (au (fun w=>Tryz.zeroValue278 w)) rfl rfl rfl ?_
   rintro _ h6 ⟨b8,rfl,r5,cj,aP⟩
   refine WL.az (aq Tryz.sizeOf278 rfl rfl rfl cj rfl (by simp [Value.oneCell'])) rfl rfl ?_
   rintro _ h7 ⟨cq,bu⟩
   have ow:Ext No h4 h7:=aO.trans (aP.trans' bu (fun q hq e=>by omega))
   refine Gn ?_;refine Gs [(0,_),(3,_),(6,_),(8,_)] ?_;refine WC.seq ?_;refine WC.sr ?_;refine WL.step (aA Tryz.isAgg278 Tryz.sizeOf278 rfl rfl (by exact At.ax cq)) rfl rfl rfl ?_
   refine WL.call (vs:=[_]) rfl Tryz.call215 rfl (kr _) rfl rfl rfl ?_
   rintro _ h8 ⟨rfl,bH⟩
   have kG:=ow.trans bH
   have X8:=X4.trans kG
   have ox:=kG.obj bN aQ
   have ky:=bH.obj cq aQ
   have gl:=kG.obj bT aQ
   have Ci:=uB.av kG
   have k8:=k.av X8
   refine Gn ?_
   refine aJ 3 4 ?_ TT.mk
   aa (refine ay 4 ?_)
   refine WC.skip ?_;refine Gn ?_;refine G3 ?_;refine WL.ld rfl (by first | exact ab ox rfl | assumption) rfl rfl rfl ?_
   rw [lz]
   refine WL.step (an rfl) rfl rfl rfl ?_
   refine bU 58 ?_ TT.mk
   refine Gg ?_;refine WL.ld rfl (by first | exact ab ky rfl | assumption) rfl rfl rfl ?_
   refine Gg ?_;refine Go ?_;refine Gs [(0,_),(3,_),(8,_),(62,_)] ?_
   refine aJ 7 8 ?_ TT.mk
   aa (refine ay 7 ?_)
   refine WC.sr ?_;refine WL.call (vs:=[_,_]) rfl Tryz.call204 rfl (iA _ _) rfl rfl rfl ?_
   rintro _ hq ⟨rfl,hz⟩
   replace hz:=hz.symm
   subst hz
   refine Go ?_;refine Gs [(4,_),(5,_)] ?_;refine Gt ?_
   exact cx.err rfl (.of k8 (Tn.no X8))
 · rw [if_neg hc]
   rcases hT:cO (cy st sk ov aY L P) (bx i.d.text) with ⟨s1,out,_ | ⟨ea,ec⟩⟩
   · have Qn:=vJ hT
     dsimp only
     rw [hT] at kt
     have N9:EA s1.P p=if cF (bx i.d.text)=true∨i.d.dm=true then s1.P else cz s1.P p (i.d.text,i.d.aU,i.d.ps.map bj.pl,[],true,i.d.over):=by
       rw [Qn.1]
       unfold EA
       cases hex:cF (bx i.d.text)
       · rw [if_neg (by decide),show bQ (cy st sk ov aY L P).P p=_ from zD]
         cases lz:i.d.dm <;> simp [PD.pl,lz]
       · rw [if_pos rfl,if_pos (.inl rfl)]
         rfl
     rw [← N9]
     unfold gm.cells nb at kp kr kt
     rcases (show i.d.dm=true∧(bx i.d.text).k=1∨i.d.dm=false by
       cases h1:i.d.dm
       · exact .inr rfl
       · exact .inl ⟨rfl,Classical.not_not.1 fun e=>hc ⟨h1,e⟩⟩) with ⟨lz,Qm⟩ | lz
     aa
       refine calls [(0,_),(1,_)] Tryz.func149 rfl Tryz.ntmps149 rfl ⟨rfl,rfl,trivial⟩ ?_
       aa (refine WC.sr ?_;refine WL.al (aI rfl) rfl rfl rfl ?_;rintro _ h1 ⟨b3,rfl,b0,aT,aB⟩;refine Go ?_;refine G2 ?_;refine WL.ld rfl (by first | exact ab aT rfl | assumption) rfl rfl rfl ?_)
       aa (
        refine WL.call (vs:=[_,_]) rfl Tryz.call213 rfl (fh (k.av aB) lm p oW) rfl rfl rfl ?_
        rintro _ h2 ⟨⟨d2,rfl,jv,f2,iR⟩,aK⟩
        rw [he] at iR ⊢
        dsimp only [gh])
       aa (refine Go ?_;refine WL.al (au (fun w=>Tryz.zeroValue273 w)) rfl rfl rfl ?_;rintro _ h3 ⟨b6,rfl,gN,bC,aS⟩;refine WL.az (aq Tryz.sizeOf273 rfl rfl rfl bC rfl (fp jv)) rfl rfl ?_;rintro _ h4 ⟨bN,bh⟩)
       aa (
        have hY:Ext No h1 h4:=aK.trans (aS.trans' bh (fun q hq e=>by omega))
        have X4:=aB.trans hY
        have bT:=hY.obj aT aQ
        obtain ⟨i',oY,lj⟩:=iR rfl
        have B8:=Option.some.inj (hi.symm.trans oY)
        subst B8
        have lK:=jv.ext (aS.trans' (S:=No) bh (fun q hq e=>by omega)) (fun _ _=>aQ)
        have pX:d2.text=i.d.text:=congrArg (·.1) lj
        have Dm:d2.ps.map bj.pl=i.d.ps.map bj.pl:=congrArg (·.2.2.1) lj
        have uw:d2.dm=i.d.dm:=congrArg (·.2.2.2.2.1) lj
        obtain ⟨text,vo,aU,Jq,Mv,vr,Mw,Ex,xj⟩:=d2
        dsimp only at pX Dm uw
        subst pX
        subst uw
        dsimp only [PD.cells] at bN
        obtain ⟨A6,c6,gG,_⟩:=id lK.aU
        have uB:=lK.ps
        obtain ⟨_,⟨_,A7,c7,xk,_⟩,_⟩:=id lK.ps
        obtain ⟨_,⟨_,A8,c8,xl,_⟩,_⟩:=id lK.rs
        dsimp only at gG xk xl uB
        subst gG
        subst xk
        subst xl)
       aa (refine Go ?_;refine Gs [(0,_),(3,_),(6,_),(7,_)] ?_;refine G3 ?_;refine WL.step (cU (by kernel_rfl) rfl rfl) rfl rfl rfl ?_;refine Gn ?_;refine aJ 1 2 ?_ TT.mk;refine ay 2 ?_;refine WC.skip ?_;refine Gn ?_;refine G2 ?_;refine WL.ld rfl (by first | exact ab bN rfl | assumption) rfl rfl rfl ?_;refine WL.call (vs:=[_]) rfl Tryz.call214 rfl (kp _) rfl rfl rfl ?_;rintro _ h5 ⟨rfl,aO⟩;refine WL.al (au (fun w=>Tryz.zeroValue278 w)) rfl rfl rfl ?_;rintro _ h6 ⟨b8,rfl,r5,cj,aP⟩;refine WL.az (aq Tryz.sizeOf278 rfl rfl rfl cj rfl (by simp [Value.oneCell'])) rfl rfl ?_;rintro _ h7 ⟨cq,bu⟩;have ow:Ext No h4 h7:=aO.trans (aP.trans' bu (fun q hq e=>by omega));refine Gn ?_;refine Gs [(0,_),(3,_),(6,_),(8,_)] ?_;refine WC.seq ?_;refine WC.sr ?_;refine WL.step (aA Tryz.isAgg278 Tryz.sizeOf278 rfl rfl (by exact At.ax cq)) rfl rfl rfl ?_;refine WL.call (vs:=[_]) rfl Tryz.call215 rfl (kr _) rfl rfl rfl ?_;rintro _ h8 ⟨rfl,bH⟩;have kG:=ow.trans bH;have X8:=X4.trans kG;have ox:=kG.obj bN aQ;have ky:=bH.obj cq aQ;have gl:=kG.obj bT aQ;have Ci:=uB.av kG;have k8:=k.av X8;refine Gn ?_;refine aJ 3 4 ?_ TT.mk;refine ay 4 ?_;refine WC.skip ?_;refine Gn ?_;refine G3 ?_;refine WL.ld rfl (by first | exact ab ox rfl | assumption) rfl rfl rfl ?_;rw [lz])
       aa (refine WL.step (an rfl) rfl rfl rfl ?_;refine bU 58 ?_ TT.mk;refine Gg ?_;first | refine WL.pass rfl rfl rfl ?_ | (refine WL.ld rfl (by first | exact ab ky rfl | assumption) rfl rfl rfl ?_))
       aa (refine Gg ?_;refine Go ?_;refine Gs [(0,_),(3,_),(8,_),(62,_)] ?_;refine aJ 7 8 ?_ TT.mk;refine ay 8 ?_;refine WC.skip ?_;refine Gn ?_;refine G2 ?_;refine WL.step (aA Tryz.isAgg278 Tryz.sizeOf278 rfl rfl (by exact At.ax ky)) rfl rfl rfl ?_)
       aa (
        refine WL.call (vs:=[_,_]) rfl Tryz.call220 rfl (kt _ k8) rfl rfl rfl ?_
        rintro _ h9 ⟨v9,B9,c9,rfl,O9,Js,L9,P9,k9,Oa,H4,t9⟩
        dsimp only [gh] at Js ⊢
        have T9:=(Tn.no (A:=A) (P:=P) X8).trans t9
        have H5:=t9.1.obj gl (k8.not gl (by decide) (by decide) (by decide)))
       aa (refine Go ?_;refine Gs [(0,_),(3,_),(7,_),(9,_)] ?_;refine G3 ?_;refine WL.step (tv (by kernel_rfl) rfl rfl) rfl rfl rfl ?_;refine Gn ?_;refine aJ 9 10 ?_ TT.mk;refine ay 9 ?_;refine WC.jO 6 dB (by kernel_rfl) ?_;show WS _ _ _ [_,_,_,_,_,_] _ _ _)
       aa (refine WS.step (an rfl) rfl rfl rfl ?_;refine WS.step (ah rfl) rfl rfl rfl ?_;refine WS.step (ag rfl Tryz.underlying153 rfl Tryz.sizeOf150) rfl rfl rfl ?_;refine WS.step (aC Tryz.isAgg150 rfl (by first | exact ab k9.se.bB rfl | assumption)) rfl rfl rfl ?_;refine WS.step (ag rfl Tryz.underlying42 rfl Tryz.sizeOf9) rfl rfl rfl ?_;refine WS.step (aC Tryz.isAgg9 rfl (by first | exact ab H5 rfl | assumption)) rfl rfl rfl ?_;refine WS.nil ?_;show WL _ _ _ [_] _ _ _)
       aa (refine WL.call (vs:=[_,_,_]) rfl Tryz.call216 rfl (EB k9 p) rfl rfl rfl ?_;rintro _ jf ⟨Ql,tS,Ob,t10,cC⟩;have yP:=O9.ext' cC (fun q hq ⟨cs,e⟩=>by obtain ⟨_,z⟩:=bV O9.own hq;rw [e] at z;simp at z) (fun b hb q e=>absurd e (H3 Js Qn.2 b hb q));refine WL.nil ?_;refine Gn ?_;refine Gs [(7,_),(9,_)] ?_;refine G2 ?_;refine Gs [(4,_),(5,_)] ?_;refine Gt ?_;exact ⟨v9,B9,c9,rfl,yP.mono X8.size,Js,L9,Ql,tS,Oa,by rw [Ob,H4],T9.trans t10⟩)
   · dsimp only
     rw [hT] at kt
     unfold gm.cells nb at kp kr kt
     rcases (show i.d.dm=true∧(bx i.d.text).k=1∨i.d.dm=false by
       cases h1:i.d.dm
       · exact .inr rfl
       · exact .inl ⟨rfl,Classical.not_not.1 fun e=>hc ⟨h1,e⟩⟩) with ⟨lz,Qm⟩ | lz
     aa
       refine calls [(0,_),(1,_)] Tryz.func149 rfl Tryz.ntmps149 rfl ⟨rfl,rfl,trivial⟩ ?_
       aa (refine WC.sr ?_;refine WL.al (aI rfl) rfl rfl rfl ?_;rintro _ h1 ⟨b3,rfl,b0,aT,aB⟩;refine Go ?_;refine G2 ?_;refine WL.ld rfl (by first | exact ab aT rfl | assumption) rfl rfl rfl ?_)
       aa (
        refine WL.call (vs:=[_,_]) rfl Tryz.call213 rfl (fh (k.av aB) lm p oW) rfl rfl rfl ?_
        rintro _ h2 ⟨⟨d2,rfl,jv,f2,iR⟩,aK⟩
        rw [he] at iR ⊢
        dsimp only [gh])
       aa (refine Go ?_;refine WL.al (au (fun w=>Tryz.zeroValue273 w)) rfl rfl rfl ?_;rintro _ h3 ⟨b6,rfl,gN,bC,aS⟩;refine WL.az (aq Tryz.sizeOf273 rfl rfl rfl bC rfl (fp jv)) rfl rfl ?_;rintro _ h4 ⟨bN,bh⟩)
       aa (
        have hY:Ext No h1 h4:=aK.trans (aS.trans' bh (fun q hq e=>by omega))
        have X4:=aB.trans hY
        have bT:=hY.obj aT aQ
        obtain ⟨i',oY,lj⟩:=iR rfl
        have B8:=Option.some.inj (hi.symm.trans oY)
        subst B8
        have lK:=jv.ext (aS.trans' (S:=No) bh (fun q hq e=>by omega)) (fun _ _=>aQ)
        have pX:d2.text=i.d.text:=congrArg (·.1) lj
        have Dm:d2.ps.map bj.pl=i.d.ps.map bj.pl:=congrArg (·.2.2.1) lj
        have uw:d2.dm=i.d.dm:=congrArg (·.2.2.2.2.1) lj
        obtain ⟨text,vo,aU,Jq,Mv,vr,Mw,Ex,xj⟩:=d2
        dsimp only at pX Dm uw
        subst pX
        subst uw
        dsimp only [PD.cells] at bN
        obtain ⟨A6,c6,gG,_⟩:=id lK.aU
        have uB:=lK.ps
        obtain ⟨_,⟨_,A7,c7,xk,_⟩,_⟩:=id lK.ps
        obtain ⟨_,⟨_,A8,c8,xl,_⟩,_⟩:=id lK.rs
        dsimp only at gG xk xl uB
        subst gG
        subst xk
        subst xl)
       aa (refine Go ?_;refine Gs [(0,_),(3,_),(6,_),(7,_)] ?_;refine G3 ?_;refine WL.step (cU (by kernel_rfl) rfl rfl) rfl rfl rfl ?_;refine Gn ?_;refine aJ 1 2 ?_ TT.mk;refine ay 2 ?_;refine WC.skip ?_;refine Gn ?_;refine G2 ?_;refine WL.ld rfl (by first | exact ab bN rfl | assumption) rfl rfl rfl ?_;refine WL.call (vs:=[_]) rfl Tryz.call214 rfl (kp _) rfl rfl rfl ?_;rintro _ h5 ⟨rfl,aO⟩;refine WL.al (au (fun w=>Tryz.zeroValue278 w)) rfl rfl rfl ?_;rintro _ h6 ⟨b8,rfl,r5,cj,aP⟩;refine WL.az (aq Tryz.sizeOf278 rfl rfl rfl cj rfl (by simp [Value.oneCell'])) rfl rfl ?_;rintro _ h7 ⟨cq,bu⟩;have ow:Ext No h4 h7:=aO.trans (aP.trans' bu (fun q hq e=>by omega));refine Gn ?_;refine Gs [(0,_),(3,_),(6,_),(8,_)] ?_;refine WC.seq ?_;refine WC.sr ?_;refine WL.step (aA Tryz.isAgg278 Tryz.sizeOf278 rfl rfl (by exact At.ax cq)) rfl rfl rfl ?_;refine WL.call (vs:=[_]) rfl Tryz.call215 rfl (kr _) rfl rfl rfl ?_;rintro _ h8 ⟨rfl,bH⟩;have kG:=ow.trans bH;have X8:=X4.trans kG;have ox:=kG.obj bN aQ;have ky:=bH.obj cq aQ;have gl:=kG.obj bT aQ;have Ci:=uB.av kG;have k8:=k.av X8;refine Gn ?_;refine aJ 3 4 ?_ TT.mk;refine ay 4 ?_;refine WC.skip ?_;refine Gn ?_;refine G3 ?_;refine WL.ld rfl (by first | exact ab ox rfl | assumption) rfl rfl rfl ?_;rw [lz])
       aa (refine WL.step (an rfl) rfl rfl rfl ?_;refine bU 58 ?_ TT.mk;refine Gg ?_;first | refine WL.pass rfl rfl rfl ?_ | (refine WL.ld rfl (by first | exact ab ky rfl | assumption) rfl rfl rfl ?_))
       aa (refine Gg ?_;refine Go ?_;refine Gs [(0,_),(3,_),(8,_),(62,_)] ?_;refine aJ 7 8 ?_ TT.mk;refine ay 8 ?_;refine WC.skip ?_;refine Gn ?_;refine G2 ?_;refine WL.step (aA Tryz.isAgg278 Tryz.sizeOf278 rfl rfl (by exact At.ax ky)) rfl rfl rfl ?_;refine WL.call (vs:=[_,_]) rfl Tryz.call220 rfl (kt _ k8) rfl rfl rfl ?_;rintro _ h9 ⟨v9,B9,c9,rfl,O9,Js,L9,P9,k9,Oa,H4,t9⟩;dsimp only [gh] at Js ⊢)
       aa (refine Go ?_;refine Gs [(0,_),(3,_),(7,_),(9,_)] ?_;refine G3 ?_;refine WL.step (Bx (by kernel_rfl) rfl rfl) rfl rfl rfl ?_;refine Gn ?_;refine aJ 9 10 ?_ TT.mk;refine ay 10 ?_;refine WC.skip ?_;refine Gn ?_;refine Gs [(7,_),(9,_)] ?_;refine G2 ?_;refine Gs [(4,_),(5,_)] ?_;refine Gt ?_;exact ⟨v9,B9,c9,rfl,O9.mono X8.size,Js,L9,P9,k9,Oa,H4,(Tn.no (A:=A) (P:=P) X8).trans t9⟩)
theorem yQ (k:Ss h A st sk ov aY L P) (lm:jJ (cy st sk ov aY L P)) (f:Fm) (hf:f.ok h) (fl:hJ f) :
   ai Tryz.prog 149 ⟨[.pointer (some ⟨A.bs,0,none⟩),.agg ⟨f.cells⟩]⟩ h (cx h A P (cu (cy st sk ov aY L P) f.p)):=by
 rcases he:hG (cy st sk ov aY L P) f.bm with _ | ⟨ea,ec⟩
 · obtain ⟨i,hi⟩:=ou he
   cases hr:gE (bx i.d.text)
   · exact vK k lm f hf fl he hi hr
   · exact vI k lm f hf fl he hi hr
 · have gH : cu (cy st sk ov aY L P) f.p = (cy st sk ov aY L P, [], some (ea, ec)) := by
     unfold cu
     rw [show hG (cy st sk ov aY L P) f.p.bm=_ from he]
   rw [gH]
   obtain ⟨⟨e1,_⟩,⟨e2,_⟩,⟨e3,_⟩,e4,_⟩:=hf
   obtain ⟨pY,oW,yM,kF,B7,_⟩:=fl
   obtain ⟨fk,w,n,p,t,vo,o,vf,fs,vs,rs,vp,ps,mx⟩:=f
   dsimp only at e1 e2 e3 e4 pY oW yM kF B7 he
   obtain ⟨A1,c1,rfl,_⟩:=e1
   obtain ⟨_,_,rfl,_⟩:=e2
   obtain ⟨_,_,rfl,_⟩:=e3
   obtain ⟨A4,c4,rfl,_⟩:=e4
   dsimp only [Fm.cells]
   refine calls [(0,_),(1,_)] Tryz.func149 rfl Tryz.ntmps149 rfl ⟨rfl,rfl,trivial⟩ ?_
   refine WC.sr ?_;refine WL.al (aI rfl) rfl rfl rfl ?_
   rintro _ h1 ⟨b3,rfl,b0,aT,aB⟩
   refine Go ?_;refine G2 ?_;refine WL.ld rfl (by first | exact ab aT rfl | assumption) rfl rfl rfl ?_
   refine WL.call (vs:=[_,_]) rfl Tryz.call213 rfl (fh (k.av aB) lm p oW) rfl rfl rfl ?_
   rintro _ h2 ⟨⟨d2,rfl,jv,f2,iR⟩,aK⟩
   rw [he] at iR ⊢
   dsimp only [gh]
   refine Go ?_;refine WL.al (au (fun w=>Tryz.zeroValue273 w)) rfl rfl rfl ?_
   rintro _ h3 ⟨b6,rfl,gN,bC,aS⟩
   refine WL.az (aq Tryz.sizeOf273 rfl rfl rfl bC rfl (fp jv)) rfl rfl ?_
   rintro _ h4 ⟨bN,bh⟩
   have X4:Ext No h h4:=(aB.trans aK).trans (aS.trans' bh (fun q hq e=>by omega))
   refine Go ?_;refine Gs [(0,_),(3,_),(6,_),(7,_)] ?_;refine G3 ?_;refine WL.step (fX (by kernel_rfl) rfl rfl) rfl rfl rfl ?_
   refine Gn ?_
   refine aJ 1 2 ?_ TT.mk
   aa (refine ay 1 ?_)
   refine G2 ?_;refine Gs [(4,_),(5,_)] ?_;refine Gt ?_
   exact cx.err rfl (.of (k.av X4) (Tn.no X4))
end
section
variable {h h':aj} {A:Ad} {st:Int} {sk ov:Bool} {aY:Int} {L:List (List UInt8 × gX)} {P:List (List UInt8 × eI)}
theorem ru (k:Ss h A st sk ov aY L P) (n:List UInt8):ai Tryz.prog 221 ⟨[.pointer (some ⟨A.bp,0,none⟩),St n]⟩ h fun _ h'=>∃ P',(∀ q∈P',q∈P)∧Ss h' A st sk ov aY L P'∧gi P'=ct (gi P) n∧Tn A P h h' P':=by
 rcases hg:bQ P n with _ | i
 · refine (AQ n k.se.pb k.se.pm (by rw [cW,hg];rfl)).mono fun u h' ⟨_,e⟩=>?_
   subst e
   have NZ:ct P n=P:=List.filter_eq_self.2 fun q hq=>by simpa using nu hg q hq
   exact ⟨P,fun _ h=>h,k,(congrArg gi NZ).symm.trans (ny _ _),Tn.no (.refl _ _)⟩
 · refine (FW (k.pe hg)).mono fun u h' ⟨_,hm,hx⟩=>?_
   rw [eS] at hm
   have kk:=k.cO hx hm (fun q hq=>(cJ hq).1)
   exact ⟨_,fun q hq=>(cJ hq).1,kk.1,ny _ _,kk.2⟩
theorem ft.trans {L1:List (List UInt8 × gX)} {P1:List (List UInt8 × eI)} {h1:aj} {r:gn} {u:Value} (t:Tn A P h h1 P1) (hL:∀ q∈L1,q∈L) (hP:∀ q∈P1,q∈P) (d:ft h1 A L1 P1 r u h'):ft h A L P r u h':=by
 obtain ⟨v,B,c,e,O,p,L2,P2,s1,s2,k,e1,e2,t2⟩:=d
 exact ⟨v,B,c,e,O.mono t.1.size,p,L2,P2,fun q hq=>hL q (s1 q hq),fun q hq=>hP q (s2 q hq),k,e1,e2,t.trans t2⟩
theorem xm (k:Ss h A st sk ov aY L P) (lm:jJ (cy st sk ov aY L P)) (f:Fm) (hf:f.ok h) (fl:hJ f):ai Tryz.prog 151 ⟨[.pointer (some ⟨A.bs,0,none⟩),.agg ⟨f.cells⟩]⟩ h (ft h A L P (dL (cy st sk ov aY L P) f.p)):=by
 have pD:aY < 1000000:=lm.c
 have N2:=k.yz
 obtain ⟨⟨e1,_⟩,⟨e2,_⟩,⟨e3,_⟩,e4,_⟩:=hf
 obtain ⟨pY,oW,yM,kF,B7,_⟩:=fl
 obtain ⟨fk,w,n,p,t,vo,o,vf,fs,vs,rs,vp,ps,mx⟩:=f
 dsimp only at e1 e2 e3 e4 pY oW yM kF B7
 obtain ⟨A1,c1,rfl,_⟩:=e1
 obtain ⟨_,_,rfl,_⟩:=e2
 obtain ⟨_,_,rfl,_⟩:=e3
 obtain ⟨A4,c4,rfl,_⟩:=e4
 dsimp only [Fm.cells,Fm.p]
 have gH : dL (cy st sk ov aY L P) ⟨fk, w, n, p, t, o, ps.map bj.pl, mx⟩ = match kq t st with
     | some e=>(⟨st,sk,ov,aY,ct (rm L) [],ct (gi P) []⟩,[],some e)
     | none=>if gE (bx t)=true then (⟨st,sk,ov,(dq (bx t) [] aY).2,ct (rm L) [],ct (gi P) []⟩,pW (ph (bx t) 0) :: db (dq (bx t) [] aY).1 false,none)
       else cO ⟨st,sk,ov,aY,ct (rm L) [],ct (gi P) []⟩ (bx t):=rfl
 rw [gH]
 clear gH
 have kp:=fun h'=>pN (h:=h') t (by omega)
 have kr:=fun h'=>ll (h:=h') (bx t)
 have kc:=fun h'=>pO (h:=h') (bx t) 0
 have kt:=fun (g:aj) (L:List (List UInt8 × gX)) (P:List (List UInt8 × eI)) (k:Ss g A st sk ov aY L P)=>Cd k (bx t)
 have ke:=fun (g:aj) (cn:Int) (hb:g[A.be]?=some (.cells ⟨[.map (some A.me),In cn]⟩ 104 (0,0))) (hc:0≤cn∧cn≤1000000)=>tQ hb hc (bx t) (vp:=nS) [] ⟨Rd.nil _ _,⟨by simp,_,_,rfl,by simp [maxLen]⟩,by simp⟩
 have KV:=fun (g:aj) (L:List (List UInt8 × gX)) (P:List (List UInt8 × eI)) (k:Ss g A st sk ov aY L P)=>jB k t (by omega)
 unfold gm.cells nb at kp kr kc kt ke
 simp only [List.map_nil] at ke
 rcases hr:kq t st with _ | ⟨ra,rb⟩
 · rw [hr] at KV
   dsimp only
   cases hw:gE (bx t)
   · rw [hw] at kr
     rw [if_neg (by decide)]
     refine calls [(0,_),(1,_)] Tryz.func151 rfl Tryz.ntmps151 rfl ⟨rfl,rfl,trivial⟩ ?_
     refine WC.sr ?_;refine WL.al (aI rfl) rfl rfl rfl ?_
     rintro _ h1 ⟨b3,rfl,b0,aT,aB⟩
     have k1:=k.av aB
     refine Go ?_;refine G2 ?_;refine WL.step (ah rfl) rfl rfl rfl (Go ?_);refine WL.ld rfl (by first | exact ab k1.se.bB rfl | assumption) rfl rfl rfl ?_
     refine WL.az (fG rfl fR Tryz.underlying149 Tryz.underlying9 rfl rfl k1.se.ka) rfl rfl ?_
     rintro _ h2 ⟨pZ,aK⟩
     rw [eS] at pZ
     obtain ⟨k2,t2⟩:=k1.oh aK pZ (fun q hq=>.inl (cJ hq).1)
     have bR:=t2.1.obj aT (k1.not aT (by decide) (by decide) (by decide))
     refine Gn ?_;refine Gs [(0,_),(3,_)] ?_;refine G2 ?_;refine WL.step (ah rfl) rfl rfl rfl (Go ?_);refine WL.ld rfl (by first | exact ab k2.se.bB rfl | assumption) rfl rfl rfl ?_
     refine WL.call (vs:=[_,_]) rfl Tryz.call221 rfl (ru k2 []) rfl rfl rfl ?_
     rintro _ h4 ⟨P4,KW,k4,KX,t4⟩
     have bN:=t4.1.obj bR (k2.not bR (by decide) (by decide) (by decide))
     have T4:=((Tn.no (A:=A) (P:=P) aB).trans t2).trans t4
     refine Gn ?_;refine Gs [(0,_),(3,_)] ?_;refine G3 ?_;refine WL.ld rfl (by first | exact ab bN rfl | assumption) rfl rfl rfl ?_
     refine WL.call (vs:=[_,_]) rfl Tryz.call203 rfl (KV _ _ _ k4) rfl rfl rfl ?_
     rintro _ h5 ⟨rfl,aO⟩
     dsimp only [gh]
     have k5:=k4.av aO
     have cd:=aO.obj bN aQ
     have T5:=T4.trans (Tn.no aO)
     refine Go ?_;refine Gs [(0,_),(3,_),(6,_)] ?_;refine G2 ?_;refine WL.step (cU (by kernel_rfl) rfl rfl) rfl rfl rfl ?_
     refine Gn ?_
     refine aJ 1 2 ?_ TT.mk
     aa (refine ay 2 ?_)
     refine WC.skip ?_;refine Gn ?_;refine G2 ?_;refine WL.ld rfl (by first | exact ab cd rfl | assumption) rfl rfl rfl ?_
     refine WL.call (vs:=[_]) rfl Tryz.call214 rfl (kp _) rfl rfl rfl ?_
     rintro _ h6 ⟨rfl,aP⟩
     refine WL.al (au (fun w=>Tryz.zeroValue278 w)) rfl rfl rfl ?_
     rintro _ h7 ⟨b7,rfl,zu,cq,bu⟩
     refine WL.az (aq Tryz.sizeOf278 rfl rfl rfl cq rfl (by simp [Value.oneCell'])) rfl rfl ?_
     rintro _ h8 ⟨bP,bH⟩
     have KY:Ext No h5 h8:=aP.trans (bu.trans' bH (fun q hq e=>by omega))
     refine Gn ?_;refine Gs [(0,_),(7,_)] ?_;refine WC.seq ?_;refine WC.sr ?_;refine WL.step (aA Tryz.isAgg278 Tryz.sizeOf278 rfl rfl (by exact At.ax bP)) rfl rfl rfl ?_
     refine WL.call (vs:=[_]) rfl Tryz.call215 rfl (kr _) rfl rfl rfl ?_
     rintro _ h9 ⟨rfl,cl⟩
     have ck:=cl.obj bP aQ
     have k9:=k5.av (KY.trans cl)
     have T9:=T5.trans (Tn.no (KY.trans cl))
     refine Go ?_
     refine aJ 3 4 ?_ TT.mk
     aa (refine ay 3 ?_)
     refine G2 ?_;refine WL.step (aA Tryz.isAgg278 Tryz.sizeOf278 rfl rfl (by exact At.ax ck)) rfl rfl rfl ?_
     refine WL.call (vs:=[_,_]) rfl Tryz.call220 rfl (kt _ _ _ k9) rfl rfl rfl ?_
     rintro _ rr ⟨v11,Sk,Oc,rfl,d11⟩
     refine Go ?_;refine Gs [(4,_),(5,_)] ?_;refine Gt ?_
     have hs:cy st sk ov aY (ct L []) P4=⟨st,sk,ov,aY,ct (rm L) [],ct (gi P) []⟩:=by simp only [cy,lv,KX]
     rw [← hs]
     exact ft.trans T9 (fun q hq=>(cJ hq).1) KW ⟨v11,Sk,Oc,rfl,d11⟩
   · rw [hw] at kr
     rw [if_pos rfl]
     refine calls [(0,_),(1,_)] Tryz.func151 rfl Tryz.ntmps151 rfl ⟨rfl,rfl,trivial⟩ ?_
     refine WC.sr ?_;refine WL.al (aI rfl) rfl rfl rfl ?_
     rintro _ h1 ⟨b3,rfl,b0,aT,aB⟩
     have k1:=k.av aB
     refine Go ?_;refine G2 ?_;refine WL.step (ah rfl) rfl rfl rfl (Go ?_);refine WL.ld rfl (by first | exact ab k1.se.bB rfl | assumption) rfl rfl rfl ?_
     refine WL.az (fG rfl fR Tryz.underlying149 Tryz.underlying9 rfl rfl k1.se.ka) rfl rfl ?_
     rintro _ h2 ⟨pZ,aK⟩
     rw [eS] at pZ
     obtain ⟨k2,t2⟩:=k1.oh aK pZ (fun q hq=>.inl (cJ hq).1)
     have bR:=t2.1.obj aT (k1.not aT (by decide) (by decide) (by decide))
     refine Gn ?_;refine Gs [(0,_),(3,_)] ?_;refine G2 ?_;refine WL.step (ah rfl) rfl rfl rfl (Go ?_);refine WL.ld rfl (by first | exact ab k2.se.bB rfl | assumption) rfl rfl rfl ?_
     refine WL.call (vs:=[_,_]) rfl Tryz.call221 rfl (ru k2 []) rfl rfl rfl ?_
     rintro _ h4 ⟨P4,KW,k4,KX,t4⟩
     have bN:=t4.1.obj bR (k2.not bR (by decide) (by decide) (by decide))
     have T4:=((Tn.no (A:=A) (P:=P) aB).trans t2).trans t4
     refine Gn ?_;refine Gs [(0,_),(3,_)] ?_;refine G3 ?_;refine WL.ld rfl (by first | exact ab bN rfl | assumption) rfl rfl rfl ?_
     refine WL.call (vs:=[_,_]) rfl Tryz.call203 rfl (KV _ _ _ k4) rfl rfl rfl ?_
     rintro _ h5 ⟨rfl,aO⟩
     dsimp only [gh]
     have k5:=k4.av aO
     have cd:=aO.obj bN aQ
     have T5:=T4.trans (Tn.no aO)
     refine Go ?_;refine Gs [(0,_),(3,_),(6,_)] ?_;refine G2 ?_;refine WL.step (cU (by kernel_rfl) rfl rfl) rfl rfl rfl ?_
     refine Gn ?_
     refine aJ 1 2 ?_ TT.mk
     aa (refine ay 2 ?_)
     refine WC.skip ?_;refine Gn ?_;refine G2 ?_;refine WL.ld rfl (by first | exact ab cd rfl | assumption) rfl rfl rfl ?_
     refine WL.call (vs:=[_]) rfl Tryz.call214 rfl (kp _) rfl rfl rfl ?_
     rintro _ h6 ⟨rfl,aP⟩
     refine WL.al (au (fun w=>Tryz.zeroValue278 w)) rfl rfl rfl ?_
     rintro _ h7 ⟨b7,rfl,zu,cq,bu⟩
     refine WL.az (aq Tryz.sizeOf278 rfl rfl rfl cq rfl (by simp [Value.oneCell'])) rfl rfl ?_
     rintro _ h8 ⟨bP,bH⟩
     have KY:Ext No h5 h8:=aP.trans (bu.trans' bH (fun q hq e=>by omega))
     refine Gn ?_;refine Gs [(0,_),(7,_)] ?_;refine WC.seq ?_;refine WC.sr ?_;refine WL.step (aA Tryz.isAgg278 Tryz.sizeOf278 rfl rfl (by exact At.ax bP)) rfl rfl rfl ?_
     refine WL.call (vs:=[_]) rfl Tryz.call215 rfl (kr _) rfl rfl rfl ?_
     rintro _ h9 ⟨rfl,cl⟩
     have ck:=cl.obj bP aQ
     have k9:=k5.av (KY.trans cl)
     have T9:=T5.trans (Tn.no (KY.trans cl))
     refine Go ?_
     refine aJ 3 4 ?_ TT.mk
     aa (refine ay 4 ?_)
     refine WC.skip ?_;refine Gn ?_;refine WC.sr ?_;refine WL.step (aA Tryz.isAgg278 Tryz.sizeOf278 rfl rfl (by exact At.ax ck)) rfl rfl rfl ?_
     refine WL.call (vs:=[_,_]) rfl Tryz.call223 rfl (kc _) rfl rfl rfl ?_
     rintro _ jf ⟨rfl,cC⟩
     refine WL.call (vs:=[_]) rfl Tryz.call222 rfl (xg _) rfl rfl rfl ?_
     rintro _ rr ⟨Sl,rfl,Od,Ga,f11,cV⟩
     refine WL.al (aw (vs:=[_]) (cs:=[_,_,_,_,_,_,_,_,_,_,_]) (fun | [.agg ⟨[a0,a1,a2,a3,a4,a5,a6,a7,a8,a9,iy]⟩]=>[a0,a1,a2,a3,a4,a5,a6,a7,a8,a9,iy] | _=>[]) Tryz.underlying80 rfl rfl (by kernel_rfl)) rfl rfl rfl ?_
     rintro _ r7 ⟨Gb,rfl,Oe,ca,eQ⟩
     have EC:=(cC.trans cV).trans eQ
     have Dn:=k9.av EC
     have Sm:=cC.size
     have Sn:=cV.size
     have Jr:cH h9 r7 (.slice (some ⟨Gb,0,none⟩) 1 1) [Sl]:=.of Od (fun q hq=>by have:=f11 q hq;omega) eQ ca Oe (by omega)
     have Cm:=EC.obj ck aQ
     have UK:=T9.trans (Tn.no EC)
     have n1:¬ (A.bs=A.be∨A.bs=Gb):=fun e=>e.elim (bE Dn.se.bB Dn.se.eb (by decide)) (bE Dn.se.bB ca (by decide))
     have n2:¬ (b7=A.be∨b7=Gb):=fun e=>e.elim (bE Cm Dn.se.eb (by decide)) (bE Cm ca (by decide))
     have n3:¬ Gb=A.be:=bE ca Dn.se.eb (by decide)
     refine Go ?_;refine Gs [(0,_),(7,_),(8,_)] ?_;refine WC.seq ?_;refine WC.cg (fun h'=>Ext (fun q=>q=A.be∨q=Gb) r7 h') 11 11 rfl dB ?_
     refine WH.tk 0 rfl (fun hq hC=>an rfl) rfl rfl rfl ?_
     refine WH.tk 1 rfl (fun hq hC=>an rfl) rfl rfl rfl ?_
     refine WH.tk 2 rfl (fun hq hC=>ah rfl) rfl rfl rfl ?_
     refine WH.tk 3 rfl (fun hq hC=>ag rfl Tryz.underlying153 rfl Tryz.sizeOf46) rfl rfl rfl ?_
     refine WH.tk 4 rfl (fun hq hC=>aC Tryz.isAgg46 rfl (by first | exact hC.cell (by first | exact ab Dn.se.bB rfl | assumption) n1)) rfl rfl rfl ?_
     refine WH.tk 5 rfl (fun hq hC=>aA Tryz.isAgg278 Tryz.sizeOf278 rfl rfl (by exact (At.ax Cm).ext hC n2)) rfl rfl rfl ?_
     refine WH.one 6 (by kernel_rfl) ?_
     refine aE.call (vs:=[_,_,_]) rfl rfl Tryz.call217 rfl (ke _ _ Dn.se.eb N2) rfl rfl rfl ?_ (fun _=>by kernel_rfl)
     rintro uR H6 ⟨LL,rL,pL,fL,cE,gV⟩
     obtain ⟨Of,t13⟩:=Dn.Cf gV cE (by unfold dq;split <;> (try split) <;> (try split) <;> dsimp only <;> omega)
     have tT:=Cg pL (hU _ _ (by simp))
     have So:=Jr.ext' gV (fun q hq e=>by simp only [Value.ownBlock,Option.some.injEq] at hq;omega) (fun b hb q hq e=>by have:=Jr.bf b hb q hq;have:=ak k9.se.eb;omega)
     refine ⟨fun _=>gV.mono fun _ _ e=>.inl e,?_⟩
     refine WH.one 7 (by kernel_rfl) ?_
     refine aE.call (vs:=[_,_]) rfl rfl Tryz.call218 rfl (rp LL rL false tT.1 tT.2) rfl rfl rfl ?_ (fun _=>by kernel_rfl)
     rintro UL ED ⟨UM,Jt,H7,iP⟩
     obtain ⟨UN,UO,rfl,_⟩:=Jt.own.slice
     have H8:Ext (fun q=>q=A.be∨q=Gb) r7 ED:=(gV.mono fun _ _ e=>.inl e).trans (iP.mono fun _ _ e=>e.elim)
     have KZ:=So.av iP
     refine ⟨fun _=>H8,?_⟩
     refine WH.one 8 (by kernel_rfl) ?_
     refine aE.run rfl (aX (sz:=11) (bytes:=168) rfl Tryz.underlying80 (show Tryz.prog.info? 140=some Tryz.t140 by kernel_rfl) rfl rfl rfl rfl (by decide) rfl rfl KZ.own Jt.own.rd (fun v hv=>by obtain ⟨b,hb,hv⟩:=List.mem_flatMap.1 hv;exact (Jt.ok b hb).one v hv) (by have:=Jt.own.len;have:=congrArg List.length H7;simp [db] at this;simp only [maxLen,List.length_singleton];omega) (by have:=congrArg List.length H7;simp [db] at this;simp only [List.length_singleton];omega)) rfl rfl rfl ?_ (fun _=>by kernel_rfl)
     rintro UP K0 ⟨Og,rv,Oh⟩
     refine ⟨fun _=>H8.trans (rv.mono fun q _ e=>.inr (by simpa [Value.ownBlock] using e.symm)),?_⟩
     have Oi:Ext (fun q=>q=A.be∨q=Gb) r7 K0:=H8.trans (rv.mono fun q _ e=>.inr (by simpa [Value.ownBlock] using e.symm))
     refine WH.tk 9 rfl (fun hq hC=>aR rfl) rfl rfl rfl ?_
     refine WH.tk 10 rfl (fun hq hC=>aR rfl) rfl rfl rfl ?_
     refine WH.done (by kernel_rfl) ?_
     refine Gn ?_;refine Gs [(4,_),(5,_)] ?_;refine Gt ?_
     have X9:Ext (fun q=>q=A.be) h9 K0:=(EC.mono (S':=fun q=>q=A.be) fun _ _ e=>e.elim).trans' Oi (fun q hq e=>e.elim id (fun e=>by omega))
     have du:=rv.obj (iP.obj cE aQ) (fun e=>n3 (by simpa [Value.ownBlock] using e))
     obtain ⟨Sp,t15⟩:=k9.Cf X9 du Of.yz
     have Sr:=eQ.size
     have UQ:=gV.size
     have Su:=KZ.append (Jt.mono (h0:=h9) (by omega)) (fun c hc z hz e=>by simp only [Value.ownBlock,Option.some.injEq] at e;have:=Jt.bf c hc z hz;have:=ak ca;omega) (by have:=iP.size;omega) Og rv Oh
     exact ⟨_,_,(fun e=>absurd rfl e),rfl,Su.mono T9.1.size,by rw [List.map_append,H7,pL,List.map_singleton,Ga];rfl,_,_,fun q hq=>(cJ hq).1,KW,Sp,lv _ _,KX,T9.trans t15⟩
 · rw [hr] at KV
   dsimp only
   refine calls [(0,_),(1,_)] Tryz.func151 rfl Tryz.ntmps151 rfl ⟨rfl,rfl,trivial⟩ ?_
   refine WC.sr ?_;refine WL.al (aI rfl) rfl rfl rfl ?_
   rintro _ h1 ⟨b3,rfl,b0,aT,aB⟩
   have k1:=k.av aB
   refine Go ?_;refine G2 ?_;refine WL.step (ah rfl) rfl rfl rfl (Go ?_);refine WL.ld rfl (by first | exact ab k1.se.bB rfl | assumption) rfl rfl rfl ?_
   refine WL.az (fG rfl fR Tryz.underlying149 Tryz.underlying9 rfl rfl k1.se.ka) rfl rfl ?_
   rintro _ h2 ⟨pZ,aK⟩
   rw [eS] at pZ
   obtain ⟨k2,t2⟩:=k1.oh aK pZ (fun q hq=>.inl (cJ hq).1)
   have bR:=t2.1.obj aT (k1.not aT (by decide) (by decide) (by decide))
   refine Gn ?_;refine Gs [(0,_),(3,_)] ?_;refine G2 ?_;refine WL.step (ah rfl) rfl rfl rfl (Go ?_);refine WL.ld rfl (by first | exact ab k2.se.bB rfl | assumption) rfl rfl rfl ?_
   refine WL.call (vs:=[_,_]) rfl Tryz.call221 rfl (ru k2 []) rfl rfl rfl ?_
   rintro _ h4 ⟨P4,KW,k4,KX,t4⟩
   have bN:=t4.1.obj bR (k2.not bR (by decide) (by decide) (by decide))
   have T4:=((Tn.no (A:=A) (P:=P) aB).trans t2).trans t4
   refine Gn ?_;refine Gs [(0,_),(3,_)] ?_;refine G3 ?_;refine WL.ld rfl (by first | exact ab bN rfl | assumption) rfl rfl rfl ?_
   refine WL.call (vs:=[_,_]) rfl Tryz.call203 rfl (KV _ _ _ k4) rfl rfl rfl ?_
   rintro _ h5 ⟨rfl,aO⟩
   dsimp only [gh]
   have k5:=k4.av aO
   have cd:=aO.obj bN aQ
   have T5:=T4.trans (Tn.no aO)
   refine Go ?_;refine Gs [(0,_),(3,_),(6,_)] ?_;refine G2 ?_;refine WL.step (fX (by kernel_rfl) rfl rfl) rfl rfl rfl ?_
   refine Gn ?_
   refine aJ 1 2 ?_ TT.mk
   aa (refine ay 1 ?_)
   refine G2 ?_;refine Gs [(4,_),(5,_)] ?_;refine Gt ?_
   have hs:cy st sk ov aY (ct L []) P4=⟨st,sk,ov,aY,ct (rm L) [],ct (gi P) []⟩:=by simp only [cy,lv,KX]
   rw [← hs]
   exact ⟨_,[],fun _=>rfl,rfl,cH.nil _ _,rfl,_,_,fun q hq=>(cJ hq).1,KW,k5,rfl,rfl,T5⟩
end
section
variable {h h':aj} {bs ms bp mp be me:Nat} {st od:Int} {sk ov:Bool} {aY:Int} {L P P' R:List (List UInt8 × Value)} {S:Nat→Prop}
theorem xn {h:aj} (t:Value):ai Tryz.prog 102 ⟨[.nilIface,t]⟩ h fun u h'=>u=.bool false∧h'=h:=by
 refine calls [(0,_),(1,_)] Tryz.func102 rfl Tryz.ntmps102 rfl ⟨rfl,rfl,trivial⟩ ?_
 refine G2 ?_;refine G3 ?_;refine WL.step (tv (by kernel_rfl) rfl rfl) rfl rfl rfl ?_
 refine Gn ?_
 refine aJ 1 2 ?_ TT.mk
 aa (refine ay 1 ?_)
 refine G2 ?_;refine Gs [(4,_)] ?_;refine Gt ?_
 exact ⟨rfl,rfl⟩
end
section
variable {h h':aj} {bs ms bp mp be me:Nat} {st od:Int} {sk ov:Bool} {aY:Int} {L P P' R:List (List UInt8 × Value)} {S:Nat→Prop}
abbrev L1:List (List UInt8 × Value):=[(([97]:List UInt8),.agg ⟨[St rh,nS]⟩)]
end
end Go.Proofs.YtopgddfgefnmbaaGreatDoor
namespace Go.Proofs.YtopgddfgefnmbaaGreatDoor
open Go Go.RowKit Go.Extern.Stop Go.Stop Go.Extern
open Go.RK (St In)
theorem Rf.yR (t:Addr) (w:World):(ReflectliteValue.unpack (.iface 171 (.pointer (some t)))).run Tryz.prog w
   = .ok (.agg #[.pointer (some ⟨4,171,none⟩),.pointer (some ⟨w.heap.size,0,none⟩),.int .u64 150]) (w.alloc (.cells #[.pointer (some t)] 171)):=by kernel_rfl
theorem Rf.type27 (a:Addr) (w:World):(ReflectliteValue.methodAny (ReflectliteValue.valueError "reflectlite.Value.Type" 0) (fun t _ _ _=>ReflectliteType.toType t) #[.agg #[.pointer (some ⟨4,171,none⟩),.pointer (some a),.int .u64 150]]).run Tryz.prog w
   = .ok (.iface 290 (.agg #[.pointer (some ⟨4,171,none⟩)])) w:=by kernel_rfl
theorem Rf.vL (h:Value) (w:World):(Go.method 512 290 (.agg #[h]) "Kind").run Tryz.prog w=.ok (338,h) w:=by kernel_rfl
theorem Rf.H9 (w:World):((ReflectliteType.abiMethod fun t=>(fun a:Nat=>Value.int IntKind.u8 (a:Int)) <$> Rtype.kind t) #[.pointer (some ⟨4,171,none⟩)]).run Tryz.prog w=.ok (.int .u8 22) w:=by kernel_rfl
theorem Rf.Ia (w:World):((ReflectliteType.abiMethod fun t=>(fun a:Nat=>Value.int IntKind.u8 (a:Int)) <$> Rtype.kind t) #[.pointer (some ⟨4,169,none⟩)]).run Tryz.prog w=.ok (.int .u8 25) w:=by kernel_rfl
theorem Qo (z:Sem Value) (f:TypeId→Addr→Nat→Nat→Sem Value) (v:Value) :
   ReflectliteValue.method z f #[v]=(do match ← ReflectliteValue.parts v with | none=>z | some (t,a,fl)=>f t a fl (fl % 32)):=rfl
theorem Rf.xo (a:Addr) (w:World):(ReflectliteValue.parts (.agg #[.pointer (some ⟨4,171,none⟩),.pointer (some a),.int .u64 150])).run Tryz.prog w=.ok (some (171,a,150)) w:=by kernel_rfl
theorem Rf.EE (a p:Addr) (W:World) (ha:W.cell? a=some (.pointer (some p))) :
   (ReflectliteValue.method (ReflectliteValue.valueError "reflectlite.Value.IsNil" 0) ReflectliteValue.isNil #[.agg #[.pointer (some ⟨4,171,none⟩),.pointer (some a),.int .u64 150]]).run Tryz.prog W=.ok (.bool false) W:=by
 rw [Qo]
 simp only [Sem.run_bind,Rf.xo,Result.andThen]
 simp [ReflectliteValue.isNil,loadVar,isAgg,underlying,Tryz.underlying171,ha,Result.andThen]
theorem Rf.vM (h:Value) (w:World):(Go.method 512 290 (.agg #[h]) "Elem").run Tryz.prog w=.ok (349,.agg #[h]) w:=by kernel_rfl
theorem Rf.mo (h:Value) (w:World):(Go.method 512 290 (.agg #[h]) "Implements").run Tryz.prog w=.ok (350,.agg #[h]) w:=by kernel_rfl
theorem Rf.kA (h:Value) (w:World):(Go.method 512 290 (.agg #[h]) "AssignableTo").run Tryz.prog w=.ok (347,.agg #[h]) w:=by kernel_rfl
theorem Rf.Ib (w:World):(ReflectliteType.method ReflectliteType.elem #[.agg #[.pointer (some ⟨4,171,none⟩)]]).run Tryz.prog w=.ok (.iface 290 (.agg #[.pointer (some ⟨4,169,none⟩)])) w:=by kernel_rfl
theorem Rf.ry (w:World):(ReflectliteType.relation "Implements" ReflectliteType.implements_ #[.agg #[.pointer (some ⟨4,169,none⟩)],.iface 290 (.agg #[.pointer (some ⟨4,165,none⟩)])]).run Tryz.prog w=.ok (.bool true) w:=by kernel_rfl
theorem Rf.Cn (v:Value) (w:World):(ReflectliteType.typeOf #[.iface 169 v]).run Tryz.prog w=.ok (.iface 290 (.agg #[.pointer (some ⟨4,169,none⟩)])) w:=by kernel_rfl
theorem Rf.rz (w:World):(ReflectliteType.relation "AssignableTo" ReflectliteType.assignableTo #[.agg #[.pointer (some ⟨4,169,none⟩)],.iface 290 (.agg #[.pointer (some ⟨4,169,none⟩)])]).run Tryz.prog w=.ok (.bool true) w:=by kernel_rfl
theorem Rf.yS (a c:List UInt8) (w:World):(ReflectliteValue.unpack (.iface 169 (.agg #[St a,St c]))).run Tryz.prog w
   = .ok (.agg #[.pointer (some ⟨4,169,none⟩),.pointer (some ⟨w.heap.size,0,none⟩),.int .u64 153]) (w.alloc (.cells #[St a,St c] 169)):=by kernel_rfl
theorem Rf.Co (w:World):(Rtype.elem? 171).run Tryz.prog w=.ok (some 169) w:=by kernel_rfl
theorem Rf.Oj (p:Addr) (w:World):(ReflectliteValue.mk 169 p ReflectliteValue.flagAddr).run Tryz.prog w=.ok (.agg #[.pointer (some ⟨4,169,none⟩),.pointer (some p),.int .u64 409]) w:=by kernel_rfl
theorem Rf.EF (a p:Addr) (W:World) (ha:W.cell? a=some (.pointer (some p))) :
   (ReflectliteValue.method (ReflectliteValue.valueError "reflectlite.Value.Elem" 0) ReflectliteValue.elem #[.agg #[.pointer (some ⟨4,171,none⟩),.pointer (some a),.int .u64 150]]).run Tryz.prog W
     = .ok (.agg #[.pointer (some ⟨4,169,none⟩),.pointer (some p),.int .u64 409]) W:=by
 rw [Qo]
 simp only [Sem.run_bind,Rf.xo,Result.andThen]
 simp [ReflectliteValue.elem,loadVar,isAgg,underlying,Tryz.underlying171,ha,Result.andThen,Rf.Co,Rf.Oj]
theorem Sw (v x:Value):ReflectliteValue.set #[v,x]=(do
   let (some (dst,a,fl),some (src,b,_)):=(← ReflectliteValue.parts v,← ReflectliteValue.parts x)
     | unsupported (.noEntry "extern/(internal/reflectlite.Value).Set.zeroValue")
   if fl / ReflectliteValue.flagAddr % 2 == 0 then unsupported (.noEntry "extern/(internal/reflectlite.Value).Set.unaddressable")
   let val ← loadVar src b
   if ← Rtype.directlyAssignable dst src then storeVar dst a val
   else if ← Rtype.implements dst src then
     if (← Rtype.kind src) == 20 then
       match val with
       | .nilIface=>unsupported (.noEntry "extern/reflectlite: a nil value of one interface type handed on as a value of another")
       | _=>storeVar dst a val
     else storeVar dst a (.iface src val)
   else panicString ("reflectlite.Set: value of type " ++ (← Rtype.spelt src) ++ " is not assignable to type " ++ (← Rtype.spelt dst))
   pure (.tuple #[])):=rfl
theorem Rf.Cp (a:Addr) (w:World):(ReflectliteValue.parts (.agg #[.pointer (some ⟨4,169,none⟩),.pointer (some a),.int .u64 409])).run Tryz.prog w=.ok (some (169,a,409)) w:=by kernel_rfl
theorem Rf.EG (a:Addr) (w:World):(ReflectliteValue.parts (.agg #[.pointer (some ⟨4,169,none⟩),.pointer (some a),.int .u64 153])).run Tryz.prog w=.ok (some (169,a,153)) w:=by kernel_rfl
theorem Rf.Cq (w:World):(Rtype.directlyAssignable 169 169).run Tryz.prog w=.ok true w:=by kernel_rfl
end Go.Proofs.YtopgddfgefnmbaaGreatDoor
namespace Go.Proofs.YtopgddfgefnmbaaGreatDoor
open Go Go.RowKit Go.Extern.Stop Go.Stop Go.Extern
open Go.RK (St In)
theorem eo (h:Array Obj) (o:Obj) {k:Nat} (hk:k < h.size):(h.push o)[k]?=h[k]?:=by simp [Array.getElem?_push,Nat.ne_of_lt hk]
theorem Rf.K1 (a c:List UInt8) (bt b:Nat) (o1 o2:Value) (W:World) (hb:W.heap[b]?=some (.cells ⟨[St a,St c]⟩ 169 (0,0))) (ht:W.heap[bt]?=some (.cells ⟨[o1,o2]⟩ 169 (0,0))) :
   ∃ w',(ReflectliteValue.set #[.agg #[.pointer (some ⟨4,169,none⟩),.pointer (some ⟨bt,0,none⟩),.int .u64 409],.agg #[.pointer (some ⟨4,169,none⟩),.pointer (some ⟨b,0,none⟩),.int .u64 153]]).run Tryz.prog W
     = .ok (.tuple #[]) w'∧Go.RK.eY W w'∧w'.heap=W.heap.setIfInBounds bt (.cells ⟨[St a,St c]⟩ 169 (0,0)):=by
 have i1:=Tryz.isAgg169 W
 have s1:=Tryz.sizeOf169 W
 have l1:(loadCells ⟨b,0,none⟩ 2).run Tryz.prog W=.ok #[St a,St c] W:=run_loadCells_list W _ [St a,St c] fun j v hj=>by rw [Addr.add_lit];exact Go.RK.At.ax hb j v hj
 obtain ⟨w',hr,hs,hh⟩:=Go.RK.cS (P:=Tryz.prog) bt 169 [St a,St c] 0 0 [o1,o2] W ht (by simp) (by simp [Value.oneCell'])
 refine ⟨w',?_,hs,by rw [hh];simp⟩
 rw [Sw]
 simp only [Sem.run_bind,Rf.Cp,Rf.EG,Result.andThen]
 simp [ReflectliteValue.flagAddr,loadVar,i1,s1,l1,Result.andThen,Rf.Cq,storeVar,Value.cells,hr]
theorem Ic (a c:List UInt8) (bt:Nat) (o1 o2:Value) (w:World) (hg:w.cell? ⟨0,0,none⟩=some (.iface 290 (.agg #[.pointer (some ⟨4,165,none⟩)]))) (Qp:w.heap[bt]?=some (.cells ⟨[o1,o2]⟩ 169 (0,0))) :
   Calls Tryz.prog 102 #[.iface 169 (.agg #[St a,St c]),.iface 171 (.pointer (some ⟨bt,0,none⟩))] w fun ev w'=>ev=.returned (.bool true)∧Go.RK.eY ((((w.alloc (.cells #[.pointer (some ⟨bt,0,none⟩)] 171)).alloc (.cells #[.pointer (some ⟨4,171,none⟩),.pointer (some ⟨w.heap.size,0,none⟩),.int .u64 150] 218)).alloc (.cells #[.pointer (some ⟨4,171,none⟩),.pointer (some ⟨w.heap.size,0,none⟩),.int .u64 150] 218)).alloc (.cells #[St a,St c] 169)) w'∧w'.heap=((((w.alloc (.cells #[.pointer (some ⟨bt,0,none⟩)] 171)).alloc (.cells #[.pointer (some ⟨4,171,none⟩),.pointer (some ⟨w.heap.size,0,none⟩),.int .u64 150] 218)).alloc (.cells #[.pointer (some ⟨4,171,none⟩),.pointer (some ⟨w.heap.size,0,none⟩),.int .u64 150] 218)).alloc (.cells #[St a,St c] 169)).heap.setIfInBounds bt (.cells ⟨[St a,St c]⟩ 169 (0,0)):=by
 have h6:=@run_callFunc_extern Tryz.prog 152 _ (fun args=>ReflectliteValue.unpack (args.getD 0 (.tuple #[]))) Tryz.func152 (by kernel_rfl) (by kernel_rfl) (by kernel_rfl) (by kernel_rfl)
 have h7:=@run_callFunc_extern Tryz.prog 153 _ (ReflectliteValue.methodAny (ReflectliteValue.valueError "reflectlite.Value.Type" 0) (fun t _ _ _=>ReflectliteType.toType t)) Tryz.func153 (by kernel_rfl) (by kernel_rfl) (by kernel_rfl) (by kernel_rfl)
 have h8:=@run_callFunc_extern Tryz.prog 154 _ (ReflectliteValue.method (ReflectliteValue.valueError "reflectlite.Value.IsNil" 0) ReflectliteValue.isNil) Tryz.func154 (by kernel_rfl) (by kernel_rfl) (by kernel_rfl) (by kernel_rfl)
 have UR:=@run_callFunc_extern Tryz.prog 338 _ (ReflectliteType.abiMethod fun t=>do pure (.int .u8 (← Rtype.kind t))) Tryz.func338 (by kernel_rfl) (by kernel_rfl) (by kernel_rfl) (by kernel_rfl)
 have US:=@run_callFunc_extern Tryz.prog 349 _ (ReflectliteType.method ReflectliteType.elem) Tryz.func349 (by kernel_rfl) (by kernel_rfl) (by kernel_rfl) (by kernel_rfl)
 have UT:=@run_callFunc_extern Tryz.prog 350 _ (ReflectliteType.relation "Implements" ReflectliteType.implements_) Tryz.func350 (by kernel_rfl) (by kernel_rfl) (by kernel_rfl) (by kernel_rfl)
 have jf:=@run_callFunc_extern Tryz.prog 224 _ ReflectliteType.typeOf Tryz.func224 (by kernel_rfl) (by kernel_rfl) (by kernel_rfl) (by kernel_rfl)
 have UU:=@run_callFunc_extern Tryz.prog 347 _ (ReflectliteType.relation "AssignableTo" ReflectliteType.assignableTo) Tryz.func347 (by kernel_rfl) (by kernel_rfl) (by kernel_rfl) (by kernel_rfl)
 have rr:=@run_callFunc_extern Tryz.prog 225 _ (ReflectliteValue.method (ReflectliteValue.valueError "reflectlite.Value.Elem" 0) ReflectliteValue.elem) Tryz.func225 (by kernel_rfl) (by kernel_rfl) (by kernel_rfl) (by kernel_rfl)
 have r7:=@run_callFunc_extern Tryz.prog 226 _ ReflectliteValue.set Tryz.func226 (by kernel_rfl) (by kernel_rfl) (by kernel_rfl) (by kernel_rfl)
 have tO:=Rf.Cn
 have mA:=Rf.kA
 have UW:=Rf.rz
 have UX:=Rf.yS
 have f6:=Rf.yR
 have f7:=Rf.type27
 have mK:=Rf.vL
 have mE:=Rf.vM
 have mI:=Rf.mo
 have UY:=Rf.H9
 have UZ:=Rf.Ia
 have U0:=Rf.Ib
 have i25:=Rf.ry
 have n8:=Rf.EE ⟨w.heap.size,0,none⟩ ⟨bt,0,none⟩ ((w.alloc (.cells #[.pointer (some ⟨bt,0,none⟩)] 171)).alloc (.cells #[.pointer (some ⟨4,171,none⟩),.pointer (some ⟨w.heap.size,0,none⟩),.int .u64 150] 218)) (by simp)
 have eH:0 < w.heap.size:=by
   rcases Nat.eq_zero_or_pos w.heap.size with h0 | h
   · simp [World.cell?,h0] at hg
   · exact h
 have gI:((w.alloc (.cells #[.pointer (some ⟨bt,0,none⟩)] 171)).alloc (.cells #[.pointer (some ⟨4,171,none⟩),.pointer (some ⟨w.heap.size,0,none⟩),.int .u64 150] 218)).cell? ⟨0,0,none⟩=some (.iface 290 (.agg #[.pointer (some ⟨4,165,none⟩)])):=by
   rw [World.cell?_alloc_lt _ _ ⟨0,0,none⟩ (by simp),World.cell?_alloc_lt _ _ ⟨0,0,none⟩ eH];exact hg
 have nj:bt < w.heap.size:=Go.RK.ak Qp
 have el:=Rf.EF ⟨w.heap.size,0,none⟩ ⟨bt,0,none⟩ (((w.alloc (.cells #[.pointer (some ⟨bt,0,none⟩)] 171)).alloc (.cells #[.pointer (some ⟨4,171,none⟩),.pointer (some ⟨w.heap.size,0,none⟩),.int .u64 150] 218)).alloc (.cells #[.pointer (some ⟨4,171,none⟩),.pointer (some ⟨w.heap.size,0,none⟩),.int .u64 150] 218)) (by rw [World.cell?_alloc_lt _ _ ⟨w.heap.size,0,none⟩ (by simp;omega)];simp)
 obtain ⟨w',st,Dc,K2⟩:=Rf.K1 a c bt (w.heap.size+1+1+1) o1 o2 ((((w.alloc (.cells #[.pointer (some ⟨bt,0,none⟩)] 171)).alloc (.cells #[.pointer (some ⟨4,171,none⟩),.pointer (some ⟨w.heap.size,0,none⟩),.int .u64 150] 218)).alloc (.cells #[.pointer (some ⟨4,171,none⟩),.pointer (some ⟨w.heap.size,0,none⟩),.int .u64 150] 218)).alloc (.cells #[St a,St c] 169))
   (by simp only [World.alloc];rw [Array.getElem?_push,if_pos (by simp)])
   (by simp only [World.alloc];rw [eo _ _ (by simp;omega),eo _ _ (by simp;omega),eo _ _ (by simp;omega),eo _ _ nj];exact Qp)
 K3 Tryz.func102,Tryz.ntmps102
 Ie
 refine wp_loop_rounds 1 ?_
 rw [rounds_succ]
 Ie
 Ok
 exact ⟨rfl,Dc,K2⟩
end Go.Proofs.YtopgddfgefnmbaaGreatDoor
namespace Go.Proofs.YtopgddfgefnmbaaGreatDoor
open Go Go.RK
def Er (h:aj):Prop:=At h 0 0 [.iface 290 (.agg #[.pointer (some ⟨4,165,none⟩)])]
theorem Er.av {h h':aj} (e:Er h) (a:Ext No h h'):Er h':=At.ext e a aQ
theorem Er.ext {h h':aj} {S:Nat→Prop} (e:Er h) (a:Ext S h h') (hS:¬ S 0):Er h':=At.ext e a hS
theorem p8 {h:aj} {bt:Nat} {o1 o2:Value} (a c:List UInt8) (er:Er h) (hb:h[bt]?=some (.cells ⟨[o1,o2]⟩ 169 (0,0))) :
   ai Tryz.prog 102 ⟨[.iface 169 (.agg ⟨[St a,St c]⟩),.iface 171 (.pointer (some ⟨bt,0,none⟩))]⟩ h fun u h'=>u=.bool true∧h'[bt]?=some (.cells ⟨[St a,St c]⟩ 169 (0,0))∧Ext (fun q=>q=bt) h h':=fun w hw=>by
 subst hw
 have eH:=ak hb
 refine (Ic a c bt o1 o2 w (er 0 _ rfl) hb).mono fun e w' ⟨he,Dc,K2⟩=>?_
 refine ⟨⟨Dc.tape,Dc.os,Dc.output,Dc.drawn⟩,_,he,rfl,?_,?_,?_⟩
 · rw [K2]
   simp only [World.alloc,Array.getElem?_setIfInBounds,↓reduceIte]
   rw [if_pos (by simp;omega)]
 · rw [K2]
   simp only [World.alloc,Array.size_setIfInBounds,Array.size_push]
   omega
 · intro b j3 hS
   rw [K2]
   simp only [World.alloc,Array.getElem?_setIfInBounds]
   rw [if_neg (fun e=>hS e.symm),eo _ _ (by simp;omega),eo _ _ (by simp;omega),eo _ _ (by simp;omega),eo _ _ j3]
theorem K4:Tryz.prog.globalNamed "errors.errorType" = some 0:=by kernel_rfl
theorem K5:(Tryz.prog.cutTypes.find? (·.1 == "internal/reflectlite.rtype")).map (·.2)=some 290:=by kernel_rfl
theorem Ig:((List.range 412).filter fun t=>Tryz.prog.rowNamed t [101,114,114,111,114])=[165]:=by kernel_rfl
theorem EH:Tryz.prog.types.size=412:=by kernel_rfl
section
variable {h h':aj} {A:Ad} {st:Int} {sk ov:Bool} {aY:Int} {L:List (List UInt8 × gX)} {P:List (List UInt8 × eI)}
theorem Ss.Cr (k:Ss h A st sk ov aY L P) {od:Int} {yu yw:Bool} {P':List (List UInt8 × eI)} (x:Ext (fun z=>z=A.bs∨z=A.mp) h h') (hb:h'[A.bs]?=some (.cells ⟨[.map (some A.ms),.pointer (some ⟨A.bp,0,none⟩),.pointer (some ⟨A.be,0,none⟩),.int .u8 od,.bool yu,.bool yw]⟩ 153 (0,0))) (hm:Mp .string St h' A.mp (fq xa P')) (hP:∀ q∈P',q∈P) (hs:jk od):Ss h' A od yu yw aY L P'∧Tn A P h h' P':=by
 have eH:=ak k.se.bB
 have x1:=Ext.set (S:=fun z=>z=A.bs) h A.bs (.cells ⟨[.map (some A.ms),.pointer (some ⟨A.bp,0,none⟩),.pointer (some ⟨A.be,0,none⟩),.int .u8 od,.bool yu,.bool yw]⟩ 153 (0,0)) rfl
 obtain ⟨k1,t1⟩:=k.jU x1 (dQ k.se.bB) hs
 have x2:Ext (fun z=>z=A.mp) (h.setIfInBounds A.bs (.cells ⟨[.map (some A.ms),.pointer (some ⟨A.bp,0,none⟩),.pointer (some ⟨A.be,0,none⟩),.int .u8 od,.bool yu,.bool yw]⟩ 153 (0,0))) h':=by
   refine ⟨by rw [Array.size_setIfInBounds];exact x.size,fun z hz hn=>?_⟩
   rw [Array.size_setIfInBounds] at hz
   by_cases e:z=A.bs
   · subst e
     rw [hb,dQ k.se.bB]
   · rw [Array.getElem?_setIfInBounds_ne (fun y=>e y.symm)]
     exact x.ad z hz (fun y=>y.elim e hn)
 obtain ⟨k2,t2⟩:=k1.cO x2 hm hP
 exact ⟨k2,t1.trans t2⟩
theorem Cs {h:aj} {v:Value} {c t:List UInt8} (hr:Rd h v 2 4 ((kF ([69,82,82,79,82]:List UInt8) c t).flatMap bz.cells)):Bk.ok h ⟨69,0,[],[],[],0,0,nS,[],nS,[],nS,[],v,kF ([69,82,82,79,82]:List UInt8) c t⟩:=⟨⟨Rd.nil _ _,by simp⟩,⟨Rd.nil _ _,by simp⟩,gU _ _,⟨hr,by simp [kF,maxLen]⟩⟩
theorem Gc {v:Value} {c t:List UInt8} {q:Nat} (hq:Bk.F ⟨69,0,[],[],[],0,0,nS,[],nS,[],nS,[],v,kF ([69,82,82,79,82]:List UInt8) c t⟩ q):v.ownBlock=some q:=by
 rcases hq with ⟨e,_⟩ | ⟨e,_⟩ | e | ⟨_,e⟩
 · exact absurd e (Nat.lt_irrefl 0)
 · exact absurd e (Nat.lt_irrefl 0)
 · exact (fK rfl e).elim
 · exact e
theorem tU (k:Ss h A st sk ov aY L P) (c t:List UInt8):ai Tryz.prog 103 ⟨[.pointer (some ⟨A.bs,0,none⟩),.agg ⟨[St c,St t]⟩]⟩ h fun u h'=>(∃ b:Bk,u=.agg ⟨b.cells⟩∧b.ok h'∧b.p=pj c t∧∀ z,b.F z→h.size≤z) ∧
   (∃ P',(∀ q∈P',q∈P)∧Ss h' A (fu st) sk ov aY L P'∧gi P'=(if fu st=69 then [] else gi P)∧Tn A P h h' P')∧Ext (fun q=>q=A.bs∨q=A.mp) h h':=by
 have Ju:=oe k.r9
 have kf:=fun h'=>BH (h:=h') k.r9
 have lb:=ak k.se.bB
 by_cases e:fu st=69
 · rw [if_pos e]
   rw [e] at kf ⊢
   refine calls [(0,_),(1,_)] Tryz.func103 rfl Tryz.ntmps103 rfl ⟨rfl,rfl,trivial⟩ ?_
   refine WC.sr ?_;refine WL.al (aI rfl) rfl rfl rfl ?_
   rintro _ h1 ⟨b3,rfl,b0,aT,aB⟩
   refine WL.al (au (fun w=>Tryz.zeroValue140 w)) rfl rfl rfl ?_
   rintro _ h2 ⟨b4,rfl,gI,bR,aK⟩
   have k2:=(k.av aB).av aK
   have ca:=aK.obj aT aQ
   have s1:=aB.size
   refine Gn ?_;refine G2 ?_;refine WL.step (ah rfl) rfl rfl rfl (Go ?_);refine WL.ld rfl (by first | exact ab k2.se.bB rfl | assumption) rfl rfl rfl ?_
   refine WL.call (vs:=[_]) rfl Tryz.call156 rfl (kf _) rfl rfl rfl ?_
   rintro _ hz ⟨rfl,_⟩
   subst hz
   refine WL.step (ah rfl) rfl rfl rfl (Go ?_);refine WL.az (aD Tryz.sizeOf5 rfl rfl k2.se.bB (Nat.le_of_ble_eq_true rfl) rfl rfl) rfl rfl ?_
   rintro _ h3 ⟨bC,aS⟩
   obtain ⟨k3,t3⟩:=k2.jU aS bC (by first | exact e▸Ju | exact Ju)
   have EI:=aS.obj ca (fun e=>bE ca k2.se.bB (by decide) e)
   have tK:=aS.obj bR (fun e=>bE bR k2.se.bB (by decide) e)
   have Ol:Ext (fun q=>q=A.bs) h h3:=((aB.trans aK).mono fun _ _ e=>e.elim).trans aS
   refine Gn ?_;refine Gs [(0,_),(3,_),(4,_)] ?_;refine G3 ?_;refine WL.step (ah rfl) rfl rfl rfl (Go ?_);refine WL.ld rfl (by first | exact ab k3.se.bB rfl | assumption) rfl rfl rfl (Go ?_)
   refine Gs [(0,_),(3,_),(4,_),(17,_)] ?_
   refine aJ 1 2 ?_ TT.mk
   aa (refine ay 1 ?_)
   refine WC.region (Go ?_);refine WL.step (ah rfl) rfl rfl rfl (Go ?_);refine WL.ld rfl (by first | exact ab k3.se.bB rfl | assumption) rfl rfl rfl ?_
   refine WL.call (vs:=[_]) rfl Tryz.call145 rfl (rq k3) rfl rfl rfl ?_
   rintro _ h4 ⟨rfl,k4,t4,bh⟩
   have Ct:=bh.obj EI (fun e=>eE k3.se.pm EI e)
   have gL:=bh.obj tK (fun e=>eE k3.se.pm tK e)
   have K7:Ext (fun q=>q=A.bs∨q=A.mp) h h4:=(Ol.mono fun _ _ e=>.inl e).trans (bh.mono fun _ _ e=>.inr e)
   refine Gn ?_;refine Gn ?_;refine G2 ?_;refine WL.ld rfl (by first | exact ab Ct rfl | assumption) rfl rfl rfl (Go ?_)
   refine WL.ld rfl (by first | exact ab Ct rfl | assumption) rfl rfl rfl ?_
   refine WL.call (vs:=[_,_]) rfl Tryz.call157 rfl (wW c t) rfl rfl rfl ?_
   rintro _ h5 ⟨v5,rfl,eX,aO,gj⟩
   obtain ⟨A5,c5,rfl,_⟩:=eX.slice
   refine WL.az (aq Tryz.sizeOf140 rfl rfl rfl (aO.obj gL aQ) rfl (by simp [eB,Value.oneCell'])) rfl rfl ?_
   rintro _ h6 ⟨cj,aP⟩
   have Ge:=(K7.trans (aO.mono fun _ _ e=>e.elim)).trans' aP (fun q hq e=>by omega)
   have kk:=k.Cr (P':=[]) Ge (aP.obj (aO.obj k4.se.bB aQ) (bE k4.se.bB gL (by decide))) ((k4.se.pm.ext aO aQ).ext aP (fun e=>eE k4.se.pm gL e.symm)) (fun q hq=>nomatch hq) (e▸Ju)
   refine Gn ?_;refine Gs [(4,_)] ?_;refine WC.ret ?_
   repeat' (ae first | refine bq ?_ | refine ba ?_)
   refine cA _ ⟨⟨_,rfl,bJ Tryz.isAgg140 Tryz.sizeOf140 cj rfl⟩,trivial⟩ ?_
   exact ⟨⟨⟨69,0,[],[],[],0,0,nS,[],nS,[],nS,[],.slice A5 4 c5,kF ([69,82,82,79,82]:List UInt8) c t⟩,rfl,Cs (eX.ext aP (fun q hq z=>by have:=gj q hq;have:=ak gL;omega)).rd,rfl,fun z hz=>by have:=gj z (Gc hz);have:=K7.size;omega⟩,⟨[],(fun q hq=>nomatch hq),kk.1,rfl,kk.2⟩,Ge⟩
 · rw [if_neg e]
   refine calls [(0,_),(1,_)] Tryz.func103 rfl Tryz.ntmps103 rfl ⟨rfl,rfl,trivial⟩ ?_
   refine WC.sr ?_;refine WL.al (aI rfl) rfl rfl rfl ?_
   rintro _ h1 ⟨b3,rfl,b0,aT,aB⟩
   refine WL.al (au (fun w=>Tryz.zeroValue140 w)) rfl rfl rfl ?_
   rintro _ h2 ⟨b4,rfl,gI,bR,aK⟩
   have k2:=(k.av aB).av aK
   have ca:=aK.obj aT aQ
   have s1:=aB.size
   refine Gn ?_;refine G2 ?_;refine WL.step (ah rfl) rfl rfl rfl (Go ?_);refine WL.ld rfl (by first | exact ab k2.se.bB rfl | assumption) rfl rfl rfl ?_
   refine WL.call (vs:=[_]) rfl Tryz.call156 rfl (kf _) rfl rfl rfl ?_
   rintro _ hz ⟨rfl,_⟩
   subst hz
   refine WL.step (ah rfl) rfl rfl rfl (Go ?_);refine WL.az (aD Tryz.sizeOf5 rfl rfl k2.se.bB (Nat.le_of_ble_eq_true rfl) rfl rfl) rfl rfl ?_
   rintro _ h3 ⟨bC,aS⟩
   obtain ⟨k3,t3⟩:=k2.jU aS bC (by first | exact e▸Ju | exact Ju)
   have EI:=aS.obj ca (fun e=>bE ca k2.se.bB (by decide) e)
   have tK:=aS.obj bR (fun e=>bE bR k2.se.bB (by decide) e)
   have Ol:Ext (fun q=>q=A.bs) h h3:=((aB.trans aK).mono fun _ _ e=>e.elim).trans aS
   refine Gn ?_;refine Gs [(0,_),(3,_),(4,_)] ?_;refine G3 ?_;refine WL.step (ah rfl) rfl rfl rfl (Go ?_);refine WL.ld rfl (by first | exact ab k3.se.bB rfl | assumption) rfl rfl rfl ?_
   have Ct:=EI
   have gL:=tK
   have k4:=k3
   have K7:Ext (fun q=>q=A.bs∨q=A.mp) h h3:=Ol.mono fun _ _ e=>.inl e
   refine Go ?_;refine Gs [(0,_),(3,_),(4,_),(17,_)] ?_
   refine aJ 1 2 ?_ TT.mk
   aa (refine ay 2 ?_)
   refine WC.skip ?_;refine Gn ?_;refine G2 ?_;refine WL.ld rfl (by first | exact ab Ct rfl | assumption) rfl rfl rfl (Go ?_)
   refine WL.ld rfl (by first | exact ab Ct rfl | assumption) rfl rfl rfl ?_
   refine WL.call (vs:=[_,_]) rfl Tryz.call157 rfl (wW c t) rfl rfl rfl ?_
   rintro _ h5 ⟨v5,rfl,eX,aO,gj⟩
   obtain ⟨A5,c5,rfl,_⟩:=eX.slice
   refine WL.az (aq Tryz.sizeOf140 rfl rfl rfl (aO.obj gL aQ) rfl (by simp [eB,Value.oneCell'])) rfl rfl ?_
   rintro _ h6 ⟨cj,aP⟩
   have Ge:=(K7.trans (aO.mono fun _ _ e=>e.elim)).trans' aP (fun q hq e=>by omega)
   have kk:=k.Cr Ge (aP.obj (aO.obj k4.se.bB aQ) (bE k4.se.bB gL (by decide))) ((k4.se.pm.ext aO aQ).ext aP (fun e=>eE k4.se.pm gL e.symm)) (fun q hq=>hq) Ju
   refine Gn ?_;refine Gs [(4,_)] ?_;refine WC.ret ?_
   repeat' (ae first | refine bq ?_ | refine ba ?_)
   refine cA _ ⟨⟨_,rfl,bJ Tryz.isAgg140 Tryz.sizeOf140 cj rfl⟩,trivial⟩ ?_
   exact ⟨⟨⟨69,0,[],[],[],0,0,nS,[],nS,[],nS,[],.slice A5 4 c5,kF ([69,82,82,79,82]:List UInt8) c t⟩,rfl,Cs (eX.ext aP (fun q hq z=>by have:=gj q hq;have:=ak gL;omega)).rd,rfl,fun z hz=>by have:=gj z (Gc hz);have:=K7.size;omega⟩,⟨_,(fun q hq=>hq),kk.1,rfl,kk.2⟩,Ge⟩
end
section
variable {h h':aj} {A:Ad} {st:Int} {sk ov:Bool} {aY:Int} {L:List (List UInt8 × gX)} {P:List (List UInt8 × eI)}
theorem cx.Gf {g:aj} {r:gn} {u:Value} (x:Ext No h g) (d:cx g A P r u h'):cx h A P r u h':=by
 obtain ⟨v,B,c,e,O,p,L',P',k,e1,e2,t⟩:=d
 exact ⟨v,B,c,e,O.mono x.size,p,L',P',k,e1,e2,(Tn.no x).trans t⟩
def Ih (Φ:Value→Value→aj→Prop) (u:Value) (h':aj):Prop:=∃ v e,u=.tuple ⟨[v,e]⟩∧Φ v e h'
abbrev oy (F:Nat) (h:aj) (u:Value) (f:Fm) (Φ:Value→Value→aj→Prop):Prop:=∀ g,Ext No h g→ai Tryz.prog F ⟨[u,.agg ⟨f.cells⟩]⟩ g (Ih Φ)
theorem xp {u:Value} {f:Fm} {Φ:Value→Value→aj→Prop} (hf:f.ok h)
   (hk:(f.kind=80∧oy 146 h u f Φ)∨(f.kind=66∧oy 147 h u f Φ)∨(f.kind=68∧oy 148 h u f Φ)∨(f.kind=69∧oy 149 h u f Φ) ∨
     (f.kind=67∧oy 150 h u f Φ)∨(f.kind=81∧oy 151 h u f Φ) ∨
     ((f.kind ≠ 80∧f.kind ≠ 66∧f.kind ≠ 68∧f.kind ≠ 69∧f.kind ≠ 67∧f.kind ≠ 81)∧∀ g,Ext No h g→Φ (.slice none 0 0) .nilIface g)) :
   ai Tryz.prog 101 ⟨[u,.agg ⟨f.cells⟩]⟩ h (Ih Φ):=by
 obtain ⟨⟨e1,_⟩,⟨e2,_⟩,⟨e3,_⟩,e4,_⟩:=hf
 obtain ⟨fk,w,n,p,t,vo,o,vf,fs,vs,rs,vp,ps,mx⟩:=f
 dsimp only at e1 e2 e3 e4 hk
 obtain ⟨_,_,rfl,_⟩:=e1
 obtain ⟨_,_,rfl,_⟩:=e2
 obtain ⟨_,_,rfl,_⟩:=e3
 obtain ⟨_,_,rfl,_⟩:=e4
 unfold oy at hk
 dsimp only [Fm.cells] at hk ⊢
 rcases hk with ⟨rfl,kp⟩ | ⟨rfl,kp⟩ | ⟨rfl,kp⟩ | ⟨rfl,kp⟩ | ⟨rfl,kp⟩ | ⟨rfl,kp⟩ | ⟨⟨n1,n2,n3,n4,n5,n6⟩,kp⟩
 aa
   refine calls [(0,_),(1,_)] Tryz.func101 rfl Tryz.ntmps101 rfl ⟨rfl,rfl,trivial⟩ ?_
   aa (refine WC.sr ?_;refine WL.al (aI rfl) rfl rfl rfl ?_;rintro _ h1 ⟨b3,rfl,b0,aT,aB⟩;refine Go ?_;refine G3 ?_;refine WL.ld rfl (by first | exact ab aT rfl | assumption) rfl rfl rfl ?_;refine Gn ?_;refine Gs [(0,_),(3,_),(7,_)] ?_;refine WC.block ?_;refine G2 ?_;refine aJ 1 2 ?_ TT.mk)
   aa try (
   refine ay 1 ?_
   aa (refine G2 ?_;refine WL.step (aA Tryz.isAgg42 Tryz.sizeOf42 rfl rfl (by exact At.ax aT)) rfl rfl rfl ?_;refine WL.call (vs:=[_,_]) rfl Tryz.call146 rfl (kp _ aB) rfl rfl rfl ?_;rintro _ h2 ⟨v,e,rfl,D⟩;refine Go ?_;refine Gs [(4,_),(5,_)] ?_;refine Gt ?_;first | exact ⟨v,e,rfl,D⟩ | exact ⟨_,_,rfl,kp _ aB⟩ | (exfalso;omega))
   skip)
   aa (refine ay 2 ?_;refine G2 ?_;refine aJ 3 4 ?_ TT.mk)
   aa try (
   refine ay 3 ?_
   aa (refine G2 ?_;refine WL.step (aA Tryz.isAgg42 Tryz.sizeOf42 rfl rfl (by exact At.ax aT)) rfl rfl rfl ?_;refine WL.call (vs:=[_,_]) rfl Tryz.call147 rfl (kp _ aB) rfl rfl rfl ?_;rintro _ h2 ⟨v,e,rfl,D⟩;refine Go ?_;refine Gs [(4,_),(5,_)] ?_;refine Gt ?_;first | exact ⟨v,e,rfl,D⟩ | exact ⟨_,_,rfl,kp _ aB⟩ | (exfalso;omega))
   skip)
   aa (refine ay 4 ?_;refine G2 ?_;refine Gs [(0,_),(3,_),(7,_),(22,_)] ?_;refine aJ 5 6 ?_ TT.mk)
   aa try (
   refine ay 5 ?_
   aa (refine G2 ?_;refine WL.step (aA Tryz.isAgg42 Tryz.sizeOf42 rfl rfl (by exact At.ax aT)) rfl rfl rfl ?_;refine WL.call (vs:=[_,_]) rfl Tryz.call148 rfl (kp _ aB) rfl rfl rfl ?_;rintro _ h2 ⟨v,e,rfl,D⟩;refine Go ?_;refine Gs [(4,_),(5,_)] ?_;refine Gt ?_;first | exact ⟨v,e,rfl,D⟩ | exact ⟨_,_,rfl,kp _ aB⟩ | (exfalso;omega))
   skip)
   aa (refine ay 6 ?_;refine G2 ?_;refine aJ 7 8 ?_ TT.mk)
   aa try (
   refine ay 7 ?_
   aa (refine G2 ?_;refine WL.step (aA Tryz.isAgg42 Tryz.sizeOf42 rfl rfl (by exact At.ax aT)) rfl rfl rfl ?_;refine WL.call (vs:=[_,_]) rfl Tryz.call149 rfl (kp _ aB) rfl rfl rfl ?_;rintro _ h2 ⟨v,e,rfl,D⟩;refine Go ?_;refine Gs [(4,_),(5,_)] ?_;refine Gt ?_;first | exact ⟨v,e,rfl,D⟩ | exact ⟨_,_,rfl,kp _ aB⟩ | (exfalso;omega))
   skip)
   aa (refine ay 8 ?_;refine G2 ?_;refine Gs [(0,_),(3,_),(7,_),(36,_)] ?_;refine aJ 9 10 ?_ TT.mk)
   aa try (
   refine ay 9 ?_
   aa (refine G2 ?_;refine WL.step (aA Tryz.isAgg42 Tryz.sizeOf42 rfl rfl (by exact At.ax aT)) rfl rfl rfl ?_;refine WL.call (vs:=[_,_]) rfl Tryz.call150 rfl (kp _ aB) rfl rfl rfl ?_;rintro _ h2 ⟨v,e,rfl,D⟩;refine Go ?_;refine Gs [(4,_),(5,_)] ?_;refine Gt ?_;first | exact ⟨v,e,rfl,D⟩ | exact ⟨_,_,rfl,kp _ aB⟩ | (exfalso;omega))
   skip)
   aa (refine ay 10 ?_;refine G2 ?_;refine aJ 11 12 ?_ TT.mk)
   aa try (
   refine ay 11 ?_
   aa (refine G2 ?_;refine WL.step (aA Tryz.isAgg42 Tryz.sizeOf42 rfl rfl (by exact At.ax aT)) rfl rfl rfl ?_;refine WL.call (vs:=[_,_]) rfl Tryz.call151 rfl (kp _ aB) rfl rfl rfl ?_;rintro _ h2 ⟨v,e,rfl,D⟩;refine Go ?_;refine Gs [(4,_),(5,_)] ?_;refine Gt ?_;first | exact ⟨v,e,rfl,D⟩ | exact ⟨_,_,rfl,kp _ aB⟩ | (exfalso;omega))
   skip)
   aa (refine ay 12 ?_;refine WC.skip ?_;refine Gn ?_;refine Gs [] ?_;refine G2 ?_;refine Gt ?_;first | exact ⟨v,e,rfl,D⟩ | exact ⟨_,_,rfl,kp _ aB⟩ | (exfalso;omega))
theorem cx.two {g:aj} {r:gn} {u:Value} (x:Ext No h g) (d:cx g A P r u h'):Ih (fun v e h'=>cx h A P r (.tuple ⟨[v,e]⟩) h') u h':=by
 obtain ⟨v,B,c,rfl,d⟩:=d
 exact ⟨v,_,rfl,cx.Gf x ⟨v,B,c,rfl,d⟩⟩
theorem Ii (k:Ss h A st sk ov aY L P) (lm:jJ (cy st sk ov aY L P)) (f:Fm) (hf:f.ok h) (hF:∀ q,f.F q→¬ Mu A P q) (fl:hJ f):ai Tryz.prog 101 ⟨[.pointer (some ⟨A.bs,0,none⟩),.agg ⟨f.cells⟩]⟩ h (Ih fun v e h'=>cx h A P (eL (cy st sk ov aY L P) f.p) (.tuple ⟨[v,e]⟩) h'):=by
 have e0 : eL (cy st sk ov aY L P) f.p = if f.kind = 80 then eU (cy st sk ov aY L P) f.p else if f.kind = 66 then fY (cy st sk ov aY L P) f.p else if f.kind = 68 then cG (cy st sk ov aY L P) f.p else if f.kind = 69 then cu (cy st sk ov aY L P) f.p
     else if f.kind=67 then hH (cy st sk ov aY L P) f.p else if f.kind=81 then dL (cy st sk ov aY L P) f.p else (cy st sk ov aY L P,[],none):=rfl
 rw [e0]
 refine xp hf ?_
 by_cases e1:f.kind=80
 · exact .inl ⟨e1,fun g x=>by rw [if_pos e1];exact (Eo (k.av x) f (hf.av x) hF fl).mono fun _ _ d=>d.two x⟩
 refine .inr ?_
 rw [if_neg e1]
 by_cases e2:f.kind=66
 · exact .inl ⟨e2,fun g x=>by rw [if_pos e2];exact (HV (k.av x) lm f (hf.av x) hF fl).mono fun _ _ d=>d.two x⟩
 refine .inr ?_
 rw [if_neg e2]
 by_cases e3:f.kind=68
 · exact .inl ⟨e3,fun g x=>by rw [if_pos e3];exact (vG (k.av x) lm f (hf.av x) fl).mono fun _ _ d=>d.two x⟩
 refine .inr ?_
 rw [if_neg e3]
 by_cases e4:f.kind=69
 · exact .inl ⟨e4,fun g x=>by rw [if_pos e4];exact (yQ (k.av x) lm f (hf.av x) fl).mono fun _ _ d=>d.two x⟩
 refine .inr ?_
 rw [if_neg e4]
 by_cases e5:f.kind=67
 · exact .inl ⟨e5,fun g x=>by rw [if_pos e5];exact (HZ (k.av x) f (hf.av x)).mono fun _ _ d=>d.two x⟩
 refine .inr ?_
 rw [if_neg e5]
 by_cases e6:f.kind=81
 · exact .inl ⟨e6,fun g x=>by rw [if_pos e6];exact (xm (k.av x) lm f (hf.av x) fl).mono fun _ _ d=>d.Qe.two x⟩
 refine .inr ⟨⟨e1,e2,e3,e4,e5,e6⟩,fun g x=>?_⟩
 rw [if_neg e6]
 exact cx.Gf x ⟨_,[],fun e=>absurd rfl e,rfl,cH.nil _ _,rfl,.of (k.av x) (Tn.no (.refl _ _))⟩
theorem Ij (k:Ss h A st sk ov aY L P) (lm:jJ (cy st sk ov aY L P)) (f:Fm) (hf:f.ok h) (fl:hJ f) (e6:f.kind=81):ai Tryz.prog 101 ⟨[.pointer (some ⟨A.bs,0,none⟩),.agg ⟨f.cells⟩]⟩ h (Ih fun v e h'=>ft h A L P (dL (cy st sk ov aY L P) f.p) (.tuple ⟨[v,e]⟩) h') :=
 xp hf (.inr (.inr (.inr (.inr (.inr (.inl ⟨e6,fun g x=>(xm (k.av x) lm f (hf.av x) fl).mono fun _ _ d=>by
   obtain ⟨v,B,c,rfl,d⟩:=d
   exact ⟨v,_,rfl,ft.trans (Tn.no x) (fun _ h=>h) (fun _ h=>h) ⟨v,B,c,rfl,d⟩⟩⟩))))))
end
structure oz (f:gK):Prop where
 t:f.text.length≤100000
 o:f.aU.length≤20000
 m:f.params.length≤100000
structure ei (n:Nat) (s:SP):Prop where
 l:∀ q∈s.L,q.2.1.length≤100000∧q.2.2.length≤20000
 p:∀ q∈s.P,q.2.1.length≤100000∧q.2.2.1.length≤20000∧q.2.2.2.1.length≤100000∧jY q.2.2.2.2.1
 c:0≤s.aY∧s.aY≤n
 k:s.L.length≤n
theorem ei.Om {n:Nat} {s:SP} (k:ei n s) (hn:n < 1000000):jJ s:=⟨fun q hq=>(k.l q hq).1,fun q hq=>k.p q hq,by have:=k.c;omega⟩
theorem ei.mono {n m:Nat} {s:SP} (k:ei n s) (h:n≤m):ei m s:=⟨k.l,k.p,by have:=k.c;omega,by have:=k.k;omega⟩
theorem Cu {κ α:Type} [DecidableEq κ] (E:List (κ × α)) (n:κ):(ct E n).length≤E.length:=by unfold ct;exact List.length_filter_le _ _
theorem Cv {κ α:Type} [DecidableEq κ] (E:List (κ × α)) (n:κ) (v:α):(cz E n v).length≤E.length+1:=by
 unfold cz
 split
 · rw [List.length_map];omega
 · simp
section
variable {n:Nat} {s:SP}
theorem ei.vN (k:ei n s) (x:List UInt8):ei n { s with L:=ct s.L x }:=⟨fun q hq=>k.l q (cJ hq).1,k.p,k.c,Nat.le_trans (Cu _ _) k.k⟩
theorem ei.tV (k:ei n s) (x:List UInt8):ei n { s with P:=ct s.P x }:=⟨k.l,fun q hq=>k.p q (cJ hq).1,k.c,k.k⟩
theorem ei.Ik (k:ei n s) (x:List UInt8) (v:HO) (h1:v.1.length≤100000) (h2:v.2.length≤20000):ei (n+1) { s with L:=cz s.L x v } :=
 ⟨fun q hq=>by
   rcases cD hq with rfl | ⟨hq,_⟩
   · exact ⟨h1,h2⟩
   · exact k.l q hq,k.p,⟨k.c.1,by have:=k.c;show s.aY≤_;omega⟩,Nat.le_trans (Cv _ _ _) (by have:=k.k;omega)⟩
theorem ei.mi (k:ei n s) (x:List UInt8) (v:HP) (h:v.1.length≤100000∧v.2.1.length≤20000∧v.2.2.1.length≤100000∧jY v.2.2.2.1):ei n { s with P:=cz s.P x v } :=
 ⟨k.l,fun q hq=>by
   rcases cD hq with rfl | ⟨hq,_⟩
   · exact h
   · exact k.p q hq,k.c,k.k⟩
theorem ei.of (k:ei n s) {s':SP} (h1:s'.L=s.L) (h2:s'.P=s.P∨s'.P=[]) (h3:s'.aY=s.aY):ei n s' :=
 ⟨h1▸k.l,by rcases h2 with e | e <;> rw [e];exact k.p;exact (fun _ h=>nomatch h),h3▸k.c,h1▸k.k⟩
theorem dF {κ α:Type} [DecidableEq κ] {E:List (κ × α)} {n:κ} {v:α} (h:bQ E n=some v):(n,v)∈E:=cm h
theorem qc:jY []:=⟨Nat.zero_le _,(fun _ h=>nomatch h)⟩
theorem lA (v:gm) (ps:List eT) (c:Int):c≤(dq v ps c).2∧(dq v ps c).2≤c+1:=by
 unfold dq
 split
 · exact ⟨Int.le_refl _,by dsimp only;omega⟩
 · split
   · exact ⟨Int.le_refl _,by dsimp only;omega⟩
   · split
     · exact ⟨by dsimp only;omega,Int.le_refl _⟩
     · exact ⟨Int.le_refl _,by dsimp only;omega⟩
theorem yT {rs:List (List eT)} (ov:Bool) (m:Int) (h:jY rs):jY (dW rs ov m).2.1:=by
 unfold dW
 split
 · exact h
 · exact ⟨by simp only [List.length_drop];have:=h.1;omega,fun r hr=>h.2 r (List.mem_of_mem_drop hr)⟩
theorem vO (k:ei n s) (f:gK) (ff:oz f):ei (n+1) (eU s f).1:=by
 have k1:ei n (if f.name=[] then { s with L:=ct s.L [] } else s):=by
   split
   · exact k.vN _
   · exact k
 unfold eU
 dsimp only
 generalize (if f.name=[] then { s with L:=ct s.L [] } else s)=s1 at k1 ⊢
 split
 · exact k1.mono (by omega)
 · split
   · exact k1.mono (by omega)
   · exact k1.Ik _ _ ff.t ff.o
theorem yU (k:ei n s) (f:gK) (ff:oz f):ei (n+1) (fY s f).1:=by
 unfold fY
 split
 · exact k.mono (by omega)
 · split
   · exact k.mono (by omega)
   · bw t ht
     have hm:=k.l _ (dF ht)
     split
     · exact k.mono (by omega)
     · split
       · exact k.mono (by omega)
       · exact (k.mi _ _ ⟨hm.1,hm.2,ff.m,qc⟩).mono (by omega)
theorem pn (k:ei n s) (f:gK):ei (n+1) (cG s f).1:=by
 have e:(cG s f).1=s:=by
   unfold cG
   split <;> split <;> (try split) <;> rfl
 rw [e]
 exact k.mono (by omega)
theorem qd (k:ei n s) (v:gm):ei n (cO s v).1:=by
 unfold cO
 split
 · exact k
 · split
   · exact k
   · refine k.of rfl ?_ rfl
     dsimp only
     split
     · exact .inr rfl
     · exact .inl rfl
theorem rA (k:ei n s) (f:gK):ei (n+1) (cu s f).1:=by
 unfold cu
 split
 · exact k.mono (by omega)
 · split
   · exact k.mono (by omega)
   · bw t o ps rs dm ov hg
     have hm:=k.p _ (dF hg)
     dsimp only at hm
     have hc:=k.c
     split
     · have yg : jY (if dm = true then (rs, s.aY) else dq (bx t) ps s.aY).1 ∧ s.aY ≤ (if dm = true then (rs, s.aY) else dq (bx t) ps s.aY).2 ∧ (if dm = true then (rs, s.aY) else dq (bx t) ps s.aY).2 ≤ s.aY + 1 := by
         split
         · exact ⟨hm.2.2.2,Int.le_refl _,by dsimp only;omega⟩
         · exact ⟨hU _ _ hm.2.2.1,lA _ _ _⟩
       dsimp only
       generalize (if dm=true then (rs,s.aY) else dq (bx t) ps s.aY)=rc at yg ⊢
       have k1:ei (n+1) { s with aY:=rc.2 }:=⟨k.l,k.p,by dsimp only;omega,by have:=k.k;dsimp only;omega⟩
       exact k1.mi _ _ ⟨hm.1,hm.2.1,hm.2.2.1,yT _ _ yg.1⟩
     · split
       · exact k.mono (by omega)
       · have kt:=qd k (bx t)
         split
         · bw s1 out he
           rw [he] at kt
           dsimp only at kt ⊢
           split
           · exact kt.mono (by omega)
           · exact (kt.mi _ _ ⟨hm.1,hm.2.1,hm.2.2.1,qc⟩).mono (by omega)
         · exact kt.mono (by omega)
theorem yV (k:ei n s) (f:gK):ei (n+1) (hH s f).1:=by
 unfold hH
 split
 · exact (k.vN _).mono (by omega)
 · exact (k.tV _).mono (by omega)
theorem vP (k:ei n s) (f:gK):ei (n+1) (dL s f).1:=by
 have k1:ei n { s with L:=ct s.L [],P:=ct s.P [] }:=(k.vN []).tV []
 have k2:ei (n+1) { s with L:=ct s.L [],P:=ct s.P [],aY:=(dq (bx f.text) [] s.aY).2 }:=⟨k1.l,k1.p,by have:=lA (bx f.text) [] s.aY;have hc:=k.c;dsimp only;omega,by have:=k1.k;dsimp only at this ⊢;omega⟩
 unfold dL
 dsimp only
 split
 · exact k1.mono (by omega)
 · split
   · exact k2
   · exact (qd k1 _).mono (by omega)
theorem yW (k:ei n s) (f:gK) (ff:oz f):ei (n+1) (eL s f).1:=by
 unfold eL
 split
 · exact vO k f ff
 · split
   · exact yU k f ff
   · split
     · exact pn k f
     · split
       · exact rA k f
       · split
         · exact yV k f
         · split
           · exact vP k f
           · exact k.mono (by omega)
theorem mq (k:ei n s):ei n (eF s).1:=by
 refine k.of rfl ?_ rfl
 unfold eF
 dsimp only
 split
 · exact .inr rfl
 · exact .inl rfl
theorem tW (k:ei n s) (c t:List UInt8):ei n (iC s c t).1:=by
 refine k.of rfl ?_ rfl
 unfold iC
 dsimp only
 split
 · exact .inr rfl
 · exact .inl rfl
theorem yX (f:gK) {r:gn} (k:ei n r.1):ei n (fZ f r).1:=by
 unfold fZ
 rcases he:r.2.2 with _ | ⟨c,t⟩
 · dsimp only
   split
   · exact mq k
   · exact k
 · dsimp only
   have kf:ei n (iC { r.1 with sk:=decide (f.kind ≠ 81) } c t).1:=tW (s:={ r.1 with sk:=decide (f.kind ≠ 81) }) (k.of rfl (.inl rfl) rfl) c t
   split
   · exact mq kf
   · exact kf
theorem EJ (k:ei n s) (f:gK) (ff:oz f):ei (n+1) (iV s f).1:=by
 have km:ei (n+1) s:=k.mono (by omega)
 unfold iV
 split
 · exact km
 · split
   · exact km.of rfl (.inl rfl) rfl
   · split
     · exact mq (km.of rfl (.inl rfl) rfl)
     · split
       · exact km
       · exact yX f (yW k f ff)
end
theorem jE (a b:List UInt8):bn (a++b)=(bn a && bn b):=by
 unfold bn
 rw [List.contains_eq_any_beq,List.any_append,List.contains_eq_any_beq,List.contains_eq_any_beq,Bool.not_or]
theorem vQ (m:Nat):bn (dn m)=true:=by
 induction m using Nat.strongRecOn with
 | _ m ih =>
   have hd:∀ k,k < 10→bn [UInt8.ofNat (48+k)]=true:=by decide
   by_cases h:m < 10
   · rw [nx h]
     exact hd m h
   · rw [rk h,show (UInt8.ofNat (48+m % 10) :: dn (m / 10))=[UInt8.ofNat (48+m % 10)]++dn (m / 10) from rfl,jE,hd _ (by omega),ih (m / 10) (by omega)]
     rfl
theorem qe (m:Nat):bn (zA m)=true:=by
 have:=vQ m
 unfold bn zA at *
 rw [List.contains_eq_any_beq] at *
 nE [List.any_reverse]
theorem vR (n:Int):bn (dE n)=true:=by
 unfold dE
 split
 · rw [show (45 :: zA n.natAbs)=[45]++zA n.natAbs from rfl,jE,qe]
   rfl
 · exact qe _
section
variable (N M:Nat) (G:Prop)
def Cw (o:List Int):Prop:=o.length≤N∧(G→∀ n∈o,0≤n∧n≤4294967295)
def fa (ps:List eT):Prop:=ps.length≤N∧∀ c∈ps,c.2.length≤M∧(G→c.1=true→c.2.length=0)
structure Inv (s:SP):Prop where
 l:∀ q∈s.L,Cw N G q.2.2
 p:∀ q∈s.P,Cw N G q.2.2.1∧fa N M G q.2.2.2.1∧∀ r∈q.2.2.2.2.1,fa N M G r
 c:0≤s.aY∧s.aY≤1000000
def hX (x:jD):Prop:=x.kind=69∨(∃ k,x={ kind:=k }∧(k=49∨k=50∨k=51∨k=73∨k=110∨k=115))∨(∃ t,x={ kind:=67,tag:=t }∧bn t=true∧t.length≤1000)∨(∃ o,x={ kind:=116,aU:=o }∧Cw N G o)∨(∃ r,x={ kind:=68,row:=r }∧fa N M G r)∨(∃ n:Int,x=pW n∧n≤max N 1)
end
section
variable {N M:Nat} {G:Prop} {s:SP}
theorem hX.plain {k:Int} (h:k=49∨k=50∨k=51∨k=73∨k=110∨k=115):∀ x∈[({ kind:=k }:jD)],hX N M G x:=fun x hx=>by
 obtain rfl:=List.mem_singleton.1 hx
 exact .inr (.inl ⟨k,rfl,h⟩)
theorem Inv.vN (k:Inv N M G s) (x:List UInt8):Inv N M G { s with L:=ct s.L x }:=⟨fun q hq=>k.l q (cJ hq).1,k.p,k.c⟩
theorem Inv.tV (k:Inv N M G s) (x:List UInt8):Inv N M G { s with P:=ct s.P x }:=⟨k.l,fun q hq=>k.p q (cJ hq).1,k.c⟩
theorem Inv.Ik (k:Inv N M G s) (x:List UInt8) (v:HO) (h:Cw N G v.2):Inv N M G { s with L:=cz s.L x v } :=
 ⟨fun q hq=>by
   rcases cD hq with rfl | ⟨hq,_⟩
   · exact h
   · exact k.l q hq,k.p,k.c⟩
theorem Inv.mi (k:Inv N M G s) (x:List UInt8) (v:HP) (h:Cw N G v.2.1∧fa N M G v.2.2.1∧∀ r∈v.2.2.2.1,fa N M G r):Inv N M G { s with P:=cz s.P x v } :=
 ⟨k.l,fun q hq=>by
   rcases cD hq with rfl | ⟨hq,_⟩
   · exact h
   · exact k.p q hq,k.c⟩
theorem Inv.of (k:Inv N M G s) {s':SP} (h1:s'.L=s.L) (h2:s'.P=s.P∨s'.P=[]) (h3:s'.aY=s.aY):Inv N M G s' :=
 ⟨h1▸k.l,by rcases h2 with e | e <;> rw [e];exact k.p;exact (fun _ h=>nomatch h),h3▸k.c⟩
theorem xq {n:Int} (hN:1≤N) (hM:100≤M) (hn:0≤n∧n≤1000001):fa N M G [(false,dE n)]:=⟨hN,fun c hc=>by
 obtain rfl:=List.mem_singleton.1 hc
 exact ⟨by have:=dA n (by omega);show (dE n).length≤M;omega,fun _ e=>by cases e⟩⟩
theorem qf (v:gm) {ps:List eT} {c:Int} (hN:1≤N) (hM:100≤M) (hc:0≤c∧c≤1000000) (h:fa N M G ps):∀ r∈(dq v ps c).1,fa N M G r:=by
 unfold dq
 split
 · intro r hr
   obtain ⟨i,hi,rfl⟩:=List.mem_map.1 hr
   have:=jC v.n
   have:=List.mem_range.1 hi
   exact xq hN hM (by omega)
 · split
   · intro r hr
     obtain rfl:=List.mem_singleton.1 hr
     exact h
   · split
     · intro r hr
       obtain rfl:=List.mem_singleton.1 hr
       exact xq hN hM (by omega)
     · exact fun _ h=>nomatch h
theorem EK {n:Nat} (h:n≤100000):bn (yK n)=true∧(yK n).length≤1000:=by
 unfold yK
 have:=dA (n:Int) (by omega)
 exact ⟨by rw [jE,vR];rfl,by rw [List.length_append];simp;omega⟩
theorem mR {rs:List (List eT)} (more:Bool) (hl:rs.length≤100000) (h:∀ r∈rs,fa N M G r):∀ x∈db rs more,hX N M G x:=fun x hx=>by
 unfold db at hx
 rcases List.mem_append.1 hx with hx | hx
 · obtain ⟨r,hr,rfl⟩:=List.mem_map.1 hx
   exact .inr (.inr (.inr (.inr (.inl ⟨r,rfl,h r hr⟩))))
 · obtain rfl:=List.mem_singleton.1 hx
   split
   · exact .inr (.inl ⟨115,rfl,by omega⟩)
   · exact .inr (.inr (.inl ⟨_,rfl,EK hl⟩))
theorem xr (v:gm) {o:List Int} (h:Cw N G o):ph v o.length≤max N 1:=by
 unfold ph
 have:=h.1
 split
 · omega
 · split <;> omega
theorem oA (t:HO) (h:Cw N G t.2):hX N M G (jm t):=by
 unfold jm
 split
 · exact .inr (.inr (.inr (.inr (.inr ⟨_,rfl,xr _ h⟩))))
 · exact .inr (.inl ⟨110,rfl,by omega⟩)
theorem yY (st:Int) (v:gm):bn (fv st v).2=true∧(fv st v).2.length≤1000:=by
 unfold fv
 split
 · unfold tA
   split <;> exact ⟨rfl,Nat.le_of_ble_eq_true rfl⟩
 · split <;> exact ⟨rfl,Nat.le_of_ble_eq_true rfl⟩
theorem qg (k:Inv N M G s) (v:gm):Inv N M G (cO s v).1∧∀ x∈(cO s v).2.1,hX N M G x:=by
 unfold cO
 split
 · exact ⟨k,hX.plain (by omega)⟩
 · split
   · exact ⟨k,fun _ h=>nomatch h⟩
   · refine ⟨k.of rfl ?_ rfl,fun x hx=>?_⟩
     · dsimp only
       split
       · exact .inr rfl
       · exact .inl rfl
     · obtain rfl:=List.mem_singleton.1 hx
       exact .inr (.inr (.inl ⟨_,rfl,yY _ _⟩))
theorem vS (k:Inv N M G s) (f:gK) (hq:Cw N G f.aU):Inv N M G (eU s f).1∧∀ x∈(eU s f).2.1,hX N M G x:=by
 have k1:Inv N M G (if f.name=[] then { s with L:=ct s.L [] } else s):=by
   split
   · exact k.vN _
   · exact k
 unfold eU
 dsimp only
 generalize (if f.name=[] then { s with L:=ct s.L [] } else s)=s1 at k1 ⊢
 split
 · exact ⟨k1,fun _ h=>nomatch h⟩
 · split
   · exact ⟨k1,fun _ h=>nomatch h⟩
   · exact ⟨k1.Ik _ _ hq,hX.plain (by omega)⟩
theorem yZ (k:Inv N M G s) (f:gK) (hr:fa N M G f.params):Inv N M G (fY s f).1∧∀ x∈(fY s f).2.1,hX N M G x:=by
 unfold fY
 split
 · exact ⟨k,fun _ h=>nomatch h⟩
 · split
   · exact ⟨k,fun _ h=>nomatch h⟩
   · bw t ht
     have hm:=k.l _ (dF ht)
     split
     · exact ⟨k,fun _ h=>nomatch h⟩
     · split
       · exact ⟨k,fun _ h=>nomatch h⟩
       · exact ⟨k.mi _ _ ⟨hm,hr,fun _ h=>nomatch h⟩,hX.plain (by omega)⟩
theorem po (k:Inv N M G s) (f:gK):Inv N M G (cG s f).1∧∀ x∈(cG s f).2.1,hX N M G x:=by
 unfold cG
 split
 · split
   · exact ⟨k,fun _ h=>nomatch h⟩
   · split
     · exact ⟨k,fun _ h=>nomatch h⟩
     · bw t ht
       have hm:=k.l _ (dF ht)
       refine ⟨k,fun x hx=>?_⟩
       rcases List.mem_cons.1 hx with rfl | hx
       · exact .inr (.inr (.inr (.inl ⟨_,rfl,hm⟩)))
       · obtain rfl:=List.mem_singleton.1 hx
         exact oA _ hm
 · split
   · exact ⟨k,fun _ h=>nomatch h⟩
   · split
     · exact ⟨k,fun _ h=>nomatch h⟩
     · bw t ht
       have hm:=k.p _ (dF ht)
       refine ⟨k,fun x hx=>?_⟩
       obtain rfl:=List.mem_singleton.1 hx
       exact oA _ hm.1
theorem EL {rs:List (List eT)} (ov:Bool) (m:Int) (hl:rs.length≤100000) (h:∀ r∈rs,fa N M G r):((dW rs ov m).1.length≤100000∧∀ r∈(dW rs ov m).1,fa N M G r)∧∀ r∈(dW rs ov m).2.1,fa N M G r:=by
 unfold dW
 split
 · exact ⟨⟨Nat.zero_le _,fun _ h=>nomatch h⟩,h⟩
 · exact ⟨⟨by dsimp only;rw [List.length_take];omega,fun r hr=>h r (List.mem_of_mem_take hr)⟩,fun r hr=>h r (List.mem_of_mem_drop hr)⟩
theorem rB (k:Inv N M G s) {n:Nat} (lm:ei n s) (hn:n < 1000000) (hN:1≤N) (hM:100≤M) (f:gK):Inv N M G (cu s f).1∧∀ x∈(cu s f).2.1,hX N M G x:=by
 unfold cu
 split
 · exact ⟨k,fun _ h=>nomatch h⟩
 · split
   · exact ⟨k,fun _ h=>nomatch h⟩
   · bw t o ps rs dm ov hg
     have hm:=k.p _ (dF hg)
     have hl:=lm.p _ (dF hg)
     have hc:=lm.c
     dsimp only at hm hl
     split
     · have yg : (∀ r ∈ (if dm = true then (rs, s.aY) else dq (bx t) ps s.aY).1, fa N M G r) ∧ (if dm = true then (rs, s.aY) else dq (bx t) ps s.aY).1.length ≤ 100000 ∧ s.aY ≤ (if dm = true then (rs, s.aY) else dq (bx t) ps s.aY).2 ∧ (if dm = true then (rs, s.aY) else dq (bx t) ps s.aY).2 ≤ s.aY + 1 := by
         split
         · exact ⟨hm.2.2,hl.2.2.2.1,Int.le_refl _,by dsimp only;omega⟩
         · exact ⟨qf _ hN hM (by omega) hm.2.1,(hU _ _ hl.2.2.1).1,lA _ _ _⟩
       dsimp only
       generalize (if dm=true then (rs,s.aY) else dq (bx t) ps s.aY)=rc at yg ⊢
       have k1:Inv N M G { s with aY:=rc.2 }:=⟨k.l,k.p,by dsimp only;omega⟩
       have hf:=EL ov f.max yg.2.1 yg.1
       exact ⟨k1.mi _ _ ⟨hm.1,hm.2.1,hf.2⟩,mR _ hf.1.1 hf.1.2⟩
     · split
       · exact ⟨k,fun _ h=>nomatch h⟩
       · have kt:=qg k (bx t)
         split
         · bw s1 out he
           rw [he] at kt
           dsimp only at kt ⊢
           refine ⟨?_,kt.2⟩
           split
           · exact kt.1
           · exact kt.1.mi _ _ ⟨hm.1,hm.2.1,fun _ h=>nomatch h⟩
         · exact kt
theorem y6 (k:Inv N M G s) (f:gK):Inv N M G (hH s f).1∧∀ x∈(hH s f).2.1,hX N M G x:=by
 unfold hH
 split
 · exact ⟨k.vN _,hX.plain (by omega)⟩
 · exact ⟨k.tV _,hX.plain (by omega)⟩
theorem vT (k:Inv N M G s) {n:Nat} (lm:ei n s) (hn:n < 1000000) (hN:1≤N) (hM:100≤M) (f:gK):Inv N M G (dL s f).1∧∀ x∈(dL s f).2.1,hX N M G x:=by
 have hc:=lm.c
 have k1:Inv N M G { s with L:=ct s.L [],P:=ct s.P [] }:=(k.vN []).tV []
 have h0:fa N M G ([]:List eT):=⟨Nat.zero_le _,fun _ h=>nomatch h⟩
 have he:=lA (bx f.text) [] s.aY
 unfold dL
 dsimp only
 split
 · exact ⟨k1,fun _ h=>nomatch h⟩
 · split
   · refine ⟨⟨k1.l,k1.p,by dsimp only;omega⟩,fun x hx=>?_⟩
     rcases List.mem_cons.1 hx with rfl | hx
     · exact .inr (.inr (.inr (.inr (.inr ⟨_,rfl,xr (G:=G) (o:=[]) _ ⟨Nat.zero_le _,fun _ _ h=>nomatch h⟩⟩))))
     · exact mR _ (hU _ _ (Nat.zero_le _)).1 (qf _ hN hM (by omega) h0) x hx
   · exact qg k1 _
theorem y7 (k:Inv N M G s) {n:Nat} (lm:ei n s) (hn:n < 1000000) (hN:1≤N) (hM:100≤M) (f:gK) (hq:Cw N G f.aU) (hr:fa N M G f.params):Inv N M G (eL s f).1∧∀ x∈(eL s f).2.1,hX N M G x:=by
 unfold eL
 split
 · exact vS k f hq
 · split
   · exact yZ k f hr
   · split
     · exact po k f
     · split
       · exact rB k lm hn hN hM f
       · split
         · exact y6 k f
         · split
           · exact vT k lm hn hN hM f
           · exact ⟨k,fun _ h=>nomatch h⟩
theorem qh (k:Inv N M G s):Inv N M G (eF s).1:=by
 refine k.of rfl ?_ rfl
 unfold eF
 dsimp only
 split
 · exact .inr rfl
 · exact .inl rfl
def Gh (s:SP) (f:gK):Bool := !s.ov && (decide (f.kind=83) || decide (f.kind=81) && !s.sk)
theorem EN (k:Inv N M G s) {n:Nat} (lm:ei n s) (hn:n < 1000000) (hN:1≤N) (hM:100≤M) (f:gK) (hq:Cw N G f.aU) (hr:fa N M G f.params) :
   Inv N M G (iV s f).1∧∃ l,(iV s f).2=l++(if Gh s f=true then [{ kind:=90,status:=(iV s f).1.st }] else [])∧∀ x∈l,hX N M G x:=by
 unfold iV Gh
 by_cases h1:s.ov=true
 · rw [if_pos h1]
   exact ⟨k,[],by simp [h1],fun _ h=>nomatch h⟩
 · rw [if_neg h1]
   have e1:s.ov=false:=by simpa using h1
   by_cases h2:f.kind=88
   · rw [if_pos h2]
     exact ⟨k.of rfl (.inl rfl) rfl,[],by simp [e1,h2],fun _ h=>nomatch h⟩
   · rw [if_neg h2]
     by_cases h3:f.kind=83
     · rw [if_pos h3]
       exact ⟨qh (k.of (s':={ s with sk:=false }) rfl (.inl rfl) rfl),[],by simp [e1,h3,eF],fun _ h=>nomatch h⟩
     · rw [if_neg h3]
       by_cases h4:s.sk=true
       · rw [if_pos h4]
         exact ⟨k,[],by simp [h4,h3],fun _ h=>nomatch h⟩
       · rw [if_neg h4]
         have e4:s.sk=false:=by simpa using h4
         have kd:=y7 k lm hn hN hM f hq hr
         generalize eL s f=r at kd ⊢
         obtain ⟨s1,out,e⟩:=r
         dsimp only at kd
         obtain ⟨s2,o2,he,ki,ko⟩:∃ s2 o2,fZ f (s1,out,e)=(if f.kind=81 then ((eF s2).1,o2++[(eF s2).2]) else (s2,o2))∧Inv N M G s2∧∀ x∈o2,hX N M G x:=by
           rcases e with _ | ⟨c,t⟩
           · exact ⟨s1,out,rfl,kd.1,kd.2⟩
           · refine ⟨_,_,rfl,kd.1.of rfl ?_ rfl,fun x hx=>?_⟩
             · dsimp only [iC]
               split
               · exact .inr rfl
               · exact .inl rfl
             · rcases List.mem_append.1 hx with hx | hx
               · exact kd.2 x hx
               · obtain rfl:=List.mem_singleton.1 hx
                 exact .inl rfl
         rw [he]
         by_cases h5:f.kind=81
         · rw [if_pos h5]
           exact ⟨qh ki,o2,by simp [e1,e4,h5,eF],ko⟩
         · rw [if_neg h5]
           exact ⟨ki,o2,by simp [h3,h5],ko⟩
end
def y8 (p:jD):Bk:=⟨p.kind,p.status,p.tag,p.name,p.value,p.n,p.m,kj,p.aU,kj,p.dt,kj,p.row.map fun c=>⟨c.1,kj,c.2⟩,kj,p.fields⟩
theorem vU (p:jD):(y8 p).p=p:=by
 unfold y8 Bk.p
 dsimp only
 rw [List.map_map,show (bj.pl ∘ fun c:eT=>(⟨c.1,kj,c.2⟩:bj))=id from rfl,List.map_id]
theorem rC {φ:Bool→List UInt8→Prop} (l:List bj):(∀ c∈l,φ c.null c.bytes) ↔ ∀ c∈l.map bj.pl,φ c.1 c.2:=by simp [bj.pl]
theorem On {a b:Bk} (e:a.p=b.p):(uy a).pl=(uy b).pl:=by
 obtain ⟨k,st,t,n,v,x,y,vo,lo,vc,lc,vr,lr,vf,lf⟩:=a
 obtain ⟨k',od,t',n',v',x',y',Sx,Sy,SA,SB,wT,Oo,SC,SD⟩:=b
 simp only [Bk.p,jD.mk.injEq] at e
 obtain ⟨rfl,rfl,rfl,rfl,rfl,rfl,rfl,rfl,rfl,er,rfl⟩:=e
 unfold uy
 dsimp only
 repeat' split
 aa first | rfl | simp only [Bk.pl,er]
theorem Oq {a b:Bk} (e:a.p=b.p):a.pl=b.pl:=by
 simp only [Bk.p,jD.mk.injEq] at e
 simp only [Bk.pl,e]
theorem vV {a b:Bk} (e:a.p=b.p) (h:a.may):b.may:=by
 have e1:=On e
 have e2:=Oq e
 simp only [Bk.p,jD.mk.injEq] at e
 obtain ⟨h1,h2,h3,h4,h5,h6,h7,h8,h9,jf,rr,r7⟩:=h
 obtain ⟨k1,k2,k3,k4,k5,k6,k7,k8,k9,tS,Ck⟩:=e
 refine ⟨k1▸h1,k3▸h2,k4▸h3,k5▸h4,k9▸h5,Ck▸h6,⟨?_,?_⟩,k8▸h8,k6▸h9,k7▸jf,?_,e1▸e2▸r7⟩
 · have:=congrArg List.length tS
   simp only [List.length_map] at this
   have:=h7.1
   omega
 · have:=(rC (φ:=fun n l=>(n=true→l.length=0)∧l.length≤1048576) a.row).1 h7.2
   rw [tS] at this
   exact (rC (φ:=fun n l=>(n=true→l.length=0)∧l.length≤1048576) b.row).2 this
 · unfold Bk.mW at *
   rw [← k1,← k2]
   exact rr
theorem xt {a b:Bk} (e:a.p=b.p):eK a=eK b:=by
 obtain ⟨k,st,t,n,v,x,y,vo,lo,vc,lc,vr,lr,vf,lf⟩:=a
 obtain ⟨k',od,t',n',v',x',y',Sx,Sy,SA,SB,wT,Oo,SC,SD⟩:=b
 simp only [Bk.p,jD.mk.injEq] at e
 obtain ⟨rfl,rfl,rfl,rfl,rfl,rfl,rfl,rfl,rfl,er,rfl⟩:=e
 have hl:lr.length=Oo.length:=by have:=congrArg List.length er;simpa using this
 have hf:∀ l:List bj,l.flatMap dV=(l.map bj.pl).flatMap fun c=>if c.1 then be 4294967295 4 else be c.2.length 4++c.2:=fun l=>by rw [List.flatMap_map];rfl
 unfold eK
 dsimp only
 rw [hl,hf lr,hf Oo,er]
open Classical in
noncomputable def eV (p:jD):List (Int × List UInt8):=if (y8 p).may then [(p.kind,eK (y8 p))] else []
def Kn (k:Int):Prop:=k=90∨k=67∨k=68∨k=84∨k=116∨k=69∨k=82∨k=75∨k=49∨k=50∨k=51∨k=110∨k=115∨k=73
structure jK (p:jD):Prop where
 kind:Kn p.kind
 status:0≤p.status∧p.status≤255
 FX:∀ f∈p.fields,0≤f.k∧f.k≤255
 aU:p.aU.length≤100
 dt:p.dt.length≤100
 row:p.row.length≤100
 fields:p.fields.length≤100
 names:∀ c∈p.dt,c.nm.length≤1000
 cells:∀ c∈p.row,c.2.length≤1000
 texts:∀ f∈p.fields,f.t.length≤200000
 tag:p.tag.length≤1000
 name:p.name.length≤1000
 value:p.value.length≤1000
theorem jK.of {b:Bk} {p:jD} (e:b.p=p) (k:jK p):b.Km∧b.wf∧Kn b.kind:=by
 subst e
 obtain ⟨h1,h2,h3,h4,h5,h6,h7,h8,h9,jf,rr,r7,H6⟩:=k
 refine ⟨⟨h4,h5,by simpa [Bk.p] using h6,h7,h8,(rC (φ:=fun _ l=>l.length≤1000) b.row).2 h9,jf,rr,r7,H6⟩,⟨?_,h2,h3⟩,h1⟩
 have:Kn b.kind:=h1
 unfold Kn at this
 omega
def Qq (p:jD) (h:aj) (u:Value) (h':aj):Prop:=∃ (k:Int) (v:Value) (e:Int),u=.tuple ⟨[.agg ⟨[.int .u8 k,v]⟩,In e]⟩∧Ext No h h'∧((e ≠ 0∧eV p=[]∧v=kj)∨(e=0∧k=p.kind∧∃ l,eV p=[(p.kind,l)]∧Own h' v 5 1 l.length (bK l)∧∀ q,v.ownBlock=some q→h.size≤q))
theorem xu {h:aj} (b:Bk) (hb:b.ok h) (hm:jK b.p):ai Tryz.prog 98 ⟨[.agg ⟨b.cells⟩]⟩ h (Qq b.p h):=by
 obtain ⟨md,wf,kn⟩:=jK.of rfl hm
 have e:(y8 b.p).p=b.p:=vU _
 by_cases mZ:b.may
 · have ho:eV b.p=[(b.kind,eK b)]:=by unfold eV;rw [if_pos (vV e.symm mZ),xt e];rfl
   exact (HA b hb wf md mZ (by unfold Kn at kn;omega)).mono fun u h' ⟨v',e1,e2,e3,e4⟩=>⟨_,_,_,e1,e3,.inr ⟨rfl,rfl,_,ho,e2,e4⟩⟩
 · have ho:eV b.p=[]:=by unfold eV;rw [if_neg fun z=>mZ (vV e z)]
   exact (Bw b hb wf.kind md mZ).mono fun u h' ⟨e1,ep,eu,hx⟩=>⟨_,_,_,eu,hx,.inl ⟨ep,ho,rfl⟩⟩
end Go.Proofs.YtopgddfgefnmbaaGreatDoor
namespace Go.Proofs.YtopgddfgefnmbaaGreatDoor
open Go Go.RK
abbrev nd:=Int × Value × List UInt8
def vW (x:nd):List Value:=[.int .u8 x.1,x.2.1]
def nd.pl (x:nd):Int × List UInt8:=(x.1,x.2.2)
structure Sd (h:aj) (v:Value) (M:List nd):Prop where
 row:Own h v 53 2 M.length (M.flatMap vW)
 xv:∀ x∈M,Own h x.2.1 5 1 x.2.2.length (bK x.2.2)
theorem iG {h:aj} {v:Value} {T:TypeId} {sz n:Nat} {xs:List Value} (k:Own h v T sz n xs):v.oneCell'=true:=by
 obtain ⟨A,c,rfl,_⟩:=k.slice
 rfl
section
variable {h h':aj} {v:Value} {M:List nd} {S:Nat→Prop}
theorem Sd.one (k:Sd h v M):∀ x∈M.flatMap vW,x.oneCell'=true:=fun x hx=>by
 obtain ⟨y,hy,hx⟩:=List.mem_flatMap.1 hx
 simp only [vW,List.mem_cons,List.not_mem_nil,or_false] at hx
 rcases hx with rfl | rfl
 · rfl
 · exact iG (k.xv y hy)
theorem Sd.ext (k:Sd h v M) (x:Ext S h h') (h1:∀ q,v.ownBlock=some q→¬ S q) (h2:∀ y∈M,∀ q,y.2.1.ownBlock=some q→¬ S q):Sd h' v M:=⟨k.row.ext x h1,fun y hy=>(k.xv y hy).ext x (h2 y hy)⟩
theorem Sd.av (k:Sd h v M) (x:Ext No h h'):Sd h' v M:=k.ext x (fun _ _=>aQ) (fun _ _ _ _=>aQ)
theorem Sd.lt (k:Sd h v M):(∀ q,v.ownBlock=some q→q < h.size)∧∀ y∈M,∀ q,y.2.1.ownBlock=some q→q < h.size:=⟨fun _ hq=>k.row.lt hq,fun y hy _ hq=>(k.xv y hy).lt hq⟩
theorem Sd.nil (h:aj):Sd h (.slice none 0 0) []:=⟨Own.nil _ _ _,(fun _ h=>nomatch h)⟩
theorem Sd.off (k:Sd h v M) {b:Nat} {cs:List Value} {T:TypeId} (hb:h[b]?=some (.cells ⟨cs⟩ T (0,0))) (h1:T ≠ 53) (h2:T ≠ 5):v.ownBlock ≠ some b∧∀ y∈M,y.2.1.ownBlock ≠ some b:=⟨bZ k.row hb h1,fun y hy=>bZ (k.xv y hy) hb h2⟩
end
theorem Gi {h:aj} {b:Nat} {w0 f s p i v:Value} {bg ov:Bool} {M0:List nd} (L:List Bk) (hv:Rd h v 11 L.length (L.flatMap Bk.cells)) (hb:h[b]?=some (.cells ⟨mN w0 f s p i bg ov⟩ 96 (0,0))) (hs:Sd h w0 M0) (hm:M0.length+L.length≤10000)
   (ep:∀ q,v.ownBlock=some q→q ≠ b∧w0.ownBlock ≠ some q) (iE:∀ y∈L,∀ v∈y.cells,v.oneCell'=true) (SE:∀ y∈L,∀ g:aj,Ext (fun q=>q=b∨w0.ownBlock=some q) h g→ai Tryz.prog 98 ⟨[.agg ⟨y.cells⟩]⟩ g (Qq y.p g)) :
   ai Tryz.prog 57 ⟨[.pointer (some ⟨b,0,none⟩),v]⟩ h fun _ h'=>∃ (w:Value) (M:List nd),M.map nd.pl=M0.map nd.pl++L.flatMap (fun y=>eV y.p)∧h'[b]?=some (.cells ⟨mN w f s p i bg ov⟩ 96 (0,0))∧Sd h' w M∧Ext (fun q=>q=b∨w0.ownBlock=some q) h h'∧(∀ q,w.ownBlock=some q→w0.ownBlock=some q∨h.size≤q)∧∀ x∈M,x∈M0∨∀ q,x.2.1.ownBlock=some q→h.size≤q:=by
 unfold mN at *
 have lb:=ak hb
 have U1:=hs.lt
 obtain ⟨A,c,rfl,_⟩:=id hv
 refine calls [(0,_),(1,_)] Tryz.func57 rfl Tryz.ntmps57 rfl ⟨rfl,rfl,trivial⟩ ?_
 refine G2 ?_;refine WC.block ?_;refine WC.bO (X:=Nat × Value × List nd) (fun x=>([(10,In (x.1:Int))]:Fr)) [(0,_),(8,_),(9,_)] (fun x h'=>x.1≤L.length∧x.2.2.map nd.pl=M0.map nd.pl++(L.take x.1).flatMap (fun y=>eV y.p)∧h'[b]?=some (.cells ⟨[x.2.1,f,s,p,i,.bool bg,.bool ov]⟩ 96 (0,0))∧Sd h' x.2.1 x.2.2∧Ext (fun q=>q=b∨w0.ownBlock=some q) h h'∧(∀ q,x.2.1.ownBlock=some q→w0.ownBlock=some q∨h.size≤q)∧(∀ y∈x.2.2,y∈M0∨∀ q,y.2.1.ownBlock=some q→h.size≤q)∧x.2.2.length≤M0.length+x.1) (fun x=>L.length - x.1) ((0,w0,M0)) ⟨rfl,rfl,rfl,rfl,trivial⟩ (by exact ⟨Nat.zero_le _,by simp,hb,hs,.refl _ _,fun q hq=>.inl hq,fun y hy=>.inl hy,Nat.le_refl _⟩) ?_
 rintro ⟨j,w,M⟩ h1 ⟨hj,hM,aT,gr,aB,iO,My,lg⟩
 dsimp only at hj hM aT gr iO My lg
 obtain ⟨A1,c1,rfl,_⟩:=id gr.row.slice
 refine WC.sub [(10,_),(0,_),(8,_),(9,_)] ⟨rfl,rfl,rfl,rfl,trivial⟩ ?_
 dsimp only
 refine G2 ?_;refine WC.seq ?_
 refine aJ 1 2 (Hb.mk fun hb=>?_) (Hb.mk fun hb=>?_)
 aa try (
 refine ay 1 ?_
 refine WC.skip ?_
 skip)
 aa try (
 refine ay 2 ?_
 refine WC.exit ?_
 repeat' (ae first | refine aZ ?_ | refine aF rfl ?_ | refine aL ?_ | refine aN ?_ | refine aV ?_)
 refine Br.out (i:=1000) ?_
 skip)
 aa (refine Gn ?_;first | refine Br.ad ?_ | refine WC.seq ?_)
 aa (first | refine Br.ad ?_ | refine WC.block ?_)
 aa (first | refine Br.ad ?_ | refine WC.sr ?_)
 aa (
  first
    | (refine Br.ad ?_)
    | (obtain ⟨y,hy⟩:∃ y,L[j]?=some y:=⟨_,List.getElem?_eq_getElem (by omega)⟩
       obtain ⟨bL,oL,hA,gx,cX⟩:=Rd.at_ (hv.ext aB (fun q hq e=>e.elim (ep q hq).1 (ep q hq).2)) (by omega)
       subst hA
       have SF:=cX.elem (sz:=11) (fun _=>rfl) hy
       have SG:=SE y (List.mem_of_getElem? hy)
       have j3:h.size≤h1.size:=aB.size
       have I7:(L.take (j+1)).flatMap (fun y=>eV y.p)=(L.take j).flatMap (fun y=>eV y.p)++eV y.p:=by rw [List.take_add_one,hy,List.flatMap_append];simp))
 aa (first | refine Br.ad ?_ | (refine WL.step (aG Tryz.underlying80 Tryz.sizeOf140 rfl rfl rfl (by omega) (by first | rfl | assumption)) rfl rfl rfl ?_))
 aa (first | refine Br.ad ?_ | (refine WL.step (aA Tryz.isAgg140 Tryz.sizeOf140 rfl rfl (by exact SF)) rfl rfl rfl ?_))
 aa (
  first
    | (refine Br.ad ?_)
    | (refine WL.al (au (fun w=>Tryz.zeroValue140 w)) rfl rfl rfl ?_
       rintro _ h2 ⟨b5,rfl,r6,cd,aK⟩))
 aa (
  first
    | (refine Br.ad ?_)
    | (refine WL.az (aq Tryz.sizeOf140 rfl rfl rfl cd rfl (fun v hv=>iE y (List.mem_of_getElem? hy) v hv)) rfl rfl ?_
       rintro _ h3 ⟨D6,aS⟩
       have X3:Ext No h1 h3:=aK.trans' aS (fun q hq e=>by omega)))
 aa (refine Gn ?_;first | refine Br.ad ?_ | refine WC.sr ?_)
 aa (first | refine Br.ad ?_ | (refine WL.step (aA Tryz.isAgg140 Tryz.sizeOf140 rfl rfl (by exact At.ax D6)) rfl rfl rfl ?_))
 aa (
  first
    | (refine Br.ad ?_)
    | (refine WL.call (vs:=[_]) rfl Tryz.call98 rfl (SG _ (aB.trans (X3.mono fun _ _ e=>e.elim))) rfl rfl rfl ?_
       rintro _ h4 ⟨k4,v4,e4,rfl,bh,KI⟩
       have Qr:v4.oneCell'=true:=by
        rcases KI with ⟨_,_,rfl⟩ | ⟨_,_,l,_,o,_⟩
        · rfl
        · exact iG o))
 aa (refine Go ?_)
 aa (
  first
    | (refine Br.ad ?_)
    | (refine WL.al (au (fun w=>Tryz.zeroValue53 w)) rfl rfl rfl ?_
       rintro _ h5 ⟨b6,rfl,r5,cj,aO⟩))
 aa (
  first
    | (refine Br.ad ?_)
    | (refine WL.az (aq Tryz.sizeOf53 rfl rfl rfl cj rfl (by intro x hx;simp only [List.mem_cons,List.not_mem_nil,or_false] at hx;rcases hx with rfl | rfl;rfl;exact Qr)) rfl rfl ?_
       rintro _ h6 ⟨HB,aP⟩
       have X6:Ext No h1 h6:=((X3.trans bh).trans aO).trans' aP (fun q hq e=>by have:=X3.size;have:=bh.size;omega)
       have dK:=X6.obj aT aQ
       have Jv:=gr.av X6
       have SH:=ak aT
       have g6:h1.size≤b6:=by have:=X3.size;have:=bh.size;omega
       have eH:∀ q,(Value.slice A1 M.length c1).ownBlock=some q→q < h1.size:=fun q hq=>gr.row.lt hq
       have nW:(Value.slice A1 M.length c1).ownBlock ≠ some b:=bZ gr.row aT (by decide)
       have Qs:(Value.slice A1 M.length c1).ownBlock ≠ some b6:=fun e=>by have:=eH _ e;omega
       have Il:Ext No h4 h6:=aO.trans' aP (fun q hq e=>by omega)))
 aa (refine Go ?_;first | refine Br.ad ?_ | refine Gs [(0,_),(6,_),(7,_),(8,_),(9,_),(10,_)] ?_)
 aa (first | refine Br.ad ?_ | refine WC.sr ?_)
 aa (refine Go ?_;first | refine Br.ad ?_ | (refine aJ 3 4 (Hb.mk fun hb=>?_) (Hb.mk fun hb=>?_)))
 aa try (
 refine ay 3 ?_
 obtain ⟨rfl,l4,SI,Qt,SJ⟩:k4=y.p.kind∧∃ l,eV y.p=[(y.p.kind,l)]∧Own h4 v4 5 1 l.length (bK l)∧∀ q,v4.ownBlock=some q→h3.size≤q:=by
  rcases KI with ⟨z,_⟩ | ⟨z1,z2,z3⟩
  · exfalso;cK
  · exact ⟨z2,z3⟩
 refine WC.cg (fun h'=>Ext (fun q=>(Value.slice A1 M.length c1).ownBlock=some q) h6 h') 10 11 rfl dB ?_
 refine WH.tk 0 rfl (fun hq hC=>an rfl) rfl rfl rfl ?_
 refine WH.tk 1 rfl (fun hq hC=>an rfl) rfl rfl rfl ?_
 refine WH.tk 2 rfl (fun hq hC=>ah rfl) rfl rfl rfl ?_
 refine WH.tk 3 rfl (fun hq hC=>ag rfl Tryz.underlying96 rfl Tryz.sizeOf94) rfl rfl rfl ?_
 refine WH.tk 4 rfl (fun hq hC=>aC Tryz.isAgg94 rfl (by first | exact hC.cell (by first | exact ab dK rfl | assumption) (by first | exact nW | exact Qs))) rfl rfl rfl ?_
 refine WH.tk 5 rfl (fun hq hC=>aA Tryz.isAgg53 Tryz.sizeOf53 rfl rfl (by exact (At.ax HB).ext hC Qs)) rfl rfl rfl ?_
 refine WH.one 6 (by kernel_rfl) ?_
 refine aE.run rfl (aw (vs:=[_]) (cs:=[_,_]) (fun | [.agg ⟨[a0,a1]⟩]=>[a0,a1] | _=>[]) Tryz.underlying94 rfl rfl (by kernel_rfl)) rfl rfl rfl ?_ (fun _=>by kernel_rfl)
 rintro _ h7 ⟨b7,rfl,zu,cq,bu⟩
 have F0:Ext (fun q=>(Value.slice A1 M.length c1).ownBlock=some q) h6 h7:=bu.mono fun _ _ e=>e.elim
 refine ⟨fun _=>F0,?_⟩
 refine WH.one 7 (by kernel_rfl) ?_
 refine aE.run rfl (aX (sz:=2) (bytes:=32) rfl Tryz.underlying94 (show Tryz.prog.info? 53=some Tryz.t53 by kernel_rfl) rfl rfl rfl rfl (by decide) rfl rfl (Jv.row.ext bu (fun _ _=>aQ)) (bG (len:=1) (sz:=2) (cs:=vW (y.p.kind,v4,l4)) cq rfl) (by intro x hx;simp only [vW,List.mem_cons,List.not_mem_nil,or_false] at hx;rcases hx with rfl | rfl;rfl;exact Qr) (by simp only [maxLen];omega) (by omega)) rfl rfl rfl ?_ (fun _=>by kernel_rfl)
 rintro v8 h8 ⟨kC,bH,uX⟩
 have zx:=F0.trans bH
 refine ⟨fun _=>zx,?_⟩
 refine WH.one 8 (by kernel_rfl) ?_
 refine aE.run rfl (bW.r (ah rfl)) rfl rfl rfl ?_ (fun _=>by kernel_rfl)
 rintro _ hz ⟨rfl,_⟩
 subst hz
 refine ⟨fun _=>by first | assumption | trivial,?_⟩
 refine WH.one 9 (by kernel_rfl) ?_
 refine aE.run rfl (bW.r (ag rfl Tryz.underlying96 rfl Tryz.sizeOf94)) rfl rfl rfl ?_ (fun _=>by kernel_rfl)
 rintro _ hz ⟨rfl,_⟩
 subst hz
 refine ⟨fun _=>by first | assumption | trivial,?_⟩
 refine WH.one 10 (by kernel_rfl) ?_
 obtain ⟨A8,c8,rfl,_⟩:=id kC.slice
 refine aE.cY rfl (aD Tryz.sizeOf94 rfl rfl (zx.obj dK nW) (Nat.le_of_ble_eq_true rfl) rfl rfl) rfl rfl ?_ (fun _=>by kernel_rfl)
 rintro _ h9 ⟨ck,cl⟩
 refine ⟨fun e=>(by cases e),?_⟩
 have l7:=X6.size
 have U2:=bu.size
 have G8:∀ q,(Value.slice A8 (M.length+1) c8).ownBlock=some q→(Value.slice A1 M.length c1).ownBlock=some q∨h1.size≤q:=fun q hq=>uX.elim (fun e=>.inl (e▸hq)) (fun e=>.inr (by rw [e] at hq;cases hq;omega))
 have X8:Ext (fun q=>q=b∨w0.ownBlock=some q) h h8:=(aB.trans (X6.mono fun _ _ e=>e.elim)).trans' zx (fun q hq e=>.inr ((iO q e).elim id fun z=>by omega))
 have Ot:∀ z∈M,∀ q,z.2.1.ownBlock=some q→(Value.slice A1 M.length c1).ownBlock ≠ some q:=fun z hz q hq e=>by obtain ⟨_,a1⟩:=bV (gr.xv z hz) hq;obtain ⟨_,a2⟩:=bV gr.row e;rw [a1] at a2;simp at a2
 have bP:=zx.obj dK nW
 have SK:Own h8 v4 5 1 l4.length (bK l4):=(Qt.ext Il (fun _ _=>aQ)).ext zx (fun q hq e=>by have:=eH q e;obtain ⟨_,a1⟩:=bV Qt hq;obtain ⟨_,a2⟩:=bV gr.row e;have a3:=((X3.trans bh)).obj a2 aQ;rw [a1] at a3;simp at a3)
 have SL:Own h8 (Value.slice A8 (M.length+1) c8) 53 2 (M++[(y.p.kind,v4,l4)]).length ((M++[(y.p.kind,v4,l4)]).flatMap vW):=by rw [List.length_append,List.flatMap_append];exact kC
 have xw:Sd h8 (Value.slice A8 (M.length+1) c8) (M++[(y.p.kind,v4,l4)]):=⟨SL,fun z hz=>(List.mem_append.1 hz).elim (fun hz=>(Jv.xv z hz).ext zx (fun q hq e=>Ot z hz q hq e)) (fun e=>by rw [List.mem_singleton.1 e];exact SK)⟩
 have vX:=xw.ext cl (fun q hq e=>bZ xw.row bP (by decide) (e▸hq)) (fun z hz q hq e=>bZ (xw.xv z hz) bP (by decide) (e▸hq))
 have Ov:(M++[(y.p.kind,v4,l4)]).map nd.pl=M0.map nd.pl++(L.take (j+1)).flatMap (fun y=>eV y.p):=by rw [List.map_append,hM,I7,SI,List.append_assoc];rfl
 have Ow:∀ z∈M++[(y.p.kind,v4,l4)],z∈M0∨∀ q,z.2.1.ownBlock=some q→h.size≤q:=fun z hz=>(List.mem_append.1 hz).elim (My z) (fun e=>by rw [List.mem_singleton.1 e];exact .inr fun q hq=>by have:=SJ q hq;have:=X3.size;omega)
 refine WH.done (by kernel_rfl) ?_
 skip)
 aa try (
 refine ay 4 ?_
 refine WC.skip ?_
 skip)
 aa (refine Gn ?_;first | refine Br.ad ?_ | refine Gs [(0,_),(8,_),(9,_),(10,_)] ?_)
 aa (first | refine Br.ad ?_ | refine WC.region ?_)
 aa (refine Go ?_;first | refine Br.ad ?_ | (exact ⟨(j+1,_,_),⟨rfl,rfl,rfl,rfl,trivial⟩,(by first | exact ⟨by omega,Ov,ck,vX,X8.trans (cl.mono fun _ _ e=>.inl e),fun q hq=>(G8 q hq).elim (iO q) (fun z=>.inr (by omega)),Ow,by dsimp only;simp only [List.length_append,List.length_cons,List.length_nil];omega⟩ | exact ⟨by omega,by rw [hM,I7];rcases KI with ⟨_,z,_⟩ | ⟨z,_⟩;rw [z,List.append_nil];exfalso;cK,dK,Jv,aB.trans (X6.mono fun _ _ e=>e.elim),iO,My,by dsimp only;omega⟩),(by dsimp only;omega)⟩))
 try (refine Br.mk (i:=1000) ?_)
 refine Gn ?_
 refine fQ [] trivial ?_
 exact ⟨_,M,by rw [hM,List.take_of_length_le (by omega)],aT,gr,aB,iO,My⟩
def Part (hd:Nat) (l:List UInt8):Prop:=l.length < hd+4∨(hd+4≤l.length∧∃ n:Nat,iN ((l.drop hd).take 4)=(n:Int)∧(4≤n∧n≤65536)∧l.length < hd+n)
theorem Cx {h:aj} {A:Option Addr} {c:Nat} (l k:Nat) (hl:l < k+4) (hm:l≤1000000) (hk:k≤10) :
   ai Tryz.prog 176 ⟨[.slice A l c,In (k:Int),In 4]⟩ h fun u h'=>u=.tuple ⟨[In 0,In 3]⟩∧h'=h:=by
 refine calls [(0,_),(1,_),(2,_)] Tryz.func176 rfl Tryz.ntmps176 rfl ⟨rfl,rfl,rfl,trivial⟩ ?_
 refine G2 ?_;refine WC.seq ?_;refine WC.block ?_;refine G3 ?_;refine WL.call (vs:=[_]) rfl Tryz.call180 rfl (wO) rfl rfl rfl ?_
 rintro _ hz ⟨rfl,_⟩
 subst hz
 refine Go ?_;refine Gs [(0,_),(1,_),(2,_),(11,_)] ?_
 refine aJ 1 2 ?_ TT.mk
 aa (refine ay 2 ?_)
 refine WC.region (Go ?_);refine Gn ?_
 refine aJ 3 4 ?_ TT.mk
 aa (refine ay 4 ?_)
 refine G3 ?_;refine Gs [(0,_),(1,_),(2,_),(17,_)] ?_
 refine aJ 5 6 (Hb.mk fun hb=>?_) (Hb.mk fun hb=>?_)
 aa try (
 refine ay 5 ?_
 refine WC.skip ?_
 skip)
 aa try (
 refine ay 6 ?_
 refine WC.region (Go ?_)
 skip)
 aa (refine Gn ?_;first | refine aJ 7 8 ?_ TT.mk | (refine aJ 7 8 (Hb.mk fun hb=>?_) (Hb.mk fun hb=>?_)))
 aa try (
 refine ay 7 ?_
 aa (refine G2 ?_;refine Gs [(6,_),(7,_)] ?_;refine Gt ?_;first | exact ⟨rfl,rfl⟩ | (exfalso;omega))
 skip)
 aa (refine ay 8 ?_)
 refine WC.skip ?_;refine Gn ?_;refine WC.sr ?_
 (exfalso;omega)
section
variable {h h':aj} {b:Nat} {ty:Bool} {v:Value} {l:List UInt8} {S:Nat→Prop}
theorem rD (k:Fw h b ty v l) (hd:Nat) (he:(if ty=true then 1 else 0)=hd) (hl:l.length < hd+4) (hm:l.length≤1000000):ai Tryz.prog 171 ⟨[.pointer (some ⟨b,0,none⟩)]⟩ h fun u h'=>u=.tuple ⟨[In 0,.bool false]⟩∧Ext No h h':=by
 have hb:=k.bB
 have ho:=k.own
 have Mt:hd≤1:=by rw [← he];split <;> omega
 obtain ⟨B,d,rfl,_⟩:=id ho.slice
 have kh:=fun h'=>jx (h:=h') ty
 rw [he] at kh
 have kg:=fun h'=>Cx (h:=h') (A:=B) (c:=d) l.length hd hl hm (by omega)
 refine calls [(0,_)] Tryz.func171 rfl Tryz.ntmps171 rfl ⟨rfl,trivial⟩ ?_
 refine G2 ?_;refine WC.seq ?_;refine WC.cg (fun h'=>Ext No h h') 15 15 rfl dB ?_
 refine WH.tk 0 rfl (fun hq hC=>an rfl) rfl rfl rfl ?_
 refine WH.tk 1 rfl (fun hq hC=>ah rfl) rfl rfl rfl ?_
 refine WH.tk 2 rfl (fun hq hC=>ag rfl Tryz.underlying147 rfl Tryz.sizeOf23) rfl rfl rfl ?_
 refine WH.tk 3 rfl (fun hq hC=>aC Tryz.isAgg23 rfl (by first | exact hC.cell (by first | exact ab hb rfl | assumption) aQ)) rfl rfl rfl ?_
 refine WH.tk 4 rfl (fun hq hC=>an rfl) rfl rfl rfl ?_
 refine WH.tk 5 rfl (fun hq hC=>ah rfl) rfl rfl rfl ?_
 refine WH.tk 6 rfl (fun hq hC=>ag rfl Tryz.underlying147 rfl Tryz.sizeOf145) rfl rfl rfl ?_
 refine WH.tk 7 rfl (fun hq hC=>aA Tryz.isAgg145 Tryz.sizeOf145 rfl rfl (by exact At.pre (xs:=[_]) (ys:=[_,_,_,_]) ((At.ax hb).ext hC aQ))) rfl rfl rfl ?_
 refine WH.one 8 (by kernel_rfl) ?_
 refine aE.call (vs:=[_]) rfl rfl Tryz.call88 rfl (kh _) rfl rfl rfl ?_ (fun _=>by kernel_rfl)
 rintro _ h1 ⟨rfl,aB⟩
 refine ⟨fun _=>aB,?_⟩
 refine WH.one 9 (by kernel_rfl) ?_
 refine aE.call (vs:=[_,_,_]) rfl rfl Tryz.call176 rfl (kg _) rfl rfl rfl ?_ (fun _=>by kernel_rfl)
 rintro _ hq ⟨rfl,hz⟩
 replace hz:=hz.symm
 subst hz
 refine ⟨fun _=>aB,?_⟩
 refine WH.tk 10 rfl (fun hq hC=>an rfl) rfl rfl rfl ?_
 refine WH.tk 11 rfl (fun hq hC=>bY rfl rfl) rfl rfl rfl ?_
 refine WH.tk 12 rfl (fun hq hC=>bY rfl rfl) rfl rfl rfl ?_
 refine WH.tk 13 rfl (fun hq hC=>aR rfl) rfl rfl rfl ?_
 refine WH.tk 14 rfl (fun hq hC=>aR rfl) rfl rfl rfl ?_
 refine WH.done (by kernel_rfl) ?_
 refine Gn ?_;refine Gs [(4,_),(5,_)] ?_;refine G2 ?_;refine Gs [(2,_),(3,_)] ?_;refine Gt ?_
 exact ⟨rfl,by first | exact aB | exact hC⟩
theorem pq (k:Fw h b ty v l) (hd:Nat) (he:(if ty=true then 1 else 0)=hd) (hp:Part hd l) (hm:l.length≤1000000) :
   ai Tryz.prog 121 ⟨[.pointer (some ⟨b,0,none⟩)]⟩ h fun u h'=>(∃ n:Int,u=.tuple ⟨[In n,.bool false,In 0]⟩)∧Fw h' b ty v l∧Ext (fun q=>q=b) h h':=by
 have hb:=k.bB
 have lb:=ak hb
 obtain ⟨B,d,rfl,_⟩:=id k.own.slice
 rcases hp with hp | ⟨hp,n,hn,h4,hl⟩
 ·
   have ks:=rD k hd he hp hm
   refine calls [(0,_)] Tryz.func121 rfl Tryz.ntmps121 rfl ⟨rfl,trivial⟩ ?_
   refine G2 ?_;refine G3 ?_;refine WL.step (ah rfl) rfl rfl rfl (Go ?_);refine WL.ld rfl (by first | exact ab hb rfl | assumption) rfl rfl rfl (Go ?_)
   refine Gs [(0,_),(12,_)] ?_
   refine aJ 1 2 ?_ TT.mk
   aa (refine ay 2 ?_)
   refine WC.skip ?_;refine Gn ?_;refine G2 ?_;refine WL.call (vs:=[_]) rfl Tryz.call171 rfl (ks) rfl rfl rfl ?_
   rintro _ h1 ⟨rfl,aB⟩
   refine Go ?_;refine Gs [(0,_),(5,_),(6,_)] ?_;refine G3 ?_
   refine aJ 3 4 ?_ TT.mk
   aa (refine ay 3 ?_)
   refine G2 ?_;refine Gs [(2,_),(3,_),(4,_)] ?_;refine Gt ?_
   exact ⟨⟨_,rfl⟩,k.av aB,aB.mono fun _ _ e=>e.elim⟩
 ·
   have ks:=wP k hd he hp hm
   rw [hn] at ks
   have kc:=fun (g:aj) (x:Ext No h g)=>sU (k.av x) n h4
   have kh:=fun h'=>jx (h:=h') ty
   rw [he] at kh
   refine calls [(0,_)] Tryz.func121 rfl Tryz.ntmps121 rfl ⟨rfl,trivial⟩ ?_
   refine G2 ?_;refine G3 ?_;refine WL.step (ah rfl) rfl rfl rfl (Go ?_);refine WL.ld rfl (by first | exact ab hb rfl | assumption) rfl rfl rfl (Go ?_)
   refine Gs [(0,_),(12,_)] ?_
   refine aJ 1 2 ?_ TT.mk
   aa (refine ay 2 ?_)
   refine WC.skip ?_;refine Gn ?_;refine G2 ?_;refine WL.call (vs:=[_]) rfl Tryz.call171 rfl (ks) rfl rfl rfl ?_
   rintro _ h1 ⟨rfl,aB⟩
   have aT:=aB.obj hb aQ
   refine Go ?_;refine Gs [(0,_),(5,_),(6,_)] ?_;refine G3 ?_
   refine aJ 3 4 ?_ TT.mk
   aa (refine ay 4 ?_)
   refine WC.skip ?_;refine Gn ?_;refine G3 ?_;refine WL.call (vs:=[_,_]) rfl Tryz.call172 rfl (kc _ aB) rfl rfl rfl ?_
   rintro _ hq ⟨rfl,hz⟩
   replace hz:=hz.symm
   subst hz
   refine WL.step (ah rfl) rfl rfl rfl (Go ?_);refine WL.az (aD Tryz.sizeOf48 rfl rfl aT (Nat.le_of_ble_eq_true rfl) rfl rfl) rfl rfl ?_
   rintro _ h2 ⟨bR,aK⟩
   have k2:Fw h2 b ty (.slice B l.length d) l:=⟨bR,(k.av aB).own.ext aK (k.av aB).ne⟩
   refine Gn ?_;refine Gs [(0,_),(5,_)] ?_;refine G2 ?_;refine WL.step (ah rfl) rfl rfl rfl (Go ?_);refine WL.ld rfl (by first | exact ab bR rfl | assumption) rfl rfl rfl (Go ?_)
   refine Gs [(0,_),(5,_),(34,_)] ?_
   refine aJ 5 6 ?_ TT.mk
   aa (refine ay 6 ?_)
   refine WC.skip ?_;refine Gn ?_;refine G2 ?_;refine WL.step (ah rfl) rfl rfl rfl (Go ?_);refine WL.step (aA Tryz.isAgg145 Tryz.sizeOf145 rfl rfl (by exact At.pre (xs:=[_]) (ys:=[_,_,_,_]) (At.ax bR))) rfl rfl rfl ?_
   refine WL.call (vs:=[_]) rfl Tryz.call88 rfl (kh _) rfl rfl rfl ?_
   rintro _ h3 ⟨rfl,aS⟩
   have k3:=k2.av aS
   have bC:=k3.bB
   have X3:Ext (fun q=>q=b) h h3:=(aB.mono fun _ _ e=>e.elim).trans (aK.trans (aS.mono fun _ _ e=>e.elim))
   refine Go ?_;refine Gs [(0,_),(7,_)] ?_;refine WC.seq ?_;refine WC.gu dB (by kernel_rfl) ?_
   refine WQ.aM (an rfl) rfl rfl rfl ?_;refine WQ.aM (an rfl) rfl rfl rfl ?_;refine WQ.aM (an rfl) rfl rfl rfl ?_;refine WQ.aM (ah rfl) rfl rfl rfl ?_;refine WQ.aM (ag rfl Tryz.underlying147 rfl Tryz.sizeOf23) rfl rfl rfl ?_;refine WQ.aM (aC Tryz.isAgg23 rfl (by first | exact ab bC rfl | assumption)) rfl rfl rfl ?_
   refine WQ.aM (cB rfl Tryz.underlying23 rfl) rfl rfl rfl ?_
   first | (refine WQ.aM (bW.fO (by omega) (nG rfl rfl)) rfl rfl rfl ?_)
   refine WQ.aM (aR rfl) rfl rfl rfl ?_;refine WQ.aM (aR rfl) rfl rfl rfl ?_;refine WQ.aM (aR rfl) rfl rfl rfl ?_;refine WQ.nil ?_;refine Gn ?_;refine Gs [(2,_),(3,_),(4,_)] ?_;refine Gt ?_
   exact ⟨⟨_,rfl⟩,k3,X3⟩
theorem rE (k:Fw h b ty v l) (hd:Nat) (he:(if ty=true then 1 else 0)=hd) (hp:Part hd l) (hm:l.length≤1000000) :
   ai Tryz.prog 86 ⟨[.pointer (some ⟨b,0,none⟩)]⟩ h fun u h'=>u=.tuple ⟨[.agg ⟨[.int .u8 0,.slice none 0 0]⟩,.bool false,In 0]⟩∧Fw h' b ty v l∧Ext (fun q=>q=b) h h':=by
 have kr:=fun (h':aj) (k:Fw h' b ty v l)=>lh k
 have kw:=fun (h':aj) (k:Fw h' b ty v l)=>pq k hd he hp hm
 have lb:=ak k.bB
 refine calls [(0,_)] Tryz.func86 rfl Tryz.ntmps86 rfl ⟨rfl,trivial⟩ ?_
 refine WC.sr ?_;refine WL.al (au (fun w=>Tryz.zeroValue53 w)) rfl rfl rfl ?_
 rintro _ h1 ⟨b1,rfl,b0,aT,aB⟩
 have k1:=k.av aB
 refine Go ?_;refine G3 ?_;refine WL.call (vs:=[_]) rfl Tryz.call85 rfl (kr _ k1) rfl rfl rfl ?_
 rintro _ hq ⟨rfl,hz⟩
 replace hz:=hz.symm
 subst hz
 refine Go ?_;refine Gs [(0,_),(2,_),(11,_)] ?_
 refine aJ 1 2 ?_ TT.mk
 aa (refine ay 2 ?_)
 refine WC.skip ?_;refine Gn ?_;refine G2 ?_;refine WL.call (vs:=[_]) rfl Tryz.call121 rfl (kw _ k1) rfl rfl rfl ?_
 rintro _ h2 ⟨⟨n2,rfl⟩,k2,aK⟩
 have ca:=aK.obj aT (fun e=>by omega)
 refine Go ?_;refine Gs [(0,_),(2,_),(5,_),(6,_),(7,_)] ?_;refine G3 ?_
 refine aJ 3 4 ?_ TT.mk
 aa (refine ay 3 ?_)
 refine WC.sr ?_;refine WL.step (aH (vs:=[]) (cs:=[_,_]) (fun | []=>[(.int .u8 0),(.slice none 0 0)] | _=>[]) rfl rfl (by kernel_rfl)) rfl rfl rfl (Go ?_)
 refine WL.az (aq Tryz.sizeOf53 rfl rfl rfl ca rfl (by simp [Value.oneCell'])) rfl rfl ?_
 rintro _ h3 ⟨bC,aS⟩
 refine Go ?_;refine Gs [(2,_),(3,_),(4,_)] ?_;refine WC.ret ?_
 repeat' (ae first | refine bq ?_ | refine ba ?_)
 refine nL _ _ _ ⟨⟨_,rfl,bJ Tryz.isAgg53 Tryz.sizeOf53 (by assumption) rfl⟩,rfl,rfl,trivial⟩ ?_
 exact ⟨rfl,k2.ext aS (fun e=>by omega) (fun q hq e=>bZ k2.own ca (by decide) (e▸hq)),((aB.mono fun _ _ e=>e.elim).trans aK).trans' aS (fun q hq e=>by omega)⟩
theorem rF (k:Fw h b ty v l) (hd:Nat) (he:(if ty=true then 1 else 0)=hd) (hp:Part hd l) (hm:l.length≤1000000) :
   ai Tryz.prog 53 ⟨[.pointer (some ⟨b,0,none⟩)]⟩ h fun u h'=>u=.tuple ⟨[.agg ⟨[.int .u8 0,.slice none 0 0]⟩,.bool false,In 0]⟩∧Fw h' b ty v l∧Ext (fun q=>q=b) h h':=by
 have kp:=fun (h':aj) (k:Fw h' b ty v l)=>rE k hd he hp hm
 have lb:=ak k.bB
 refine calls [(0,_)] Tryz.func53 rfl Tryz.ntmps53 rfl ⟨rfl,trivial⟩ ?_
 refine WC.sr ?_;refine WL.al (au (fun w=>Tryz.zeroValue53 w)) rfl rfl rfl ?_
 rintro _ h1 ⟨b1,rfl,b0,aT,aB⟩
 have k1:=k.av aB
 refine Go ?_;refine G2 ?_;refine WL.call (vs:=[_]) rfl Tryz.call86 rfl (kp _ k1) rfl rfl rfl ?_
 rintro _ h2 ⟨rfl,k2,aK⟩
 have ca:=aK.obj aT (fun e=>by omega)
 refine Go ?_;refine WL.al (au (fun w=>Tryz.zeroValue53 w)) rfl rfl rfl ?_
 rintro _ h3 ⟨b5,rfl,r6,cd,aS⟩
 refine WL.az (aq Tryz.sizeOf53 rfl rfl rfl cd rfl (by simp [Value.oneCell'])) rfl rfl ?_
 rintro _ h4 ⟨sX,bh⟩
 have X:Ext No h2 h4:=aS.trans' bh (fun q hq e=>by omega)
 have k4:=k2.av X
 have bT:=X.obj ca aQ
 have X4:Ext (fun q=>q=b) h h4:=((aB.mono fun _ _ e=>e.elim).trans aK).trans (X.mono fun _ _ e=>e.elim)
 refine Go ?_;refine Gs [(0,_),(2,_),(5,_),(6,_),(7,_)] ?_;refine G3 ?_
 refine aJ 1 2 ?_ TT.mk
 aa (refine ay 2 ?_)
 refine WC.skip ?_;refine Gn ?_;refine WC.sr ?_;refine WL.step (aA Tryz.isAgg53 Tryz.sizeOf53 rfl rfl (by exact At.ax sX)) rfl rfl rfl (Go ?_)
 refine WL.az (aq Tryz.sizeOf53 rfl rfl rfl bT rfl (by simp [Value.oneCell'])) rfl rfl ?_
 rintro _ h5 ⟨SM,aO⟩
 refine Go ?_;refine Gs [(2,_),(3,_),(4,_)] ?_;refine WC.ret ?_
 repeat' (ae first | refine bq ?_ | refine ba ?_)
 refine nL _ _ _ ⟨⟨_,rfl,bJ Tryz.isAgg53 Tryz.sizeOf53 (by assumption) rfl⟩,rfl,rfl,trivial⟩ ?_
 exact ⟨rfl,k4.ext aO (fun e=>by omega) (fun q hq e=>bZ k4.own bT (by decide) (e▸hq)),X4.trans' aO (fun q hq e=>by omega)⟩
end
section
variable {h h':aj} {A:Ad} {st:Int} {sk ov:Bool} {aY:Int} {L:List (List UInt8 × gX)} {P:List (List UInt8 × eI)}
def Mz (h:aj) (A:Ad) (P:List (List UInt8 × eI)) (x:SP × List jD) (u:Value) (h':aj):Prop:=(∃ B,cH h h' u B∧B.map Bk.p=x.2)∧Sv h A P h' x.1
theorem Ox (k:Ss h A st sk ov aY L P) (f:Fm) (hf:f.ok h) (hk:ov=true∨f.kind=88∨f.kind=83∨sk=true) :
   ai Tryz.prog 58 ⟨[.pointer (some ⟨A.bs,0,none⟩),.agg ⟨f.cells⟩]⟩ h (Mz h A P (iV (cy st sk ov aY L P) f.p)):=by
 have kr:=fun (g:aj) (k:Ss g A st sk ov aY L P)=>lU k.se.bB
 have hd:iV (cy st sk ov aY L P) f.p=if ov=true then (cy st sk ov aY L P,[]) else if f.kind=88 then (cy st sk true aY L P,[]) else if f.kind=83 then ((eF (cy st false ov aY L P)).1,[{ kind:=90,status:=st }]) else if sk=true then (cy st sk ov aY L P,[]) else fZ f.p (eL (cy st sk ov aY L P) f.p):=rfl
 rw [hd]
 clear hd
 obtain ⟨⟨e1,_⟩,⟨e2,_⟩,⟨e3,_⟩,e4,_⟩:=hf
 obtain ⟨fk,w,n,p,t,vo,o,vf,fs,vs,rs,vp,ps,mx⟩:=f
 dsimp only at e1 e2 e3 e4 hk
 obtain ⟨_,_,rfl,_⟩:=e1
 obtain ⟨_,_,rfl,_⟩:=e2
 obtain ⟨_,_,rfl,_⟩:=e3
 obtain ⟨_,_,rfl,_⟩:=e4
 dsimp only [Fm.cells]
 by_cases e1:ov=true
 · rw [if_pos e1]
   subst e1
   refine calls [(0,_),(1,_)] Tryz.func58 rfl Tryz.ntmps58 rfl ⟨rfl,rfl,trivial⟩ ?_
   refine WC.sr ?_;refine WL.al (aI rfl) rfl rfl rfl ?_
   rintro _ h1 ⟨b3,rfl,b0,aT,aB⟩
   have k1:=k.av aB
   have hb:=k1.se.bB
   have lb:=ak k.se.bB
   have n3:¬ b3=A.bs:=by omega
   refine Go ?_;refine G3 ?_;refine WL.call (vs:=[_]) rfl Tryz.call99 rfl (kr _ k1) rfl rfl rfl ?_
   rintro _ hz ⟨rfl,_⟩
   subst hz
   refine Go ?_;refine Gs [(0,_),(3,_),(10,_)] ?_
   refine aJ 1 2 ?_ TT.mk
   aa (refine ay 1 ?_)
   refine G2 ?_;refine Gt ?_
   exact ⟨⟨[],cH.nil _ _,rfl⟩,.of k1 (Tn.no aB)⟩
 rw [if_neg e1]
 obtain rfl:ov=false:=by simpa using e1
 by_cases e2:fk=88
 · rw [if_pos e2]
   refine calls [(0,_),(1,_)] Tryz.func58 rfl Tryz.ntmps58 rfl ⟨rfl,rfl,trivial⟩ ?_
   refine WC.sr ?_;refine WL.al (aI rfl) rfl rfl rfl ?_
   rintro _ h1 ⟨b3,rfl,b0,aT,aB⟩
   have k1:=k.av aB
   have hb:=k1.se.bB
   have lb:=ak k.se.bB
   have n3:¬ b3=A.bs:=by omega
   refine Go ?_;refine G3 ?_;refine WL.call (vs:=[_]) rfl Tryz.call99 rfl (kr _ k1) rfl rfl rfl ?_
   rintro _ hz ⟨rfl,_⟩
   subst hz
   refine Go ?_;refine Gs [(0,_),(3,_),(10,_)] ?_
   refine aJ 1 2 ?_ TT.mk
   aa (refine ay 2 ?_)
   refine WC.skip ?_;refine Gn ?_;refine WC.seq ?_;refine WC.block ?_;refine G2 ?_;refine WL.ld rfl (by first | exact ab aT rfl | assumption) rfl rfl rfl (Go ?_)
   refine Gs [(0,_),(3,_),(11,_)] ?_
   refine aJ 3 4 ?_ TT.mk
   aa (refine ay 3 ?_)
   refine G2 ?_;refine WL.step (ah rfl) rfl rfl rfl (Go ?_);refine WL.az (aD Tryz.sizeOf4 rfl rfl hb (Nat.le_of_ble_eq_true rfl) rfl rfl) rfl rfl ?_
   rintro _ h2 ⟨bR,aK⟩
   obtain ⟨k2,t2⟩:=k1.jU aK bR k1.r9
   refine Gn ?_;refine Gs [] ?_;refine G2 ?_;refine Gt ?_
   exact ⟨⟨[],cH.nil _ _,rfl⟩,.of k2 ((Tn.no aB).trans t2)⟩
 rw [if_neg e2]
 by_cases e3:fk=83
 · rw [if_pos e3]
   have ks:=fun (g:aj) (k:Ss g A st false false aY L P)=>Ev k
   unfold HL at ks
   refine calls [(0,_),(1,_)] Tryz.func58 rfl Tryz.ntmps58 rfl ⟨rfl,rfl,trivial⟩ ?_
   refine WC.sr ?_;refine WL.al (aI rfl) rfl rfl rfl ?_
   rintro _ h1 ⟨b3,rfl,b0,aT,aB⟩
   have k1:=k.av aB
   have hb:=k1.se.bB
   have lb:=ak k.se.bB
   have n3:¬ b3=A.bs:=by omega
   refine Go ?_;refine G3 ?_;refine WL.call (vs:=[_]) rfl Tryz.call99 rfl (kr _ k1) rfl rfl rfl ?_
   rintro _ hz ⟨rfl,_⟩
   subst hz
   refine Go ?_;refine Gs [(0,_),(3,_),(10,_)] ?_
   refine aJ 1 2 ?_ TT.mk
   aa (refine ay 2 ?_)
   refine WC.skip ?_;refine Gn ?_;refine WC.seq ?_;refine WC.block ?_;refine G2 ?_;refine WL.ld rfl (by first | exact ab aT rfl | assumption) rfl rfl rfl (Go ?_)
   refine Gs [(0,_),(3,_),(11,_)] ?_
   refine aJ 3 4 ?_ TT.mk
   aa (refine ay 4 ?_)
   refine G2 ?_;refine WL.ld rfl (by first | exact ab aT rfl | assumption) rfl rfl rfl (Go ?_)
   refine Gs [(0,_),(3,_),(18,_)] ?_
   refine aJ 5 6 ?_ TT.mk
   aa (refine ay 5 ?_)
   refine G2 ?_;refine WL.step (ah rfl) rfl rfl rfl (Go ?_);refine WL.az (aD Tryz.sizeOf4 rfl rfl hb (Nat.le_of_ble_eq_true rfl) rfl rfl) rfl rfl ?_
   rintro _ h2 ⟨bR,aK⟩
   obtain ⟨k2,t2⟩:=k1.jU aK bR k1.r9
   refine Gn ?_;refine Gs [(0,_)] ?_;refine G2 ?_;refine WL.call (vs:=[_]) rfl Tryz.call100 rfl (ks _ k2) rfl rfl rfl ?_
   rintro _ h3 ⟨rfl,⟨L3,P3,k3,SN,SQ,t3⟩,aS⟩
   refine WL.al (aw (vs:=[_]) (cs:=[_,_,_,_,_,_,_,_,_,_,_]) (fun | [.agg ⟨[a0,a1,a2,a3,a4,a5,a6,a7,a8,a9,iy]⟩]=>[a0,a1,a2,a3,a4,a5,a6,a7,a8,a9,iy] | _=>[]) Tryz.underlying80 rfl rfl (by kernel_rfl)) rfl rfl rfl ?_
   rintro _ h4 ⟨b4,rfl,pH,bN,bh⟩
   refine Go ?_;refine Gs [(4,_)] ?_;refine Gt ?_
   have T3:=((Tn.no (A:=A) (P:=P) aB).trans t2).trans t3
   exact ⟨⟨[lJ 90 st []],.tag bN (by have:=T3.1.size;omega),rfl⟩,L3,P3,k3.av bh,SN,SQ,T3.trans (Tn.no bh)⟩
 rw [if_neg e3]
 obtain rfl:sk=true:=by
   rcases hk with hk | hk | hk | hk
   · cases hk
   · exact absurd hk e2
   · exact absurd hk e3
   · exact hk
 rw [if_pos rfl]
 refine calls [(0,_),(1,_)] Tryz.func58 rfl Tryz.ntmps58 rfl ⟨rfl,rfl,trivial⟩ ?_
 refine WC.sr ?_;refine WL.al (aI rfl) rfl rfl rfl ?_
 rintro _ h1 ⟨b3,rfl,b0,aT,aB⟩
 have k1:=k.av aB
 have hb:=k1.se.bB
 have lb:=ak k.se.bB
 have n3:¬ b3=A.bs:=by omega
 refine Go ?_;refine G3 ?_;refine WL.call (vs:=[_]) rfl Tryz.call99 rfl (kr _ k1) rfl rfl rfl ?_
 rintro _ hz ⟨rfl,_⟩
 subst hz
 refine Go ?_;refine Gs [(0,_),(3,_),(10,_)] ?_
 refine aJ 1 2 ?_ TT.mk
 aa (refine ay 2 ?_)
 refine WC.skip ?_;refine Gn ?_;refine WC.seq ?_;refine WC.block ?_;refine G2 ?_;refine WL.ld rfl (by first | exact ab aT rfl | assumption) rfl rfl rfl (Go ?_)
 refine Gs [(0,_),(3,_),(11,_)] ?_
 refine aJ 3 4 ?_ TT.mk
 aa (refine ay 4 ?_)
 refine G2 ?_;refine WL.ld rfl (by first | exact ab aT rfl | assumption) rfl rfl rfl (Go ?_)
 refine Gs [(0,_),(3,_),(18,_)] ?_
 refine aJ 5 6 ?_ TT.mk
 aa (refine ay 6 ?_)
 refine G2 ?_;refine WL.step (ah rfl) rfl rfl rfl (Go ?_);refine WL.ld rfl (by first | exact ab hb rfl | assumption) rfl rfl rfl (Go ?_)
 refine Gs [(0,_),(3,_),(28,_)] ?_
 refine aJ 7 8 ?_ TT.mk
 aa (refine ay 7 ?_)
 refine G2 ?_;refine Gt ?_
 exact ⟨⟨[],cH.nil _ _,rfl⟩,.of k1 (Tn.no aB)⟩
theorem EO (k:Ss h A st sk ov aY L P):ai Tryz.prog 100 ⟨[.pointer (some ⟨A.bs,0,none⟩)]⟩ h fun u h'=>u=.agg ⟨HL 90 st []⟩∧(∃ P',(∀ q∈P',q∈P)∧Ss h' A st sk ov aY L P'∧gi P'=(if st=73 then [] else gi P)∧Tn A P h h' P')∧Ext (fun q=>q=A.mp) h h':=by
 refine (tN k).mono fun u h' ⟨e,kk,tt,x⟩=>⟨e,⟨_,?_,kk,?_,tt⟩,x⟩
 · intro q hq
   split at hq
   · exact nomatch hq
   · exact hq
 · split <;> rfl
theorem cH.tX {h0 h:aj} {B:List Bk} (k:cH h0 h nS B):B=[]:=by
 obtain ⟨_,_,e,_⟩:=k.own.slice
 simp only [nS,Value.slice.injEq] at e
 exact List.eq_nil_of_length_eq_zero (by omega)
theorem rG {a b c d:Value} (h:Value.tuple ⟨[a,b]⟩=.tuple ⟨[c,d]⟩):a=c∧b=d:=by simpa using h
theorem Ss.K8 {g g':aj} {S:Nat→Prop} {od:Int} {yu yw:Bool} {og:Int} {L':List (List UInt8 × gX)} {P':List (List UInt8 × eI)} (k:Ss h A st sk ov aY L P) (k':Ss g A od yu yw og L' P') (sL:∀ q∈L',q∈L) (sP:∀ q∈P',q∈P) (x:Ext S g g') (hS:∀ q,S q→h.size≤q):Ss g' A od yu yw og L' P':=by
 have EP:∀ {q:Nat},q < h.size→¬ S q:=fun hq e=>by have:=hS _ e;omega
 have e:=k'.se
 refine ⟨⟨x.obj e.bB (EP (ak k.se.bB)),e.ka.ext x (EP k.se.ka.lt),x.obj e.pb (EP (ak k.se.pb)),e.pm.ext x (EP k.se.pm.lt),x.obj e.eb (EP (ak k.se.eb)),e.em.ext x (EP k.se.em.lt),e.ne⟩,fun q hq=>?_,fun q hq=>?_,k'.xb,k'.r9,k'.yz,k'.zz.up x.size⟩
 · exact ⟨(k'.jA q hq).1.ext' x (fun z h0 hz=>EP ((k.jA q (sL q hq)).1.lt h0 hz)),(k'.jA q hq).2⟩
 · exact ⟨x.obj (k'.eJ q hq).1 (EP (ak (k.eJ q (sP q hq)).1)),(k'.eJ q hq).2.1.ext x (fun z hz=>EP ((k.eJ q (sP q hq)).2.1.lt hz)),(k'.eJ q hq).2.2⟩
theorem Oy (er:Er h) (h0:¬ Mu A P 0) (k:Ss h A st false false aY L P) (f:Fm) (hf:f.ok h) (hk:f.kind ≠ 88∧f.kind ≠ 83∧f.kind ≠ 81) {r:gn}
   (kd:∀ g,Ext No h g→ai Tryz.prog 101 ⟨[.pointer (some ⟨A.bs,0,none⟩),.agg ⟨f.cells⟩]⟩ g (Ih fun v e h'=>cx g A P r (.tuple ⟨[v,e]⟩) h')) :
   ai Tryz.prog 58 ⟨[.pointer (some ⟨A.bs,0,none⟩),.agg ⟨f.cells⟩]⟩ h (Mz h A P (fZ f.p r)):=by
 have kr:=fun (g:aj) (k:Ss g A st false false aY L P)=>lU k.se.bB
 obtain ⟨⟨e1,_⟩,⟨e2,_⟩,⟨e3,_⟩,e4,_⟩:=hf
 obtain ⟨fk,w,n,p,t,vo,o,vf,fs,vs,rs,vp,ps,mx⟩:=f
 dsimp only at e1 e2 e3 e4 hk
 obtain ⟨_,_,rfl,_⟩:=e1
 obtain ⟨_,_,rfl,_⟩:=e2
 obtain ⟨_,_,rfl,_⟩:=e3
 obtain ⟨_,_,rfl,_⟩:=e4
 obtain ⟨U3,U4,Cy⟩:=hk
 dsimp only [Fm.cells,Fm.p] at kd ⊢
 rcases r with ⟨⟨pk,F8,Ch,Dp,ER,ES⟩,out,_ | ⟨ec,et⟩⟩
 · have hr:fZ ⟨fk,w,n,p,t,o,ps.map bj.pl,mx⟩ (⟨pk,F8,Ch,Dp,ER,ES⟩,out,none)=(⟨pk,F8,Ch,Dp,ER,ES⟩,out):=if_neg Cy
   rw [hr]
   clear hr
   refine calls [(0,_),(1,_)] Tryz.func58 rfl Tryz.ntmps58 rfl ⟨rfl,rfl,trivial⟩ ?_
   refine WC.sr ?_;refine WL.al (aI rfl) rfl rfl rfl ?_
   rintro _ h1 ⟨b3,rfl,b0,aT,aB⟩
   have k1:=k.av aB
   have hb:=k1.se.bB
   have lb:=ak k.se.bB
   have n3:¬ b3=A.bs:=by omega
   refine Go ?_;refine G3 ?_;refine WL.call (vs:=[_]) rfl Tryz.call99 rfl (kr _ k1) rfl rfl rfl ?_
   rintro _ hz ⟨rfl,_⟩
   subst hz
   refine Go ?_;refine Gs [(0,_),(3,_),(10,_)] ?_
   refine aJ 1 2 ?_ TT.mk
   aa (refine ay 2 ?_)
   refine WC.skip ?_;refine Gn ?_;refine WC.seq ?_;refine WC.block ?_;refine G2 ?_;refine WL.ld rfl (by first | exact ab aT rfl | assumption) rfl rfl rfl (Go ?_)
   refine Gs [(0,_),(3,_),(11,_)] ?_
   refine aJ 3 4 ?_ TT.mk
   aa (refine ay 4 ?_)
   refine G2 ?_;refine WL.ld rfl (by first | exact ab aT rfl | assumption) rfl rfl rfl (Go ?_)
   refine Gs [(0,_),(3,_),(18,_)] ?_
   refine aJ 5 6 ?_ TT.mk
   aa (refine ay 6 ?_)
   refine G2 ?_;refine WL.step (ah rfl) rfl rfl rfl (Go ?_);refine WL.ld rfl (by first | exact ab hb rfl | assumption) rfl rfl rfl (Go ?_)
   refine Gs [(0,_),(3,_),(28,_)] ?_
   refine aJ 7 8 ?_ TT.mk
   aa (refine ay 8 ?_)
   refine WC.skip ?_;refine Gn ?_;refine G2 ?_;refine WL.step (aA Tryz.isAgg42 Tryz.sizeOf42 rfl rfl (by exact At.ax aT)) rfl rfl rfl ?_
   refine WL.call (vs:=[_,_]) rfl Tryz.call101 rfl (kd _ aB) rfl rfl rfl ?_
   rintro _ h2 ⟨u2,e2,rfl,v2,B2,c2,heq,O2,zE,L2,P2,k2,Cz,CA,t2⟩
   obtain ⟨q1,q2⟩:=rG heq
   subst q1 q2
   dsimp only [gh] at zE k2 Cz CA ⊢
   subst Cz
   subst CA
   have ca:=t2.1.obj aT (k1.not aT (by decide) (by decide) (by decide))
   refine Go ?_;refine Gs [(0,_),(3,_),(5,_),(6,_)] ?_;refine WC.sr ?_;refine WL.al (au (fun w=>Tryz.zeroValue169 w)) rfl rfl rfl ?_
   rintro _ h3 ⟨b7,rfl,gN,bC,aS⟩
   have ET:=aS.obj ca aQ
   have kK:=k2.av aS
   have OK:=(O2.mono aB.size).av aS
   have TK:=((Tn.no (A:=A) (P:=P) aB).trans t2).trans (Tn.no aS)
   refine Gn ?_;refine G3 ?_;refine WL.step (fW ⟨_,Tryz.underlying171,fun _ h=>by cases h⟩ rfl) rfl rfl rfl ?_
   refine WL.call (vs:=[_,_]) rfl Tryz.call102 rfl (xn _) rfl rfl rfl ?_
   rintro _ hz ⟨rfl,_⟩
   subst hz
   refine Gn ?_
   refine aJ 9 10 ?_ TT.mk
   aa (refine ay 10 ?_)
   refine WC.skip ?_;refine Gn ?_;refine G3 ?_;refine WL.ld rfl (by first | exact ab ET rfl | assumption) rfl rfl rfl (Go ?_)
   refine Gs [(0,_),(5,_),(56,_)] ?_
   refine aJ 11 12 ?_ TT.mk
   aa (refine ay 12 ?_)
   refine WC.skip ?_;refine Gn ?_;refine G2 ?_;refine Gs [(4,_)] ?_;refine Gt ?_
   exact ⟨⟨B2,OK,zE⟩,L2,P2,kK,rfl,rfl,TK⟩
 · have hr:fZ ⟨fk,w,n,p,t,o,ps.map bj.pl,mx⟩ (⟨pk,F8,Ch,Dp,ER,ES⟩,out,some (ec,et))=(⟨fu pk,decide (fk ≠ 81),Ch,Dp,ER,if fu pk=69 then [] else ES⟩,out++[pj ec et]):=if_neg Cy
   rw [hr]
   clear hr
   refine calls [(0,_),(1,_)] Tryz.func58 rfl Tryz.ntmps58 rfl ⟨rfl,rfl,trivial⟩ ?_
   refine WC.sr ?_;refine WL.al (aI rfl) rfl rfl rfl ?_
   rintro _ h1 ⟨b3,rfl,b0,aT,aB⟩
   have k1:=k.av aB
   have hb:=k1.se.bB
   have lb:=ak k.se.bB
   have n3:¬ b3=A.bs:=by omega
   refine Go ?_;refine G3 ?_;refine WL.call (vs:=[_]) rfl Tryz.call99 rfl (kr _ k1) rfl rfl rfl ?_
   rintro _ hz ⟨rfl,_⟩
   subst hz
   refine Go ?_;refine Gs [(0,_),(3,_),(10,_)] ?_
   refine aJ 1 2 ?_ TT.mk
   aa (refine ay 2 ?_)
   refine WC.skip ?_;refine Gn ?_;refine WC.seq ?_;refine WC.block ?_;refine G2 ?_;refine WL.ld rfl (by first | exact ab aT rfl | assumption) rfl rfl rfl (Go ?_)
   refine Gs [(0,_),(3,_),(11,_)] ?_
   refine aJ 3 4 ?_ TT.mk
   aa (refine ay 4 ?_)
   refine G2 ?_;refine WL.ld rfl (by first | exact ab aT rfl | assumption) rfl rfl rfl (Go ?_)
   refine Gs [(0,_),(3,_),(18,_)] ?_
   refine aJ 5 6 ?_ TT.mk
   aa (refine ay 6 ?_)
   refine G2 ?_;refine WL.step (ah rfl) rfl rfl rfl (Go ?_);refine WL.ld rfl (by first | exact ab hb rfl | assumption) rfl rfl rfl (Go ?_)
   refine Gs [(0,_),(3,_),(28,_)] ?_
   refine aJ 7 8 ?_ TT.mk
   aa (refine ay 8 ?_)
   refine WC.skip ?_;refine Gn ?_;refine G2 ?_;refine WL.step (aA Tryz.isAgg42 Tryz.sizeOf42 rfl rfl (by exact At.ax aT)) rfl rfl rfl ?_
   refine WL.call (vs:=[_,_]) rfl Tryz.call101 rfl (kd _ aB) rfl rfl rfl ?_
   rintro _ h2 ⟨u2,e2,rfl,v2,B2,c2,heq,O2,zE,L2,P2,k2,Cz,CA,t2⟩
   obtain ⟨q1,q2⟩:=rG heq
   subst q1 q2
   dsimp only [gh] at zE k2 Cz CA ⊢
   subst Cz
   subst CA
   have ca:=t2.1.obj aT (k1.not aT (by decide) (by decide) (by decide))
   refine Go ?_;refine Gs [(0,_),(3,_),(5,_),(6,_)] ?_;refine WC.sr ?_;refine WL.al (au (fun w=>Tryz.zeroValue169 w)) rfl rfl rfl ?_
   rintro _ h3 ⟨b7,rfl,gN,bC,aS⟩
   have ET:=aS.obj ca aQ
   have kK:=k2.av aS
   have OK:=(O2.mono aB.size).av aS
   have TK:=((Tn.no (A:=A) (P:=P) aB).trans t2).trans (Tn.no aS)
   refine Gn ?_;refine G3 ?_;refine WL.step (fW ⟨_,Tryz.underlying171,fun _ h=>by cases h⟩ rfl) rfl rfl rfl ?_
   have Oz:Er h3:=((er.av aB).ext t2.1 (fun e=>h0 e)).av aS
   have hv:=c2 (by simp)
   subst hv
   obtain rfl:=O2.tX
   obtain rfl:out=[]:=zE.symm
   refine WL.call (vs:=[_,_]) rfl Tryz.call102 rfl (p8 ec et Oz bC) rfl rfl rfl ?_
   rintro _ h4 ⟨rfl,bN,bh⟩
   have X4:Ext No h2 h4:=aS.trans' bh (fun q hq e=>by omega)
   have k4:=k2.av X4
   have bT:=X4.obj ca aQ
   have OA:b7 ≠ A.bs:=fun e=>by have:=ak k2.se.bB;omega
   refine Gn ?_
   refine aJ 9 10 ?_ TT.mk
   aa (refine ay 9 ?_)
   refine G2 ?_;refine WL.ld rfl (by first | exact ab bT rfl | assumption) rfl rfl rfl (Go ?_)
   refine WL.step (ah rfl) rfl rfl rfl (Go ?_);refine WL.az (aD Tryz.sizeOf4 rfl rfl k4.se.bB (Nat.le_of_ble_eq_true rfl) rfl rfl) rfl rfl ?_
   rintro _ h5 ⟨cd,aO⟩
   obtain ⟨k5,t5⟩:=k4.jU aO cd k4.r9
   have du:=t5.1.obj bT (k4.not bT (by decide) (by decide) (by decide))
   have AU:=aO.obj bN OA
   refine Gn ?_;refine Gs [(0,_),(3,_),(5,_),(7,_)] ?_;refine WC.region (Go ?_);refine WL.step (aA Tryz.isAgg169 Tryz.sizeOf169 rfl rfl (by exact At.ax AU)) rfl rfl rfl ?_
   refine WL.call (vs:=[_,_]) rfl Tryz.call103 rfl (tU k5 ec et) rfl rfl rfl ?_
   rintro _ h6 ⟨⟨b6,rfl,CB,OB,OC⟩,⟨P6,Qu,k6,OD,t6⟩,aP⟩
   have dK:=t6.1.obj du (k5.not du (by decide) (by decide) (by decide))
   refine WL.al (aw (vs:=[_]) (cs:=[_,_,_,_,_,_,_,_,_,_,_]) (fun | [.agg ⟨[a0,a1,a2,a3,a4,a5,a6,a7,a8,a9,iy]⟩]=>[a0,a1,a2,a3,a4,a5,a6,a7,a8,a9,iy] | _=>[]) Tryz.underlying80 rfl rfl (by kernel_rfl)) rfl rfl rfl ?_
   rintro _ h7 ⟨b8,rfl,zu,cq,bu⟩
   refine WL.al (aX (sz:=11) (bytes:=168) rfl Tryz.underlying80 (show Tryz.prog.info? 140=some Tryz.t140 by kernel_rfl) rfl rfl rfl rfl (by decide) rfl rfl (Own.nil _ _ 11) (bG (len:=1) (sz:=11) cq rfl) CB.one (by simp only [maxLen];omega) (by omega)) rfl rfl rfl ?_
   rintro v8 h8 ⟨kC,bH,uX⟩
   have X8:Ext No h6 h8:=bu.trans (bH.mono fun _ _ e=>by cases e)
   have ET:=X8.obj dK aQ
   have kK:=k6.av X8
   have T4:=((Tn.no (A:=A) (P:=P) aB).trans t2).trans (Tn.no X4)
   have T5:=T4.trans t5
   have TK:=(T5.trans t6).trans (Tn.no X8)
   have s5:=T5.1.size
   have s7:=bu.size
   have s6:=t6.1.size
   have OK:cH h h8 v8 ([]++[b6]):=(cH.nil h h7).snoc (CB.ext bu fun _ _=>aQ) (fun z hz=>by have:=OC z hz;omega) (fun _ _ e=>by cases e) (by omega) kC bH uX
   refine Go ?_;refine Gn ?_;refine G3 ?_;refine WL.ld rfl (by first | exact ab ET rfl | assumption) rfl rfl rfl (Go ?_)
   refine Gs [(0,_),(5,_),(56,_)] ?_
   refine aJ 11 12 ?_ TT.mk
   aa (refine ay 12 ?_)
   refine WC.skip ?_;refine Gn ?_;refine G2 ?_;refine Gs [(4,_)] ?_;refine Gt ?_
   exact ⟨⟨[]++[b6],OK,by simp [OB]⟩,L2,P6,by show Ss h8 A (fu pk) (decide (fk ≠ 81)) Ch Dp L2 P6;rw [decide_eq_true Cy];exact kK,rfl,OD,TK⟩
theorem OE (er:Er h) (h0:¬ Mu A P 0) (k:Ss h A st false false aY L P) (f:Fm) (hf:f.ok h) (Cy:f.kind=81) {r:gn} (hlen:r.2.1.length≤1000000)
   (kd:∀ g,Ext No h g→ai Tryz.prog 101 ⟨[.pointer (some ⟨A.bs,0,none⟩),.agg ⟨f.cells⟩]⟩ g (Ih fun v e h'=>ft g A L P r (.tuple ⟨[v,e]⟩) h')) :
   ai Tryz.prog 58 ⟨[.pointer (some ⟨A.bs,0,none⟩),.agg ⟨f.cells⟩]⟩ h (Mz h A P (fZ f.p r)):=by
 have kr:=fun (g:aj) (k:Ss g A st false false aY L P)=>lU k.se.bB
 have ks:=fun (g:aj) (st:Int) (sk ov:Bool) (aY:Int) (L:List (List UInt8 × gX)) (P:List (List UInt8 × eI)) (k:Ss g A st sk ov aY L P)=>EO k
 obtain ⟨⟨e1,_⟩,⟨e2,_⟩,⟨e3,_⟩,e4,_⟩:=hf
 obtain ⟨fk,w,n,p,t,vo,o,vf,fs,vs,rs,vp,ps,mx⟩:=f
 dsimp only at e1 e2 e3 e4 Cy
 obtain ⟨_,_,rfl,_⟩:=e1
 obtain ⟨_,_,rfl,_⟩:=e2
 obtain ⟨_,_,rfl,_⟩:=e3
 obtain ⟨_,_,rfl,_⟩:=e4
 subst Cy
 unfold HL at ks
 dsimp only [Fm.cells,Fm.p] at kd ⊢
 rcases r with ⟨⟨pk,F8,Ch,Dp,ER,ES⟩,out,_ | ⟨ec,et⟩⟩
 · have hr:fZ ⟨81,w,n,p,t,o,ps.map bj.pl,mx⟩ (⟨pk,F8,Ch,Dp,ER,ES⟩,out,none)=(⟨pk,F8,Ch,Dp,ER,if pk=73 then [] else ES⟩,out++[{ kind:=90,status:=pk }]):=rfl
   rw [hr]
   clear hr
   refine calls [(0,_),(1,_)] Tryz.func58 rfl Tryz.ntmps58 rfl ⟨rfl,rfl,trivial⟩ ?_
   refine WC.sr ?_;refine WL.al (aI rfl) rfl rfl rfl ?_
   rintro _ h1 ⟨b3,rfl,b0,aT,aB⟩
   have k1:=k.av aB
   have hb:=k1.se.bB
   have lb:=ak k.se.bB
   have n3:¬ b3=A.bs:=by omega
   refine Go ?_;refine G3 ?_;refine WL.call (vs:=[_]) rfl Tryz.call99 rfl (kr _ k1) rfl rfl rfl ?_
   rintro _ hz ⟨rfl,_⟩
   subst hz
   refine Go ?_;refine Gs [(0,_),(3,_),(10,_)] ?_
   refine aJ 1 2 ?_ TT.mk
   aa (refine ay 2 ?_)
   refine WC.skip ?_;refine Gn ?_;refine WC.seq ?_;refine WC.block ?_;refine G2 ?_;refine WL.ld rfl (by first | exact ab aT rfl | assumption) rfl rfl rfl (Go ?_)
   refine Gs [(0,_),(3,_),(11,_)] ?_
   refine aJ 3 4 ?_ TT.mk
   aa (refine ay 4 ?_)
   refine G2 ?_;refine WL.ld rfl (by first | exact ab aT rfl | assumption) rfl rfl rfl (Go ?_)
   refine Gs [(0,_),(3,_),(18,_)] ?_
   refine aJ 5 6 ?_ TT.mk
   aa (refine ay 6 ?_)
   refine G2 ?_;refine WL.step (ah rfl) rfl rfl rfl (Go ?_);refine WL.ld rfl (by first | exact ab hb rfl | assumption) rfl rfl rfl (Go ?_)
   refine Gs [(0,_),(3,_),(28,_)] ?_
   refine aJ 7 8 ?_ TT.mk
   aa (refine ay 8 ?_)
   refine WC.skip ?_;refine Gn ?_;refine G2 ?_;refine WL.step (aA Tryz.isAgg42 Tryz.sizeOf42 rfl rfl (by exact At.ax aT)) rfl rfl rfl ?_
   refine WL.call (vs:=[_,_]) rfl Tryz.call101 rfl (kd _ aB) rfl rfl rfl ?_
   rintro _ h2 ⟨u2,e2,rfl,v2,B2,c2,heq,O2,zE,L2,P2,OG,OH,k2,Cz,CA,t2⟩
   obtain ⟨q1,q2⟩:=rG heq
   subst q1 q2
   dsimp only [gh] at zE k2 Cz CA ⊢
   subst Cz
   subst CA
   have ca:=t2.1.obj aT (k1.not aT (by decide) (by decide) (by decide))
   refine Go ?_;refine Gs [(0,_),(3,_),(5,_),(6,_)] ?_;refine WC.sr ?_;refine WL.al (au (fun w=>Tryz.zeroValue169 w)) rfl rfl rfl ?_
   rintro _ h3 ⟨b7,rfl,gN,bC,aS⟩
   have ET:=aS.obj ca aQ
   have kK:=k2.av aS
   have OK:=(O2.mono aB.size).av aS
   have TK:=((Tn.no (A:=A) (P:=P) aB).trans t2).trans (Tn.no aS)
   refine Gn ?_;refine G3 ?_;refine WL.step (fW ⟨_,Tryz.underlying171,fun _ h=>by cases h⟩ rfl) rfl rfl rfl ?_
   have SR:B2.length≤1000000:=by rw [← zE,List.length_map] at hlen;exact hlen
   replace hlen:=SR
   refine WL.call (vs:=[_,_]) rfl Tryz.call102 rfl (xn _) rfl rfl rfl ?_
   rintro _ hz ⟨rfl,_⟩
   subst hz
   refine Gn ?_
   refine aJ 9 10 ?_ TT.mk
   aa (refine ay 10 ?_)
   refine WC.skip ?_;refine Gn ?_;refine G3 ?_;refine WL.ld rfl (by first | exact ab ET rfl | assumption) rfl rfl rfl (Go ?_)
   refine Gs [(0,_),(5,_),(56,_)] ?_
   refine aJ 11 12 ?_ TT.mk
   aa (refine ay 11 ?_)
   refine WC.region (Go ?_);refine WL.call (vs:=[_]) rfl Tryz.call100 rfl (ks _ _ _ _ _ _ _ kK) rfl rfl rfl ?_
   rintro _ h9 ⟨rfl,⟨P9,OI,k9,H4,t9⟩,cl⟩
   have O9:=OK.ext cl (fun q hq=>by subst hq;exact k.se.pm.lt)
   refine WL.al (aw (vs:=[_]) (cs:=[_,_,_,_,_,_,_,_,_,_,_]) (fun | [.agg ⟨[a0,a1,a2,a3,a4,a5,a6,a7,a8,a9,iy]⟩]=>[a0,a1,a2,a3,a4,a5,a6,a7,a8,a9,iy] | _=>[]) Tryz.underlying80 rfl rfl (by kernel_rfl)) rfl rfl rfl ?_
   rintro _ jf ⟨Qv,rfl,Im,ga,cC⟩
   have yP:=O9.av cC
   have tS:=k9.av cC
   have Ez:=(TK.trans t9).trans (Tn.no (A:=A) (P:=P9) cC)
   obtain ⟨SS,D5,rfl,_⟩:=yP.own.slice
   refine WL.al (aX (sz:=11) (bytes:=168) rfl Tryz.underlying80 (show Tryz.prog.info? 140=some Tryz.t140 by kernel_rfl) rfl rfl rfl rfl (by decide) rfl rfl yP.own (bG (len:=1) (sz:=11) ga rfl) (by simp [Value.oneCell']) (by have:=hlen;simp only [maxLen,List.length_append,List.length_singleton,List.nil_append] at *;omega) (by have:=hlen;simp only [List.length_append,List.length_singleton,List.nil_append] at *;omega)) rfl rfl rfl ?_
   rintro v11 rr ⟨vY,cV,Io⟩
   have OJ:=yP.snoc (b:=lJ 90 pk []) (iD _ _ _ _) (fun _ e=>(jn e).elim) (fun _ e=>(jn e).elim) Ez.1.size vY cV Io
   refine Go ?_;refine Gn ?_;refine G2 ?_;refine Gs [(4,_)] ?_;refine Gt ?_
   have Ip:Ext No jf jf:=.refl _ _
   have Ck:=k.K8 tS OG (fun q hq=>OH q (OI q hq)) cV (fun q hq=>yP.vf q hq)
   exact ⟨⟨B2++[lJ 90 pk []],OJ,by rw [List.map_append,zE];rfl⟩,L2,P9,Ck,rfl,H4,Ez.1.trans' cV (fun q hq e=>by have:=yP.vf q e;omega),Ez.2⟩
 · have hr:fZ ⟨81,w,n,p,t,o,ps.map bj.pl,mx⟩ (⟨pk,F8,Ch,Dp,ER,ES⟩,out,some (ec,et))=(⟨fu pk,false,Ch,Dp,ER,if fu pk=73 then [] else (if fu pk=69 then [] else ES)⟩,(out++[pj ec et])++[{ kind:=90,status:=fu pk }]):=rfl
   rw [hr]
   clear hr
   refine calls [(0,_),(1,_)] Tryz.func58 rfl Tryz.ntmps58 rfl ⟨rfl,rfl,trivial⟩ ?_
   refine WC.sr ?_;refine WL.al (aI rfl) rfl rfl rfl ?_
   rintro _ h1 ⟨b3,rfl,b0,aT,aB⟩
   have k1:=k.av aB
   have hb:=k1.se.bB
   have lb:=ak k.se.bB
   have n3:¬ b3=A.bs:=by omega
   refine Go ?_;refine G3 ?_;refine WL.call (vs:=[_]) rfl Tryz.call99 rfl (kr _ k1) rfl rfl rfl ?_
   rintro _ hz ⟨rfl,_⟩
   subst hz
   refine Go ?_;refine Gs [(0,_),(3,_),(10,_)] ?_
   refine aJ 1 2 ?_ TT.mk
   aa (refine ay 2 ?_)
   refine WC.skip ?_;refine Gn ?_;refine WC.seq ?_;refine WC.block ?_;refine G2 ?_;refine WL.ld rfl (by first | exact ab aT rfl | assumption) rfl rfl rfl (Go ?_)
   refine Gs [(0,_),(3,_),(11,_)] ?_
   refine aJ 3 4 ?_ TT.mk
   aa (refine ay 4 ?_)
   refine G2 ?_;refine WL.ld rfl (by first | exact ab aT rfl | assumption) rfl rfl rfl (Go ?_)
   refine Gs [(0,_),(3,_),(18,_)] ?_
   refine aJ 5 6 ?_ TT.mk
   aa (refine ay 6 ?_)
   refine G2 ?_;refine WL.step (ah rfl) rfl rfl rfl (Go ?_);refine WL.ld rfl (by first | exact ab hb rfl | assumption) rfl rfl rfl (Go ?_)
   refine Gs [(0,_),(3,_),(28,_)] ?_
   refine aJ 7 8 ?_ TT.mk
   aa (refine ay 8 ?_)
   refine WC.skip ?_;refine Gn ?_;refine G2 ?_;refine WL.step (aA Tryz.isAgg42 Tryz.sizeOf42 rfl rfl (by exact At.ax aT)) rfl rfl rfl ?_
   refine WL.call (vs:=[_,_]) rfl Tryz.call101 rfl (kd _ aB) rfl rfl rfl ?_
   rintro _ h2 ⟨u2,e2,rfl,v2,B2,c2,heq,O2,zE,L2,P2,OG,OH,k2,Cz,CA,t2⟩
   obtain ⟨q1,q2⟩:=rG heq
   subst q1 q2
   dsimp only [gh] at zE k2 Cz CA ⊢
   subst Cz
   subst CA
   have ca:=t2.1.obj aT (k1.not aT (by decide) (by decide) (by decide))
   refine Go ?_;refine Gs [(0,_),(3,_),(5,_),(6,_)] ?_;refine WC.sr ?_;refine WL.al (au (fun w=>Tryz.zeroValue169 w)) rfl rfl rfl ?_
   rintro _ h3 ⟨b7,rfl,gN,bC,aS⟩
   have ET:=aS.obj ca aQ
   have kK:=k2.av aS
   have OK:=(O2.mono aB.size).av aS
   have TK:=((Tn.no (A:=A) (P:=P) aB).trans t2).trans (Tn.no aS)
   refine Gn ?_;refine G3 ?_;refine WL.step (fW ⟨_,Tryz.underlying171,fun _ h=>by cases h⟩ rfl) rfl rfl rfl ?_
   have Oz:Er h3:=((er.av aB).ext t2.1 (fun e=>h0 e)).av aS
   have hv:=c2 (by simp)
   subst hv
   obtain rfl:=O2.tX
   obtain rfl:out=[]:=zE.symm
   refine WL.call (vs:=[_,_]) rfl Tryz.call102 rfl (p8 ec et Oz bC) rfl rfl rfl ?_
   rintro _ h4 ⟨rfl,bN,bh⟩
   have X4:Ext No h2 h4:=aS.trans' bh (fun q hq e=>by omega)
   have k4:=k2.av X4
   have bT:=X4.obj ca aQ
   have OA:b7 ≠ A.bs:=fun e=>by have:=ak k2.se.bB;omega
   refine Gn ?_
   refine aJ 9 10 ?_ TT.mk
   aa (refine ay 9 ?_)
   refine G2 ?_;refine WL.ld rfl (by first | exact ab bT rfl | assumption) rfl rfl rfl (Go ?_)
   refine WL.step (ah rfl) rfl rfl rfl (Go ?_);refine WL.az (aD Tryz.sizeOf4 rfl rfl k4.se.bB (Nat.le_of_ble_eq_true rfl) rfl rfl) rfl rfl ?_
   rintro _ h5 ⟨cd,aO⟩
   obtain ⟨k5,t5⟩:=k4.jU aO cd k4.r9
   have du:=t5.1.obj bT (k4.not bT (by decide) (by decide) (by decide))
   have AU:=aO.obj bN OA
   refine Gn ?_;refine Gs [(0,_),(3,_),(5,_),(7,_)] ?_;refine WC.region (Go ?_);refine WL.step (aA Tryz.isAgg169 Tryz.sizeOf169 rfl rfl (by exact At.ax AU)) rfl rfl rfl ?_
   refine WL.call (vs:=[_,_]) rfl Tryz.call103 rfl (tU k5 ec et) rfl rfl rfl ?_
   rintro _ h6 ⟨⟨b6,rfl,CB,OB,OC⟩,⟨P6,Qu,k6,OD,t6⟩,aP⟩
   have dK:=t6.1.obj du (k5.not du (by decide) (by decide) (by decide))
   refine WL.al (aw (vs:=[_]) (cs:=[_,_,_,_,_,_,_,_,_,_,_]) (fun | [.agg ⟨[a0,a1,a2,a3,a4,a5,a6,a7,a8,a9,iy]⟩]=>[a0,a1,a2,a3,a4,a5,a6,a7,a8,a9,iy] | _=>[]) Tryz.underlying80 rfl rfl (by kernel_rfl)) rfl rfl rfl ?_
   rintro _ h7 ⟨b8,rfl,zu,cq,bu⟩
   refine WL.al (aX (sz:=11) (bytes:=168) rfl Tryz.underlying80 (show Tryz.prog.info? 140=some Tryz.t140 by kernel_rfl) rfl rfl rfl rfl (by decide) rfl rfl (Own.nil _ _ 11) (bG (len:=1) (sz:=11) cq rfl) CB.one (by simp only [maxLen];omega) (by omega)) rfl rfl rfl ?_
   rintro v8 h8 ⟨kC,bH,uX⟩
   have X8:Ext No h6 h8:=bu.trans (bH.mono fun _ _ e=>by cases e)
   have ET:=X8.obj dK aQ
   have kK:=k6.av X8
   have T4:=((Tn.no (A:=A) (P:=P) aB).trans t2).trans (Tn.no X4)
   have T5:=T4.trans t5
   have TK:=(T5.trans t6).trans (Tn.no X8)
   have s5:=T5.1.size
   have s7:=bu.size
   have s6:=t6.1.size
   have OK:cH h h8 v8 ([]++[b6]):=(cH.nil h h7).snoc (CB.ext bu fun _ _=>aQ) (fun z hz=>by have:=OC z hz;omega) (fun _ _ e=>by cases e) (by omega) kC bH uX
   refine Go ?_;refine Gn ?_;refine G3 ?_;refine WL.ld rfl (by first | exact ab ET rfl | assumption) rfl rfl rfl (Go ?_)
   refine Gs [(0,_),(5,_),(56,_)] ?_
   refine aJ 11 12 ?_ TT.mk
   aa (refine ay 11 ?_)
   refine WC.region (Go ?_);refine WL.call (vs:=[_]) rfl Tryz.call100 rfl (ks _ _ _ _ _ _ _ kK) rfl rfl rfl ?_
   rintro _ h9 ⟨rfl,⟨P9,OI,k9,H4,t9⟩,cl⟩
   have O9:=OK.ext cl (fun q hq=>by subst hq;exact k.se.pm.lt)
   refine WL.al (aw (vs:=[_]) (cs:=[_,_,_,_,_,_,_,_,_,_,_]) (fun | [.agg ⟨[a0,a1,a2,a3,a4,a5,a6,a7,a8,a9,iy]⟩]=>[a0,a1,a2,a3,a4,a5,a6,a7,a8,a9,iy] | _=>[]) Tryz.underlying80 rfl rfl (by kernel_rfl)) rfl rfl rfl ?_
   rintro _ jf ⟨Qv,rfl,Im,ga,cC⟩
   have yP:=O9.av cC
   have tS:=k9.av cC
   have Ez:=(TK.trans t9).trans (Tn.no (A:=A) (P:=P9) cC)
   obtain ⟨SS,D5,rfl,_⟩:=yP.own.slice
   refine WL.al (aX (sz:=11) (bytes:=168) rfl Tryz.underlying80 (show Tryz.prog.info? 140=some Tryz.t140 by kernel_rfl) rfl rfl rfl rfl (by decide) rfl rfl yP.own (bG (len:=1) (sz:=11) ga rfl) (by simp [Value.oneCell']) (by have:=hlen;simp only [maxLen,List.length_append,List.length_singleton,List.nil_append] at *;omega) (by have:=hlen;simp only [List.length_append,List.length_singleton,List.nil_append] at *;omega)) rfl rfl rfl ?_
   rintro v11 rr ⟨vY,cV,Io⟩
   have OJ:=yP.snoc (b:=lJ 90 (fu pk) []) (iD _ _ _ _) (fun _ e=>(jn e).elim) (fun _ e=>(jn e).elim) Ez.1.size vY cV Io
   refine Go ?_;refine Gn ?_;refine G2 ?_;refine Gs [(4,_)] ?_;refine Gt ?_
   have Ck:=k.K8 tS OG (fun q hq=>OH q (Qu q (OI q hq))) cV (fun q hq=>yP.vf q hq)
   exact ⟨⟨([]++[b6])++[lJ 90 (fu pk) []],OJ,by rw [List.map_append,List.map_append,List.map_nil,List.map_singleton,OB];rfl⟩,L2,P9,Ck,rfl,by rw [H4,OD],Ez.1.trans' cV (fun q hq e=>by have:=yP.vf q e;omega),Ez.2⟩
end
theorem vZ (s:SP) (f:gK):(dL s f).2.1.length≤1000000:=by
 have ht:∀ (s:SP) (v:gm),(cO s v).2.1.length≤1:=fun s v=>by unfold cO;split <;> (try split) <;> simp
 unfold dL
 dsimp only
 split
 · simp
 · split
   · have:=(hU (bx f.text) s.aY (ps:=[]) (by simp)).1
     simp [db]
     omega
   · exact Nat.le_trans (ht _ _) (by omega)
section
variable {h h':aj} {A:Ad} {st:Int} {sk ov:Bool} {aY:Int} {L:List (List UInt8 × gX)} {P:List (List UInt8 × eI)}
theorem OL (er:Er h) (h0:¬ Mu A P 0) (k:Ss h A st sk ov aY L P) (lm:jJ (cy st sk ov aY L P)) (f:Fm) (hf:f.ok h) (hF:∀ q,f.F q→¬ Mu A P q) (fl:hJ f) :
   ai Tryz.prog 58 ⟨[.pointer (some ⟨A.bs,0,none⟩),.agg ⟨f.cells⟩]⟩ h (Mz h A P (iV (cy st sk ov aY L P) f.p)):=by
 by_cases ha:ov=true∨f.kind=88∨f.kind=83∨sk=true
 · exact Ox k f hf ha
 · simp only [not_or] at ha
   obtain ⟨a1,a2,a3,a4⟩:=ha
   obtain rfl:ov=false:=by simpa using a1
   obtain rfl:sk=false:=by simpa using a4
   have e:iV (cy st false false aY L P) f.p=fZ f.p (eL (cy st false false aY L P) f.p):=by
     unfold iV
     rw [if_neg (show ¬ (cy st false false aY L P).ov=true from by simp [cy]),if_neg (show ¬ f.p.kind=88 from a2),if_neg (show ¬ f.p.kind=83 from a3),if_neg (show ¬ (cy st false false aY L P).sk=true from by simp [cy])]
   rw [e]
   by_cases Cy:f.kind=81
   · have eq : eL (cy st false false aY L P) f.p = dL (cy st false false aY L P) f.p := by
       unfold eL
       rw [show f.p.kind=81 from Cy]
       rfl
     rw [eq]
     exact OE er h0 k f hf Cy (vZ _ _) fun g x=>Ij (k.av x) lm f (hf.av x) fl Cy
   · exact Oy er h0 k f hf ⟨a2,a3,Cy⟩ fun g x=>Ii (k.av x) lm f (hf.av x) hF fl
end
def oX (h0 h:aj) (A:Ad) (s:SP):Prop:=∃ L P,Ss h A s.st s.sk s.ov s.aY L P∧rm L=s.L∧gi P=s.P∧(∀ q,Mu A P q→h0.size≤q)∧∀ q,A.z q→h0.size≤q
def Bh (h0 h:aj) (q:Nat):Prop:=h0.size≤q∧∀ cs T,h[q]?=some (.cells cs T (0,0))→T=153∨T=104∨T=273
theorem wa {h0 h:aj} {v:Value} {T:TypeId} {sz n:Nat} {xs:List Value} (ho:Own h v T sz n xs) (hT:¬ (T=153∨T=104∨T=273)):∀ q,v.ownBlock=some q→¬ Bh h0 h q:=fun q hq e=>by
 obtain ⟨_,⟨rfl,_⟩ | ⟨g,cap,cur,rfl,hg,_⟩⟩:=ho
 · cases hq
 · simp only [Value.ownBlock,Option.some.injEq] at hq
   subst hq
   exact hT (e.2 _ _ hg)
theorem Er.pos {h:aj} (e:Er h):0 < h.size:=by
 have:=e 0 _ rfl
 unfold cell at this
 rcases hq:h[0]? with _ | o
 · simp [hq] at this
 · exact ak hq
section
variable {h0 h h':aj} {A:Ad} {s:SP}
theorem oX.av (k:oX h0 h A s) (x:Ext No h h'):oX h0 h' A s:=by
 obtain ⟨L,P,k,e1,e2,e3,e4⟩:=k
 exact ⟨L,P,k.av x,e1,e2,e3,e4⟩
theorem oX.bB (k:oX h0 h A s):h[A.bs]?=some (.cells ⟨[.map (some A.ms),.pointer (some ⟨A.bp,0,none⟩),.pointer (some ⟨A.be,0,none⟩),.int .u8 s.st,.bool s.sk,.bool s.ov]⟩ 153 (0,0)):=by
 obtain ⟨L,P,k,_⟩:=k
 exact k.se.bB
abbrev rH:SP:=⟨73,false,false,0,[],[]⟩
theorem EU:ei 0 rH:=⟨(fun _ h=>nomatch h),(fun _ h=>nomatch h),⟨Int.le_refl _,Int.le_refl _⟩,Nat.le_refl _⟩
theorem K9 {be me:Nat} (hb:h[be]?=some (.cells ⟨[.map (some me),In 0]⟩ 104 (0,0))) (hm:Mp .string St h me ([]:List (List UInt8 × Value))) (x:Ext No h0 h) (g1:h0.size≤be) :
   ai Tryz.prog 49 ⟨[.pointer (some ⟨be,0,none⟩)]⟩ h fun u h'=>∃ A:Ad,u=.pointer (some ⟨A.bs,0,none⟩)∧oX h0 h' A rH∧Ext No h h':=by
 refine (te (some ⟨be,0,none⟩)).mono fun u h' ⟨bs,ms,bp,mp,e,Jm,DV,Nu,Nv,l1,l2,l3,l4,hx⟩=>?_
 have lm:=hm.lt
 have s0:=x.size
 refine ⟨⟨bs,ms,bp,mp,be,me,fun _=>False⟩,e,⟨[],[],⟨⟨Jm,DV,Nu,Nv,hx.obj hb aQ,hm.ext hx aQ,by dsimp only;omega,by dsimp only;omega,by dsimp only;omega⟩,(fun _ h=>nomatch h),(fun _ h=>nomatch h),(fun _ h=>nomatch h),.inl rfl,by decide,⟨(fun _ h=>nomatch h),(fun _ h=>nomatch h),fun _ h=>h.elim⟩⟩,rfl,rfl,fun q hq=>?_,fun _ h=>h.elim⟩,hx⟩
 rcases hq with hq | hq | hq | hq | ⟨r,hr,_⟩
 · have:q=bs:=hq
   omega
 · have:q=ms:=hq
   omega
 · have:q=mp:=hq
   omega
 · have:q=be:=hq
   omega
 · exact nomatch hr
end
theorem OM {h0 h1 h:aj} {A:Ad} {s:SP} (k:oX h0 h1 A s) {n:Nat} (lm:ei n s) (hn:n < 1000000) (er:Er h) (hz:0 < h0.size) (x:Ext No h1 h) (x0:h0.size≤h1.size) (f:Fm) (hf:f.ok h) (hF:∀ q,f.F q→h1.size≤q) (fl:hJ f) :
   ai Tryz.prog 58 ⟨[.pointer (some ⟨A.bs,0,none⟩),.agg ⟨f.cells⟩]⟩ h fun u h'=>(∃ B,cH h h' u B∧B.map Bk.p=(iV s f.p).2)∧oX h0 h' A (iV s f.p).1∧Ext (Bh h0 h) h h':=by
 obtain ⟨L,P,k1,e1,e2,e3,e4⟩:=k
 obtain ⟨st,sk,ov,aY,LL,PP⟩:=s
 dsimp only at e1 e2 k1
 subst e1 e2
 have k:=k1.av x
 refine (OL er (fun e=>by have:=e3 _ e;omega) k (lm.Om hn) f hf (fun q hq e=>by have:=k1.lt e;have:=hF q hq;omega) fl).mono fun u h' ⟨hB,L',P',k',p1,p2,t⟩=>?_
 refine ⟨hB,⟨L',P',k',p1,p2,fun q hq=>?_,e4⟩,t.1.mono fun q _ e=>⟨e3 q e,fun cs T hq=>Classical.byContradiction fun hT=>k.not hq (fun z=>hT (.inl z)) (fun z=>hT (.inr (.inl z))) (fun z=>hT (.inr (.inr z))) e⟩⟩
 by_cases hl:q < h.size
 · exact e3 q (t.2 q hl hq)
 · have:=x.size;omega
noncomputable def gM:List (Int × List UInt8):=u4.flatMap fun y=>eV y.p
theorem mr {k st n m:Int} (h:Kn k) (hs:0≤st∧st≤255):jK (gB k st n m).p :=
 ⟨h,hs,(fun _ h=>nomatch h),by simp [gB,Bk.p],by simp [gB,Bk.p],by simp [gB,Bk.p],by simp [gB,Bk.p],(fun _ h=>nomatch h),by simp [gB,Bk.p],(fun _ h=>nomatch h),by simp [gB,Bk.p],by simp [gB,Bk.p],by simp [gB,Bk.p]⟩
theorem tY {h:aj} {b:Nat} {f s p i v:Value} {bg ov:Bool} (hv:Rd h v 11 3 qQ) (hb:h[b]?=some (.cells ⟨mN (.slice none 0 0) f s p i bg ov⟩ 96 (0,0))) (ep:∀ q,v.ownBlock=some q→q ≠ b) :
   ai Tryz.prog 57 ⟨[.pointer (some ⟨b,0,none⟩),v]⟩ h fun _ h'=>∃ (w:Value) (M:List nd),M.map nd.pl=gM∧h'[b]?=some (.cells ⟨mN w f s p i bg ov⟩ 96 (0,0))∧Sd h' w M∧Ext (fun q=>q=b) h h'∧(∀ q,w.ownBlock=some q→h.size≤q)∧∀ x∈M,∀ q,x.2.1.ownBlock=some q→h.size≤q:=by
 refine (Gi u4 (by simpa [qQ] using hv) hb (Sd.nil h) (by decide) (fun q hq=>⟨ep q hq,by simp [Value.ownBlock]⟩) (by simp [gB,Bk.cells,Value.oneCell']) (fun y hy g _=>?_)).mono fun u h' ⟨w,M,hM,zr,hs,hx,hf,hm⟩=>?_
 · simp only [List.mem_cons,List.not_mem_nil,or_false] at hy
   rcases hy with rfl | rfl | rfl
   · exact xu _ (Au _ _ _ _ _) (mr (by simp [Kn]) (by decide))
   · exact xu _ (Au _ _ _ _ _) (mr (by simp [Kn]) (by decide))
   · exact xu _ (Au _ _ _ _ _) (mr (by simp [Kn]) (by decide))
 · exact ⟨w,M,hM,zr,hs,hx.mono fun q _ e=>e.elim id fun z=>by simp [Value.ownBlock] at z,fun q hq=>(hf q hq).elim (fun z=>by simp [Value.ownBlock] at z) id,fun x hx=>(hm x hx).elim (fun z=>nomatch z) id⟩
theorem EV {h:aj} {b fb:Nat} {s w v:Value} {l:List UInt8} {k:Int} (hb:h[b]?=some (.cells ⟨mN (.slice none 0 0) (.pointer (some ⟨fb,0,none⟩)) s (.slice none 0 0) (In 0) false false⟩ 96 (0,0))) (kf:Fw h fb false v l) (hw:Rd h w 1 12 (bK jT)) :
   ai Tryz.prog 55 ⟨[.pointer (some ⟨b,0,none⟩),.agg ⟨[.int .u8 k,w]⟩]⟩ h fun _ h'=>∃ (w:Value) (M:List nd),M.map nd.pl=gM∧h'[b]?=some (.cells ⟨mN w (.pointer (some ⟨fb,0,none⟩)) s (.slice none 0 0) (In 0) true false⟩ 96 (0,0))∧Sd h' w M∧Fw h' fb true v l∧Ext (fun q=>q=b∨q=fb) h h'∧(∀ q,w.ownBlock=some q→h.size≤q)∧∀ x∈M,∀ q,x.2.1.ownBlock=some q→h.size≤q:=by
 have kb:=fun (h':aj)=>G4 (h:=h')
 have lb:=ak hb
 have lf:=ak kf.bB
 have xx:b ≠ fb:=fun e=>by have:=kf.bB;rw [← e,hb] at this;simp at this
 obtain ⟨A,c,rfl,_⟩:=id hw
 refine calls [(0,_),(1,_)] Tryz.func55 rfl Tryz.ntmps55 rfl ⟨rfl,rfl,trivial⟩ ?_
 refine WC.sr ?_;refine WL.al (aI rfl) rfl rfl rfl ?_
 rintro _ h1 ⟨b1,rfl,b0,aT,aB⟩
 refine Gn ?_;refine G2 ?_;refine WL.ld rfl (by first | exact ab aT rfl | assumption) rfl rfl rfl ?_
 refine WL.call (vs:=[_]) rfl Tryz.call90 rfl (u3 (hw.av aB)) rfl rfl rfl ?_
 rintro _ h2 ⟨p2,rfl,dv,aK,fg⟩
 obtain ⟨A2,c2,rfl,_⟩:=id dv.slice
 refine Go ?_;refine WL.al (au (fun w=>Tryz.zeroValue62 w)) rfl rfl rfl ?_
 rintro _ h3 ⟨b4,rfl,pH,bN,aS⟩
 refine WL.az (aq Tryz.sizeOf62 rfl rfl rfl bN rfl (by simp [Value.oneCell'])) rfl rfl ?_
 rintro _ h4 ⟨gL,bh⟩
 have X4:Ext No h h4:=((aB.trans aK).trans aS).trans' bh (fun q hq e=>by have:=aB.size;have:=aK.size;omega)
 have pr:=X4.obj hb aQ
 have Dq:=kf.av X4
 have l4:=X4.size
 refine Go ?_;refine Gs [(0,_),(4,_),(5,_)] ?_;refine WC.block ?_;refine G3 ?_
 refine aJ 1 2 ?_ TT.mk
 aa (refine ay 2 ?_)
 refine WC.region (Go ?_);refine WL.ld rfl (by first | exact ab gL rfl | assumption) rfl rfl rfl (Go ?_)
 refine Gn ?_
 refine aJ 3 4 ?_ TT.mk
 aa (refine ay 4 ?_)
 refine G2 ?_;refine WL.ld rfl (by first | exact ab gL rfl | assumption) rfl rfl rfl (Go ?_)
 refine Gs [(0,_),(21,_)] ?_
 refine aJ 5 6 ?_ TT.mk
 aa (refine ay 5 ?_)
 refine WC.seq ?_;refine WC.cg (fun h'=>∃ w,h'[b]?=some (.cells ⟨mN w (.pointer (some ⟨fb,0,none⟩)) s (.slice none 0 0) (In 0) false false⟩ 96 (0,0))) 11 11 rfl dB ?_
 refine WH.tk 0 rfl (fun hq hC=>an rfl) rfl rfl rfl ?_ (hC:=(by first | exact ⟨_,pr⟩ | assumption))
 refine WH.tk 1 rfl (fun hq hC=>an rfl) rfl rfl rfl ?_ (hC:=(by first | exact ⟨_,pr⟩ | assumption))
 refine WH.tk 2 rfl (fun hq hC=>ah rfl) rfl rfl rfl ?_ (hC:=(by first | exact ⟨_,pr⟩ | assumption))
 refine WH.tk 3 rfl (fun hq hC=>ag rfl Tryz.underlying96 rfl Tryz.sizeOf60) rfl rfl rfl ?_ (hC:=(by first | exact ⟨_,pr⟩ | assumption))
 refine WH.tk 4 rfl (fun hq hC=>aC Tryz.isAgg60 rfl ((by obtain ⟨w,e⟩:=hC;exact ab e rfl))) rfl rfl rfl ?_ (hC:=(by first | exact ⟨_,pr⟩ | assumption))
 refine WH.tk 5 rfl (fun hq hC=>an rfl) rfl rfl rfl ?_ (hC:=(by first | exact ⟨_,pr⟩ | assumption))
 refine WH.tk 6 rfl (fun hq hC=>ah rfl) rfl rfl rfl ?_ (hC:=(by first | exact ⟨_,pr⟩ | assumption))
 refine WH.tk 7 rfl (fun hq hC=>ag rfl Tryz.underlying96 rfl Tryz.sizeOf3) rfl rfl rfl ?_ (hC:=(by first | exact ⟨_,pr⟩ | assumption))
 refine WH.tk 8 rfl (fun hq hC=>aC Tryz.isAgg3 rfl ((by obtain ⟨w,e⟩:=hC;exact ab e rfl))) rfl rfl rfl ?_ (hC:=(by first | exact ⟨_,pr⟩ | assumption))
 refine WH.one 9 (by kernel_rfl) ?_
 refine aE.call (vs:=[_,_]) rfl rfl Tryz.call91 rfl (kb _) rfl rfl rfl ?_ (fun _=>by kernel_rfl)
 rintro v6 h6 ⟨gT,aP,jg⟩
 have cj:=aP.obj pr aQ
 refine ⟨fun _=>⟨_,cj⟩,?_⟩
 refine WH.one 10 (by kernel_rfl) ?_
 refine aE.call (vs:=[_,_]) rfl rfl Tryz.call57 rfl (tY gT.rd cj (fun q hq e=>by have:=jg q hq;omega)) rfl rfl rfl ?_ (fun _=>by kernel_rfl)
 rintro _ h7 ⟨w7,M7,SU,cq,Dr,bu,NP,La⟩
 have F0:∃ w,h7[b]?=some (.cells ⟨mN w (.pointer (some ⟨fb,0,none⟩)) s (.slice none 0 0) (In 0) false false⟩ 96 (0,0)):=⟨_,cq⟩
 have X6:=X4.trans aP
 have l6:=X6.size
 have SV:=(kf.av X6).ext bu (fun e=>xx e.symm) (fun q hq e=>bZ (kf.av X6).own cj (by decide) (e▸hq))
 have SW:∀ q,w7.ownBlock=some q→q ≠ fb:=fun q hq e=>by have:=NP q hq;omega
 have X7:Ext (fun q=>q=b∨q=fb) h h7:=(X6.mono fun _ _ e=>e.elim).trans (bu.mono fun _ _ e=>.inl e)
 refine ⟨fun _=>F0,?_⟩
 refine WH.done (by kernel_rfl) ?_
 refine Gn ?_;refine Gs [(0,_)] ?_;refine G2 ?_;refine WL.step (ah rfl) rfl rfl rfl (Go ?_);refine WL.ld rfl (by first | exact ab cq rfl | assumption) rfl rfl rfl ?_
 refine WL.call (vs:=[_]) rfl Tryz.call92 rfl (AA SV) rfl rfl rfl ?_
 rintro _ h8 ⟨rfl,Iq,bH⟩
 have bP:=bH.obj cq xx
 have xw:=Dr.ext bH (fun q hq e=>SW q hq e) (fun y hy q hq e=>by have:=La y hy q hq;omega)
 refine Gn ?_;refine Gs [(0,_)] ?_;refine WC.region (Go ?_);refine WL.step (ah rfl) rfl rfl rfl (Go ?_);refine WL.az (aD Tryz.sizeOf4 rfl rfl bP (Nat.le_of_ble_eq_true rfl) rfl rfl) rfl rfl ?_
 rintro _ h9 ⟨ck,cl⟩
 have vX:=xw.ext cl (fun q hq e=>(xw.off bP (by decide) (by decide)).1 (e▸hq)) (fun y hy q hq e=>(xw.off bP (by decide) (by decide)).2 y hy (e▸hq))
 have MA:=Iq.ext cl (fun e=>xx e.symm) (fun q hq e=>bZ Iq.own bP (by decide) (e▸hq))
 refine Gn ?_;refine Gn ?_
 refine fQ [] trivial ?_
 exact ⟨_,_,SU,ck,vX,MA,(X7.trans (bH.mono fun _ _ e=>.inr e)).trans (cl.mono fun _ _ e=>.inl e),fun q hq=>(by have:=NP q hq;omega),fun x hx q hq=>(by have:=La x hx q hq;omega)⟩
theorem oB {h:aj} {b fb:Nat} {s v:Value} {r:List UInt8} (hb:h[b]?=some (.cells ⟨mN (.slice none 0 0) (.pointer (some ⟨fb,0,none⟩)) s (.slice none 0 0) (In 0) false false⟩ 96 (0,0))) (kf:Fw h fb false v (dz++r)) (hr:r.length≤100000) :
   ai Tryz.prog 26 ⟨[.pointer (some ⟨b,0,none⟩)]⟩ h fun u h'=>u=.tuple ⟨[.agg ⟨Jb⟩,.bool false]⟩∧∃ (w:Value) (M:List nd) (v':Value),M.map nd.pl=gM∧h'[b]?=some (.cells ⟨mN w (.pointer (some ⟨fb,0,none⟩)) s (.slice none 0 0) (In 0) true false⟩ 96 (0,0))∧Sd h' w M∧Fw h' fb true v' r∧Ext (fun q=>q=b∨q=fb∨v.ownBlock=some q) h h'∧(∀ q,w.ownBlock=some q→h.size≤q)∧(∀ x∈M,∀ q,x.2.1.ownBlock=some q→h.size≤q)∧v'.ownBlock=v.ownBlock:=by
 have kr:=fun (g:aj) (hb:g[b]?=some (.cells ⟨mN (.slice none 0 0) (.pointer (some ⟨fb,0,none⟩)) s (.slice none 0 0) (In 0) false false⟩ 96 (0,0)))=>eC hb
 have uQ:dz.length=16:=by decide
 have kn:=fun (g:aj) (k:Fw g fb false v (dz++r))=>wR k 0 16 rfl (by rw [List.drop_zero,List.take_append_of_le_length (by decide)];decide) (by decide) (by rw [List.length_append];omega) (by rw [List.length_append];omega)
 have lb:=ak hb
 have lf:=ak kf.bB
 have xx:b ≠ fb:=fun e=>by have:=kf.bB;rw [← e,hb] at this;simp at this
 have eH:∀ q,v.ownBlock=some q→q < h.size:=fun q hq=>kf.own.lt hq
 have ON:v.ownBlock ≠ some b:=bZ kf.own hb (by decide)
 have eb:((dz++r).drop (0+4)).take (16 - 4)=jT:=by
   rw [List.drop_append_of_le_length (by decide),List.take_append_of_le_length (by decide)]
   decide
 have er:(dz++r).drop (0+16)=r:=by
   rw [Nat.zero_add,← uQ,List.drop_left]
 rw [eb,er] at kn
 refine calls [(0,_)] Tryz.func26 rfl Tryz.ntmps26 rfl ⟨rfl,trivial⟩ ?_
 refine WC.sr ?_;refine WL.al (au (fun w=>Tryz.zeroValue42 w)) rfl rfl rfl ?_
 rintro _ h1 ⟨b1,rfl,b0,aT,aB⟩
 have gr:=aB.obj hb aQ
 have SX:=kf.av aB
 refine Go ?_;refine G3 ?_;refine WL.call (vs:=[_]) rfl Tryz.call51 rfl (kr _ gr) rfl rfl rfl ?_
 rintro _ hq ⟨rfl,hz⟩
 replace hz:=hz.symm
 subst hz
 refine Go ?_
 refine bU 11 ?_ TT.mk
 refine Gg ?_;refine WL.step (ah rfl) rfl rfl rfl ?_;refine Gg ?_;refine WL.ld rfl (by first | exact ab gr rfl | assumption) rfl rfl rfl (Go ?_)
 refine Gs [(0,_),(2,_),(16,_)] ?_
 refine aJ 1 2 ?_ TT.mk
 aa (refine ay 2 ?_)
 refine WC.skip ?_;refine Gn ?_;refine G2 ?_;refine WL.step (ah rfl) rfl rfl rfl (Go ?_);refine WL.ld rfl (by first | exact ab gr rfl | assumption) rfl rfl rfl ?_
 refine WL.call (vs:=[_]) rfl Tryz.call53 rfl (kn _ SX) rfl rfl rfl ?_
 rintro _ h2 ⟨w2,v2,rfl,dv,Di,aK,fg,GD⟩
 have dv:Own h2 w2 5 1 12 (bK jT):=dv
 obtain ⟨A2,c2,rfl,_⟩:=id dv.slice
 have qC:=aK.obj gr (fun e=>e.elim xx ON)
 have ca:=aK.obj aT (fun e=>by rcases e with e | e;omega;have:=eH _ e;omega)
 refine Go ?_;refine WL.al (au (fun w=>Tryz.zeroValue53 w)) rfl rfl rfl ?_
 rintro _ h3 ⟨b4,rfl,pH,bN,aS⟩
 refine WL.az (aq Tryz.sizeOf53 rfl rfl rfl bN rfl (by simp [Value.oneCell'])) rfl rfl ?_
 rintro _ h4 ⟨gL,bh⟩
 have uC:Ext No h2 h4:=aS.trans' bh (fun q hq e=>by omega)
 have x7:=uC.obj qC aQ
 have Dq:=Di.av uC
 have gk:=dv.ext uC (fun _ _=>aQ)
 have bT:=uC.obj ca aQ
 have X4:Ext (fun q=>q=b∨q=fb∨v.ownBlock=some q) h h4:=(aB.mono fun _ _ e=>e.elim).trans ((aK.mono fun _ _ e=>.inr e).trans (uC.mono fun _ _ e=>e.elim))
 refine Go ?_;refine Gs [(0,_),(2,_),(4,_),(5,_),(6,_)] ?_;refine WC.seq ?_;refine WC.block ?_;refine G2 ?_
 refine aJ 3 4 ?_ TT.mk
 aa (refine ay 4 ?_)
 refine G2 ?_;refine Gs [(0,_),(2,_),(4,_),(34,_)] ?_
 refine aJ 5 6 ?_ TT.mk
 aa (refine ay 6 ?_)
 refine G2 ?_;refine WL.step (ah rfl) rfl rfl rfl (Go ?_);refine WL.ld rfl (by first | exact ab x7 rfl | assumption) rfl rfl rfl (Go ?_)
 refine Gs [(0,_),(2,_),(4,_),(38,_)] ?_
 refine aJ 7 8 ?_ TT.mk
 aa (refine ay 7 ?_)
 refine G2 ?_;refine WL.step (aA Tryz.isAgg53 Tryz.sizeOf53 rfl rfl (by exact At.ax gL)) rfl rfl rfl ?_
 refine WL.call (vs:=[_,_]) rfl Tryz.call55 rfl (EV x7 Dq gk.rd) rfl rfl rfl ?_
 rintro _ h5 ⟨w5,M5,Jw,OO,OP,Lb,aO,gj,Lc⟩
 have du:=aO.obj bT (fun e=>by have:=aB.size;omega)
 refine Gn ?_;refine Gs [(2,_)] ?_;refine WC.sr ?_;refine WL.step (aH (vs:=[]) (cs:=[_,_,_,_,_,_,_,_,_,_]) (fun | []=>[(.int .u8 0),(.int .u8 0),(St []),(St []),(St []),(.slice none 0 0),(.slice none 0 0),(.slice none 0 0),(.slice none 0 0),(.int .i64 0)] | _=>[]) rfl rfl (by kernel_rfl)) rfl rfl rfl ?_
 refine WL.az (aq Tryz.sizeOf42 rfl rfl rfl du rfl (by simp [Value.oneCell'])) rfl rfl ?_
 rintro _ h6 ⟨cj,aP⟩
 have X6:Ext (fun q=>q=b∨q=fb∨v.ownBlock=some q) h h6:=(X4.trans (aO.mono fun _ _ e=>e.elim .inl fun e=>.inr (.inl e))).trans' aP (fun q hq e=>by omega)
 have l4:=X4.size
 have SY:=OP.ext aP (fun q hq e=>(OP.off du (by decide) (by decide)).1 (e▸hq)) (fun y hy q hq e=>(OP.off du (by decide) (by decide)).2 y hy (e▸hq))
 refine Go ?_;refine WC.ret ?_
 repeat' (ae first | refine bq ?_ | refine ba ?_)
 refine di _ _ ⟨⟨_,rfl,bJ Tryz.isAgg42 Tryz.sizeOf42 (by assumption) rfl⟩,rfl,trivial⟩ ?_
 exact ⟨rfl,w5,M5,_,Jw,aP.obj OO (fun e=>by omega),SY,Lb.ext aP (fun e=>by omega) (fun q hq e=>bZ Lb.own du (by decide) (e▸hq)),X6,fun q hq=>(by have:=gj q hq;omega),fun x hx q hq=>(by have:=Lc x hx q hq;omega),GD⟩
def Ir (h:aj) (q:Nat):Prop:=∃ (cs:Array Value) (T:TypeId),h[q]?=some (.cells cs T (0,0))∧T ≠ 153∧T ≠ 104∧T ≠ 273∧T ≠ 189
section
variable {h0 h h':aj} {A:Ad} {st:Int} {sk ov:Bool} {aY:Int} {L:List (List UInt8 × gX)} {P:List (List UInt8 × eI)} {S:Nat→Prop} {s:SP}
theorem Ss.y9 (k:Ss h A st sk ov aY L P) (x:Ext S h h') (hS:∀ q,S q→A.z q∧Ir h q):Ss h' A st sk ov aY L P:=by
 have e:=k.se
 have nB:∀ {b:Nat} {cs:Array Value} {T:TypeId},h[b]?=some (.cells cs T (0,0))→(T=153∨T=104∨T=273∨T=189)→¬ S b:=fun hb hT e=>by
   obtain ⟨_,cs,T,hq,t1,t2,t3,t4⟩:=hS _ e
   rcases hT with rfl | rfl | rfl | rfl
   · exact bE hq hb t1 rfl
   · exact bE hq hb t2 rfl
   · exact bE hq hb t3 rfl
   · exact bE hq hb t4 rfl
 have nM:∀ {m:Nat} {E:List (List UInt8 × Value)},Mp .string St h m E→¬ S m:=fun hm e=>by
   obtain ⟨_,cs,T,hq,_⟩:=hS _ e
   exact eE hm hq rfl
 exact ⟨⟨x.obj e.bB (nB e.bB (.inl rfl)),e.ka.ext x (nM e.ka),x.obj e.pb (nB e.pb (.inr (.inr (.inr rfl)))),e.pm.ext x (nM e.pm),x.obj e.eb (nB e.eb (.inr (.inl rfl))),e.em.ext x (nM e.em),e.ne⟩,
   fun q hq=>⟨(k.jA q hq).1.ext' x (fun z h0 hz e=>k.zz.l q hq z h0 hz (hS z e).1),(k.jA q hq).2⟩,
   fun q hq=>⟨x.obj (k.eJ q hq).1 (nB (k.eJ q hq).1 (.inr (.inr (.inl rfl)))),(k.eJ q hq).2.1.ext x (fun z hz e=>k.zz.p q hq z hz (hS z e).1),(k.eJ q hq).2.2⟩,k.xb,k.r9,k.yz,k.zz.up x.size⟩
theorem Ss.Is (k:Ss h A st sk ov aY L P) (x:Ext S h h') (hS:∀ q,S q→A.z q∧Ir h q) {z':Nat→Prop} (hz:∀ q,z' q→(A.z q∨h.size≤q)∧q < h'.size):Ss h' { A with z:=z' } st sk ov aY L P:=by
 have k':=k.y9 x hS
 exact ⟨k'.se,k'.jA,k'.eJ,k'.xb,k'.r9,k'.yz,⟨fun q hq z h0 Jh e=>(hz z e).1.elim (k.zz.l q hq z h0 Jh) (fun y=>by have:=(k.jA q hq).1.lt h0 Jh;omega),fun q hq z Jh e=>(hz z e).1.elim (k.zz.p q hq z Jh) (fun y=>by have:=(k.eJ q hq).2.1.lt Jh;omega),fun q hq=>(hz q hq).2⟩⟩
theorem oX.Is (k:oX h0 h A s) (x:Ext S h h') (hS:∀ q,S q→A.z q∧Ir h q) {z':Nat→Prop} (hz:∀ q,z' q→(A.z q∨h.size≤q)∧q < h'.size) (x0:h0.size≤h.size):oX h0 h' { A with z:=z' } s:=by
 obtain ⟨L,P,k,e1,e2,e3,e4⟩:=k
 exact ⟨L,P,k.Is x hS hz,e1,e2,e3,fun q hq=>(hz q hq).1.elim (e4 q) (fun y=>by omega)⟩
theorem oX.y9 (k:oX h0 h A s) (x:Ext S h h') (hS:∀ q,S q→A.z q∧Ir h q):oX h0 h' A s:=by
 obtain ⟨L,P,k,e1,e2,e3,e4⟩:=k
 exact ⟨L,P,k.y9 x hS,e1,e2,e3,e4⟩
end
def tZ (h0:aj) (q:Nat):Prop:=h0.size≤q
structure Sq (h0 h:aj) (b fb:Nat) (A:Ad) (s:SP) (bg:Bool) (l:List UInt8) (v w:Value) (M:List nd):Prop where
 bB:h[b]?=some (.cells ⟨mN w (.pointer (some ⟨fb,0,none⟩)) (.pointer (some ⟨A.bs,0,none⟩)) (.slice none 0 0) (In 0) bg s.ov⟩ 96 (0,0))
 fw:Fw h fb bg v l
 se:oX h0 h A s
 sd:Sd h w M
 nv:∀ x∈M,∀ q,x.2.1.ownBlock=some q→v.ownBlock ≠ some q
 z:∀ q,A.z q ↔ (q=b∨q=fb∨v.ownBlock=some q∨w.ownBlock=some q)
 x0:h0.size≤h.size
def rI (h0 h:aj) (b:Nat) (s:SP) (bg:Bool) (l:List UInt8) (O:List (Int × List UInt8)):Prop:=∃ fb A v w M,Sq h0 h b fb A s bg l v w M∧M.map nd.pl=O
section
variable {h0 h h':aj} {b fb:Nat} {A:Ad} {s:SP} {bg:Bool} {l:List UInt8} {v w:Value} {M:List nd} {O:List (Int × List UInt8)} {S:Nat→Prop}
theorem rJ {v:Value} {T:TypeId} {sz n:Nat} {xs:List Value} (ho:Own h v T sz n xs) (hT:T ≠ 153∧T ≠ 104∧T ≠ 273∧T ≠ 189):∀ q,v.ownBlock=some q→Ir h q:=fun q hq=>by
 obtain ⟨_,⟨rfl,_⟩ | ⟨g,cap,cur,rfl,hg,_⟩⟩:=ho
 · cases hq
 · simp only [Value.ownBlock,Option.some.injEq] at hq
   subst hq
   exact ⟨_,_,hg,hT⟩
theorem Sq.Le (k:Sq h0 h b fb A s bg l v w M):∀ q,A.z q→A.z q∧Ir h q:=fun q hq=>⟨hq,by
 rcases (k.z q).1 hq with rfl | rfl | e | e
 · exact ⟨_,_,k.bB,by decide,by decide,by decide,by decide⟩
 · exact ⟨_,_,k.fw.bB,by decide,by decide,by decide,by decide⟩
 · exact rJ k.fw.own (by decide) q e
 · exact rJ k.sd.row (by decide) q e⟩
theorem Sq.lo (k:Sq h0 h b fb A s bg l v w M):∀ q,A.z q→h0.size≤q:=by
 obtain ⟨_,_,_,_,_,_,e4⟩:=k.se
 exact e4
theorem Sq.xx (k:Sq h0 h b fb A s bg l v w M):b ≠ fb:=fun e=>by have:=k.fw.bB;rw [← e,k.bB] at this;simp at this
theorem Sq.av (k:Sq h0 h b fb A s bg l v w M) (x:Ext No h h'):Sq h0 h' b fb A s bg l v w M:=⟨x.obj k.bB aQ,k.fw.av x,k.se.av x,k.sd.av x,k.nv,k.z,by have:=x.size;have:=k.x0;omega⟩
theorem rI.av (k:rI h0 h b s bg l O) (x:Ext No h h'):rI h0 h' b s bg l O:=by
 obtain ⟨fb,A,v,w,M,k,e⟩:=k
 exact ⟨fb,A,v,w,M,k.av x,e⟩
theorem Sq.Qw (k:Sq h0 h b fb A s bg l v w M) (x:Ext (fun q=>q=fb) h h') (kf:Fw h' fb bg v l):Sq h0 h' b fb A s bg l v w M :=
 have hb:=k.fw.bB
 ⟨x.obj k.bB (fun e=>k.xx e),kf,k.se.y9 x (fun q e=>k.Le q ((k.z q).2 (.inr (.inl e)))),k.sd.ext x (fun q hq e=>(k.sd.off hb (by decide) (by decide)).1 (e▸hq)) (fun y hy q hq e=>(k.sd.off hb (by decide) (by decide)).2 y hy (e▸hq)),k.nv,k.z,by have:=x.size;have:=k.x0;omega⟩
theorem xy (k:Sq h0 h b fb A s bg l v w M) (ho:s.ov=false) (hp:Part (if bg=true then 1 else 0) l) (hm:l.length≤1000000) :
   ai Tryz.prog 26 ⟨[.pointer (some ⟨b,0,none⟩)]⟩ h fun u h'=>u=.tuple ⟨[.agg ⟨Jb⟩,.bool false]⟩∧Sq h0 h' b fb A s bg l v w M∧Ext (tZ h0) h h':=by
 have hs:=k.bB
 rw [ho] at hs
 have oU:=k.lo fb ((k.z fb).2 (.inr (.inl rfl)))
 have kr:=fun (g:aj) (hb:g[b]?=some (.cells ⟨mN w (.pointer (some ⟨fb,0,none⟩)) (.pointer (some ⟨A.bs,0,none⟩)) (.slice none 0 0) (In 0) bg false⟩ 96 (0,0)))=>eC hb
 have kn:=fun (g:aj) (k:Fw g fb bg v l)=>rF k _ rfl hp hm
 have lf:=ak k.fw.bB
 have x0:=k.x0
 refine calls [(0,_)] Tryz.func26 rfl Tryz.ntmps26 rfl ⟨rfl,trivial⟩ ?_
 refine WC.sr ?_;refine WL.al (au (fun w=>Tryz.zeroValue42 w)) rfl rfl rfl ?_
 rintro _ h1 ⟨b1,rfl,b0,aT,aB⟩
 have gr:=aB.obj hs aQ
 have k1:=k.av aB
 refine Go ?_;refine G3 ?_;refine WL.call (vs:=[_]) rfl Tryz.call51 rfl (kr _ gr) rfl rfl rfl ?_
 rintro _ hq ⟨rfl,hz⟩
 replace hz:=hz.symm
 subst hz
 refine Go ?_
 refine bU 11 ?_ TT.mk
 refine Gg ?_;refine WL.step (ah rfl) rfl rfl rfl ?_;refine Gg ?_;refine WL.ld rfl (by first | exact ab gr rfl | assumption) rfl rfl rfl (Go ?_)
 refine Gs [(0,_),(2,_),(16,_)] ?_
 refine aJ 1 2 ?_ TT.mk
 aa (refine ay 2 ?_)
 refine WC.skip ?_;refine Gn ?_;refine G2 ?_;refine WL.step (ah rfl) rfl rfl rfl (Go ?_);refine WL.ld rfl (by first | exact ab gr rfl | assumption) rfl rfl rfl ?_
 refine WL.call (vs:=[_]) rfl Tryz.call53 rfl (kn _ k1.fw) rfl rfl rfl ?_
 rintro _ h2 ⟨rfl,Di,aK⟩
 have k2:=k1.Qw aK Di
 have ca:=aK.obj aT (fun e=>by omega)
 refine Go ?_;refine WL.al (au (fun w=>Tryz.zeroValue53 w)) rfl rfl rfl ?_
 rintro _ h3 ⟨b4,rfl,pH,bN,aS⟩
 refine WL.az (aq Tryz.sizeOf53 rfl rfl rfl bN rfl (by simp [Value.oneCell'])) rfl rfl ?_
 rintro _ h4 ⟨gL,bh⟩
 have uC:Ext No h2 h4:=aS.trans' bh (fun q hq e=>by omega)
 have k4:=k2.av uC
 have bT:=uC.obj ca aQ
 have X4:Ext (tZ h0) h h4:=(aB.mono fun _ _ e=>e.elim).trans ((aK.mono fun _ _ e=>by subst e;exact oU).trans (uC.mono fun _ _ e=>e.elim))
 refine Go ?_;refine Gs [(0,_),(2,_),(4,_),(5,_),(6,_)] ?_;refine WC.seq ?_;refine WC.block ?_;refine G2 ?_
 refine aJ 3 4 ?_ TT.mk
 aa (refine ay 4 ?_)
 refine G2 ?_;refine Gs [(0,_),(2,_),(4,_),(34,_)] ?_
 refine aJ 5 6 ?_ TT.mk
 aa (refine ay 5 ?_)
 refine WC.sr ?_;refine WL.step (aH (vs:=[]) (cs:=[_,_,_,_,_,_,_,_,_,_]) (fun | []=>[(.int .u8 0),(.int .u8 0),(St []),(St []),(St []),(.slice none 0 0),(.slice none 0 0),(.slice none 0 0),(.slice none 0 0),(.int .i64 0)] | _=>[]) rfl rfl (by kernel_rfl)) rfl rfl rfl ?_
 refine WL.az (aq Tryz.sizeOf42 rfl rfl rfl bT rfl (by simp [Value.oneCell'])) rfl rfl ?_
 rintro _ h5 ⟨cd,aO⟩
 have X5:Ext (fun q=>q=fb) h h5:=(((aB.mono fun _ _ e=>e.elim).trans aK).trans (uC.mono fun _ _ e=>e.elim)).trans' aO (fun q hq e=>by omega)
 have Lb:=k4.fw.ext aO (fun e=>by omega) (fun q hq e=>bZ k4.fw.own bT (by decide) (e▸hq))
 refine Go ?_;refine Gs [(2,_),(3,_)] ?_;refine WC.ret ?_
 repeat' (ae first | refine bq ?_ | refine ba ?_)
 refine di _ _ ⟨⟨_,rfl,bJ Tryz.isAgg42 Tryz.sizeOf42 (by assumption) rfl⟩,rfl,trivial⟩ ?_
 exact ⟨rfl,k.Qw X5 Lb,X5.mono fun q _ e=>by subst e;exact oU⟩
theorem za (k:rI h0 h b s bg l O) (ho:s.ov=false) (hp:Part (if bg=true then 1 else 0) l) (hm:l.length≤1000000) :
   ai Tryz.prog 26 ⟨[.pointer (some ⟨b,0,none⟩)]⟩ h fun u h'=>u=.tuple ⟨[.agg ⟨Jb⟩,.bool false]⟩∧rI h0 h' b s bg l O∧Ext (tZ h0) h h':=by
 obtain ⟨fb,A,v,w,M,k,e⟩:=k
 exact (xy k ho hp hm).mono fun u h' ⟨a,k,x⟩=>⟨a,⟨fb,A,v,w,M,k,e⟩,x⟩
theorem zb (k:rI h0 h b s bg l O) (ho:s.ov=true) :
   ai Tryz.prog 26 ⟨[.pointer (some ⟨b,0,none⟩)]⟩ h fun u h'=>u=.tuple ⟨[.agg ⟨Jb⟩,.bool false]⟩∧rI h0 h' b s bg l O∧Ext No h h':=by
 have k0:=k
 obtain ⟨fb,A,v,w,M,k,e⟩:=k
 have hs:=k.bB
 rw [ho] at hs
 have kr:=fun (g:aj) (hb:g[b]?=some (.cells ⟨mN w (.pointer (some ⟨fb,0,none⟩)) (.pointer (some ⟨A.bs,0,none⟩)) (.slice none 0 0) (In 0) bg true⟩ 96 (0,0)))=>eC hb
 refine calls [(0,_)] Tryz.func26 rfl Tryz.ntmps26 rfl ⟨rfl,trivial⟩ ?_
 refine WC.sr ?_;refine WL.al (au (fun w=>Tryz.zeroValue42 w)) rfl rfl rfl ?_
 rintro _ h1 ⟨b1,rfl,b0,aT,aB⟩
 have gr:=aB.obj hs aQ
 refine Go ?_;refine G3 ?_;refine WL.call (vs:=[_]) rfl Tryz.call51 rfl (kr _ gr) rfl rfl rfl ?_
 rintro _ hq ⟨rfl,hz⟩
 replace hz:=hz.symm
 subst hz
 refine Go ?_
 refine bU 11 ?_ TT.mk
 refine Gg ?_;refine WL.step (ah rfl) rfl rfl rfl ?_;refine Gg ?_;refine WL.ld rfl (by first | exact ab gr rfl | assumption) rfl rfl rfl (Go ?_)
 refine Gs [(0,_),(2,_),(16,_)] ?_
 refine aJ 1 2 ?_ TT.mk
 aa (refine ay 1 ?_)
 refine WC.sr ?_;refine WL.step (aH (vs:=[]) (cs:=[_,_,_,_,_,_,_,_,_,_]) (fun | []=>[(.int .u8 0),(.int .u8 0),(St []),(St []),(St []),(.slice none 0 0),(.slice none 0 0),(.slice none 0 0),(.slice none 0 0),(.int .i64 0)] | _=>[]) rfl rfl (by kernel_rfl)) rfl rfl rfl ?_
 refine WL.az (aq Tryz.sizeOf42 rfl rfl rfl aT rfl (by simp [Value.oneCell'])) rfl rfl ?_
 rintro _ h2 ⟨bR,aK⟩
 have X2:Ext No h h2:=aB.trans' aK (fun q hq e=>by omega)
 refine Go ?_;refine WC.ret ?_
 repeat' (ae first | refine bq ?_ | refine ba ?_)
 refine di _ _ ⟨⟨_,rfl,bJ Tryz.isAgg42 Tryz.sizeOf42 (by assumption) rfl⟩,rfl,trivial⟩ ?_
 exact ⟨rfl,k0.av X2,X2⟩
theorem zc {x:Value} (k:rI h0 h b s bg l O) (ho:s.ov=true) (hx:∃ A n c,x=.slice A n c) :
   ai Tryz.prog 25 ⟨[.pointer (some ⟨b,0,none⟩),x]⟩ h fun _ h'=>rI h0 h' b s bg l O∧h'=h:=by
 have k0:=k
 obtain ⟨fb,A,v,w,M,k,e⟩:=k
 have hs:=k.bB
 rw [ho] at hs
 have kr:=eC hs
 obtain ⟨B,n,c,rfl⟩:=hx
 refine calls [(0,_),(1,_)] Tryz.func25 rfl Tryz.ntmps25 rfl ⟨rfl,rfl,trivial⟩ ?_
 refine G2 ?_;refine WC.seq ?_;refine WC.block ?_;refine G2 ?_;refine WL.call (vs:=[_]) rfl Tryz.call51 rfl (kr) rfl rfl rfl ?_
 rintro _ hq ⟨rfl,hz⟩
 replace hz:=hz.symm
 subst hz
 refine Go ?_;refine Gs [(0,_),(1,_),(5,_)] ?_
 refine aJ 1 2 ?_ TT.mk
 aa (refine ay 2 ?_)
 refine G2 ?_;refine WL.step (ah rfl) rfl rfl rfl (Go ?_);refine WL.ld rfl (by first | exact ab hs rfl | assumption) rfl rfl rfl (Go ?_)
 refine Gs [(0,_),(1,_),(9,_)] ?_
 refine aJ 3 4 ?_ TT.mk
 aa (refine ay 3 ?_)
 refine G2 ?_;refine Gt ?_
 exact ⟨k0,rfl⟩
theorem xz {x:Value} {m:List UInt8} (k:Sq h0 h b fb A s bg l v w M) (ho:s.ov=false) (hr:Rd h x 1 m.length (bK m)) (hl:l.length+m.length≤262144) :
   ai Tryz.prog 25 ⟨[.pointer (some ⟨b,0,none⟩),x]⟩ h fun _ h'=>(∃ A' v',Sq h0 h' b fb A' s bg (l++m) v' w M)∧Ext (tZ h0) h h':=by
 have hs:=k.bB
 rw [ho] at hs
 refine (wV hs k.fw hr hl).mono fun u h' ⟨_,v',kf,hx,hv⟩=>?_
 have hz:∀ q,(q=fb∨v.ownBlock=some q)→A.z q:=fun q e=>(k.z q).2 (e.elim (fun e=>.inr (.inl e)) (fun e=>.inr (.inr (.inl e))))
 have zC:=k.fw.bB
 have SZ:∀ q,w.ownBlock=some q→¬ (q=fb∨v.ownBlock=some q):=fun q hq e=>e.elim (fun e=>(k.sd.off zC (by decide) (by decide)).1 (e▸hq)) (fun e=>by obtain ⟨_,a1⟩:=bV k.sd.row hq;obtain ⟨_,a2⟩:=bV k.fw.own e;rw [a1] at a2;simp at a2)
 have DJ:∀ y∈M,∀ q,y.2.1.ownBlock=some q→¬ (q=fb∨v.ownBlock=some q):=fun y hy q hq e=>e.elim (fun e=>(k.sd.off zC (by decide) (by decide)).2 y hy (e▸hq)) (k.nv y hy q hq)
 have s1:=hx.size
 have lb:=ak k.bB
 have lf:=ak zC
 refine ⟨⟨{ A with z:=fun q=>q=b∨q=fb∨v'.ownBlock=some q∨w.ownBlock=some q },v',⟨hx.obj k.bB (fun e=>e.elim k.xx (bZ k.fw.own k.bB (by decide))),kf,k.se.Is hx (fun q e=>k.Le q (hz q e)) (fun q hq=>?_) k.x0,k.sd.ext hx SZ DJ,fun y hy q hq e=>(hv q e).elim (k.nv y hy q hq) (fun z=>by have:=k.sd.lt.2 y hy q hq;omega),fun q=>Iff.rfl,by have:=k.x0;omega⟩⟩,hx.mono fun q _ e=>k.lo q (hz q e)⟩
 rcases hq with hq | hq | hq | hq
 · exact ⟨.inl ((k.z q).2 (.inl hq)),by omega⟩
 · exact ⟨.inl ((k.z q).2 (.inr (.inl hq))),by omega⟩
 · exact ⟨(hv q hq).imp (fun z=>(k.z q).2 (.inr (.inr (.inl z)))) id,kf.own.lt hq⟩
 · exact ⟨.inl ((k.z q).2 (.inr (.inr (.inr hq)))),by have:=k.sd.lt.1 q hq;omega⟩
theorem It {x:Value} {m:List UInt8} (k:rI h0 h b s bg l O) (ho:s.ov=false) (hr:Rd h x 1 m.length (bK m)) (hl:l.length+m.length≤262144) :
   ai Tryz.prog 25 ⟨[.pointer (some ⟨b,0,none⟩),x]⟩ h fun _ h'=>rI h0 h' b s bg (l++m) O∧Ext (tZ h0) h h':=by
 obtain ⟨fb,A,v,w,M,k,e⟩:=k
 exact (xz k ho hr hl).mono fun u h' ⟨⟨A',v',k⟩,x⟩=>⟨⟨fb,A',v',w,M,k,e⟩,x⟩
end
structure Fm.xA (b:Fm):Prop where
 aU:b.aU.length≤50
 bX:b.bX.length≤50
 results:b.results.length≤50
 params:b.params.length≤50
 cells:∀ c∈b.params,c.bytes.length≤300
 name:b.name.length≤300
 bm:b.bm.length≤300
 text:b.text.length≤1000
theorem S0 {h h0:aj} (c:bj) (hk:c.ok h0):ai Tryz.prog 47 ⟨[.agg ⟨c.cells⟩]⟩ h fun u h'=>u=.bool (decide (300 < c.bytes.length))∧Ext No h h':=by
 obtain ⟨nl,v,bs⟩:=c
 obtain ⟨A,cc,e,_⟩:=hk.1
 simp only at e
 subst e
 dsimp only [bj.cells]
 refine calls [(0,_)] Tryz.func47 rfl Tryz.ntmps47 rfl ⟨rfl,trivial⟩ ?_
 refine WC.sr ?_;refine WL.al (aI rfl) rfl rfl rfl ?_
 rintro _ h1 ⟨b1,rfl,b0,aT,aB⟩
 refine Go ?_;refine G2 ?_;refine Ld ?_;refine Go ?_;refine Gs [(2,_)] ?_;refine Gt ?_
 exact ⟨congrArg Value.bool (decide_eq_decide.2 (by omega)),aB⟩
def oC (b:Fm):Bool:=decide ((b.aU.length≤50∧b.bX.length≤50∧b.results.length≤50∧b.params.length≤50)∧(b.params.any fun c=>decide (300 < c.bytes.length))=false∧b.name.length≤300∧b.bm.length≤300∧b.text.length≤1000)
theorem wb {b:Fm} (h:oC b=true):b.xA:=by
 obtain ⟨⟨h1,h2,h3,h4⟩,h5,h6,h7,h8⟩:=of_decide_eq_true h
 exact ⟨h1,h2,h3,h4,fun c hc=>by simpa using List.any_eq_false.1 h5 c hc,h6,h7,h8⟩
theorem rK {h:aj} (b:Fm) (hb:b.ok h):ai Tryz.prog 22 ⟨[.agg ⟨b.cells⟩]⟩ h fun u h'=>u=.bool (oC b)∧Ext No h h':=by
 obtain ⟨⟨ho,_⟩,⟨hf,_⟩,⟨hs,_⟩,hr⟩:=hb
 obtain ⟨k,w,n,p,t,vo,lo,vf,lf,vs,ls,vp,lp,mx⟩:=b
 dsimp only at ho hf hs hr
 obtain ⟨Qx,rY,rX⟩:=hr
 have S1:lp.length≤maxLen:=by have:=rY.1;unfold reachBytes at this;unfold maxLen;omega
 obtain ⟨Ao,co,rfl,_⟩:=id ho
 obtain ⟨Af,cf,rfl,_⟩:=id hf
 obtain ⟨As,cs,rfl,_⟩:=id hs
 obtain ⟨Ap,cp,rfl,_⟩:=id Qx
 dsimp only [Fm.cells]
 refine calls [(0,_)] Tryz.func22 rfl Tryz.ntmps22 rfl ⟨rfl,trivial⟩ ?_
 refine WC.sr ?_;refine WL.al (aI rfl) rfl rfl rfl ?_
 rintro _ g1 ⟨b1,rfl,b0,aT,Lf⟩
 refine Go ?_;refine G3 ?_;refine Ld ?_;refine Go ?_
 refine bU 7 (Hb.mk fun hb=>?_) (Hb.mk fun hb=>?_)
 aa (refine Gg ?_;first | refine WL.pass rfl rfl rfl ?_ | refine Ld ?_)
 aa (refine Gg ?_;refine Go ?_;first | refine bU 13 ?_ TT.mk | (refine bU 13 (Hb.mk fun hb=>?_) (Hb.mk fun hb=>?_)))
 aa (refine Gg ?_;first | refine WL.pass rfl rfl rfl ?_ | refine Ld ?_)
 aa (refine Gg ?_;refine Go ?_;first | refine bU 19 ?_ TT.mk | (refine bU 19 (Hb.mk fun hb=>?_) (Hb.mk fun hb=>?_)))
 aa (refine Gg ?_;first | refine WL.pass rfl rfl rfl ?_ | refine Ld ?_)
 aa (refine Gg ?_;refine Go ?_;refine Gs [(1,_),(24,_)] ?_;first | refine aJ 1 2 ?_ TT.mk | (refine aJ 1 2 (Hb.mk fun hb=>?_) (Hb.mk fun hb=>?_)))
 aa try (
 refine ay 1 ?_
 aa (refine G2 ?_;refine Gt ?_)
 aa (
  first
   | (refine ⟨congrArg Value.bool (decide_eq_false fun z=>?_).symm,?_⟩
      · obtain ⟨⟨z1,z2,z3,z4⟩,z5,z6,z7,z8⟩:=z
        dsimp only at z1 z2 z3 z4 z5 z6 z7 z8
        first | omega | (rw [Jx] at z5;cases z5)
      · first | exact iI | exact Lf)
   | (refine ⟨congrArg Value.bool (decide_eq_decide.2 ⟨fun z=>⟨⟨?_,?_,?_,?_⟩,Jx,?_,?_,?_⟩,fun z=>?_⟩),iI⟩
      aa first | (obtain ⟨⟨z1,z2,z3,z4⟩,z5,z6,z7,z8⟩:=z;dsimp only at z1 z2 z3 z4 z6 z7 z8;omega) | (show _≤_;(try dsimp only);omega)))
 skip)
 aa (refine ay 2 ?_)
 refine WC.skip ?_;refine Gn ?_;refine G3 ?_;refine WL.ld rfl (by first | exact ab aT rfl | assumption) rfl rfl rfl ?_
 refine WL.call (vs:=[_,_]) rfl Tryz.call46 rfl (wX lp (fun c=>decide (300 < c.bytes.length)) Tryz.call47 (fs:=[]) (us:=[]) (Qx.av Lf) S1 (fun x hx h' AW=>S0 x (rX x hx))) rfl rfl rfl ?_
 rintro _ g2 ⟨rfl,aK⟩
 have bR:=aK.obj aT aQ
 have iI:=Lf.trans aK
 cases Jx:lp.any fun c=>decide (300 < c.bytes.length)
 aa (refine Gn ?_;refine aJ 3 4 ?_ TT.mk)
 aa try (
 refine ay 3 ?_
 refine G2 ?_;refine Gs [(2,_)] ?_;refine Gt ?_
 first
  | (refine ⟨congrArg Value.bool (decide_eq_false fun z=>?_).symm,?_⟩
     · obtain ⟨⟨z1,z2,z3,z4⟩,z5,z6,z7,z8⟩:=z
       dsimp only at z1 z2 z3 z4 z5 z6 z7 z8
       first | omega | (rw [Jx] at z5;cases z5)
     · first | exact iI | exact Lf)
  | (refine ⟨congrArg Value.bool (decide_eq_decide.2 ⟨fun z=>⟨⟨?_,?_,?_,?_⟩,Jx,?_,?_,?_⟩,fun z=>?_⟩),iI⟩
     aa first | (obtain ⟨⟨z1,z2,z3,z4⟩,z5,z6,z7,z8⟩:=z;dsimp only at z1 z2 z3 z4 z6 z7 z8;omega) | (show _≤_;(try dsimp only);omega))
 skip)
 aa (refine ay 4 ?_)
 refine WC.skip ?_;refine Gn ?_;refine Gs [(1,_)] ?_;refine G2 ?_;refine WL.ld rfl (by first | exact ab bR rfl | assumption) rfl rfl rfl (Go ?_)
 refine bU 32 (Hb.mk fun hb=>?_) (Hb.mk fun hb=>?_)
 aa (refine Gg ?_;first | refine WL.pass rfl rfl rfl ?_ | (refine WL.ld rfl (by first | exact ab bR rfl | assumption) rfl rfl rfl ?_))
 aa (refine Gg ?_;refine Go ?_;first | refine bU 38 ?_ TT.mk | (refine bU 38 (Hb.mk fun hb=>?_) (Hb.mk fun hb=>?_)))
 aa (refine Gg ?_;first | refine WL.pass rfl rfl rfl ?_ | (refine WL.ld rfl (by first | exact ab bR rfl | assumption) rfl rfl rfl ?_))
 aa (refine Gg ?_;refine Go ?_;refine Gs [(2,_)] ?_;refine Gt ?_)
 aa (
  first
   | (refine ⟨congrArg Value.bool (decide_eq_false fun z=>?_).symm,?_⟩
      · obtain ⟨⟨z1,z2,z3,z4⟩,z5,z6,z7,z8⟩:=z
        dsimp only at z1 z2 z3 z4 z5 z6 z7 z8
        first | omega | (rw [Jx] at z5;cases z5)
      · first | exact iI | exact Lf)
   | (refine ⟨congrArg Value.bool (decide_eq_decide.2 ⟨fun z=>⟨⟨?_,?_,?_,?_⟩,Jx,?_,?_,?_⟩,fun z=>?_⟩),iI⟩
      aa first | (obtain ⟨⟨z1,z2,z3,z4⟩,z5,z6,z7,z8⟩:=z;dsimp only at z1 z2 z3 z4 z6 z7 z8;omega) | (show _≤_;(try dsimp only);omega)))
theorem OQ {h h0:aj} (f:Fm) (hf:f.ok h0) (x:Ext No h0 h):ai Tryz.prog 21 ⟨[.agg ⟨f.cells⟩]⟩ h fun u h'=>u=.bool (!oC f)∧Ext No h h':=by
 have kp:=fun h' (y:Ext No h h')=>rK f ((hf.av x).av y)
 obtain ⟨⟨e1,_⟩,⟨e2,_⟩,⟨e3,_⟩,e4,_⟩:=hf
 obtain ⟨fk,w,n,p,t,vo,o,vf,fs,vs,rs,vp,ps,mx⟩:=f
 dsimp only at e1 e2 e3 e4
 obtain ⟨_,_,rfl,_⟩:=e1
 obtain ⟨_,_,rfl,_⟩:=e2
 obtain ⟨_,_,rfl,_⟩:=e3
 obtain ⟨_,_,rfl,_⟩:=e4
 dsimp only [Fm.cells] at kp ⊢
 refine calls [(0,_)] Tryz.func21 rfl Tryz.ntmps21 rfl ⟨rfl,trivial⟩ ?_
 refine WC.sr ?_;refine WL.al (aI rfl) rfl rfl rfl ?_
 rintro _ h1 ⟨b1,rfl,b0,aT,aB⟩
 refine Go ?_;refine WC.sr ?_;refine WL.step (aA Tryz.isAgg42 Tryz.sizeOf42 rfl rfl (by exact At.ax aT)) rfl rfl rfl ?_
 refine WL.call (vs:=[_]) rfl Tryz.call22 rfl (kp _ aB) rfl rfl rfl ?_
 rintro _ h2 ⟨rfl,aK⟩
 refine Go ?_;refine Gs [(2,_)] ?_;refine Gt ?_
 exact ⟨rfl,aB.trans aK⟩
theorem rM {h:aj} {v:Value} (l:List Fm) (p:Fm→Bool) {fk:Nat} {fs us:List Value} (jc:∀ (args:Array Value) (w:World),(callFunc fk args).run Tryz.prog w=.ok (.enter fk args) w) (hr:Rd h v 10 l.length (l.flatMap Fm.cells)) (hm:l.length≤maxLen)
   (hp:∀ x∈l,∀ h',Ext No h h'→ai Tryz.prog fk ⟨fs++[.agg ⟨Fm.cells x⟩]++us⟩ h' fun u gg=>u=.bool (p x)∧Ext No h' gg) :
   ai Tryz.prog 45 ⟨[v,.func (.func fk) ⟨fs⟩ ⟨us⟩]⟩ h fun u h'=>u=In (j6 p l)∧Ext No h h':=by
 obtain ⟨A,c,rfl,_⟩:=id hr
 unfold maxLen at hm
 refine calls [(0,_),(1,_)] Tryz.func45 rfl Tryz.ntmps45 rfl ⟨rfl,rfl,trivial⟩ ?_
 refine G2 ?_;refine G3 ?_;refine WC.block ?_;refine WC.bO (X:=Nat) (fun x=>([(8,In (x:Int))]:Fr)) [(0,_),(1,_),(7,_)] (fun k h'=>Ext No h h'∧k≤l.length∧∀ x∈l.take k,p x=false) (fun k=>l.length - k) (0) ⟨rfl,rfl,rfl,rfl,trivial⟩ (by exact ⟨.refl _ _,Nat.zero_le _,by simp⟩) ?_
 rintro k h1 ⟨aB,hk,hn⟩
 refine WC.sub [(8,_),(0,_),(1,_),(7,_)] ⟨rfl,rfl,rfl,rfl,trivial⟩ ?_;refine G2 ?_;refine WC.seq ?_
 refine aJ 1 2 (Hb.mk fun hb=>?_) (Hb.mk fun hb=>?_)
 aa try (
 refine ay 1 ?_
 refine WC.skip ?_
 skip)
 aa try (
 refine ay 2 ?_
 refine WC.exit ?_
 repeat' (ae first | refine aZ ?_ | refine aF rfl ?_ | refine aL ?_ | refine aN ?_ | refine aV ?_)
 refine Br.out (i:=1000) ?_
 skip)
 aa (refine Gn ?_;first | refine Br.ad ?_ | refine WC.seq ?_)
 aa (first | refine Br.ad ?_ | refine WC.block ?_)
 aa (first | refine Br.ad ?_ | refine WC.sr ?_)
 aa (refine Go ?_;first | refine Br.ad ?_ | refine WC.sr ?_)
 aa (first | refine Br.ad ?_ | refine WL.step (an rfl) rfl rfl rfl ?_)
 aa (first | refine Br.ad ?_ | refine WL.step (an rfl) rfl rfl rfl ?_)
 aa (
  first
    | (refine Br.ad ?_)
    | (obtain ⟨b,o,hA,gx,cX⟩:=Rd.at_ (hr.av aB) (by omega)
       obtain ⟨y,hy⟩:∃ y,l[k]?=some y:=⟨_,List.getElem?_eq_getElem (by omega)⟩
       have hc:At h1 b (o+k * 10) (Fm.cells y):=At.elem Fm.len cX hy))
 aa (first | refine Br.ad ?_ | refine WL.step (an rfl) rfl rfl rfl ?_)
 aa (first | refine Br.ad ?_ | (refine WL.step (aG Tryz.underlying22 Tryz.sizeOf42 rfl rfl rfl (by omega) (by first | rfl | assumption)) rfl rfl rfl ?_))
 aa (first | refine Br.ad ?_ | (refine WL.step (aA Tryz.isAgg42 Tryz.sizeOf42 rfl rfl (by assumption)) rfl rfl rfl ?_))
 aa (
  first
    | (refine Br.ad ?_)
    | (refine WL.fT (vs:=[_]) rfl rfl jc rfl (hp y (List.mem_of_getElem? hy) h1 aB) rfl rfl rfl ?_
       rintro _ h2 ⟨rfl,aK⟩))
 aa (first | refine Br.ad ?_ | cases lO:p y)
 aa (refine Gn ?_;first | refine Br.ad ?_ | refine Gs [(0,_),(1,_),(5,_),(7,_),(8,_),(16,_)] ?_)
 aa (first | refine Br.ad ?_ | refine aJ 3 4 ?_ TT.mk)
 aa try (
 refine ay 3 ?_
 refine G2 ?_;refine Gs [(4,_)] ?_;refine Gt ?_
 first | exact ⟨by rw [dx (by rw [List.take_of_length_le (by omega)] at hn;exact hn)],aB⟩ | exact ⟨by rw [dw hy lO hn],aB.trans aK⟩
 skip)
 aa try (
 refine ay 4 ?_
 refine WC.skip ?_
 skip)
 aa (refine Gn ?_;first | refine Br.ad ?_ | refine WC.region ?_)
 aa (refine Go ?_;first | refine Br.ad ?_ | (exact ⟨k+1,⟨rfl,rfl,rfl,rfl,trivial⟩,(by exact ⟨aB.trans aK,by omega,dy hn hy lO⟩),(by omega)⟩))
 try (refine Br.mk (i:=1000) ?_)
 refine Gn ?_;refine Gs [] ?_;refine G2 ?_;refine Gt ?_
 first | exact ⟨by rw [dx (by rw [List.take_of_length_le (by omega)] at hn;exact hn)],aB⟩ | exact ⟨by rw [dw hy lO hn],aB.trans aK⟩
theorem Iu {h:aj} {v:Value} (l:List Fm) (p:Fm→Bool) {fk:Nat} {fs us:List Value} (jc:∀ (args:Array Value) (w:World),(callFunc fk args).run Tryz.prog w=.ok (.enter fk args) w) (hr:Rd h v 10 l.length (l.flatMap Fm.cells)) (hm:l.length≤maxLen)
   (hp:∀ x∈l,∀ h',Ext No h h'→ai Tryz.prog fk ⟨fs++[.agg ⟨Fm.cells x⟩]++us⟩ h' fun u gg=>u=.bool (p x)∧Ext No h' gg) :
   ai Tryz.prog 20 ⟨[v,.func (.func fk) ⟨fs⟩ ⟨us⟩]⟩ h fun u h'=>u=.bool (l.any p)∧Ext No h h':=by
 refine calls [(0,_),(1,_)] Tryz.func20 rfl Tryz.ntmps20 rfl ⟨rfl,rfl,trivial⟩ ?_
 refine G2 ?_;refine G2 ?_;refine WL.call (vs:=[_,_]) rfl Tryz.call45 rfl (rM l p jc hr hm hp) rfl rfl rfl ?_
 rintro _ h1 ⟨rfl,aB⟩
 refine WL.step (dH rfl rfl) rfl rfl rfl (Go ?_);refine Gs [(4,_)] ?_;refine Gt ?_
 exact ⟨by rw [ey],aB⟩
theorem rN {h:aj} {v:Value} (L:List Fm) (k:Ho h v L) (many:Int):ai Tryz.prog 6 ⟨[v,In many]⟩ h fun u h'=>(∃ x,u=.bool x∧(x=true→(L.length:Int)≤many∧∀ f∈L,f.xA))∧Ext No h h':=by
 obtain ⟨hr,hl,ok⟩:=k
 have kh:=Iu L (fun f => !oC f) Tryz.call21 (fs:=[]) (us:=[]) hr hl (fun x hx h' AW=>OQ x (ok x hx) AW)
 obtain ⟨A,c,rfl,_⟩:=id hr
 unfold maxLen at hl
 refine calls [(0,_),(1,_)] Tryz.func6 rfl Tryz.ntmps6 rfl ⟨rfl,rfl,trivial⟩ ?_
 refine G2 ?_;refine G2 ?_
 refine bU 9 (Hb.mk fun hb=>?_) (Hb.mk fun hb=>?_)
 aa (refine Gg ?_)
 aa (
  first
    | (refine WL.pass rfl rfl rfl ?_)
    | (refine WL.call (vs:=[_,_]) rfl Tryz.call20 rfl (kh) rfl rfl rfl ?_
       rintro _ h2 ⟨rfl,aK⟩))
 aa (refine Gg ?_;refine Go ?_;refine Gs [(4,_)] ?_;refine Gt ?_)
 aa (
  first
   | (refine ⟨⟨_,rfl,fun z=>?_⟩,aK⟩
      refine ⟨by omega,fun f hf=>wb ?_⟩
      have z2:(L.any fun f => !oC f)=false:=by simpa using z
      simpa using List.any_eq_false.1 z2 f hf)
   | exact ⟨⟨false,rfl,fun z=>by cases z⟩,.refl _ _⟩)
theorem Iv {n:Int} (h : -32768≤n∧n≤65535):Rt n 2:=by
 unfold Rt
 rw [show (256:Int) ^ 2=65536 from rfl]
 omega
theorem xB {n:Int} (h : -2147483648≤n∧n≤4294967295):Rt n 4:=by
 unfold Rt
 rw [show (256:Int) ^ 4=4294967296 from rfl]
 omega
theorem EW:Sz 2:=.inr (.inl rfl)
theorem EX:Sz 4:=.inr (.inr rfl)
theorem qi {α:Type} {f:α→List UInt8} {n:Nat} (l:List α) (h:∀ x∈l,(f x).length≤n):(l.flatMap f).length≤l.length * n:=by
 induction l with
 | nil=>simp
 | cons a l ih =>
   have h1:=ih (fun x hx=>h x (by simp [hx]))
   have h2:=h a (by simp)
   simp only [List.flatMap_cons,List.length_append,List.length_cons,Nat.add_mul,Nat.one_mul]
   omega
theorem oD {α:Type} {f:α→List UInt8} {n:Nat} (l:List α) (k:Nat) (h:∀ x∈l,(f x).length≤n):((l.take k).flatMap f).length≤l.length * n :=
 Nat.le_trans (qi _ fun x hx=>h x (List.mem_of_mem_take hx)) (Nat.mul_le_mul_right n (by rw [List.length_take];omega))
theorem kB {α:Type} {f:α→List UInt8} {l:List α} {k:Nat} {y:α} (hy:l[k]?=some y):(l.take (k+1)).flatMap f=(l.take k).flatMap f++f y:=by
 rw [List.take_add_one,hy,List.flatMap_append]
 simp
def cM (c:bj):List UInt8:=if c.null then be 4294967295 4 else be c.bytes.length 4++c.bytes
theorem ua {c:bj} (h:c.bytes.length≤1000):(cM c).length≤1100:=by unfold cM;split <;> simp [bA] <;> omega
def wc (h:aj) (v:Value) (h':aj) (v':Value):Prop:=Ext (fun q=>v.ownBlock=some q) h h'∧∀ q,v'.ownBlock=some q→v.ownBlock=some q∨h.size≤q
theorem wc.fresh {g h h':aj} {v v':Value} (a:wc h v h' v') (x:Ext No g h) (f:∀ q,v.ownBlock=some q→g.size≤q):Ext No g h'∧∀ q,v'.ownBlock=some q→g.size≤q :=
 ⟨x.trans' a.1 (fun q hq e=>by have:=f q e;omega),fun q e=>(a.2 q e).elim (f q) (fun z=>by have:=x.size;omega)⟩
theorem CC {h:aj} {v:Value} (l s:List UInt8) (hv:Own h v 5 1 l.length (bK l)) (hl:l.length+s.length≤1000000000) :
   ai Tryz.prog 65 ⟨[v,St s]⟩ h fun u h'=>Own h' u 5 1 (l++s++[0]).length (bK (l++s++[0]))∧wc h v h' u:=by
 obtain ⟨A0,c0,rfl,_⟩:=id hv.slice
 refine calls [(0,_),(1,_)] Tryz.func65 rfl Tryz.ntmps65 rfl ⟨rfl,rfl,trivial⟩ ?_
 refine G2 ?_;refine G2 ?_;refine WL.al (gw rfl Tryz.underlying23 Tryz.underlying9 (show Tryz.prog.info? 5=some Tryz.t5 by kernel_rfl) rfl rfl rfl rfl rfl hv (by omega)) rfl rfl rfl ?_
 rintro v1 h1 ⟨kE,aB,I9,_⟩
 refine WL.al (aw (vs:=[_]) (cs:=[_]) (fun | [a0]=>[a0] | _=>[]) Tryz.underlying23 rfl rfl (by kernel_rfl)) rfl rfl rfl ?_
 rintro _ h2 ⟨b2,rfl,gI,bR,aK⟩
 refine WL.al (aX (sz:=1) (bytes:=1) rfl Tryz.underlying23 (show Tryz.prog.info? 5=some Tryz.t5 by kernel_rfl) rfl rfl rfl rfl (by decide) rfl rfl (kE.ext aK (fun _ _=>aQ)) (bG bR rfl) (by simp [Value.oneCell']) (by simp only [maxLen];omega) (by omega)) rfl rfl rfl ?_
 rintro v3 h3 ⟨ee,aS,x8⟩
 refine Go ?_;refine Gs [(4,_)] ?_;refine Gt ?_
 have iO:∀ q,v1.ownBlock=some q→(Value.slice A0 l.length c0).ownBlock=some q∨h.size≤q:=I9
 have s1:=aB.size
 have s2:=aK.size
 refine ⟨?_,(aB.trans (aK.mono fun _ _ e=>e.elim)).trans' aS (fun q hq e=>(iO q e).elim id (fun z=>by omega)),fun q hq=>x8.elim (fun e=>iO q (e▸hq)) (fun e=>.inr (by rw [e] at hq;cases hq;omega))⟩
 rw [show (l++s++[(0:UInt8)]).length=l.length+s.length+1 by simp [Nat.add_assoc],show bK (l++s++[0])=bK l++bK s++[Value.int .u8 0] by simp only [bK,List.map_append,List.map_cons,List.map_nil];rfl]
 exact ee
theorem EY {h:aj} {v w:Value} (l:List UInt8) (L:List Int) (hv:Rd h v 1 l.length (bK l)) (hw:Rd h w 1 L.length (ints L)) (hl:l.length≤1000000) (hm:L.length≤100) {s:Nat} (hs:Sz s) (h4:s≤4) (hn:∀ n∈L,Rt n s) :
   ai Tryz.prog 64 ⟨[v,w,In s]⟩ h fun u h'=>Own h' u 5 1 (l++be L.length 2++L.flatMap fun n=>be n s).length (bK (l++be L.length 2++L.flatMap fun n=>be n s))∧Ext No h h'∧∀ q,u.ownBlock=some q→h.size≤q:=by
 obtain ⟨A0,c0,rfl,_⟩:=id hv
 obtain ⟨A,c,rfl,_⟩:=id hw
 have oU:∀ j,((L.take j).flatMap fun n=>be n s).length≤1000:=fun j=>Nat.le_trans (oD (n:=s) L j fun x hx=>by rw [bA];exact Nat.le_refl _) (Nat.le_trans (Nat.mul_le_mul hm h4) (by decide))
 refine calls [(0,_),(1,_),(2,_)] Tryz.func64 rfl Tryz.ntmps64 rfl ⟨rfl,rfl,rfl,trivial⟩ ?_
 refine G2 ?_;refine G2 ?_;refine WL.call (vs:=[_,_,_]) rfl Tryz.call62 rfl (kY l (L.length:Int) 2 EW (Iv (by omega)) hv (by omega)) rfl rfl rfl ?_
 rintro v1 h1 ⟨kE,aB,iO⟩
 refine Go ?_;refine Gs [(0,_),(1,_),(2,_)] ?_;refine G3 ?_;refine WC.block ?_;refine WC.bO (X:=Nat × Value) (fun x=>([(7,In (x.1:Int)),(0,x.2)]:Fr)) [(1,_),(2,_)] (fun y h'=>y.1≤L.length∧Own h' y.2 5 1 (l++be (L.length:Int) 2++(L.take y.1).flatMap fun n=>be n s).length (bK (l++be (L.length:Int) 2++(L.take y.1).flatMap fun n=>be n s))∧Ext No h h'∧∀ q,y.2.ownBlock=some q→h.size≤q) (fun y=>L.length - y.1) ((0,v1)) ⟨rfl,rfl,rfl,rfl,trivial⟩ (by exact ⟨Nat.zero_le _,by simpa using kE,aB,iO⟩) ?_
 rintro ⟨k,u⟩ h2 ⟨hk,dv,aK,fg⟩
 dsimp only at hk dv fg
 refine WC.sub [(0,_),(7,_),(1,_),(2,_)] ⟨rfl,rfl,rfl,rfl,trivial⟩ ?_
 dsimp only
 refine G3 ?_
 refine aJ 1 2 (Hb.mk fun hb=>?_) (Hb.mk fun hb=>?_)
 aa try (
 refine ay 1 ?_
 refine WC.skip ?_
 skip)
 aa try (
 refine ay 2 ?_
 refine WC.exit ?_
 repeat' (ae first | refine aZ ?_ | refine aF rfl ?_ | refine aL ?_ | refine aN ?_ | refine aV ?_)
 refine Br.out (i:=1000) ?_
 skip)
 aa (refine Gn ?_;first | refine Br.ad ?_ | refine Gs [(0,_),(1,_),(2,_),(7,_)] ?_)
 aa (first | refine Br.ad ?_ | refine WC.seq ?_)
 aa (first | refine Br.ad ?_ | refine WC.block ?_)
 aa (first | refine Br.ad ?_ | refine WC.region ?_)
 aa (
  first
    | (refine Br.ad ?_)
    | (obtain ⟨bL,oL,hA,gx,cX⟩:=Rd.at_ (hw.av aK) (by omega)
       obtain ⟨yy,hy⟩:∃ y,L[k]?=some y:=⟨_,List.getElem?_eq_getElem (by omega)⟩
       have qZ:=hn _ (List.mem_of_getElem? hy)
       have r8:cell h2 ⟨bL,oL+k * 1,none⟩=some (In yy):=cX.get k (iq hy) (by omega)
       have P7:=oU k))
 aa (first | refine Br.ad ?_ | refine WL.step (an rfl) rfl rfl rfl ?_)
 aa (refine Go ?_;first | refine Br.ad ?_ | (refine WL.step (aG Tryz.underlying39 Tryz.sizeOf3 rfl rfl rfl (by omega) (by first | rfl | assumption)) rfl rfl rfl ?_))
 aa (first | refine Br.ad ?_ | (refine WL.ld rfl (by first | exact r8 | assumption) rfl rfl rfl ?_))
 aa (refine Go ?_)
 aa (
  first
    | (refine Br.ad ?_)
    | (refine WL.call (vs:=[_,_,_]) rfl Tryz.call62 rfl (kY _ yy s hs qZ dv.rd (by simp only [List.length_append,bA];omega)) rfl rfl rfl ?_
       rintro v3 h3 ⟨ee,aS,im⟩))
 aa (refine Go ?_;first | refine Br.ad ?_ | refine Gs [(0,_),(1,_),(2,_),(7,_)] ?_)
 aa (first | refine Br.ad ?_ | refine WC.region ?_)
 aa (refine Go ?_;first | refine Br.ad ?_ | (exact ⟨(k+1,_),⟨rfl,rfl,rfl,rfl,trivial⟩,(by exact ⟨by omega,by rw [kB hy,← List.append_assoc];exact ee,aK.trans aS,fun q e=>(by have:=im q e;have:=aK.size;omega)⟩),(by simp;omega)⟩))
 try (refine Br.mk (i:=1000) ?_)
 refine Gn ?_;refine Gs [(0,_)] ?_;refine G2 ?_;refine Gt ?_
 rw [List.take_of_length_le (by omega)] at dv
 exact ⟨dv,aK,fg⟩
theorem CD:be (-1) 4=be 4294967295 4:=by
 have h:∀ i,i < 4→bI (-1+256 ^ 4) i=bI (-1) i:=fun i hi=>Ak hi
 exact (jt (m := -1+256 ^ 4) (n := -1) h (by decide) 4).symm
theorem Iw {h:aj} {v vr:Value} (l:List UInt8) (R:List bj) (hv:Rd h v 1 l.length (bK l)) (hR:cN h vr R) (hl:l.length≤1000000) (hm:R.length≤100) (hc:∀ c∈R,c.bytes.length≤1000) :
   ai Tryz.prog 66 ⟨[v,vr]⟩ h fun u h'=>Own h' u 5 1 (l++be R.length 2++R.flatMap cM).length (bK (l++be R.length 2++R.flatMap cM))∧Ext No h h'∧∀ q,u.ownBlock=some q→h.size≤q:=by
 obtain ⟨A0,c0,rfl,_⟩:=id hv
 obtain ⟨hr,⟨_,A,cc,rfl,_⟩,dJ⟩:=hR
 have oU:∀ k,((R.take k).flatMap cM).length≤110000:=fun k=>Nat.le_trans (oD R k fun x hx=>ua (hc x hx)) (by omega)
 refine calls [(0,_),(1,_)] Tryz.func66 rfl Tryz.ntmps66 rfl ⟨rfl,rfl,trivial⟩ ?_
 refine G2 ?_;refine G2 ?_;refine WL.call (vs:=[_,_,_]) rfl Tryz.call62 rfl (kY l (R.length:Int) 2 EW (Iv (by omega)) hv (by omega)) rfl rfl rfl ?_
 rintro v1 h1 ⟨kE,aB,iO⟩
 refine Go ?_;refine Gs [(0,_),(1,_)] ?_;refine G3 ?_;refine WC.block ?_;refine WC.bO (X:=Nat × Value) (fun x=>([(5,In (x.1:Int)),(0,x.2)]:Fr)) [(1,_)] (fun y h'=>y.1≤R.length∧Own h' y.2 5 1 (l++be (R.length:Int) 2++(R.take y.1).flatMap cM).length (bK (l++be (R.length:Int) 2++(R.take y.1).flatMap cM))∧Ext No h h'∧∀ q,y.2.ownBlock=some q→h.size≤q) (fun y=>R.length - y.1) ((0,v1)) ⟨rfl,rfl,rfl,trivial⟩ (by exact ⟨Nat.zero_le _,by simpa using kE,aB,iO⟩) ?_
 rintro ⟨k,u⟩ h2 ⟨hk,dv,aK,fg⟩
 dsimp only at hk dv fg
 refine WC.sub [(0,_),(5,_),(1,_)] ⟨rfl,rfl,rfl,trivial⟩ ?_
 dsimp only
 refine G3 ?_
 refine aJ 1 2 (Hb.mk fun hb=>?_) (Hb.mk fun hb=>?_)
 aa try (
 refine ay 1 ?_
 refine WC.skip ?_
 skip)
 aa try (
 refine ay 2 ?_
 refine WC.exit ?_
 repeat' (ae first | refine aZ ?_ | refine aF rfl ?_ | refine aL ?_ | refine aN ?_ | refine aV ?_)
 refine Br.out (i:=1000) ?_
 skip)
 aa (refine Gn ?_;first | refine Br.ad ?_ | refine Gs [(0,_),(1,_),(5,_)] ?_)
 aa (first | refine Br.ad ?_ | refine WC.seq ?_)
 aa (first | refine Br.ad ?_ | refine WC.block ?_)
 aa (first | refine Br.ad ?_ | refine WC.sr ?_)
 aa (
  first
    | (refine Br.ad ?_)
    | (obtain ⟨bL,oL,hA,gx,cX⟩:=Rd.at_ (hr.av aK) (by omega)
       obtain ⟨⟨yn,yv,yb⟩,hy⟩:∃ y,R[k]?=some y:=⟨_,List.getElem?_eq_getElem (by omega)⟩
       have qZ:=(dJ _ (List.mem_of_getElem? hy)).1
       have Kx:=hc _ (List.mem_of_getElem? hy)
       dsimp only at qZ Kx
       obtain ⟨yA,yc,rfl,_⟩:=id qZ
       have r8:At h2 bL (oL+k * 2) [.bool yn,.slice yA yb.length yc]:=At.elem bj.len cX hy
       have jI:=oU k
       have lL:(l++be (R.length:Int) 2++(R.take k).flatMap cM).length≤2000000:=by simp only [List.length_append,bA];omega
       have S2:=aK.size
       have Dd:(l++be (R.length:Int) 2++(R.take k).flatMap cM++be (yb.length:Int) 4).length≤3000000:=by rw [List.length_append,bA];omega
       cases yn))
 aa (first | refine Br.ad ?_ | refine WL.step (an rfl) rfl rfl rfl ?_)
 aa (refine Go ?_;first | refine Br.ad ?_ | (refine WL.step (aG Tryz.underlying40 Tryz.sizeOf85 rfl rfl rfl (by omega) (by first | rfl | assumption)) rfl rfl rfl ?_))
 aa (refine Go ?_;first | refine Br.ad ?_ | (refine WL.ld rfl (by first | exact r8.get 0 rfl rfl | assumption) rfl rfl rfl ?_))
 aa (refine Gn ?_;first | refine Br.ad ?_ | refine Gs [(0,_),(1,_),(5,_),(20,_)] ?_)
 aa (first | refine Br.ad ?_ | refine aJ 3 4 ?_ TT.mk)
 aa try (
 refine ay 3 ?_
 refine WC.region (Go ?_);refine WL.call (vs:=[_,_,_]) rfl Tryz.call62 rfl (kY _ (-1) 4 EX (xB (by omega)) dv.rd (by omega)) rfl rfl rfl ?_
 rintro v5 h5 ⟨eX,aO,gj⟩
 have oV:=aK.trans aO
 have Qy:∀ q,v5.ownBlock=some q→h.size≤q:=fun q e=>by have:=gj q e;omega
 have Qz:Own h5 v5 5 1 (l++be (R.length:Int) 2++(R.take (k+1)).flatMap cM).length (bK (l++be (R.length:Int) 2++(R.take (k+1)).flatMap cM)):=by rw [kB hy,show cM ⟨true,.slice yA yb.length yc,yb⟩=be 4294967295 4 from rfl,← CD,← List.append_assoc];exact eX
 refine Go ?_
 skip)
 aa try (
 refine ay 4 ?_
 refine WC.cg (fun h'=>Ext No h2 h') 14 15 rfl dB ?_
 refine WH.tk 0 rfl (fun hq hC=>an rfl) rfl rfl rfl ?_
 refine WH.tk 1 rfl (fun hq hC=>an rfl) rfl rfl rfl ?_
 refine WH.tk 2 rfl (fun hq hC=>an rfl) rfl rfl rfl ?_
 refine WH.tk 3 rfl (fun hq hC=>aG Tryz.underlying40 Tryz.sizeOf85 rfl rfl rfl (by omega) (by first | rfl | assumption)) rfl rfl rfl ?_
 refine WH.tk 4 rfl (fun hq hC=>ag rfl Tryz.underlying85 rfl Tryz.sizeOf23) rfl rfl rfl ?_
 refine WH.tk 5 rfl (fun hq hC=>aC Tryz.isAgg23 rfl (by first | exact hC.cell (by first | exact r8.get 1 rfl rfl | assumption) aQ)) rfl rfl rfl ?_
 refine WH.tk 6 rfl (fun hq hC=>cB rfl Tryz.underlying23 rfl) rfl rfl rfl ?_
 refine WH.tk 8 rfl (fun hq hC=>an rfl) rfl rfl rfl ?_
 refine WH.tk 9 rfl (fun hq hC=>an rfl) rfl rfl rfl ?_
 refine WH.tk 10 rfl (fun hq hC=>aG Tryz.underlying40 Tryz.sizeOf85 rfl rfl rfl (by omega) (by first | rfl | assumption)) rfl rfl rfl ?_
 refine WH.tk 11 rfl (fun hq hC=>ag rfl Tryz.underlying85 rfl Tryz.sizeOf23) rfl rfl rfl ?_
 refine WH.tk 12 rfl (fun hq hC=>aC Tryz.isAgg23 rfl (by first | exact hC.cell (by first | exact r8.get 1 rfl rfl | assumption) aQ)) rfl rfl rfl ?_
 refine WH.one 7 (by kernel_rfl) ?_
 refine aE.call (vs:=[_,_,_]) rfl rfl Tryz.call62 rfl (kY _ (yb.length:Int) 4 EX (xB (by omega)) dv.rd (by omega)) rfl rfl rfl ?_ (fun _=>by kernel_rfl)
 rintro v4 h4 ⟨gk,bh,tD⟩
 refine ⟨fun _=>bh,?_⟩
 refine WH.one 13 (by kernel_rfl) ?_
 refine aE.run rfl (aX (sz:=1) (bytes:=1) rfl Tryz.underlying23 (show Tryz.prog.info? 5=some Tryz.t5 by kernel_rfl) rfl rfl rfl rfl (by decide) rfl rfl gk ((qZ.av aK).av bh) (by intro c hc;obtain ⟨b,_,rfl⟩:=List.mem_map.1 hc;rfl) (by simp only [maxLen];omega) (by omega)) rfl rfl rfl ?_ (fun _=>by kernel_rfl)
 rintro v5 h5 ⟨eX,aO,Dd⟩
 refine ⟨fun _=>bh.trans' aO (fun q hq e=>by have:=tD q e;omega),?_⟩
 have FU:Ext No h2 h5:=bh.trans' aO (fun q hq e=>by have:=tD q e;omega)
 have oV:=aK.trans FU
 have Qy:∀ q,v5.ownBlock=some q→h.size≤q:=fun q e=>Dd.elim (fun z=>by have:=tD q (z▸e);omega) (fun z=>by rw [z] at e;cases e;have:=bh.size;omega)
 have Qz:Own h5 v5 5 1 (l++be (R.length:Int) 2++(R.take (k+1)).flatMap cM).length (bK (l++be (R.length:Int) 2++(R.take (k+1)).flatMap cM)):=by rw [kB hy,show cM ⟨false,.slice yA yb.length yc,yb⟩=be yb.length 4++yb from rfl,← List.append_assoc,← List.append_assoc,List.length_append (bs:=yb),show ∀ m:List UInt8,bK (m++yb)=bK m++bK yb from fun m=>List.map_append ..];exact eX
 refine WH.one 14 (by kernel_rfl) ?_
 refine aE.run rfl (bW.r (aR rfl)) rfl rfl rfl ?_ (fun _=>by kernel_rfl)
 rintro _ hz ⟨rfl,_⟩
 subst hz
 refine ⟨fun _=>bh.trans' aO (fun q hq e=>by have:=tD q e;omega),?_⟩
 refine WH.done (by kernel_rfl) ?_
 skip)
 aa (refine Gn ?_;first | refine Br.ad ?_ | refine WC.region ?_)
 aa (refine Go ?_;first | refine Br.ad ?_ | (exact ⟨(k+1,_),⟨rfl,rfl,rfl,trivial⟩,(by exact ⟨by omega,Qz,oV,Qy⟩),(by simp;omega)⟩))
 try (refine Br.mk (i:=1000) ?_)
 refine Gn ?_;refine Gs [(0,_)] ?_;refine G2 ?_;refine Gt ?_
 rw [List.take_of_length_le (by omega)] at dv
 exact ⟨dv,aK,fg⟩
def K6 (k : Int) : Prop := k = 66 ∨ k = 67 ∨ k = 68 ∨ k = 69 ∨ k = 72 ∨ k = 80 ∨ k = 81 ∨ k = 83 ∨ k = 88
theorem EZ {h : aj} (k : Int) : ai Tryz.prog 107 ⟨[.int .u8 k]⟩ h fun u h' => (∃ x, u = In x ∧ (x = 1 ↔ K6 k)) ∧ h' = h := by
 unfold K6
 refine calls [(0, _)] Tryz.func107 rfl Tryz.ntmps107 rfl ⟨rfl, trivial⟩ ?_
 refine G2 ?_; refine G3 ?_; refine WC.block ?_; refine G3 ?_
 refine aJ 1 2 (Hb.mk fun hb => ?_) (Hb.mk fun hb => ?_)
 aa try (
 refine ay 1 ?_
 refine WC.skip ?_
 skip)
 aa try (
 refine ay 2 ?_
 refine G2 ?_; refine Gs [(3, _), (4, _)] ?_
 refine aJ 3 4 (Hb.mk fun hb => ?_) (Hb.mk fun hb => ?_)
 aa try (
 refine ay 3 ?_
 refine WC.skip ?_
 skip)
 aa try (
 refine ay 4 ?_
 refine G2 ?_
 refine aJ 5 6 (Hb.mk fun hb => ?_) (Hb.mk fun hb => ?_)
 aa try (
 refine ay 5 ?_
 refine WC.skip ?_
 skip)
 aa try (
 refine ay 6 ?_
 refine G2 ?_
 refine aJ 7 8 (Hb.mk fun hb => ?_) (Hb.mk fun hb => ?_)
 aa try (
 refine ay 7 ?_
 refine WC.skip ?_
 skip)
 aa try (
 refine ay 8 ?_
 refine G2 ?_
 refine aJ 9 10 (Hb.mk fun hb => ?_) (Hb.mk fun hb => ?_)
 aa try (
 refine ay 9 ?_
 refine WC.skip ?_
 skip)
 aa try (
 refine ay 10 ?_
 refine G2 ?_; refine Gs [(3, _), (4, _)] ?_
 refine aJ 11 12 (Hb.mk fun hb => ?_) (Hb.mk fun hb => ?_)
 aa try (
 refine ay 11 ?_
 refine WC.skip ?_
 skip)
 aa try (
 refine ay 12 ?_
 refine G2 ?_
 refine aJ 13 14 (Hb.mk fun hb => ?_) (Hb.mk fun hb => ?_)
 aa try (
 refine ay 13 ?_
 refine WC.skip ?_
 skip)
 aa try (
 refine ay 14 ?_
 refine G2 ?_
 refine aJ 15 16 (Hb.mk fun hb => ?_) (Hb.mk fun hb => ?_)
 aa try (
 refine ay 15 ?_
 refine WC.skip ?_
 skip)
 aa try (
 refine ay 16 ?_
 refine WC.region (Go ?_)
 skip)
 skip)
 skip)
 skip)
 skip)
 skip)
 skip)
 skip)
 aa (refine Gn ?_; refine aJ 17 18 (Hb.mk fun hb => ?_) (Hb.mk fun hb => ?_))
 aa try (
 refine ay 17 ?_
 aa (refine G2 ?_; refine Gt ?_; exact ⟨⟨_, rfl, by omega⟩, rfl⟩)
 skip)
 aa (refine ay 18 ?_; refine G3 ?_; first | refine aJ 19 20 ?_ TT.mk | (refine aJ 19 20 (Hb.mk fun hb => ?_) (Hb.mk fun hb => ?_)))
 aa try (
 refine ay 19 ?_
 aa (refine WC.skip ?_)
 skip)
 aa try (
 refine ay 20 ?_
 refine G2 ?_
 refine aJ 21 22 (Hb.mk fun hb => ?_) (Hb.mk fun hb => ?_)
 aa try (
 refine ay 21 ?_
 refine WC.skip ?_
 skip)
 aa try (
 refine ay 22 ?_
 refine G2 ?_; refine Gs [(3, _), (14, _)] ?_
 refine aJ 23 24 (Hb.mk fun hb => ?_) (Hb.mk fun hb => ?_)
 aa try (
 refine ay 23 ?_
 refine WC.skip ?_
 skip)
 aa try (
 refine ay 24 ?_
 refine G2 ?_
 refine aJ 25 26 (Hb.mk fun hb => ?_) (Hb.mk fun hb => ?_)
 aa try (
 refine ay 25 ?_
 refine WC.skip ?_
 skip)
 aa try (
 refine ay 26 ?_
 refine WC.region (Go ?_)
 skip)
 skip)
 skip)
 skip)
 aa (refine Gn ?_; first | refine aJ 27 28 ?_ TT.mk | (refine aJ 27 28 (Hb.mk fun hb => ?_) (Hb.mk fun hb => ?_)))
 aa try (
 refine ay 27 ?_
 aa (refine G2 ?_; refine Gt ?_; exact ⟨⟨_, rfl, by omega⟩, rfl⟩)
 skip)
 aa (refine ay 28 ?_; refine WC.skip ?_; refine Gn ?_; refine G2 ?_; refine Gt ?_; exact ⟨⟨_, rfl, by omega⟩, rfl⟩)
def zF (k : Int) : Fm := ⟨k, 0, [], [], [], .slice none 0 0, [], .slice none 0 0, [], .slice none 0 0, [], .slice none 0 0, [], 0⟩
def dN (f : Fm) : Fm :=
 if f.kind = 80 then { zF f.kind with name := f.name, text := f.text, vo := f.vo, aU := f.aU }
 else if f.kind = 66 then { zF f.kind with bm := f.bm, name := f.name, vf := f.vf, bX := f.bX, vs := f.vs, results := f.results, vp := f.vp, params := f.params }
 else if f.kind = 67 ∨ f.kind = 68 then (if f.what = 83 then { zF f.kind with what := f.what, name := f.name } else { zF f.kind with what := f.what, bm := f.bm })
 else if f.kind = 69 then { zF f.kind with bm := f.bm, max := f.max }
 else if f.kind = 81 then { zF f.kind with text := f.text }
 else zF f.kind
theorem ub {h : aj} {f : Fm} (k : f.ok h) : (dN f).ok h := by
 obtain ⟨k1, k2, k3, k4⟩ := k
 have z : ∀ x, (zF x).ok h := fun x => ⟨⟨Rd.nil _ _, by simp [zF]⟩, ⟨Rd.nil _ _, by simp [zF]⟩, ⟨Rd.nil _ _, by simp [zF]⟩, gy _⟩
 obtain ⟨z1, z2, z3, z4⟩ := z f.kind
 unfold dN
 repeat' split
 · exact ⟨k1, z2, z3, z4⟩
 · exact ⟨z1, k2, k3, k4⟩
 · exact ⟨z1, z2, z3, z4⟩
 · exact ⟨z1, z2, z3, z4⟩
 · exact ⟨z1, z2, z3, z4⟩
 · exact ⟨z1, z2, z3, z4⟩
 · exact ⟨z1, z2, z3, z4⟩
theorem Ix {h : aj} (f : Fm) (hf : f.ok h) : ai Tryz.prog 111 ⟨[.agg ⟨f.cells⟩]⟩ h fun u h' => u = .agg ⟨(dN f).cells⟩ ∧ Ext No h h' := by
 obtain ⟨⟨e1, _⟩, ⟨e2, _⟩, ⟨e3, _⟩, e4, _⟩ := hf
 obtain ⟨fk, w, n, p, t, vo, o, vf, fs, vs, rs, vp, ps, mx⟩ := f
 dsimp only at e1 e2 e3 e4
 obtain ⟨_, _, rfl, _⟩ := e1
 obtain ⟨_, _, rfl, _⟩ := e2
 obtain ⟨_, _, rfl, _⟩ := e3
 obtain ⟨_, _, rfl, _⟩ := e4
 dsimp only [Fm.cells]
 refine calls [(0, _)] Tryz.func111 rfl Tryz.ntmps111 rfl ⟨rfl, trivial⟩ ?_
 refine WC.sr ?_; refine WL.al (aI rfl) rfl rfl rfl ?_
 rintro _ h1 ⟨b1, rfl, b0, aT, aB⟩
 refine WL.al (au (fun w => Tryz.zeroValue42 w)) rfl rfl rfl ?_
 rintro _ h2 ⟨b2, rfl, gI, bR, aK⟩
 have sR := aK.obj aT aQ
 refine Gn ?_; refine G2 ?_; refine Ld ?_; refine WL.step (aH (vs := [_]) (cs := [_, _, _, _, _, _, _, _, _, _]) (fun | [a0] => [a0, (.int .u8 0), (St []), (St []), (St []), (.slice none 0 0), (.slice none 0 0), (.slice none 0 0), (.slice none 0 0), (.int .i64 0)] | _ => []) rfl rfl (by kernel_rfl)) rfl rfl rfl ?_
 refine WL.al (au (fun w => Tryz.zeroValue42 w)) rfl rfl rfl ?_
 rintro _ h3 ⟨b3, rfl, gN, bC, aS⟩
 have An := aS.obj sR aQ
 have Aq := aS.obj bR aQ
 have gS : ¬ b1 = b3 := by have := ak sR; omega
 have lP : ¬ b2 = b3 := by have := ak bR; omega
 refine WL.az (aq Tryz.sizeOf42 rfl rfl rfl (by assumption) rfl (by simp [Value.oneCell'])) rfl rfl ?_
 rintro _ h4 ⟨bN, bh⟩
 have eP := bh.obj An gS
 have fo := bh.obj Aq lP
 have pI : Ext No h h4 := ((aB.trans aK).trans aS).trans' bh (fun q hq e => by have := aB.size; have := aK.size; omega)
 refine Gn ?_; refine Gs [(1, _), (2, _), (3, _)] ?_; refine G3 ?_; refine Ld ?_; refine Gn ?_; refine WC.block ?_; refine G2 ?_
 refine aJ 1 2 (Hb.mk fun hb => ?_) (Hb.mk fun hb => ?_)
 aa try (
 refine ay 1 ?_
 refine WC.cg (fun h' => Ext (fun q => q = b3) h4 h') 11 12 rfl dB ?_
 refine WH.tk 0 rfl (fun hq hC => ag rfl Tryz.underlying42 rfl Tryz.sizeOf9) rfl rfl rfl ?_ (hC := (by first | exact Ext.refl _ _ | assumption | exact aO.trans aP | exact (aO.trans aP).trans bu))
 refine WH.tk 1 rfl (fun hq hC => aC Tryz.isAgg9 rfl (by first | exact hC.cell (by first | exact ab eP rfl | assumption) gS)) rfl rfl rfl ?_ (hC := (by first | exact Ext.refl _ _ | assumption | exact aO.trans aP | exact (aO.trans aP).trans bu))
 refine WH.tk 2 rfl (fun hq hC => ag rfl Tryz.underlying42 rfl Tryz.sizeOf9) rfl rfl rfl ?_ (hC := (by first | exact Ext.refl _ _ | assumption | exact aO.trans aP | exact (aO.trans aP).trans bu))
 refine WH.tk 3 rfl (fun hq hC => aC Tryz.isAgg9 rfl (by first | exact hC.cell (by first | exact ab eP rfl | assumption) gS)) rfl rfl rfl ?_ (hC := (by first | exact Ext.refl _ _ | assumption | exact aO.trans aP | exact (aO.trans aP).trans bu))
 refine WH.tk 4 rfl (fun hq hC => ag rfl Tryz.underlying42 rfl Tryz.sizeOf39) rfl rfl rfl ?_ (hC := (by first | exact Ext.refl _ _ | assumption | exact aO.trans aP | exact (aO.trans aP).trans bu))
 refine WH.tk 5 rfl (fun hq hC => aC Tryz.isAgg39 rfl (by first | exact hC.cell (by first | exact ab eP rfl | assumption) gS)) rfl rfl rfl ?_ (hC := (by first | exact Ext.refl _ _ | assumption | exact aO.trans aP | exact (aO.trans aP).trans bu))
 refine WH.tk 6 rfl (fun hq hC => ag rfl Tryz.underlying42 rfl Tryz.sizeOf9) rfl rfl rfl ?_ (hC := (by first | exact Ext.refl _ _ | assumption | exact aO.trans aP | exact (aO.trans aP).trans bu))
 refine WH.one 7 (by kernel_rfl) ?_
 refine aE.cY rfl (aD Tryz.sizeOf9 rfl rfl (by assumption) (Nat.le_of_ble_eq_true rfl) rfl rfl) rfl rfl ?_ (fun _ => by kernel_rfl)
 rintro _ h5 ⟨cd, aO⟩
 refine ⟨fun _ => aO, ?_⟩
 refine WH.tk 8 rfl (fun hq hC => ag rfl Tryz.underlying42 rfl Tryz.sizeOf9) rfl rfl rfl ?_ (hC := (by first | exact Ext.refl _ _ | assumption | exact aO.trans aP | exact (aO.trans aP).trans bu))
 refine WH.one 9 (by kernel_rfl) ?_
 refine aE.cY rfl (aD Tryz.sizeOf9 rfl rfl (by assumption) (Nat.le_of_ble_eq_true rfl) rfl rfl) rfl rfl ?_ (fun _ => by kernel_rfl)
 rintro _ h6 ⟨cj, aP⟩
 refine ⟨fun _ => aO.trans aP, ?_⟩
 refine WH.tk 10 rfl (fun hq hC => ag rfl Tryz.underlying42 rfl Tryz.sizeOf39) rfl rfl rfl ?_ (hC := (by first | exact Ext.refl _ _ | assumption | exact aO.trans aP | exact (aO.trans aP).trans bu))
 refine WH.one 11 (by kernel_rfl) ?_
 refine aE.cY rfl (aD Tryz.sizeOf39 rfl rfl (by assumption) (Nat.le_of_ble_eq_true rfl) rfl rfl) rfl rfl ?_ (fun _ => by kernel_rfl)
 rintro _ h7 ⟨cq, bu⟩
 refine ⟨fun _ => (aO.trans aP).trans bu, ?_⟩
 have hE := (aO.trans aP).trans bu
 have fE := hE.obj fo lP
 have gx := cq
 refine WH.done (by kernel_rfl) ?_
 skip)
 aa try (
 refine ay 2 ?_
 refine G2 ?_; refine Gs [(1, _), (2, _), (3, _), (8, _), (20, _)] ?_
 refine aJ 3 4 (Hb.mk fun hb => ?_) (Hb.mk fun hb => ?_)
 aa try (
 refine ay 3 ?_
 refine WC.cg (fun h' => Ext (fun q => q = b3) h4 h') 19 20 rfl dB ?_
 refine WH.tk 0 rfl (fun hq hC => ag rfl Tryz.underlying42 rfl Tryz.sizeOf9) rfl rfl rfl ?_ (hC := (by first | exact Ext.refl _ _ | assumption | exact aO.trans aP | exact (aO.trans aP).trans bu | exact ((aO.trans aP).trans bu).trans bH | exact (((aO.trans aP).trans bu).trans bH).trans cl))
 refine WH.tk 1 rfl (fun hq hC => aC Tryz.isAgg9 rfl (by first | exact hC.cell (by first | exact ab eP rfl | assumption) gS)) rfl rfl rfl ?_ (hC := (by first | exact Ext.refl _ _ | assumption | exact aO.trans aP | exact (aO.trans aP).trans bu | exact ((aO.trans aP).trans bu).trans bH | exact (((aO.trans aP).trans bu).trans bH).trans cl))
 refine WH.tk 2 rfl (fun hq hC => ag rfl Tryz.underlying42 rfl Tryz.sizeOf9) rfl rfl rfl ?_ (hC := (by first | exact Ext.refl _ _ | assumption | exact aO.trans aP | exact (aO.trans aP).trans bu | exact ((aO.trans aP).trans bu).trans bH | exact (((aO.trans aP).trans bu).trans bH).trans cl))
 refine WH.tk 3 rfl (fun hq hC => aC Tryz.isAgg9 rfl (by first | exact hC.cell (by first | exact ab eP rfl | assumption) gS)) rfl rfl rfl ?_ (hC := (by first | exact Ext.refl _ _ | assumption | exact aO.trans aP | exact (aO.trans aP).trans bu | exact ((aO.trans aP).trans bu).trans bH | exact (((aO.trans aP).trans bu).trans bH).trans cl))
 refine WH.tk 4 rfl (fun hq hC => ag rfl Tryz.underlying42 rfl Tryz.sizeOf39) rfl rfl rfl ?_ (hC := (by first | exact Ext.refl _ _ | assumption | exact aO.trans aP | exact (aO.trans aP).trans bu | exact ((aO.trans aP).trans bu).trans bH | exact (((aO.trans aP).trans bu).trans bH).trans cl))
 refine WH.tk 5 rfl (fun hq hC => aC Tryz.isAgg39 rfl (by first | exact hC.cell (by first | exact ab eP rfl | assumption) gS)) rfl rfl rfl ?_ (hC := (by first | exact Ext.refl _ _ | assumption | exact aO.trans aP | exact (aO.trans aP).trans bu | exact ((aO.trans aP).trans bu).trans bH | exact (((aO.trans aP).trans bu).trans bH).trans cl))
 refine WH.tk 6 rfl (fun hq hC => ag rfl Tryz.underlying42 rfl Tryz.sizeOf40) rfl rfl rfl ?_ (hC := (by first | exact Ext.refl _ _ | assumption | exact aO.trans aP | exact (aO.trans aP).trans bu | exact ((aO.trans aP).trans bu).trans bH | exact (((aO.trans aP).trans bu).trans bH).trans cl))
 refine WH.tk 7 rfl (fun hq hC => aC Tryz.isAgg40 rfl (by first | exact hC.cell (by first | exact ab eP rfl | assumption) gS)) rfl rfl rfl ?_ (hC := (by first | exact Ext.refl _ _ | assumption | exact aO.trans aP | exact (aO.trans aP).trans bu | exact ((aO.trans aP).trans bu).trans bH | exact (((aO.trans aP).trans bu).trans bH).trans cl))
 refine WH.tk 8 rfl (fun hq hC => ag rfl Tryz.underlying42 rfl Tryz.sizeOf39) rfl rfl rfl ?_ (hC := (by first | exact Ext.refl _ _ | assumption | exact aO.trans aP | exact (aO.trans aP).trans bu | exact ((aO.trans aP).trans bu).trans bH | exact (((aO.trans aP).trans bu).trans bH).trans cl))
 refine WH.tk 9 rfl (fun hq hC => aC Tryz.isAgg39 rfl (by first | exact hC.cell (by first | exact ab eP rfl | assumption) gS)) rfl rfl rfl ?_ (hC := (by first | exact Ext.refl _ _ | assumption | exact aO.trans aP | exact (aO.trans aP).trans bu | exact ((aO.trans aP).trans bu).trans bH | exact (((aO.trans aP).trans bu).trans bH).trans cl))
 refine WH.tk 10 rfl (fun hq hC => ag rfl Tryz.underlying42 rfl Tryz.sizeOf9) rfl rfl rfl ?_ (hC := (by first | exact Ext.refl _ _ | assumption | exact aO.trans aP | exact (aO.trans aP).trans bu | exact ((aO.trans aP).trans bu).trans bH | exact (((aO.trans aP).trans bu).trans bH).trans cl))
 refine WH.one 11 (by kernel_rfl) ?_
 refine aE.cY rfl (aD Tryz.sizeOf9 rfl rfl (by assumption) (Nat.le_of_ble_eq_true rfl) rfl rfl) rfl rfl ?_ (fun _ => by kernel_rfl)
 rintro _ h5 ⟨cd, aO⟩
 refine ⟨fun _ => aO, ?_⟩
 refine WH.tk 12 rfl (fun hq hC => ag rfl Tryz.underlying42 rfl Tryz.sizeOf9) rfl rfl rfl ?_ (hC := (by first | exact Ext.refl _ _ | assumption | exact aO.trans aP | exact (aO.trans aP).trans bu | exact ((aO.trans aP).trans bu).trans bH | exact (((aO.trans aP).trans bu).trans bH).trans cl))
 refine WH.one 13 (by kernel_rfl) ?_
 refine aE.cY rfl (aD Tryz.sizeOf9 rfl rfl (by assumption) (Nat.le_of_ble_eq_true rfl) rfl rfl) rfl rfl ?_ (fun _ => by kernel_rfl)
 rintro _ h6 ⟨cj, aP⟩
 refine ⟨fun _ => aO.trans aP, ?_⟩
 refine WH.tk 14 rfl (fun hq hC => ag rfl Tryz.underlying42 rfl Tryz.sizeOf39) rfl rfl rfl ?_ (hC := (by first | exact Ext.refl _ _ | assumption | exact aO.trans aP | exact (aO.trans aP).trans bu | exact ((aO.trans aP).trans bu).trans bH | exact (((aO.trans aP).trans bu).trans bH).trans cl))
 refine WH.one 15 (by kernel_rfl) ?_
 refine aE.cY rfl (aD Tryz.sizeOf39 rfl rfl (by assumption) (Nat.le_of_ble_eq_true rfl) rfl rfl) rfl rfl ?_ (fun _ => by kernel_rfl)
 rintro _ h7 ⟨cq, bu⟩
 refine ⟨fun _ => (aO.trans aP).trans bu, ?_⟩
 refine WH.tk 16 rfl (fun hq hC => ag rfl Tryz.underlying42 rfl Tryz.sizeOf40) rfl rfl rfl ?_ (hC := (by first | exact Ext.refl _ _ | assumption | exact aO.trans aP | exact (aO.trans aP).trans bu | exact ((aO.trans aP).trans bu).trans bH | exact (((aO.trans aP).trans bu).trans bH).trans cl))
 refine WH.one 17 (by kernel_rfl) ?_
 refine aE.cY rfl (aD Tryz.sizeOf40 rfl rfl (by assumption) (Nat.le_of_ble_eq_true rfl) rfl rfl) rfl rfl ?_ (fun _ => by kernel_rfl)
 rintro _ h8 ⟨bP, bH⟩
 refine ⟨fun _ => ((aO.trans aP).trans bu).trans bH, ?_⟩
 refine WH.tk 18 rfl (fun hq hC => ag rfl Tryz.underlying42 rfl Tryz.sizeOf39) rfl rfl rfl ?_ (hC := (by first | exact Ext.refl _ _ | assumption | exact aO.trans aP | exact (aO.trans aP).trans bu | exact ((aO.trans aP).trans bu).trans bH | exact (((aO.trans aP).trans bu).trans bH).trans cl))
 refine WH.one 19 (by kernel_rfl) ?_
 refine aE.cY rfl (aD Tryz.sizeOf39 rfl rfl (by assumption) (Nat.le_of_ble_eq_true rfl) rfl rfl) rfl rfl ?_ (fun _ => by kernel_rfl)
 rintro _ h9 ⟨ck, cl⟩
 refine ⟨fun _ => (((aO.trans aP).trans bu).trans bH).trans cl, ?_⟩
 have hE := (((aO.trans aP).trans bu).trans bH).trans cl
 have fE := hE.obj fo lP
 have gx := ck
 refine WH.done (by kernel_rfl) ?_
 skip)
 aa try (
 refine ay 4 ?_
 refine G3 ?_
 refine aJ 5 6 (Hb.mk fun hb => ?_) (Hb.mk fun hb => ?_)
 aa try (
 refine ay 5 ?_
 refine WC.skip ?_
 skip)
 aa try (
 refine ay 6 ?_
 refine WC.region (Go ?_)
 skip)
 aa (refine Gn ?_; refine aJ 7 8 (Hb.mk fun hb => ?_) (Hb.mk fun hb => ?_))
 aa try (
 refine ay 7 ?_
 aa (refine G2 ?_; refine Ld ?_; refine Go ?_; refine WL.az (aD Tryz.sizeOf5 rfl rfl (by assumption) (Nat.le_of_ble_eq_true rfl) rfl rfl) rfl rfl ?_; rintro _ h5 ⟨cd, aO⟩; have we := aO.obj eP gS; refine Gn ?_; refine Gs [(1, _), (2, _), (3, _)] ?_; refine G2 ?_; refine WL.ld rfl (by first | exact ab we rfl | assumption) rfl rfl rfl (Go ?_); refine aJ 9 10 (Hb.mk fun hb => ?_) (Hb.mk fun hb => ?_))
 aa try (
 refine ay 9 ?_
 aa (refine WC.region (Go ?_); refine WL.ld rfl (by first | exact ab we rfl | assumption) rfl rfl rfl (Go ?_); refine WL.az (aD Tryz.sizeOf9 rfl rfl (by assumption) (Nat.le_of_ble_eq_true rfl) rfl rfl) rfl rfl ?_; rintro _ h6 ⟨cj, aP⟩; have hE := aO.trans aP; have fE := hE.obj fo lP; have gx := cj; refine Gn ?_)
 skip)
 aa try (
 refine ay 10 ?_
 aa (refine WC.region (Go ?_); refine WL.ld rfl (by first | exact ab we rfl | assumption) rfl rfl rfl (Go ?_); refine WL.az (aD Tryz.sizeOf9 rfl rfl (by assumption) (Nat.le_of_ble_eq_true rfl) rfl rfl) rfl rfl ?_; rintro _ h6 ⟨cj, aP⟩; have hE := aO.trans aP; have fE := hE.obj fo lP; have gx := cj; refine Gn ?_)
 skip)
 skip)
 aa try (
 refine ay 8 ?_
 aa (refine G2 ?_; refine Gs [(1, _), (2, _), (3, _), (8, _), (52, _)] ?_; first | refine aJ 11 12 ?_ TT.mk | (refine aJ 11 12 (Hb.mk fun hb => ?_) (Hb.mk fun hb => ?_)))
 aa try (
 refine ay 11 ?_
 aa (refine WC.cg (fun h' => Ext (fun q => q = b3) h4 h') 7 8 rfl dB ?_; refine WH.tk 0 rfl (fun hq hC => ag rfl Tryz.underlying42 rfl Tryz.sizeOf9) rfl rfl rfl ?_ (hC := (by first | exact Ext.refl _ _ | assumption | exact aO.trans aP)); refine WH.tk 1 rfl (fun hq hC => aC Tryz.isAgg9 rfl (by first | exact hC.cell (by first | exact ab eP rfl | assumption) gS)) rfl rfl rfl ?_ (hC := (by first | exact Ext.refl _ _ | assumption | exact aO.trans aP)); refine WH.tk 2 rfl (fun hq hC => ag rfl Tryz.underlying42 rfl Tryz.sizeOf3) rfl rfl rfl ?_ (hC := (by first | exact Ext.refl _ _ | assumption | exact aO.trans aP)); refine WH.tk 3 rfl (fun hq hC => aC Tryz.isAgg3 rfl (by first | exact hC.cell (by first | exact ab eP rfl | assumption) gS)) rfl rfl rfl ?_ (hC := (by first | exact Ext.refl _ _ | assumption | exact aO.trans aP)); refine WH.tk 4 rfl (fun hq hC => ag rfl Tryz.underlying42 rfl Tryz.sizeOf9) rfl rfl rfl ?_ (hC := (by first | exact Ext.refl _ _ | assumption | exact aO.trans aP)); refine WH.one 5 (by kernel_rfl) ?_; refine aE.cY rfl (aD Tryz.sizeOf9 rfl rfl (by assumption) (Nat.le_of_ble_eq_true rfl) rfl rfl) rfl rfl ?_ (fun _ => by kernel_rfl); rintro _ h5 ⟨cd, aO⟩; refine ⟨fun _ => aO, ?_⟩; refine WH.tk 6 rfl (fun hq hC => ag rfl Tryz.underlying42 rfl Tryz.sizeOf3) rfl rfl rfl ?_ (hC := (by first | exact Ext.refl _ _ | assumption | exact aO.trans aP)); refine WH.one 7 (by kernel_rfl) ?_; refine aE.cY rfl (aD Tryz.sizeOf3 rfl rfl (by assumption) (Nat.le_of_ble_eq_true rfl) rfl rfl) rfl rfl ?_ (fun _ => by kernel_rfl); rintro _ h6 ⟨cj, aP⟩; refine ⟨fun _ => aO.trans aP, ?_⟩; have hE := aO.trans aP; have fE := hE.obj fo lP; have gx := cj; refine WH.done (by kernel_rfl) ?_)
 skip)
 aa try (
 refine ay 12 ?_
 refine G2 ?_
 refine aJ 13 14 (Hb.mk fun hb => ?_) (Hb.mk fun hb => ?_)
 aa try (
 refine ay 13 ?_
 refine WC.region (Go ?_); refine Ld ?_; refine Go ?_; refine WL.az (aD Tryz.sizeOf9 rfl rfl (by assumption) (Nat.le_of_ble_eq_true rfl) rfl rfl) rfl rfl ?_
 rintro _ h5 ⟨cd, hE⟩
 have fE := hE.obj fo lP
 have gx := cd
 refine Gn ?_
 skip)
 aa try (
 refine ay 14 ?_
 refine WC.skip ?_
 skip)
 skip)
 skip)
 skip)
 skip)
 aa (refine Gn ?_; refine WC.sr ?_; refine WL.step (aA Tryz.isAgg42 Tryz.sizeOf42 rfl rfl (by exact (by first | exact At.ax gx | exact At.ax bN))) rfl rfl rfl ?_; refine WL.az (aq Tryz.sizeOf42 rfl rfl rfl (by first | exact fE | exact fo) rfl (by simp [Value.oneCell'])) rfl rfl ?_; rintro _ h9 ⟨ck, cl⟩; refine Gn ?_; refine WC.ret ?_; repeat' (ae first | refine bq ?_ | refine ba ?_))
 aa (refine cA _ ⟨⟨_, rfl, bJ Tryz.isAgg42 Tryz.sizeOf42 (by assumption) rfl⟩, trivial⟩ ?_)
 aa (
  have gr := aB.size
  have qC := aK.size
  refine ⟨?_, by first | exact (pI.trans' hE (fun q hq e => by omega)).trans' cl (fun q hq e => by omega) | exact pI.trans' cl (fun q hq e => by omega)⟩
  first
   | (exfalso; omega)
   | (simp only [dN, if_pos, *]; rfl)
   | (simp [dN, zF, Fm.cells, *]; done))
theorem E0 {h : aj} (a b : Fm) (ha : a.ok h) (hb : b.ok h) :
   ai Tryz.prog 110 ⟨[.agg ⟨a.cells⟩, .agg ⟨b.cells⟩]⟩ h fun u h' => (∃ x, u = .bool x ∧ (x = true ↔ a.pl = b.pl)) ∧ Ext No h h' := by
 obtain ⟨k1, w1, n1, p1, t1, PN, o1, PO, f1, QA, r1, S3, c1, m1⟩ := a
 obtain ⟨k2, w2, n2, p2, t2, PQ, o2, PR, f2, S4, r2, Jq, c2, m2⟩ := b
 obtain ⟨⟨ao, lo⟩, ⟨af, lf⟩, ⟨Iy, ls⟩, ap⟩ := ha
 obtain ⟨⟨bo, ko⟩, ⟨bf, kf⟩, ⟨Iz, ks⟩, bp⟩ := hb
 simp only at ao af Iy ap bo bf Iz bp lo lf ls ko kf ks
 obtain ⟨Ao, co, rfl, _⟩ := id ao
 obtain ⟨Bo, PV, rfl, _⟩ := id bo
 obtain ⟨Af, cf, rfl, _⟩ := id af
 obtain ⟨Bf, df, rfl, _⟩ := id bf
 obtain ⟨As, cs, rfl, _⟩ := id Iy
 obtain ⟨Bs, ds, rfl, _⟩ := id Iz
 obtain ⟨_, ⟨_, Ap, cp, rfl, _⟩, _⟩ := id ap
 obtain ⟨_, ⟨_, Bp, dp, rfl, _⟩, _⟩ := id bp
 dsimp only [Fm.cells, Fm.pl]
 have NB : (k1 = k2 ∧ w1 = w2 ∧ n1 = n2 ∧ p1 = p2 ∧ t1 = t2 ∧ m1 = m2) ∨ k1 ≠ k2 ∨ (k1 = k2 ∧ w1 ≠ w2) ∨ (k1 = k2 ∧ w1 = w2 ∧ n1 ≠ n2) ∨ (k1 = k2 ∧ w1 = w2 ∧ n1 = n2 ∧ p1 ≠ p2) ∨ (k1 = k2 ∧ w1 = w2 ∧ n1 = n2 ∧ p1 = p2 ∧ t1 ≠ t2) ∨ (k1 = k2 ∧ w1 = w2 ∧ n1 = n2 ∧ p1 = p2 ∧ t1 = t2 ∧ m1 ≠ m2) := by
   by_cases e1 : k1 = k2
   · by_cases e2 : w1 = w2
     · by_cases e3 : n1 = n2
       · by_cases e4 : p1 = p2
         · by_cases e5 : t1 = t2
           · by_cases e6 : m1 = m2
             · exact .inl ⟨e1, e2, e3, e4, e5, e6⟩
             · exact .inr (.inr (.inr (.inr (.inr (.inr ⟨e1, e2, e3, e4, e5, e6⟩)))))
           · exact .inr (.inr (.inr (.inr (.inr (.inl ⟨e1, e2, e3, e4, e5⟩)))))
         · exact .inr (.inr (.inr (.inr (.inl ⟨e1, e2, e3, e4⟩))))
       · exact .inr (.inr (.inr (.inl ⟨e1, e2, e3⟩)))
     · exact .inr (.inr (.inl ⟨e1, e2⟩))
   · exact .inr (.inl e1)
 rcases NB with ⟨rfl, rfl, rfl, rfl, rfl, rfl⟩ | q | ⟨rfl, q⟩ | ⟨rfl, rfl, q⟩ | ⟨rfl, rfl, rfl, q⟩ | ⟨rfl, rfl, rfl, rfl, q⟩ | ⟨rfl, rfl, rfl, rfl, rfl, q⟩
 aa
   refine calls [(0, _), (1, _)] Tryz.func110 rfl Tryz.ntmps110 rfl ⟨rfl, rfl, trivial⟩ ?_
   aa (refine WC.sr ?_; refine WL.al (aI rfl) rfl rfl rfl ?_; rintro _ h1 ⟨b1, rfl, b0, aT, aB⟩; refine WL.al (aI rfl) rfl rfl rfl ?_; rintro _ h2 ⟨b2, rfl, gI, bR, aK⟩; have sK := aK.obj aT aQ; have hx := aB.trans aK; refine Go ?_; refine G2 ?_; refine Ld ?_; refine Go ?_; refine Ld ?_; refine Go ?_; refine bU 11 ?_ TT.mk; refine Gg ?_; first | refine WL.pass rfl rfl rfl ?_ | refine Ld ?_)
   aa (refine Gg ?_; first | refine WL.pass rfl rfl rfl ?_ | refine Ld ?_)
   aa (refine Gg ?_; refine Go ?_; refine bU 18 ?_ TT.mk; refine Gg ?_; first | refine WL.pass rfl rfl rfl ?_ | refine Ld ?_)
   aa (refine Gg ?_; first | refine WL.pass rfl rfl rfl ?_ | refine Ld ?_)
   aa (refine Gg ?_; refine Go ?_; refine bU 25 ?_ TT.mk; refine Gg ?_; first | refine WL.pass rfl rfl rfl ?_ | refine Ld ?_)
   aa (refine Gg ?_; first | refine WL.pass rfl rfl rfl ?_ | refine Ld ?_)
   aa (refine Gg ?_; refine Go ?_; refine bU 32 ?_ TT.mk; refine Gg ?_; first | refine WL.pass rfl rfl rfl ?_ | refine Ld ?_)
   aa (refine Gg ?_; first | refine WL.pass rfl rfl rfl ?_ | refine Ld ?_)
   aa (refine Gg ?_; refine Go ?_; refine bU 39 ?_ TT.mk; refine Gg ?_; first | refine WL.pass rfl rfl rfl ?_ | refine Ld ?_)
   aa (refine Gg ?_; first | refine WL.pass rfl rfl rfl ?_ | refine Ld ?_)
   aa (refine Gg ?_; refine Go ?_; refine Gs [(2, _), (3, _), (5, _)] ?_; refine G2 ?_; refine bU 47 ?_ TT.mk; refine Gg ?_; first | refine WL.pass rfl rfl rfl ?_ | refine Ld ?_)
   aa (refine Gg ?_; first | refine WL.pass rfl rfl rfl ?_ | refine Ld ?_)
   aa (
    first
      | (refine WL.pass rfl rfl rfl ?_)
      | (refine WL.call (vs := [_, _]) rfl Tryz.call159 rfl ((nR o1 o2 (ao.av hx) (bo.av hx) lo ko).dec) rfl rfl rfl ?_
         rintro _ h9 ⟨⟨rfl, q1⟩ | ⟨rfl, q1⟩, mQ⟩
         aa subst h9))
   aa (refine Go ?_; refine bU 54 ?_ TT.mk; refine Gg ?_; first | refine WL.pass rfl rfl rfl ?_ | refine Ld ?_)
   aa (refine Gg ?_; first | refine WL.pass rfl rfl rfl ?_ | refine Ld ?_)
   aa (
    first
      | (refine WL.pass rfl rfl rfl ?_)
      | (refine WL.call (vs := [_, _]) rfl Tryz.call159 rfl ((nR f1 f2 (af.av hx) (bf.av hx) lf kf).dec) rfl rfl rfl ?_
         rintro _ h9 ⟨⟨rfl, q2⟩ | ⟨rfl, q2⟩, mQ⟩
         aa subst h9))
   aa (refine Go ?_; refine bU 61 ?_ TT.mk; refine Gg ?_; first | refine WL.pass rfl rfl rfl ?_ | refine Ld ?_)
   aa (refine Gg ?_; first | refine WL.pass rfl rfl rfl ?_ | refine Ld ?_)
   aa (
    first
      | (refine WL.pass rfl rfl rfl ?_)
      | (refine WL.call (vs := [_, _]) rfl Tryz.call159 rfl ((nR r1 r2 (Iy.av hx) (Iz.av hx) ls ks).dec) rfl rfl rfl ?_
         rintro _ h9 ⟨⟨rfl, q3⟩ | ⟨rfl, q3⟩, mQ⟩
         aa subst h9))
   aa (refine Go ?_; refine bU 68 ?_ TT.mk; refine Gg ?_; first | refine WL.pass rfl rfl rfl ?_ | refine Ld ?_)
   aa (refine Gg ?_; first | refine WL.pass rfl rfl rfl ?_ | refine Ld ?_)
   aa (
    first
      | (refine WL.pass rfl rfl rfl ?_)
      | (refine WL.call (vs := [_, _]) rfl Tryz.call160 rfl ((yd c1 c2 (ap.av hx) (bp.av hx)).dec) rfl rfl rfl ?_
         rintro _ h9 ⟨⟨rfl, q4⟩ | ⟨rfl, q4⟩, mQ⟩
         aa subst h9))
   aa (refine Go ?_; refine Gs [(4, _)] ?_; refine Gt ?_; refine ⟨⟨_, rfl, ?_⟩, hx⟩; first | exact ⟨fun _ => (by rw [q1, q2, q3, q4]), fun _ => rfl⟩ | exact ⟨fun z => (by cases z), fun z => by simp only [Prod.mk.injEq] at z; first | exact absurd z.2.2.2.2.2.1 q1 | exact absurd z.2.2.2.2.2.2.1 q2 | exact absurd z.2.2.2.2.2.2.2.1 q3 | exact absurd z.2.2.2.2.2.2.2.2.1 q4 | exact absurd z.1 q | exact absurd z.2.1 q | exact absurd z.2.2.1 q | exact absurd z.2.2.2.1 q | exact absurd z.2.2.2.2.1 q | exact absurd z.2.2.2.2.2.2.2.2.2 q⟩)
end Go.Proofs.YtopgddfgefnmbaaGreatDoor
