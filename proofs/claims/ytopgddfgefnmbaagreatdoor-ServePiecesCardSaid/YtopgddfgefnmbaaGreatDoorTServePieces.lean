/-
 ServePieces holds: in whatever pieces messages come, the same is said. No condition.
-/
import Derived.Test.YtopgddfgefnmbaaGreatDoorPServePieces7
import Derived.Test.YtopgddfgefnmbaaGreatDoorCards
import Derived.Test.YtopgddfgefnmbaaGreatDoorTie
import Derived.SevenTiedAt
set_option maxHeartbeats 8000000
set_option maxRecDepth 100000
namespace Go.Proofs.YtopgddfgefnmbaaGreatDoor
open Go Go.RK

theorem Df {h:ah} {vl vs:Value} (er:Er h) (L:List Fm) (hL:EF h vl L) (ss:List UInt8) (hs:Rd h vs 1 ss.length (bB ss)) (hsl:ss.length≤reachBytes) :
   ag Tryz.prog 3 ⟨[vl,vs]⟩ h fun u h'=>u=.bool true∧Ext No h h':=by
 have kpl:=fun h' (x:Ext No h h')=>qD L (hL.aq x) 20
 have NW:=hL
 obtain ⟨hrl,hll,okl⟩:=hL
 obtain ⟨A1,c1,rfl,_⟩:=id hrl
 obtain ⟨A2,c2,rfl,_⟩:=id hs
 unfold reachBytes at hsl
 refine calls [(0,_),(1,_)] Tryz.func3 rfl Tryz.ntmps3 rfl ⟨rfl,rfl,trivial⟩ ?_
 all_goals (refine G2 ?_;refine G3 ?_;refine WL.call (vs:=[_,_]) rfl Tryz.call6 rfl (kpl _ (.refl _ _)) rfl rfl rfl ?_;rintro _ g1 ⟨⟨x1,rfl,Dg⟩,az⟩;cases x1)
 all_goals (refine Go ?_;refine bK 9 ?_ ?_ <;> first | exact ⟨⟩ | refine Hb.mk fun hb=>?_ | skip)
 all_goals (refine Gg ?_;refine Go ?_;refine Gs [(0,_),(1,_),(13,_)] ?_;refine aH 1 2 ?_ ?_ <;> first | exact ⟨⟩ | refine Hb.mk fun hb=>?_ | skip)
 all_goals try (
 refine aw 1 ?_
 all_goals (refine WC.sr ?_;refine WL.call (vs:=[]) rfl Tryz.call7 rfl (nP) rfl rfl rfl ?_;rintro _ h4 ⟨rfl,aW⟩;refine Go ?_;refine Gs [(4,_)] ?_;refine Gt ?_;first | exact ⟨rfl,az.trans aW⟩ | exact ⟨rfl,X5.trans aN⟩ | exact ⟨by simp,((X5.trans aN).trans ba).trans bz⟩ | exact ⟨by simp at *,(X5.trans aN).trans ba⟩)
 skip)
 all_goals try (
 refine aw 2 ?_
 all_goals (refine WC.skip ?_)
 skip)
 all_goals (refine Gn ?_;refine WC.sr ?_;obtain ⟨hlL,Dg⟩:=Dg rfl;refine WL.call (vs:=[]) rfl Tryz.call8 rfl (oG) rfl rfl rfl ?_;rintro v3 h3 ⟨dN,aQ,gR⟩;refine Go ?_;refine WL.call (vs:=[_]) rfl Tryz.call9 rfl (CX L (NW.aq (az.trans aQ)) Dg (by omega)) rfl rfl rfl ?_;rintro v4 h4 ⟨ms,fr,B4⟩;have hml:=vW (fun m hm=>(fr.ok m hm).2.2);have NX:=fr.len)
 all_goals (
  refine WL.aj (aT (sz:=1) (bytes:=1) rfl Tryz.underlying23 (show Tryz.prog.info? 5=some Tryz.t5 by kernel_rfl) rfl rfl rfl rfl (by decide) rfl rfl (dN.ext B4.2.1 (fun _ _=>aO)) B4.1.rd (by intro v hv;obtain ⟨x,_,rfl⟩:=List.mem_map.1 hv;rfl) (by simp only [maxLen];omega) (by omega)) rfl rfl rfl ?_
  rintro v5 h5 ⟨eE,aM,Bb⟩
  have e5:bB di++bB (vV ms)=bB (dZ (sU L)):=by rw [← mq,fr.eq,sV]
  have e6:16+(vV ms).length=(dZ (sU L)).length:=by rw [fr.eq,sV];simp only [dZ,List.length_append,dO]
  rw [e5,e6] at eE
  have X5:Ext No h h5:=((az.trans aQ).trans B4.2.1).trans' aM (fun q hq e=>by have:=gR q e;have:=az.size;omega)
  obtain ⟨A5,c5,rfl,_⟩:=id eE.slice)
 all_goals (refine Go ?_;refine Gs [(1,_),(5,_)] ?_;refine G3 ?_;refine aH 3 4 ?_ ?_ <;> first | exact ⟨⟩ | refine Hb.mk fun hb=>?_ | skip)
 all_goals try (
 refine aw 3 ?_
 all_goals (refine WC.sr ?_;refine WL.call (vs:=[]) rfl Tryz.call7 rfl (nP) rfl rfl rfl ?_;rintro _ h6 ⟨rfl,aN⟩;refine Go ?_;refine Gs [(4,_)] ?_;refine Gt ?_;first | exact ⟨rfl,az.trans aW⟩ | exact ⟨rfl,X5.trans aN⟩ | exact ⟨by simp,((X5.trans aN).trans ba).trans bz⟩ | exact ⟨by simp at *,(X5.trans aN).trans ba⟩)
 skip)
 all_goals try (
 refine aw 4 ?_
 all_goals (refine WC.skip ?_)
 skip)
 all_goals (refine Gn ?_;refine WC.sr ?_;have gs:ta (sU L):=Gi hlL Dg (by omega);refine WL.step (ak rfl) rfl rfl rfl (Go ?_);refine WL.call (vs:=[_,_]) rfl Tryz.call10 rfl (D0 gs (er.aq X5) eE.rd (hs.aq X5) (by omega)) rfl rfl rfl ?_;rintro _ h6 ⟨rfl,aN⟩;refine Go ?_;refine WL.call (vs:=[_,_]) rfl Tryz.call10 rfl (D0 (ss:=[]) gs (er.aq (X5.trans aN)) (eE.rd.aq aN) (Rd.nil _ _) (by decide)) rfl rfl rfl ?_;rintro _ h7 ⟨rfl,ba⟩;refine Go ?_;refine bK 29 ?_ ?_ <;> first | exact ⟨⟩ | refine Hb.mk fun hb=>?_ | skip)
 all_goals (
  first
    | (refine WL.pass rfl rfl rfl ?_)
    | (refine WL.call (vs:=[]) rfl Tryz.call7 rfl (nP) rfl rfl rfl ?_
       rintro _ h8 ⟨rfl,bz⟩))
 all_goals (refine Go ?_;refine Gs [(4,_)] ?_;refine Gt ?_;first | exact ⟨rfl,az.trans aW⟩ | exact ⟨rfl,X5.trans aN⟩ | exact ⟨by simp,((X5.trans aN).trans ba).trans bz⟩ | exact ⟨by simp at *,(X5.trans aN).trans ba⟩)
namespace LServePieces
open Go.ChangeShapes Go.WideShapes Go.ChangeAt Go.RowKit
open Go.ChangeMaps (open_string shut_string)
theorem own:ownKnob Tryz.prog.godebug=none:=by kernel_rfl
theorem laidOut:laidOutB Tryz.prog=true:=by kernel_rfl
theorem lifted (os:Os) (started:os.Started) (H:Type) (enc:TypeId × Value→H) :
   ReturnsInHanded {} Tryz.checked os 3 .any (fun w args=>(Rows.servePiecesSpec.pre enc Tryz.prog Tryz.f3 [] false w args∧laidMetH Tryz.prog Rows.servePiecesRow.laid w)∧sizedMet enc Tryz.prog Tryz.f3 (OpenSpec.ofChange Rows.servePiecesSpec) false w args) (Rows.servePiecesSpec.post enc Tryz.prog Tryz.f3 false true false false):=by
 refine returnsInHanded_of_change_and (C:=Tryz.checked) (X:=fun w _=>laidMetH Tryz.prog Rows.servePiecesRow.laid w) (fun _ _ _ hh h=>h.of_heap hh) own started (by kernel_rfl) Tryz.func3
   (ChangeSpec.witness_at (enc:=enc) (C:=Tryz.checked) (os:=os) (X:=fun w _=>laidMetH Tryz.prog Rows.servePiecesRow.laid w) false (jf os) #[.slice none 0 0,.slice none 0 0] 8 (qM os) (by kernel_rfl) (by kernel_rfl) (by kernel_rfl) (by kernel_rfl) (by kernel_rfl) (oz os _)) ?_
 intro W base args ds gs before D1 hW hcnd IE hL _
 have hval:∀ (j:Nat) t v,Tryz.f3.params[j]?=some t→args[j]?=some v→Value.okWide Tryz.prog W .any base t v:=D1
 have hsz:=IE
 rw [Tryz.params3] at hsz
 clear IE
 have hW':=hW
 obtain ⟨p,q,LW,hV,rfl,hfz,hnd⟩:=hW
 have hA:DataW.TrodAll enc Tryz.prog W 0 (fun _=>true) true Tryz.f3.params.toList args.toList ds p:=LW
 rw [Tryz.params3] at hA hval
 obtain ⟨v0,O1,d0,O3,p0,q0,hargs,rfl,rfl,h0,r0⟩:=trodAll_cons hA
 obtain ⟨v1,LA,d1,O5,p1,q1,rfl,rfl,rfl,h1,r1⟩:=trodAll_cons r0
 obtain ⟨rfl,rfl,rfl⟩:=trodAll_nil r1
 obtain rfl:args=#[v0,v1]:=by cases args;simp_all
 obtain ⟨rfl,rfl⟩:=trodVars_none hV
 have xt:∀ n∈d0.weights Tryz.prog 22,n≤reachBytes:=fun n hn=>by simpa using List.all_eq_true.1 hsz n (DataW.weights_mem_each (j:=0) rfl rfl n hn)
 have k0:=h0
 have NY:∀ x∈p0,x.block < W.heap.size:=by obtain ⟨m,hm⟩:=k0;exact DataW.trod_lt m _ _ _ hm
 obtain ⟨A0,n0,c0,rfl⟩:=okWide_slice Tryz.underlying22 (hval 0 22 v0 rfl rfl)
 obtain ⟨O6,NZ⟩:=h0
 obtain ⟨⟨v0,l0⟩,e0,w0⟩:=xA W _ _ _ _ _ _ _ _ NZ xt
 obtain rfl:.slice A0 n0 c0=v0:=by simpa [Value.cells] using e0
 have iV:∀ n∈d1.weights Tryz.prog 23,n≤reachBytes:=fun n hn=>by simpa using List.all_eq_true.1 hsz n (DataW.weights_mem_each (j:=1) rfl rfl n hn)
 have k1:=h1
 have N0:∀ x∈p1,x.block < W.heap.size:=by obtain ⟨m,hm⟩:=k1;exact DataW.trod_lt m _ _ _ hm
 obtain ⟨A1,n1,c1,rfl⟩:=okWide_slice Tryz.underlying23 (hval 1 23 v1 rfl rfl)
 obtain ⟨O7,ik⟩:=h1
 obtain ⟨⟨v1,l1⟩,e1,w1⟩:=lL (w:=W) Tryz.underlying23 (by kernel_rfl) (by kernel_rfl) Tryz.underlying5 _ _ _ _ _ _ _ _ ik iV
 obtain rfl:.slice A1 n1 c1=v1:=by simpa [Value.cells] using e1
 clear LW D1
 have er:=De hL
 refine (wq (Df er l0 w0 l1 w1.1 w1.2)).mono fun e W' ⟨he,bel⟩=>?_
 subst he
 exact ⟨_,rfl,_,_,_,[],_,[],hW',trodAll_mk1 (shut_bool Tryz.underlying4 _),(trodAll_cons_mk (Below.trod laidOut (by kernel_rfl) (of_decide_eq_true (by kernel_rfl)) k0 bel NY) (trodAll_cons_mk (Below.trod laidOut (by kernel_rfl) (of_decide_eq_true (by kernel_rfl)) k1 bel N0) trodAll_mk0)),rfl,bel.frame _,fun h=>by cases h⟩
theorem N1:(laidOutB Tryz.prog)=true:=by kernel_rfl
theorem N2:(Rows.servePiecesRow.inPlace == Tryz.prog.inPlace 3)=true:=by kernel_rfl
theorem N3:(Rows.servePiecesRow.unfollowed == Tryz.prog.unfollowed 3)=true:=by kernel_rfl
theorem N4:(Rows.servePiecesRow.recurses == Tryz.prog.recurses 3)=true:=by kernel_rfl
theorem N5:(Rows.servePiecesRow.named == Tryz.prog.varsNamed 3)=true:=by kernel_rfl
theorem N6:(Rows.servePiecesRow.plainKeys == Tryz.prog.plainKeys)=true:=by kernel_rfl
theorem N7:(Tryz.prog.stopsHeard)=true:=by kernel_rfl
theorem N8:(Tryz.prog.mayEnter)=true:=by kernel_rfl
theorem closed:joinedFacts Tryz.prog 3 Tryz.f3 Rows.servePiecesSpec Rows.servePiecesRow=true:=by
 unfold joinedFacts
 rw [N1,N2,N3,N4,N5,N6,N7,N8]
 kernel_rfl
theorem over:Rows.servePiecesRow.holds Tryz.pinned (OpenSpec.ofChange Rows.servePiecesSpec) :=
 OpenClaim.holds_of_wide 3 Tryz.f3 rfl rfl rfl rfl rfl rfl rfl ⟨rfl,rfl,rfl,rfl,rfl⟩ rfl rfl rfl rfl rfl (by kernel_rfl) Tryz.func3 closed
   (of_decide_eq_true (by kernel_rfl)) (by unfold Func.isWrapper;first | (rw [if_pos (by decide +kernel)];kernel_rfl) | (rw [if_neg (by decide +kernel)];exact ⟨rfl,rfl⟩))
   (fun os started H enc _=>lifted os started H enc)
end LServePieces
theorem servePieces_card:Rows.ServePiecesCardSaid :=
 Claim7.holds_tied_plain_at .later [] Rows.servePiecesCard.laidKinds true Rows.servePiecesCard.stood.harness true
   LServePieces.over (fun _ h=>by cases h) (by kernel_rfl) (fun _ h=>by cases h) servePieces_row_tie rfl ⟨rfl,rfl⟩ (by kernel_rfl) rfl
   (fun f fn hf hfn=>by
     obtain rfl:f=3:=Option.some.inj ((show Tryz.prog.funcNamed Rows.servePiecesRow.func=some 3 by kernel_rfl).symm.trans hf) |>.symm
     obtain rfl:fn=Tryz.f3:=(Option.some.inj (Tryz.func3.symm.trans hfn)).symm
     exact ⟨by kernel_rfl,fun j t ht=>by
       rw [Tryz.params3] at ht
       have hm:t∈[22,23]:=by simpa using Array.mem_of_getElem? ht
       have hall:([22,23].all fun u => !Tryz.prog.wantsStandIn u)=true:=by kernel_rfl
       exact (show Tryz.prog.wantsStandIn t=false by simpa using List.all_eq_true.1 hall t hm)⟩)
   (by kernel_rfl)
end Go.Proofs.YtopgddfgefnmbaaGreatDoor

