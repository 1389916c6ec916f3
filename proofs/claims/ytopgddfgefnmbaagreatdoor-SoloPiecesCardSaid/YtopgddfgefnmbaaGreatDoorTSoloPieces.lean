/-
 SoloPieces holds: in whatever pieces messages come, the same is said to a client alone. No condition.
-/
import Derived.Test.YtopgddfgefnmbaaGreatDoorPSoloPieces7
import Derived.Test.YtopgddfgefnmbaaGreatDoorCards
import Derived.Test.YtopgddfgefnmbaaGreatDoorTie
import Derived.SevenTiedAt
set_option maxHeartbeats 8000000
set_option maxRecDepth 100000
namespace Go.Proofs.YtopgddfgefnmbaaGreatDoor
open Go Go.RK

theorem Hi {h:ah} {vl vs:Value} (er:Er h) (L:List Fm) (hL:FK h vl L) (ss:List UInt8) (hs:Rd h vs 1 ss.length (bu ss)) (hsl:ss.length≤reachBytes) :
   ag Tryz.prog 4 ⟨[vl,vs]⟩ h fun u h'=>u=.bool true∧Ext No h h':=by
 have kpl:=fun h' (x:Ext No h h')=>qE L (hL.aq x) 20
 have Oe:=hL
 obtain ⟨hrl,hll,okl⟩:=hL
 obtain ⟨A1,c1,rfl,_⟩:=id hrl
 obtain ⟨A2,c2,rfl,_⟩:=id hs
 unfold reachBytes at hsl
 refine calls [(0,_),(1,_)] Tryz.func4 rfl Tryz.ntmps4 rfl ⟨rfl,rfl,trivial⟩ ?_
 all_goals (refine G2 ?_;refine G3 ?_;refine WL.call (vs:=[_,_]) rfl Tryz.call6 rfl (kpl _ (.refl _ _)) rfl rfl rfl ?_;rintro _ g1 ⟨⟨x1,rfl,Ee⟩,ay⟩;cases x1)
 all_goals (refine Go ?_;refine bG 9 ?_ ?_ <;> first | exact ⟨⟩ | refine Hb.mk fun hb=>?_ | skip)
 all_goals (refine Gg ?_;refine Go ?_;refine Gs [(0,_),(1,_),(13,_)] ?_;refine aJ 1 2 ?_ ?_ <;> first | exact ⟨⟩ | refine Hb.mk fun hb=>?_ | skip)
 all_goals try (
 refine ax 1 ?_
 all_goals (refine WC.sr ?_;refine WL.call (vs:=[]) rfl Tryz.call11 rfl (sV (er.aq ay)) rfl rfl rfl ?_;rintro _ h4 ⟨rfl,aW⟩;refine Go ?_;refine Gs [(4,_)] ?_;refine Gt ?_;first | exact ⟨rfl,ay.trans aW⟩ | exact ⟨rfl,X5.trans bD⟩ | exact ⟨rfl,((X5.trans aM).trans bh).trans bD⟩)
 skip)
 all_goals try (
 refine ax 2 ?_
 all_goals (refine WC.skip ?_)
 skip)
 all_goals (refine Gn ?_;refine WC.sr ?_;obtain ⟨hlL,Ee⟩:=Ee rfl;refine WL.call (vs:=[]) rfl Tryz.call8 rfl (oH) rfl rfl rfl ?_;rintro v3 h3 ⟨dE,aP,gG⟩;refine Go ?_;refine WL.call (vs:=[_]) rfl Tryz.call9 rfl (DI L (Oe.aq (ay.trans aP)) Ee (by omega)) rfl rfl rfl ?_;rintro v4 h4 ⟨ms,fr,B4⟩;have hml:=wh (fun m hm=>(fr.ok m hm).2.2);have Of:=fr.len)
 all_goals (
  refine WL.ai (aT (sz:=1) (bytes:=1) rfl Tryz.underlying23 (show Tryz.prog.info? 5=some Tryz.t5 by kernel_rfl) rfl rfl rfl rfl (by decide) rfl rfl (dE.ext B4.2.1 (fun _ _=>aO)) B4.1.rd (by intro v hv;obtain ⟨x,_,rfl⟩:=List.mem_map.1 hv;rfl) (by simp only [maxLen];omega) (by omega)) rfl rfl rfl ?_
  rintro v5 h5 ⟨eG,aN,yI⟩
  have e5:bu dr++bu (wg ms)=bu (dB (oA L)):=by rw [← gn,fr.eq,sU]
  have e6:16+(wg ms).length=(dB (oA L)).length:=by rw [fr.eq,sU];simp only [dB,List.length_append,cH]
  rw [e5,e6] at eG
  have X5:Ext No h h5:=((ay.trans aP).trans B4.2.1).trans' aN (fun q hq e=>by have:=gG q e;have:=ay.size;omega)
  obtain ⟨A5,c5,rfl,_⟩:=id eG.slice)
 all_goals (refine Go ?_;refine Gs [(1,_),(5,_)] ?_;refine WC.sr ?_;refine WL.step (ak rfl) rfl rfl rfl ?_;refine WL.step (cu rfl Tryz.underlying23 rfl) rfl rfl rfl ?_;first | (refine WL.step (bK.dL (by omega) (iQ rfl rfl)) rfl rfl rfl ?_) | (refine WL.step (bK.eX (by omega) (iQ rfl rfl)) rfl rfl rfl ?_) | refine WL.step (iQ rfl rfl) rfl rfl rfl ?_)
 all_goals (cases hgt:decide ((3000:Int) < ((dB (oA L)).length:Nat)))
 all_goals (refine Go ?_;refine bG 22 ?_ ?_ <;> first | exact ⟨⟩ | refine Hb.mk fun hb=>?_ | skip)
 all_goals (refine Gg ?_;first | (have gs:BH (oA L):=Hh hlL Ee (by have:=of_decide_eq_false hgt;omega)) | skip)
 all_goals (
  first
    | (refine WL.pass rfl rfl rfl ?_)
    | (refine WL.call (vs:=[_,_]) rfl Tryz.call13 rfl (E2 gs (er.aq X5) eG.rd (hs.aq X5) (by omega)) rfl rfl rfl ?_
       rintro v6 h6 ⟨fN,aM,im⟩))
 all_goals (refine Gg ?_)
 all_goals (
  first
    | (refine WL.pass rfl rfl rfl ?_)
    | (refine WL.call (vs:=[_,_]) rfl Tryz.call13 rfl (E2 (ss:=[]) gs (er.aq (X5.trans aM)) (eG.rd.aq aM) (Rd.nil _ _) (by decide)) rfl rfl rfl ?_
       rintro v7 h7 ⟨gM,bh,Hk⟩
       obtain ⟨A6,c6,rfl,_⟩:=id fN.slice
       obtain ⟨A7,c7,rfl,_⟩:=id gM.slice))
 all_goals (
  first
    | (refine WL.pass rfl rfl rfl ?_)
    | (refine WL.call (vs:=[_,_]) rfl Tryz.call12 rfl (Cj _ _ (fN.rd.aq bh) gM.rd) rfl rfl rfl ?_
       rintro _ hq ⟨rfl,hz⟩
       subst hz
       rw [decide_eq_true (Eq.refl (lW (oA L)))]))
 all_goals (refine Go ?_;refine bG 30 ?_ ?_ <;> first | exact ⟨⟩ | refine Hb.mk fun hb=>?_ | skip)
 all_goals (
  first
    | (refine WL.pass rfl rfl rfl ?_)
    | (refine WL.call (vs:=[]) rfl Tryz.call11 rfl (sV (by first | exact er.aq ((X5.trans aM).trans bh) | exact er.aq X5)) rfl rfl rfl ?_
       rintro _ h8 ⟨rfl,bD⟩))
 all_goals (refine Go ?_;refine Gs [(4,_)] ?_;refine Gt ?_;first | exact ⟨rfl,ay.trans aW⟩ | exact ⟨rfl,X5.trans bD⟩ | exact ⟨rfl,((X5.trans aM).trans bh).trans bD⟩)
namespace LSoloPieces
open Go.ChangeShapes Go.WideShapes Go.ChangeAt Go.RowKit
open Go.ChangeMaps (open_string shut_string)
theorem own:ownKnob Tryz.prog.godebug=none:=by kernel_rfl
theorem laidOut:laidOutB Tryz.prog=true:=by kernel_rfl
theorem lifted (os:Os) (started:os.Started) (H:Type) (enc:TypeId × Value→H) :
   ReturnsInHanded {} Tryz.checked os 4 .any (fun w args=>(Rows.soloPiecesSpec.pre enc Tryz.prog Tryz.f4 [] false w args∧laidMetH Tryz.prog Rows.soloPiecesRow.laid w)∧sizedMet enc Tryz.prog Tryz.f4 (OpenSpec.ofChange Rows.soloPiecesSpec) false w args) (Rows.soloPiecesSpec.post enc Tryz.prog Tryz.f4 false true false false):=by
 refine returnsInHanded_of_change_and (C:=Tryz.checked) (X:=fun w _=>laidMetH Tryz.prog Rows.soloPiecesRow.laid w) (fun _ _ _ hh h=>h.of_heap hh) own started (by kernel_rfl) Tryz.func4
   (ChangeSpec.witness_at (enc:=enc) (C:=Tryz.checked) (os:=os) (X:=fun w _=>laidMetH Tryz.prog Rows.soloPiecesRow.laid w) false (jA os) #[.slice none 0 0,.slice none 0 0] 8 (qR os) (by kernel_rfl) (by kernel_rfl) (by kernel_rfl) (by kernel_rfl) (by kernel_rfl) (oB os _)) ?_
 intro W base args ds gs before E6 hW hcnd Jp hL _
 have hval:∀ (j:Nat) t v,Tryz.f4.params[j]?=some t→args[j]?=some v→Value.okWide Tryz.prog W .any base t v:=E6
 have hsz:=Jp
 rw [Tryz.params4] at hsz
 clear Jp
 have hW':=hW
 obtain ⟨p,q,Mx,hV,rfl,hfz,hnd⟩:=hW
 have hA:DataW.TrodAll enc Tryz.prog W 0 (fun _=>true) true Tryz.f4.params.toList args.toList ds p:=Mx
 rw [Tryz.params4] at hA hval
 obtain ⟨v0,Ph,d0,Pj,p0,q0,hargs,rfl,rfl,h0,r0⟩:=trodAll_cons hA
 obtain ⟨v1,L4,d1,Pk,p1,q1,rfl,rfl,rfl,h1,r1⟩:=trodAll_cons r0
 obtain ⟨rfl,rfl,rfl⟩:=trodAll_nil r1
 obtain rfl:args=#[v0,v1]:=by cases args;simp_all
 obtain ⟨rfl,rfl⟩:=trodVars_none hV
 have D6:∀ n∈d0.weights Tryz.prog 22,n≤reachBytes:=fun n hn=>by simpa using List.all_eq_true.1 hsz n (DataW.weights_mem_each (j:=0) rfl rfl n hn)
 have k0:=h0
 have Og:∀ x∈p0,x.block < W.heap.size:=by obtain ⟨m,hm⟩:=k0;exact DataW.trod_lt m _ _ _ hm
 obtain ⟨A0,n0,c0,rfl⟩:=okWide_slice Tryz.underlying22 (hval 0 22 v0 rfl rfl)
 obtain ⟨Pm,Oh⟩:=h0
 obtain ⟨⟨v0,l0⟩,e0,w0⟩:=xW W _ _ _ _ _ _ _ _ Oh D6
 obtain rfl:.slice A0 n0 c0=v0:=by simpa [Value.cells] using e0
 have jo:∀ n∈d1.weights Tryz.prog 23,n≤reachBytes:=fun n hn=>by simpa using List.all_eq_true.1 hsz n (DataW.weights_mem_each (j:=1) rfl rfl n hn)
 have k1:=h1
 have Oi:∀ x∈p1,x.block < W.heap.size:=by obtain ⟨m,hm⟩:=k1;exact DataW.trod_lt m _ _ _ hm
 obtain ⟨A1,n1,c1,rfl⟩:=okWide_slice Tryz.underlying23 (hval 1 23 v1 rfl rfl)
 obtain ⟨Pn,fM⟩:=h1
 obtain ⟨⟨v1,l1⟩,e1,w1⟩:=mf (w:=W) Tryz.underlying23 (by kernel_rfl) (by kernel_rfl) Tryz.underlying5 _ _ _ _ _ _ _ _ fM jo
 obtain rfl:.slice A1 n1 c1=v1:=by simpa [Value.cells] using e1
 clear Mx E6
 have er:=Ed hL
 refine (wF (Hi er l0 w0 l1 w1.1 w1.2)).mono fun e W' ⟨he,bel⟩=>?_
 subst he
 exact ⟨_,rfl,_,_,_,[],_,[],hW',trodAll_mk1 (shut_bool Tryz.underlying4 _),(trodAll_cons_mk (Below.trod laidOut (by kernel_rfl) (of_decide_eq_true (by kernel_rfl)) k0 bel Og) (trodAll_cons_mk (Below.trod laidOut (by kernel_rfl) (of_decide_eq_true (by kernel_rfl)) k1 bel Oi) trodAll_mk0)),rfl,bel.frame _,fun h=>by cases h⟩
theorem Oj:(laidOutB Tryz.prog)=true:=by kernel_rfl
theorem Ol:(Rows.soloPiecesRow.inPlace == Tryz.prog.inPlace 4)=true:=by kernel_rfl
theorem G9:(Rows.soloPiecesRow.unfollowed == Tryz.prog.unfollowed 4)=true:=by kernel_rfl
theorem Jm:(Rows.soloPiecesRow.recurses == Tryz.prog.recurses 4)=true:=by kernel_rfl
theorem Om:(Rows.soloPiecesRow.named == Tryz.prog.varsNamed 4)=true:=by kernel_rfl
theorem On:(Rows.soloPiecesRow.plainKeys == Tryz.prog.plainKeys)=true:=by kernel_rfl
theorem Oo:(Tryz.prog.stopsHeard)=true:=by kernel_rfl
theorem Oq:(Tryz.prog.mayEnter)=true:=by kernel_rfl
theorem closed:joinedFacts Tryz.prog 4 Tryz.f4 Rows.soloPiecesSpec Rows.soloPiecesRow=true:=by
 unfold joinedFacts
 rw [Oj,Ol,G9,Jm,Om,On,Oo,Oq]
 kernel_rfl
theorem over:Rows.soloPiecesRow.holds Tryz.pinned (OpenSpec.ofChange Rows.soloPiecesSpec) :=
 OpenClaim.holds_of_wide 4 Tryz.f4 rfl rfl rfl rfl rfl rfl rfl ⟨rfl,rfl,rfl,rfl,rfl⟩ rfl rfl rfl rfl rfl (by kernel_rfl) Tryz.func4 closed
   (of_decide_eq_true (by kernel_rfl)) (by unfold Func.isWrapper;first | (rw [if_pos (by decide +kernel)];kernel_rfl) | (rw [if_neg (by decide +kernel)];exact ⟨rfl,rfl⟩))
   (fun os started H enc _=>lifted os started H enc)
end LSoloPieces
theorem soloPieces_card:Rows.SoloPiecesCardSaid :=
 Claim7.holds_tied_plain_at .later [] Rows.soloPiecesCard.laidKinds true Rows.soloPiecesCard.stood.harness true
   LSoloPieces.over (fun _ h=>by cases h) (by kernel_rfl) (fun _ h=>by cases h) soloPieces_row_tie rfl ⟨rfl,rfl⟩ (by kernel_rfl) rfl
   (fun f fn hf hfn=>by
     obtain rfl:f=4:=Option.some.inj ((show Tryz.prog.funcNamed Rows.soloPiecesRow.func=some 4 by kernel_rfl).symm.trans hf) |>.symm
     obtain rfl:fn=Tryz.f4:=(Option.some.inj (Tryz.func4.symm.trans hfn)).symm
     exact ⟨by kernel_rfl,fun j t ht=>by
       rw [Tryz.params4] at ht
       have hm:t∈[22,23]:=by simpa using Array.mem_of_getElem? ht
       have hall:([22,23].all fun u => !Tryz.prog.wantsStandIn u)=true:=by kernel_rfl
       exact (show Tryz.prog.wantsStandIn t=false by simpa using List.all_eq_true.1 hall t hm)⟩)
   (by kernel_rfl)
end Go.Proofs.YtopgddfgefnmbaaGreatDoor

