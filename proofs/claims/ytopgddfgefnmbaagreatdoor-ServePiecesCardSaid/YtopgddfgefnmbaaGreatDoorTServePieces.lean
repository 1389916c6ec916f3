/-
 ServePieces holds: in whatever pieces messages come, the same is said. No condition.
-/
import Derived.Test.YtopgddfgefnmbaaGreatDoorPServePieces7
import Derived.Test.YtopgddfgefnmbaaGreatDoorCards
import Derived.Test.YtopgddfgefnmbaaGreatDoorTie
import Derived.SevenTiedAt
set_option maxHeartbeats 8000000
set_option maxRecDepth 100000
namespace Go.Proofs.YtopgddfgefnmbaaGreatDoor
open Go Go.RK

theorem Dm {h:ah} {vl vs:Value} (er:Er h) (L:List Fm) (hL:EP h vl L) (ss:List UInt8) (hs:Rd h vs 1 ss.length (bA ss)) (hsl:ss.length≤reachBytes) :
   ag Tryz.prog 3 ⟨[vl,vs]⟩ h fun u h'=>u=.bool true∧Ext No h h':=by
 have kpl:=fun h' (x:Ext No h h')=>qE L (hL.aq x) 20
 have Ob:=hL
 obtain ⟨hrl,hll,okl⟩:=hL
 obtain ⟨A1,c1,rfl,_⟩:=id hrl
 obtain ⟨A2,c2,rfl,_⟩:=id hs
 unfold reachBytes at hsl
 refine calls [(0,_),(1,_)] Tryz.func3 rfl Tryz.ntmps3 rfl ⟨rfl,rfl,trivial⟩ ?_
 all_goals (refine G2 ?_;refine G3 ?_;refine WL.call (vs:=[_,_]) rfl Tryz.call6 rfl (kpl _ (.refl _ _)) rfl rfl rfl ?_;rintro _ g1 ⟨⟨x1,rfl,Dn⟩,az⟩;cases x1)
 all_goals (refine Go ?_;refine bK 9 ?_ ?_ <;> first | exact ⟨⟩ | refine Hb.mk fun hb=>?_ | skip)
 all_goals (refine Gg ?_;refine Go ?_;refine Gs [(0,_),(1,_),(13,_)] ?_;refine aH 1 2 ?_ ?_ <;> first | exact ⟨⟩ | refine Hb.mk fun hb=>?_ | skip)
 all_goals try (
 refine aw 1 ?_
 all_goals (refine WC.sr ?_;refine WL.call (vs:=[]) rfl Tryz.call7 rfl (nQ) rfl rfl rfl ?_;rintro _ h4 ⟨rfl,aW⟩;refine Go ?_;refine Gs [(4,_)] ?_;refine Gt ?_;first | exact ⟨rfl,az.trans aW⟩ | exact ⟨rfl,X5.trans aN⟩ | exact ⟨by simp,((X5.trans aN).trans ba).trans bz⟩ | exact ⟨by simp at *,(X5.trans aN).trans ba⟩)
 skip)
 all_goals try (
 refine aw 2 ?_
 all_goals (refine WC.skip ?_)
 skip)
 all_goals (refine Gn ?_;refine WC.sr ?_;obtain ⟨hlL,Dn⟩:=Dn rfl;refine WL.call (vs:=[]) rfl Tryz.call8 rfl (oI) rfl rfl rfl ?_;rintro v3 h3 ⟨dN,aQ,gS⟩;refine Go ?_;refine WL.call (vs:=[_]) rfl Tryz.call9 rfl (C4 L (Ob.aq (az.trans aQ)) Dn (by omega)) rfl rfl rfl ?_;rintro v4 h4 ⟨ms,fr,B4⟩;have hml:=vZ (fun m hm=>(fr.ok m hm).2.2);have Oc:=fr.len)
 all_goals (
  refine WL.aj (aT (sz:=1) (bytes:=1) rfl Tryz.underlying23 (show Tryz.prog.info? 5=some Tryz.t5 by kernel_rfl) rfl rfl rfl rfl (by decide) rfl rfl (dN.ext B4.2.1 (fun _ _=>aO)) B4.1.rd (by intro v hv;obtain ⟨x,_,rfl⟩:=List.mem_map.1 hv;rfl) (by simp only [maxLen];omega) (by omega)) rfl rfl rfl ?_
  rintro v5 h5 ⟨eF,aM,Bm⟩
  have e5:bA di++bA (vY ms)=bA (dZ (sV L)):=by rw [← mr,fr.eq,sW]
  have e6:16+(vY ms).length=(dZ (sV L)).length:=by rw [fr.eq,sW];simp only [dZ,List.length_append,dO]
  rw [e5,e6] at eF
  have X5:Ext No h h5:=((az.trans aQ).trans B4.2.1).trans' aM (fun q hq e=>by have:=gS q e;have:=az.size;omega)
  obtain ⟨A5,c5,rfl,_⟩:=id eF.slice)
 all_goals (refine Go ?_;refine Gs [(1,_),(5,_)] ?_;refine G3 ?_;refine aH 3 4 ?_ ?_ <;> first | exact ⟨⟩ | refine Hb.mk fun hb=>?_ | skip)
 all_goals try (
 refine aw 3 ?_
 all_goals (refine WC.sr ?_;refine WL.call (vs:=[]) rfl Tryz.call7 rfl (nQ) rfl rfl rfl ?_;rintro _ h6 ⟨rfl,aN⟩;refine Go ?_;refine Gs [(4,_)] ?_;refine Gt ?_;first | exact ⟨rfl,az.trans aW⟩ | exact ⟨rfl,X5.trans aN⟩ | exact ⟨by simp,((X5.trans aN).trans ba).trans bz⟩ | exact ⟨by simp at *,(X5.trans aN).trans ba⟩)
 skip)
 all_goals try (
 refine aw 4 ?_
 all_goals (refine WC.skip ?_)
 skip)
 all_goals (refine Gn ?_;refine WC.sr ?_;have gs:tb (sV L):=Gu hlL Dn (by omega);refine WL.step (ak rfl) rfl rfl rfl (Go ?_);refine WL.call (vs:=[_,_]) rfl Tryz.call10 rfl (D7 gs (er.aq X5) eF.rd (hs.aq X5) (by omega)) rfl rfl rfl ?_;rintro _ h6 ⟨rfl,aN⟩;refine Go ?_;refine WL.call (vs:=[_,_]) rfl Tryz.call10 rfl (D7 (ss:=[]) gs (er.aq (X5.trans aN)) (eF.rd.aq aN) (Rd.nil _ _) (by decide)) rfl rfl rfl ?_;rintro _ h7 ⟨rfl,ba⟩;refine Go ?_;refine bK 29 ?_ ?_ <;> first | exact ⟨⟩ | refine Hb.mk fun hb=>?_ | skip)
 all_goals (
  first
    | (refine WL.pass rfl rfl rfl ?_)
    | (refine WL.call (vs:=[]) rfl Tryz.call7 rfl (nQ) rfl rfl rfl ?_
       rintro _ h8 ⟨rfl,bz⟩))
 all_goals (refine Go ?_;refine Gs [(4,_)] ?_;refine Gt ?_;first | exact ⟨rfl,az.trans aW⟩ | exact ⟨rfl,X5.trans aN⟩ | exact ⟨by simp,((X5.trans aN).trans ba).trans bz⟩ | exact ⟨by simp at *,(X5.trans aN).trans ba⟩)
namespace LServePieces
open Go.ChangeShapes Go.WideShapes Go.ChangeAt Go.RowKit
open Go.ChangeMaps (open_string shut_string)
theorem own:ownKnob Tryz.prog.godebug=none:=by kernel_rfl
theorem laidOut:laidOutB Tryz.prog=true:=by kernel_rfl
theorem lifted (os:Os) (started:os.Started) (H:Type) (enc:TypeId × Value→H) :
   ReturnsInHanded {} Tryz.checked os 3 .any (fun w args=>(Rows.servePiecesSpec.pre enc Tryz.prog Tryz.f3 [] false w args∧laidMetH Tryz.prog Rows.servePiecesRow.laid w)∧sizedMet enc Tryz.prog Tryz.f3 (OpenSpec.ofChange Rows.servePiecesSpec) false w args) (Rows.servePiecesSpec.post enc Tryz.prog Tryz.f3 false true false false):=by
 refine returnsInHanded_of_change_and (C:=Tryz.checked) (X:=fun w _=>laidMetH Tryz.prog Rows.servePiecesRow.laid w) (fun _ _ _ hh h=>h.of_heap hh) own started (by kernel_rfl) Tryz.func3
   (ChangeSpec.witness_at (enc:=enc) (C:=Tryz.checked) (os:=os) (X:=fun w _=>laidMetH Tryz.prog Rows.servePiecesRow.laid w) false (jf os) #[.slice none 0 0,.slice none 0 0] 8 (qN os) (by kernel_rfl) (by kernel_rfl) (by kernel_rfl) (by kernel_rfl) (by kernel_rfl) (oB os _)) ?_
 intro W base args ds gs before D8 hW hcnd IQ hL _
 have hval:∀ (j:Nat) t v,Tryz.f3.params[j]?=some t→args[j]?=some v→Value.okWide Tryz.prog W .any base t v:=D8
 have hsz:=IQ
 rw [Tryz.params3] at hsz
 clear IQ
 have hW':=hW
 obtain ⟨p,q,Me,hV,rfl,hfz,hnd⟩:=hW
 have hA:DataW.TrodAll enc Tryz.prog W 0 (fun _=>true) true Tryz.f3.params.toList args.toList ds p:=Me
 rw [Tryz.params3] at hA hval
 obtain ⟨v0,Po,d0,Pp,p0,q0,hargs,rfl,rfl,h0,r0⟩:=trodAll_cons hA
 obtain ⟨v1,LP,d1,Pq,p1,q1,rfl,rfl,rfl,h1,r1⟩:=trodAll_cons r0
 obtain ⟨rfl,rfl,rfl⟩:=trodAll_nil r1
 obtain rfl:args=#[v0,v1]:=by cases args;simp_all
 obtain ⟨rfl,rfl⟩:=trodVars_none hV
 have xx:∀ n∈d0.weights Tryz.prog 22,n≤reachBytes:=fun n hn=>by simpa using List.all_eq_true.1 hsz n (DataW.weights_mem_each (j:=0) rfl rfl n hn)
 have k0:=h0
 have Od:∀ x∈p0,x.block < W.heap.size:=by obtain ⟨m,hm⟩:=k0;exact DataW.trod_lt m _ _ _ hm
 obtain ⟨A0,n0,c0,rfl⟩:=okWide_slice Tryz.underlying22 (hval 0 22 v0 rfl rfl)
 obtain ⟨Pr,Oe⟩:=h0
 obtain ⟨⟨v0,l0⟩,e0,w0⟩:=xE W _ _ _ _ _ _ _ _ Oe xx
 obtain rfl:.slice A0 n0 c0=v0:=by simpa [Value.cells] using e0
 have iV:∀ n∈d1.weights Tryz.prog 23,n≤reachBytes:=fun n hn=>by simpa using List.all_eq_true.1 hsz n (DataW.weights_mem_each (j:=1) rfl rfl n hn)
 have k1:=h1
 have Of:∀ x∈p1,x.block < W.heap.size:=by obtain ⟨m,hm⟩:=k1;exact DataW.trod_lt m _ _ _ hm
 obtain ⟨A1,n1,c1,rfl⟩:=okWide_slice Tryz.underlying23 (hval 1 23 v1 rfl rfl)
 obtain ⟨Ps,ik⟩:=h1
 obtain ⟨⟨v1,l1⟩,e1,w1⟩:=lM (w:=W) Tryz.underlying23 (by kernel_rfl) (by kernel_rfl) Tryz.underlying5 _ _ _ _ _ _ _ _ ik iV
 obtain rfl:.slice A1 n1 c1=v1:=by simpa [Value.cells] using e1
 clear Me D8
 have er:=Dl hL
 refine (wx (Dm er l0 w0 l1 w1.1 w1.2)).mono fun e W' ⟨he,bel⟩=>?_
 subst he
 exact ⟨_,rfl,_,_,_,[],_,[],hW',trodAll_mk1 (shut_bool Tryz.underlying4 _),(trodAll_cons_mk (Below.trod laidOut (by kernel_rfl) (of_decide_eq_true (by kernel_rfl)) k0 bel Od) (trodAll_cons_mk (Below.trod laidOut (by kernel_rfl) (of_decide_eq_true (by kernel_rfl)) k1 bel Of) trodAll_mk0)),rfl,bel.frame _,fun h=>by cases h⟩
theorem Og:(laidOutB Tryz.prog)=true:=by kernel_rfl
theorem Oh:(Rows.servePiecesRow.inPlace == Tryz.prog.inPlace 3)=true:=by kernel_rfl
theorem Oi:(Rows.servePiecesRow.unfollowed == Tryz.prog.unfollowed 3)=true:=by kernel_rfl
theorem Oj:(Rows.servePiecesRow.recurses == Tryz.prog.recurses 3)=true:=by kernel_rfl
theorem Ol:(Rows.servePiecesRow.named == Tryz.prog.varsNamed 3)=true:=by kernel_rfl
theorem Om:(Rows.servePiecesRow.plainKeys == Tryz.prog.plainKeys)=true:=by kernel_rfl
theorem On:(Tryz.prog.stopsHeard)=true:=by kernel_rfl
theorem Oo:(Tryz.prog.mayEnter)=true:=by kernel_rfl
theorem closed:joinedFacts Tryz.prog 3 Tryz.f3 Rows.servePiecesSpec Rows.servePiecesRow=true:=by
 unfold joinedFacts
 rw [Og,Oh,Oi,Oj,Ol,Om,On,Oo]
 kernel_rfl
theorem over:Rows.servePiecesRow.holds Tryz.pinned (OpenSpec.ofChange Rows.servePiecesSpec) :=
 OpenClaim.holds_of_wide 3 Tryz.f3 rfl rfl rfl rfl rfl rfl rfl ⟨rfl,rfl,rfl,rfl,rfl⟩ rfl rfl rfl rfl rfl (by kernel_rfl) Tryz.func3 closed
   (of_decide_eq_true (by kernel_rfl)) (by unfold Func.isWrapper;first | (rw [if_pos (by decide +kernel)];kernel_rfl) | (rw [if_neg (by decide +kernel)];exact ⟨rfl,rfl⟩))
   (fun os started H enc _=>lifted os started H enc)
end LServePieces
theorem servePieces_card:Rows.ServePiecesCardSaid :=
 Claim7.holds_tied_plain_at .later [] Rows.servePiecesCard.laidKinds true Rows.servePiecesCard.stood.harness true
   LServePieces.over (fun _ h=>by cases h) (by kernel_rfl) (fun _ h=>by cases h) servePieces_row_tie rfl ⟨rfl,rfl⟩ (by kernel_rfl) rfl
   (fun f fn hf hfn=>by
     obtain rfl:f=3:=Option.some.inj ((show Tryz.prog.funcNamed Rows.servePiecesRow.func=some 3 by kernel_rfl).symm.trans hf) |>.symm
     obtain rfl:fn=Tryz.f3:=(Option.some.inj (Tryz.func3.symm.trans hfn)).symm
     exact ⟨by kernel_rfl,fun j t ht=>by
       rw [Tryz.params3] at ht
       have hm:t∈[22,23]:=by simpa using Array.mem_of_getElem? ht
       have hall:([22,23].all fun u => !Tryz.prog.wantsStandIn u)=true:=by kernel_rfl
       exact (show Tryz.prog.wantsStandIn t=false by simpa using List.all_eq_true.1 hall t hm)⟩)
   (by kernel_rfl)
end Go.Proofs.YtopgddfgefnmbaaGreatDoor

