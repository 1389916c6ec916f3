/-
 ServePieces holds: in whatever pieces messages come, the same is said. No condition.
-/
import Derived.Test.YtopgddfgefnmbaaGreatDoorPServePieces7
import Derived.Test.YtopgddfgefnmbaaGreatDoorCards
import Derived.Test.YtopgddfgefnmbaaGreatDoorTie
import Derived.SevenTiedAt
set_option maxHeartbeats 8000000
set_option maxRecDepth 100000
namespace Go.Proofs.YtopgddfgefnmbaaGreatDoor
open Go Go.RK

theorem Fx {h:aj} {vl vs:Value} (er:Er h) (L:List Fm) (hL:Ho h vl L) (ss:List UInt8) (hs:Rd h vs 1 ss.length (bK ss)) (zt:ss.length≤reachBytes) :
   ai Tryz.prog 3 ⟨[vl,vs]⟩ h fun u h'=>u=.bool true∧Ext No h h':=by
 have TU:=fun h' (x:Ext No h h')=>rN L (hL.av x) 20
 have TV:=hL
 obtain ⟨Dk,uQ,Vs⟩:=hL
 obtain ⟨A1,c1,rfl,_⟩:=id Dk
 obtain ⟨A2,c2,rfl,_⟩:=id hs
 unfold reachBytes at zt
 refine calls [(0,_),(1,_)] Tryz.func3 rfl Tryz.ntmps3 rfl ⟨rfl,rfl,trivial⟩ ?_
 aa (refine G2 ?_;refine G3 ?_;refine WL.call (vs:=[_,_]) rfl Tryz.call6 rfl (TU _ (.refl _ _)) rfl rfl rfl ?_;rintro _ g1 ⟨⟨x1,rfl,Fy⟩,aB⟩;cases x1)
 aa (refine Go ?_;refine bU 9 ?_ ?_ <;> first | exact ⟨⟩ | refine Hb.mk fun hb=>?_ | skip)
 aa (refine Gg ?_;refine Go ?_;refine Gs [(0,_),(1,_),(13,_)] ?_;refine aJ 1 2 ?_ ?_ <;> first | exact ⟨⟩ | refine Hb.mk fun hb=>?_ | skip)
 aa try (
 refine ay 1 ?_
 aa (refine WC.sr ?_;refine WL.call (vs:=[]) rfl Tryz.call7 rfl (oT) rfl rfl rfl ?_;rintro _ h4 ⟨rfl,bh⟩;refine Go ?_;refine Gs [(4,_)] ?_;refine Gt ?_;first | exact ⟨rfl,aB.trans bh⟩ | exact ⟨rfl,X5.trans aP⟩ | exact ⟨by simp,((X5.trans aP).trans bu).trans bH⟩ | exact ⟨by simp at *,(X5.trans aP).trans bu⟩)
 skip)
 aa try (
 refine ay 2 ?_
 aa (refine WC.skip ?_)
 skip)
 aa (refine Gn ?_;refine WC.sr ?_;obtain ⟨ME,Fy⟩:=Fy rfl;refine WL.call (vs:=[]) rfl Tryz.call8 rfl (pJ) rfl rfl rfl ?_;rintro v3 h3 ⟨ee,aS,im⟩;refine Go ?_;refine WL.call (vs:=[_]) rfl Tryz.call9 rfl (E8 L (TV.av (aB.trans aS)) Fy (by omega)) rfl rfl rfl ?_;rintro v4 h4 ⟨ms,fr,B4⟩;have uP:=xF (fun m hm=>(fr.ok m hm).2.2);have TW:=fr.len)
 aa (
  refine WL.al (aX (sz:=1) (bytes:=1) rfl Tryz.underlying23 (show Tryz.prog.info? 5=some Tryz.t5 by kernel_rfl) rfl rfl rfl rfl (by decide) rfl rfl (ee.ext B4.2.1 (fun _ _=>aQ)) B4.1.rd (by intro v hv;obtain ⟨x,_,rfl⟩:=List.mem_map.1 hv;rfl) (by simp only [maxLen];omega) (by omega)) rfl rfl rfl ?_
  rintro v5 h5 ⟨eX,aO,Dd⟩
  have e5:bK dz++bK (xE ms)=bK (eG (uq L)):=by rw [← np,fr.eq,ur]
  have e6:16+(xE ms).length=(eG (uq L)).length:=by rw [fr.eq,ur];simp only [eG,List.length_append,eh]
  rw [e5,e6] at eX
  have X5:Ext No h h5:=((aB.trans aS).trans B4.2.1).trans' aO (fun q hq e=>by have:=im q e;have:=aB.size;omega)
  obtain ⟨A5,c5,rfl,_⟩:=id eX.slice)
 aa (refine Go ?_;refine Gs [(1,_),(5,_)] ?_;refine G3 ?_;refine aJ 3 4 ?_ ?_ <;> first | exact ⟨⟩ | refine Hb.mk fun hb=>?_ | skip)
 aa try (
 refine ay 3 ?_
 aa (refine WC.sr ?_;refine WL.call (vs:=[]) rfl Tryz.call7 rfl (oT) rfl rfl rfl ?_;rintro _ h6 ⟨rfl,aP⟩;refine Go ?_;refine Gs [(4,_)] ?_;refine Gt ?_;first | exact ⟨rfl,aB.trans bh⟩ | exact ⟨rfl,X5.trans aP⟩ | exact ⟨by simp,((X5.trans aP).trans bu).trans bH⟩ | exact ⟨by simp at *,(X5.trans aP).trans bu⟩)
 skip)
 aa try (
 refine ay 4 ?_
 aa (refine WC.skip ?_)
 skip)
 aa (refine Gn ?_;refine WC.sr ?_;have gs:uD (uq L):=I1 ME Fy (by omega);refine WL.step (an rfl) rfl rfl rfl (Go ?_);refine WL.call (vs:=[_,_]) rfl Tryz.call10 rfl (Gw gs (er.av X5) eX.rd (hs.av X5) (by omega)) rfl rfl rfl ?_;rintro _ h6 ⟨rfl,aP⟩;refine Go ?_;refine WL.call (vs:=[_,_]) rfl Tryz.call10 rfl (Gw (ss:=[]) gs (er.av (X5.trans aP)) (eX.rd.av aP) (Rd.nil _ _) (by decide)) rfl rfl rfl ?_;rintro _ h7 ⟨rfl,bu⟩;refine Go ?_;refine bU 29 ?_ ?_ <;> first | exact ⟨⟩ | refine Hb.mk fun hb=>?_ | skip)
 aa (
  first
    | (refine WL.pass rfl rfl rfl ?_)
    | (refine WL.call (vs:=[]) rfl Tryz.call7 rfl (oT) rfl rfl rfl ?_
       rintro _ h8 ⟨rfl,bH⟩))
 aa (refine Go ?_;refine Gs [(4,_)] ?_;refine Gt ?_;first | exact ⟨rfl,aB.trans bh⟩ | exact ⟨rfl,X5.trans aP⟩ | exact ⟨by simp,((X5.trans aP).trans bu).trans bH⟩ | exact ⟨by simp at *,(X5.trans aP).trans bu⟩)
namespace lG
open Go.ChangeShapes Go.WideShapes Go.ChangeAt Go.RowKit
open Go.ChangeMaps (open_string shut_string)
theorem own:ownKnob Tryz.prog.godebug=none:=by kernel_rfl
theorem laidOut:laidOutB Tryz.prog=true:=by kernel_rfl
theorem lifted (os:Os) (started:os.Started) (H:Type) (enc:TypeId × Value→H) :
   ReturnsInHanded {} Tryz.checked os 3 .any (fun w args=>(Rows.servePiecesSpec.pre enc Tryz.prog Tryz.f3 [] false w args∧laidMetH Tryz.prog Rows.servePiecesRow.laid w)∧sizedMet enc Tryz.prog Tryz.f3 (OpenSpec.ofChange Rows.servePiecesSpec) false w args) (Rows.servePiecesSpec.post enc Tryz.prog Tryz.f3 false true false false):=by
 refine returnsInHanded_of_change_and (C:=Tryz.checked) (X:=fun w _=>laidMetH Tryz.prog Rows.servePiecesRow.laid w) (fun _ _ _ hh h=>h.of_heap hh) own started (by kernel_rfl) Tryz.func3
   (ChangeSpec.witness_at (enc:=enc) (C:=Tryz.checked) (os:=os) (X:=fun w _=>laidMetH Tryz.prog Rows.servePiecesRow.laid w) false (jH os) #[.slice none 0 0,.slice none 0 0] 8 (rW os) (by kernel_rfl) (by kernel_rfl) (by kernel_rfl) (by kernel_rfl) (by kernel_rfl) (py os _)) ?_
 intro W base args ds gs before Gx hW TX L7 hL _
 have I2:∀ (j:Nat) t v,Tryz.f3.params[j]?=some t→args[j]?=some v→Value.okWide Tryz.prog W .any base t v:=Gx
 have pA:=L7
 rw [Tryz.params3] at pA
 clear L7
 have TY:=hW
 obtain ⟨p,q,Q3,hV,rfl,Vt,uv⟩:=hW
 have hA:DataW.TrodAll enc Tryz.prog W 0 (fun _=>true) true Tryz.f3.params.toList args.toList ds p:=Q3
 rw [Tryz.params3] at hA I2
 obtain ⟨v0,Vu,d0,Vw,p0,q0,pz,rfl,rfl,h0,r0⟩:=trodAll_cons hA
 obtain ⟨v1,QA,d1,Vx,p1,q1,rfl,rfl,rfl,h1,r1⟩:=trodAll_cons r0
 obtain ⟨rfl,rfl,rfl⟩:=trodAll_nil r1
 obtain rfl:args=#[v0,v1]:=by cases args;cK
 obtain ⟨rfl,rfl⟩:=trodVars_none hV
 have zf:∀ n∈d0.weights Tryz.prog 22,n≤reachBytes:=fun n hn=>by simpa using List.all_eq_true.1 pA n (DataW.weights_mem_each (j:=0) rfl rfl n hn)
 have k0:=h0
 have TZ:∀ x∈p0,x.block < W.heap.size:=by obtain ⟨m,hm⟩:=k0;exact DataW.trod_lt m _ _ _ hm
 obtain ⟨A0,n0,c0,rfl⟩:=okWide_slice Tryz.underlying22 (I2 0 22 v0 rfl rfl)
 obtain ⟨Vy,T6⟩:=h0
 obtain ⟨⟨v0,l0⟩,e0,w0⟩:=zo W _ _ _ _ _ _ _ _ T6 zf
 obtain rfl:.slice A0 n0 c0=v0:=by simpa [Value.cells] using e0
 have jw:∀ n∈d1.weights Tryz.prog 23,n≤reachBytes:=fun n hn=>by simpa using List.all_eq_true.1 pA n (DataW.weights_mem_each (j:=1) rfl rfl n hn)
 have k1:=h1
 have T8:∀ x∈p1,x.block < W.heap.size:=by obtain ⟨m,hm⟩:=k1;exact DataW.trod_lt m _ _ _ hm
 obtain ⟨A1,n1,c1,rfl⟩:=okWide_slice Tryz.underlying23 (I2 1 23 v1 rfl rfl)
 obtain ⟨Vz,iO⟩:=h1
 obtain ⟨⟨v1,l1⟩,e1,w1⟩:=mG (w:=W) Tryz.underlying23 (by kernel_rfl) (by kernel_rfl) Tryz.underlying5 _ _ _ _ _ _ _ _ iO jw
 obtain rfl:.slice A1 n1 c1=v1:=by simpa [Value.cells] using e1
 clear Q3 Gx
 have er:=Fv hL
 refine (xZ (Fx er l0 w0 l1 w1.1 w1.2)).mono fun e W' ⟨he,Pu⟩=>?_
 subst he
 exact ⟨_,rfl,_,_,_,[],_,[],TY,trodAll_mk1 (shut_bool Tryz.underlying4 _),(trodAll_cons_mk (Below.trod laidOut (by kernel_rfl) (of_decide_eq_true (by kernel_rfl)) k0 Pu TZ) (trodAll_cons_mk (Below.trod laidOut (by kernel_rfl) (of_decide_eq_true (by kernel_rfl)) k1 Pu T8) trodAll_mk0)),rfl,Pu.frame _,fun h=>by cases h⟩
theorem Ua:(laidOutB Tryz.prog)=true:=by kernel_rfl
theorem Ub:(Rows.servePiecesRow.inPlace == Tryz.prog.inPlace 3)=true:=by kernel_rfl
theorem Uc:(Rows.servePiecesRow.unfollowed == Tryz.prog.unfollowed 3)=true:=by kernel_rfl
theorem Ud:(Rows.servePiecesRow.recurses == Tryz.prog.recurses 3)=true:=by kernel_rfl
theorem Ue:(Rows.servePiecesRow.named == Tryz.prog.varsNamed 3)=true:=by kernel_rfl
theorem Uf:(Rows.servePiecesRow.plainKeys == Tryz.prog.plainKeys)=true:=by kernel_rfl
theorem Ug:(Tryz.prog.stopsHeard)=true:=by kernel_rfl
theorem Uh:(Tryz.prog.mayEnter)=true:=by kernel_rfl
theorem closed:joinedFacts Tryz.prog 3 Tryz.f3 Rows.servePiecesSpec Rows.servePiecesRow=true:=by
 unfold joinedFacts
 rw [Ua,Ub,Uc,Ud,Ue,Uf,Ug,Uh]
 kernel_rfl
theorem over:Rows.servePiecesRow.holds Tryz.pinned (OpenSpec.ofChange Rows.servePiecesSpec) :=
 OpenClaim.holds_of_wide 3 Tryz.f3 rfl rfl rfl rfl rfl rfl rfl ⟨rfl,rfl,rfl,rfl,rfl⟩ rfl rfl rfl rfl rfl (by kernel_rfl) Tryz.func3 closed
   (of_decide_eq_true (by kernel_rfl)) (by unfold Func.isWrapper;first | (rw [if_pos (by decide +kernel)];kernel_rfl) | (rw [if_neg (by decide +kernel)];exact ⟨rfl,rfl⟩))
   (fun os started H enc _=>lifted os started H enc)
end lG
theorem servePieces_card:Rows.ServePiecesCardSaid :=
 Claim7.holds_tied_plain_at .later [] Rows.servePiecesCard.laidKinds true Rows.servePiecesCard.stood.harness true
   lG.over (fun _ h=>by cases h) (by kernel_rfl) (fun _ h=>by cases h) servePieces_row_tie rfl ⟨rfl,rfl⟩ (by kernel_rfl) rfl
   (fun f fn hf QZ=>by
     obtain rfl:f=3:=Option.some.inj ((show Tryz.prog.funcNamed Rows.servePiecesRow.func=some 3 by kernel_rfl).symm.trans hf) |>.symm
     obtain rfl:fn=Tryz.f3:=(Option.some.inj (Tryz.func3.symm.trans QZ)).symm
     exact ⟨by kernel_rfl,fun j t ht=>by
       rw [Tryz.params3] at ht
       have hm:t∈[22,23]:=by simpa using Array.mem_of_getElem? ht
       have zS:([22,23].all fun u => !Tryz.prog.wantsStandIn u)=true:=by kernel_rfl
       exact (show Tryz.prog.wantsStandIn t=false by simpa using List.all_eq_true.1 zS t hm)⟩)
   (by kernel_rfl)
end Go.Proofs.YtopgddfgefnmbaaGreatDoor

