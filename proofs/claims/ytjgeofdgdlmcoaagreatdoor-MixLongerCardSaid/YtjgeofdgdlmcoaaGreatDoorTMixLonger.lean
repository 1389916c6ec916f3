import Derived.Test.YtjgeofdgdlmcoaaGreatDoorPMixLonger7
import Derived.Test.YtjgeofdgdlmcoaaGreatDoorCards
import Derived.Test.YtjgeofdgdlmcoaaGreatDoorTie
import Derived.SevenTiedAt
import Derived.Test.YtjgeofdgdlmcoaaGreatDoorFMixLonger1
import Derived.Test.YtjgeofdgdlmcoaaGreatDoorFMixLonger2
import Derived.Test.YtjgeofdgdlmcoaaGreatDoorFMixLonger3
set_option linter.unusedVariables false
set_option linter.unusedSimpArgs false
set_option linter.unusedSectionVars false
namespace Go.Proofs.YtjgeofdgdlmcoaaGreatDoor
open Go Go.RK
open Go.RK.Uni (Ty El)
open Go.RK.Byt (bT)
theorem opensT_bytes (w:World):OpensT Tryz.prog w 28 (fun p:Value × List UInt8=>[p.1]) (fun p=>DatV (fzH w.heap) (.row Tm.by) p.2 p.1∧∀ y∈p.2,True) :=
  opensT_row (τ:=Tm.by) (Q:=fun _=>True) Tryz.underlying28 (by kernel_rfl) (by decide) fun H enc base spare held fuel cs x h hz=>by
    obtain ⟨b,rfl,_⟩:=opens_byte Tryz.underlying5 H enc base spare held fuel cs x h hz
    exact ⟨b,fun _=>⟨.cons (.byte b) .nil,trivial⟩⟩
theorem opensT_streams (w:World):OpensT Tryz.prog w 22 (fun p:Value × List Bs=>[p.1]) (fun p=>DatV (fzH w.heap) (.row Tm.bs) p.2 p.1∧∀ y∈p.2,True) :=
  opensT_row (τ:=Tm.bs) (Q:=fun _=>True) Tryz.underlying22 (by kernel_rfl) (by decide) fun H enc base spare held fuel cs x h hz=>by
    obtain ⟨⟨v,l⟩,rfl,hd⟩:=opensT_bytes w H enc base spare held fuel cs x h hz
    exact ⟨l,fun hs=>⟨.cons (hd hs).1 .nil,trivial⟩⟩
theorem opens_mcall (w:World):Opens Tryz.prog w 36 (fun c:MCall=>[.int .i64 c.client,.int .i64 c.index]) (fun c=>(Lit.int .i64 c.index).wf=true):=by
  have h1:=opensF_cons (P:=Tryz.prog) (w:=w) (o:=1) (f:=⟨ "Index", 3,1,false, "", "", 8⟩) rfl (opens_int Tryz.underlying3) (by kernel_rfl) (fun _=>rfl) opensF_nil
  have h2:=opensF_cons (P:=Tryz.prog) (w:=w) (o:=0) (f:=⟨ "Client", 3,0,false, "", "", 0⟩) rfl (opens_int Tryz.underlying3) (by kernel_rfl) (fun _=>rfl) h1
  exact (opens_struct Tryz.underlying36 (by kernel_rfl) h2).map (fun p=>(⟨p.1,p.2.1⟩:MCall)) (fun _=>rfl) (fun _ q=>q.2.1)
theorem opensT_log (w:World):OpensT Tryz.prog w 23 (fun p:Value × List MCall=>[p.1]) (fun p=>DatV (fzH w.heap) (.row Tm.call) p.2 p.1∧∀ y∈p.2,-9223372036854775808≤(y:MCall).index) :=
  opensT_row (τ:=Tm.call) (Q:=fun y:MCall => -9223372036854775808≤y.index) Tryz.underlying23 (by kernel_rfl) (by decide) fun H enc base spare held fuel cs x h hz=>by
    obtain ⟨c,rfl,hq⟩:=opens_mcall w H enc base spare held fuel cs x h hz
    refine ⟨c,fun _=>⟨.cons (.int c.client) (.cons (.int c.index) .nil),?_⟩⟩
    have : -9223372036854775808≤c.index∧c.index≤9223372036854775807:=by simpa [Lit.wf,IntKind.signed,IntKind.bits,IntKind.max,IntKind.min] using hq
    exact this.1
theorem gl_at {W:World} (h:W.cell? ⟨0,0,none⟩=some (.iface 235 (.agg #[.pointer (some ⟨4,153,none⟩)]))):∀ b us,Uni.gl b=some us→∃ us',fzH W.heap b=some us'∧us <+: us':=by
  intro b us e
  have e:(bif Nat.beq b 0 then some [Value.iface 235 (.agg #[.pointer (some ⟨4,153,none⟩)])] else none)=some us:=e
  cases hb:Nat.beq b 0 with
  | false=>rw [hb] at e;cases e
  | true =>
    rw [hb] at e
    have:=Nat.eq_of_beq_eq_true hb
    subst this
    injection e with e
    subst e
    unfold World.cell? at h
    split at h
    · rename_i arr T z hbk
      obtain ⟨us⟩:=arr
      cases us with
      | nil=>cases h
      | cons u us =>
        have h:some u=_:=h
        injection h with h
        subst h
        exact ⟨_,(by unfold fzH;rw [hbk];rfl),us,rfl⟩
    · cases h
theorem law45 {W : World} {v0 v1 : Value} {l0 : List Bs} {l1 : List MCall} {n : Int} (er : W.cell? ⟨0, 0, none⟩ = some (.iface 235 (.agg #[.pointer (some ⟨4, 153, none⟩)])))
    (h0:DatV (fzH W.heap) (.row Tm.bs) l0 v0) (h1:DatV (fzH W.heap) (.row Tm.call) l1 v1) (hi:∀ y∈l1,-9223372036854775808≤(y:MCall).index) (hn:(Lit.int .u8 n).wf=true) :
    CallsH Tryz.prog 3 ⟨[v0,v1,.int .u8 n]⟩ W.heap fun u h'=>u=.bool true∧Ext No W.heap h':=by
  have hb:0≤n∧n≤255:=by simpa [Lit.wf,IntKind.signed,IntKind.bits,IntKind.max,IntKind.min] using hn
  have e:(UInt8.ofNat n.toNat).toNat=n.toNat:=by simp;omega
  have hv:Value.int .u8 n=.int .u8 ((UInt8.ofNat n.toNat).toNat:Int):=by
    rw [e]
    congr 1
    omega
  rw [hv]
  exact calls_base (vs:=[.row Tm.bs l0,.row Tm.call l1,.byte (UInt8.ofNat n.toNat)]) en0 (by kernel_rfl) (c_mixLonger.ok (l0,(l1,(UInt8.ofNat n.toNat,()))) ((true,()),()) (mixLonger_true l0 l1 _ hi)) (.cons (.row h0) (.cons (.row h1) (.cons (.byte _) .nil))) (gl_at er)
namespace LMixLonger
open Go.ChangeShapes Go.WideShapes Go.ChangeAt Go.RowKit
open Go.ChangeMaps (open_string shut_string)
set_option maxRecDepth 100000 in
theorem lifted (os : Os) (started : os.Started) (H : Type) (enc : TypeId × Value → H) :
    ReturnsInHanded {} Tryz.checked os 3 .any (fun w args=>(Rows.mixLongerSpec.pre enc Tryz.prog Tryz.f3 [] false w args∧laidMetH Tryz.prog Rows.mixLongerRow.laid w)∧sizedMet enc Tryz.prog Tryz.f3 (OpenSpec.ofChange Rows.mixLongerSpec) false w args) (Rows.mixLongerSpec.post enc Tryz.prog Tryz.f3 false true false false):=by
  refine returnsInHanded_of_change_and (C:=Tryz.checked) (X:=fun w _=>laidMetH Tryz.prog Rows.mixLongerRow.laid w) (fun _ _ _ hh h=>h.of_heap hh) own started wi0 Tryz.func3
    (ChangeSpec.witness_at (enc:=enc) (C:=Tryz.checked) (os:=os) (X:=fun w _=>laidMetH Tryz.prog Rows.mixLongerRow.laid w) false (laidWorld os) #[.slice none 0 0,.slice none 0 0,.int .u8 0] 8 (laidWorld_os os) (wiA os) (wiB os) (wiC os) (wiD os H enc) (wiE os H enc) (laidWorld_met os _)) ?_
  intro W base args ds gs before hval0 hW hcnd hsz0 hL _
  have hval:∀ (j:Nat) t v,Tryz.f3.params[j]?=some t→args[j]?=some v→Value.okWide Tryz.prog W .any base t v:=hval0
  have hsz:=hsz0
  rw [Tryz.params3] at hsz
  clear hsz0
  have hW':=hW
  obtain ⟨p,q,hA0,hV,rfl,hfz,hnd⟩:=hW
  have hA:DataW.TrodAll enc Tryz.prog W 0 (fun _=>true) true Tryz.f3.params.toList args.toList ds p:=hA0
  rw [Tryz.params3] at hA hval
  obtain ⟨v0,vs0,d0,ds0,p0,q0,hargs,rfl,rfl,h0,r0⟩:=trodAll_cons hA
  obtain ⟨v1,vs1,d1,ds1,p1,q1,rfl,rfl,rfl,h1,r1⟩:=trodAll_cons r0
  obtain ⟨v2,vs2,d2,ds2,p2,q2,rfl,rfl,rfl,h2,r2⟩:=trodAll_cons r1
  obtain ⟨rfl,rfl,rfl⟩:=trodAll_nil r2
  obtain rfl:args=#[v0,v1,v2]:=by cases args;simp_all
  obtain ⟨rfl,rfl⟩:=trodVars_none hV
  have hz0:∀ n∈d0.weights Tryz.prog 22,n≤reachBytes:=fun n hn=>by simpa using List.all_eq_true.1 hsz n (DataW.weights_mem_each (j:=0) rfl rfl n hn)
  have k0:=h0
  have lt0:∀ x∈p0,x.block < W.heap.size:=by obtain ⟨m,hm⟩:=k0;exact DataW.trod_lt m _ _ _ hm
  obtain ⟨A0,n0,c0,rfl⟩:=okWide_slice Tryz.underlying22 (hval 0 22 v0 rfl rfl)
  obtain ⟨fu0,hf0⟩:=h0
  obtain ⟨⟨v0,l0⟩,e0,w0⟩:=opensT_streams W _ _ _ _ _ _ _ _ hf0 hz0
  obtain rfl:.slice A0 n0 c0=v0:=by simpa [Value.cells] using e0
  have hz1:∀ n∈d1.weights Tryz.prog 23,n≤reachBytes:=fun n hn=>by simpa using List.all_eq_true.1 hsz n (DataW.weights_mem_each (j:=1) rfl rfl n hn)
  have k1:=h1
  have lt1:∀ x∈p1,x.block < W.heap.size:=by obtain ⟨m,hm⟩:=k1;exact DataW.trod_lt m _ _ _ hm
  obtain ⟨A1,n1,c1,rfl⟩:=okWide_slice Tryz.underlying23 (hval 1 23 v1 rfl rfl)
  obtain ⟨fu1,hf1⟩:=h1
  obtain ⟨⟨v1,l1⟩,e1,w1⟩:=opensT_log W _ _ _ _ _ _ _ _ hf1 hz1
  obtain rfl:.slice A1 n1 c1=v1:=by simpa [Value.cells] using e1
  have hz2:∀ n∈d2.weights Tryz.prog 5,n≤reachBytes:=fun n hn=>by simpa using List.all_eq_true.1 hsz n (DataW.weights_mem_each (j:=2) rfl rfl n hn)
  have k2:=h2
  have lt2:∀ x∈p2,x.block < W.heap.size:=by obtain ⟨m,hm⟩:=k2;exact DataW.trod_lt m _ _ _ hm
  obtain ⟨a2,rfl,e2,_,w2⟩:=open_int Tryz.underlying5 (hval 2 5 v2 rfl rfl) h2
  clear hA0 hval0
  have er:=er_laid hL
  refine (law_calls (law45 er (w0 rfl).1 (w1 rfl).1 (w1 rfl).2 w2)).mono fun e W' ⟨he,bel⟩=>?_
  subst he
  exact ⟨_,rfl,_,_,_,[],_,[],hW',trodAll_mk1 (shut_bool Tryz.underlying4 _),(trodAll_cons_mk (Below.trod laidOut rr0 ty0 k0 bel lt0) (trodAll_cons_mk (Below.trod laidOut rr1 ty1 k1 bel lt1) (trodAll_cons_mk (Below.trod laidOut rr2 ty2 k2 bel lt2) trodAll_mk0))),rfl,bel.frame _,fun h=>by cases h⟩
theorem closed:joinedFacts Tryz.prog 3 Tryz.f3 Rows.mixLongerSpec Rows.mixLongerRow=true:=by
  unfold joinedFacts
  rw [cl0,cl1,cl2,cl3,cl4,cl5,cl6,cl7]
  kernel_rfl
theorem over:Rows.mixLongerRow.holds Tryz.pinned (OpenSpec.ofChange Rows.mixLongerSpec) :=
  OpenClaim.holds_of_wide 3 Tryz.f3 rfl rfl rfl rfl rfl rfl rfl ⟨rfl,rfl,rfl,rfl,rfl⟩ rfl rfl rfl rfl rfl (by kernel_rfl) Tryz.func3 closed
    (of_decide_eq_true (by kernel_rfl)) (by unfold Func.isWrapper;first | (rw [if_pos (by decide +kernel)];kernel_rfl) | (rw [if_neg (by decide +kernel)];exact ⟨rfl,rfl⟩))
    (fun os started H enc _=>lifted os started H enc)
end LMixLonger
theorem mixLonger_cdg:false=Rows.mixLongerRow.goesBy Tryz.prog:=goesBy_none rfl (by kernel_rfl)
theorem mixLonger_card:Rows.MixLongerCardSaid :=
  Claim7.holds_tied_plain_at .later [] Rows.mixLongerCard.laidKinds true Rows.mixLongerCard.stood.harness true
    LMixLonger.over (fun _ h=>by cases h) mixLonger_cdw (fun _ h=>by cases h) mixLonger_row_tie rfl ⟨rfl,rfl⟩ mixLonger_cdm rfl
    (fun f fn hf hfn=>by
      obtain rfl:f=3:=Option.some.inj (mixLonger_cdf.symm.trans hf) |>.symm
      obtain rfl:fn=Tryz.f3:=(Option.some.inj (Tryz.func3.symm.trans hfn)).symm
      exact ⟨mixLonger_cdk,fun j t ht=>by
        rw [Tryz.params3] at ht
        have hm:t∈[22,23,5]:=by simpa using Array.mem_of_getElem? ht
        exact (show Tryz.prog.wantsStandIn t=false by simpa using List.all_eq_true.1 mixLonger_cda t hm)⟩)
    mixLonger_cdg
end Go.Proofs.YtjgeofdgdlmcoaaGreatDoor
