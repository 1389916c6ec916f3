/-
  SEVERAL TEXTS IN ONE: Port2, Port3, K15, Port4, Port5, FmB, Sx, Hv14, Hv15, Hv16, K25, FltE, Ev, EntO, BkO, BkS, BkR, BkC, EncW, EnR, K27, Sx2, Dx1, Dx2, Dx3.
-/
import Derived.Test.YtopgddfgefnmbaaGreatDoorPSoloPieces2
import Derived.Sort.Grow
import Derived.WideLaws
set_option maxHeartbeats 8000000
set_option maxRecDepth 100000
namespace Go.Proofs.YtopgddfgefnmbaaGreatDoor
open Go Go.RK
structure PD where
 text:List UInt8
 vo:Value
 oids:List Int
 vp:Value
 ps:List aX
 vr:Value
 rs:List Rw
 ran:Bool
 over:Bool
def PD.cells (p:PD):List Value:=[St p.text,p.vo,p.vp,p.vr,.bool p.ran,.bool p.over]
structure PD.ok (h:ah) (p:PD):Prop where
 oids:Rd h p.vo 1 p.oids.length (ints p.oids)
 lo:p.oids.length * 8≤reachBytes
 ps:cF h p.vp p.ps
 rs:j4 h p.vr p.rs
def PD.F (p:PD) (b:Nat):Prop:=(0 < p.oids.length∧p.vo.ownBlock=some b)∨dy p.vp p.ps b∨dN p.vr p.rs b
def PD.pl (p:PD):=(p.text,p.oids,p.ps.map aX.pl,p.rs.map Rw.pl,p.ran,p.over)
theorem PD.ok.ext {h h':ah} {S:Nat→Prop} {p:PD} (k:p.ok h) (a:Ext S h h') (hS:∀ b,p.F b→¬ S b):p.ok h' :=
 ⟨k.oids.ext' a fun b h1 h2=>hS b (.inl ⟨h1,h2⟩),k.lo,k.ps.ext a fun b hb=>hS b (.inr (.inl hb)),k.rs.ext a fun b hb=>hS b (.inr (.inr hb))⟩
theorem PD.ok.lt {h:ah} {p:PD} {b:Nat} (k:p.ok h) (hb:p.F b):b < h.size:=by
 rcases hb with ⟨h1,h2⟩ | hb | hb
 · exact k.oids.lt h1 h2
 · exact k.ps.lt hb
 · exact k.rs.lt hb
theorem CM {h h1 h2 h3 h4 h5 h6 h7 h8 h9:ah} {b1 b2 c3:Nat} {A3:Option Addr} {text:List UInt8} {oids:List Int} {ps l5:List aX} {rs L6:List Rw} {v5 v6:Value} {ran over:Bool} {T0:TypeId}
   (MW:h9[b2]?=some (.cells ⟨[St text,.slice A3 oids.length c3,v5,v6,.bool ran,.bool over]⟩ T0 (0,0)))
   (aP:Ext No h2 h3) (aW:Ext (fun k=>k=b1) h3 h4) (aN:Ext No h4 h5) (aM:Ext No h5 h6) (bh:Ext (fun k=>k=b1) h6 h7) (bD:Ext (fun k=>k=b1) h7 h8) (cg:Ext (fun k=>k=b2) h8 h9) (E4:Ext No h h4)
   (dE:Own h3 (.slice A3 oids.length c3) 3 1 oids.length (ints oids)) (gG:∀ k,(Value.slice A3 oids.length c3).ownBlock=some k→h2.size≤k) (hlo:oids.length * 8≤reachBytes)
   (Jv:cF h5 v5 l5) (J6:l5.map aX.pl=ps.map aX.pl) (gZ:∀ b,dy v5 l5 b→h4.size≤b) (FD:j4 h6 v6 L6) (HU:L6.map Rw.pl=rs.map Rw.pl) (im:∀ b,dN v6 L6 b→h5.size≤b)
   (mw:b1 < h1.size) (HV:b2 < h2.size) (bO:h.size≤b1) (eS:h1.size≤b2) (tQ:h1.size≤h2.size) :
   ∃ p':PD,Value.agg ⟨[St text,.slice A3 oids.length c3,v5,v6,.bool ran,.bool over]⟩=.agg ⟨p'.cells⟩∧p'.ok h9∧p'.pl=(text,oids,ps.map aX.pl,rs.map Rw.pl,ran,over)∧Ext No h h9∧∀ b,p'.F b→h.size≤b:=by
 have s3:=aP.size
 have s4:=aW.size
 have s5:=aN.size
 have LD:Ext (fun b=>b=b1∨b=b2) h6 h9:=((bh.mono fun _ _ e=>.inl e).trans (bD.mono fun _ _ e=>.inl e)).trans (cg.mono fun _ _ e=>.inr e)
 have J7:Ext (fun b=>b=b1∨b=b2) h5 h9:=(aM.mono fun _ _ e=>e.elim).trans LD
 have MX:Ext (fun b=>b=b1∨b=b2) h3 h9:=((aW.mono fun _ _ e=>.inl e).trans (aN.mono fun _ _ e=>e.elim)).trans J7
 have MZ:Ext (fun b=>b=b1∨b=b2) h4 h9:=(aN.mono fun _ _ e=>e.elim).trans J7
 refine ⟨⟨text,.slice A3 oids.length c3,oids,v5,l5,v6,L6,ran,over⟩,rfl,⟨?_,hlo,?_,?_⟩,by simp [PD.pl,J6,HU],E4.trans' MZ fun b hb e=>by omega,?_⟩
 · exact dE.rd.ext' MX fun b _ e eb=>by have:=gG b e;omega
 · exact Jv.ext J7 fun b e eb=>by have:=gZ b e;omega
 · exact FD.ext LD fun b e eb=>by have:=im b e;omega
 · rintro b (⟨_,e⟩ | e | e)
   · have:=gG b e;omega
   · have:=gZ b e;omega
   · have:=im b e;omega
theorem rO {h:ah} (p:PD) (hp:p.ok h) :
   ag Tryz.prog 248 ⟨[.agg ⟨p.cells⟩]⟩ h fun u h'=>∃ p':PD,u=.agg ⟨p'.cells⟩∧p'.ok h'∧p'.pl=p.pl∧Ext No h h'∧∀ b,p'.F b→h.size≤b:=by
 obtain ⟨text,vo,oids,vp,ps,vr,rs,ran,over⟩:=p
 obtain ⟨ho,hlo,hps,hrs⟩:=hp
 simp only at ho hlo hps hrs
 obtain ⟨Ao,co,rfl,_⟩:=id ho
 obtain ⟨_,⟨_,Ap,cp,rfl,_⟩,_⟩:=id hps
 obtain ⟨_,⟨_,Ar,cr,rfl,_⟩,_⟩:=id hrs
 dsimp only [PD.cells]
 refine calls [(0,_)] Tryz.func248 rfl Tryz.ntmps248 rfl ⟨rfl,trivial⟩ ?_
 refine WC.sr ?_;refine WL.ai (aB rfl) rfl rfl rfl ?_
 rintro _ h1 ⟨b1,rfl,bO,aQ,ay⟩
 refine WL.ai (av (fun w=>Tryz.zeroValue273 w)) rfl rfl rfl ?_
 rintro _ h2 ⟨b2,rfl,eS,bH,aH⟩
 have og:=aH.obj aQ aO
 have mw:=aj aQ
 have fO:=ay.trans aH
 refine Gn ?_;refine G2 ?_;refine Ld ?_;refine WL.call (vs:=[_]) rfl Tryz.call206 rfl (ig oids (ho.aq fO) hlo) rfl rfl rfl ?_
 rintro v3 h3 ⟨dE,aP,gG⟩
 obtain ⟨A3,c3,rfl,_⟩:=dE.slice
 have cm:=aP.obj og aO
 refine Go ?_;refine WL.az (aC Tryz.sizeOf39 rfl rfl cm (Nat.le_of_ble_eq_true rfl) rfl rfl) rfl rfl ?_
 rintro _ h4 ⟨bP,aW⟩
 have bP:h4[b1]?=some (.cells ⟨[St text,.slice A3 oids.length c3,.slice Ap ps.length cp,.slice Ar rs.length cr,.bool ran,.bool over]⟩ 273 (0,0)):=bP
 have E4:Ext No h h4:=(fO.trans aP).trans' aW (fun b hb e=>by omega)
 refine Gn ?_;refine Gs [(1,_),(2,_)] ?_;refine WC.seq ?_;refine WC.bW (fun h'=>h'[b1]?=some (.cells ⟨[St text,.slice A3 oids.length c3,.slice Ap ps.length cp,.slice Ar rs.length cr,.bool ran,.bool over]⟩ 273 (0,0))) 7 10 rfl dk ?_
 refine WH.tk 0 rfl (fun hq hC=>ad rfl Tryz.underlying273 rfl Tryz.sizeOf40) rfl rfl rfl ?_
 refine WH.tk 1 rfl (fun hq hC=>aA Tryz.isAgg40 rfl (aa hC rfl)) rfl rfl rfl ?_
 refine WH.tk 3 rfl (fun hq hC=>ad rfl Tryz.underlying273 rfl Tryz.sizeOf271) rfl rfl rfl ?_
 refine WH.tk 4 rfl (fun hq hC=>aA Tryz.isAgg271 rfl (aa hC rfl)) rfl rfl rfl ?_
 refine WH.one 2 (by kernel_rfl) ?_
 refine aE.call (vs:=[_]) rfl rfl Tryz.call279 rfl (rN ps (hps.aq E4)) rfl rfl rfl ?_ (fun _=>by kernel_rfl)
 rintro v5 h5 ⟨l5,Jv,J6,aN,gZ⟩
 refine ⟨fun _=>aN.obj bP aO,?_⟩
 have eI:=aN.obj bP aO
 obtain ⟨A5,c5,rfl⟩:∃ A c,v5=.slice A l5.length c:=(by obtain ⟨_,⟨_,A,c,e,_⟩,_⟩:=Jv;exact ⟨A,c,e⟩)
 refine WH.tk 6 rfl (fun hq hC=>ad rfl Tryz.underlying273 rfl Tryz.sizeOf40) rfl rfl rfl ?_
 refine WH.one 5 (by kernel_rfl) ?_
 refine aE.call (vs:=[_]) rfl rfl Tryz.call257 rfl (ns rs (hrs.aq (E4.trans aN))) rfl rfl rfl ?_ (fun _=>by kernel_rfl)
 rintro v6 h6 ⟨L6,FD,HU,aM,im⟩
 refine ⟨fun _=>aM.obj eI aO,?_⟩
 have fB:=aM.obj eI aO
 obtain ⟨A6,c6,rfl⟩:∃ A c,v6=.slice A L6.length c:=(by obtain ⟨_,⟨_,A,c,e,_⟩,_⟩:=FD;exact ⟨A,c,e⟩)
 refine WH.one 7 (by kernel_rfl) ?_
 refine aE.cQ rfl (aC Tryz.sizeOf40 rfl rfl fB (Nat.le_of_ble_eq_true rfl) rfl rfl) rfl rfl ?_ (fun _=>by kernel_rfl)
 rintro _ h7 ⟨mv,bh⟩
 refine ⟨fun e=>(by cases e),?_⟩
 refine WH.one 8 (by kernel_rfl) ?_
 refine aE.run rfl (bK.r (ad rfl Tryz.underlying273 rfl Tryz.sizeOf271)) rfl rfl rfl ?_ (fun _=>by kernel_rfl)
 rintro _ hz ⟨rfl,_⟩
 subst hz
 refine ⟨fun e=>(by cases e),?_⟩
 refine WH.one 9 (by kernel_rfl) ?_
 refine aE.cQ rfl (aC Tryz.sizeOf271 rfl rfl mv (Nat.le_of_ble_eq_true rfl) rfl rfl) rfl rfl ?_ (fun _=>by kernel_rfl)
 rintro _ h8 ⟨gh,bD⟩
 refine ⟨fun e=>(by cases e),?_⟩
 have HV:=aj bH
 have FE:b2 ≠ b1:=by omega
 have J8:=bD.obj (bh.obj (aM.obj (aN.obj (aW.obj (aP.obj bH aO) FE) aO) aO) FE) FE
 refine WH.done (by kernel_rfl) ?_
 refine Gn ?_;refine Gs [(1,_),(2,_)] ?_;refine WC.sr ?_;refine WL.step (an Tryz.isAgg273 Tryz.sizeOf273 rfl rfl (by exact At.au gh)) rfl rfl rfl ?_
 refine WL.az (al Tryz.sizeOf273 rfl rfl rfl J8 rfl (by simp [Value.oneCell'])) rfl rfl ?_
 rintro _ h9 ⟨bQ,cg⟩
 refine Gn ?_;refine WC.ret ?_
 repeat' (with_reducible first | refine ba ?_ | refine aV ?_)
 refine bY _ ⟨⟨_,rfl,bB Tryz.isAgg273 Tryz.sizeOf273 (by assumption) rfl⟩,trivial⟩ ?_
 exact CM (text:=text) (ran:=ran) (over:=over) bQ aP aW aN aM bh bD cg E4 dE gG hlo Jv J6 gZ FD HU im mw HV bO eS aH.size
theorem ze {h:ah}:ag Tryz.prog 84 ⟨[]⟩ h fun u h'=>∃ b m,u=.pointer (some ⟨b,0,none⟩)∧h'[b]?=some (.cells ⟨[.map (some m)]⟩ 189 (0,0))∧Mp .string St h' m ([]:List (List UInt8 × Value))∧h.size≤b∧h.size≤m∧Ext No h h':=by
 refine calls [] Tryz.func84 rfl Tryz.ntmps84 rfl trivial ?_
 refine G2 ?_;refine WC.sr ?_;refine WL.ai iR rfl rfl rfl ?_
 rintro _ h1 ⟨m1,rfl,hgm,Ck,hxm⟩
 refine WL.step (aD (vs:=[_]) (cs:=[_]) (fun | [a0]=>[a0] | _=>[]) rfl rfl (by kernel_rfl)) rfl rfl rfl ?_
 refine WL.ai (aB rfl) rfl rfl rfl ?_
 rintro _ h2 ⟨b1,rfl,bO,aQ,ay⟩
 refine Go ?_;refine Gt ?_
 exact ⟨_,_,rfl,aQ,⟨_,_,ay.obj Ck id,MapKept.stamped_empty 0,rfl⟩,Nat.le_trans hxm.size bO,hgm,hxm.trans ay⟩
structure P1 (h:ah) (b m p:Nat) (name:List UInt8) (d:PD):Prop where
 set:h[b]?=some (.cells ⟨[.map (some m)]⟩ 189 (0,0))
 map:Mp .string St h m [(name,.pointer (some ⟨p,0,none⟩))]
 bq:h[p]?=some (.cells ⟨d.cells⟩ 273 (0,0))
 ok:d.ok h
 apart:∀ k,d.F k→k ≠ p
theorem fg {h:ah} {d:PD} (k:d.ok h):∀ v∈d.cells,v.oneCell'=true:=by
 obtain ⟨_,_,e1,_⟩:=k.oids
 obtain ⟨_,⟨_,_,_,e2,_⟩,_⟩:=k.ps
 obtain ⟨_,⟨_,_,_,e3,_⟩,_⟩:=k.rs
 intro v hv
 simp only [PD.cells,List.mem_cons,List.not_mem_nil,or_false] at hv
 rcases hv with rfl | rfl | rfl | rfl | rfl | rfl
 · rfl
 · rw [e1];rfl
 · rw [e2];rfl
 · rw [e3];rfl
 · rfl
 · rfl
theorem CN {h:ah} {A:Option Addr} {n c sz:Nat} {xs:List Value} (r:Rd h (.slice A n c) sz n xs):Rd h (.slice A n n) sz n xs:=by
 obtain ⟨A',c',e,_,hl,hp⟩:=r
 simp only [Value.slice.injEq] at e
 obtain ⟨rfl,_,rfl⟩:=e
 exact ⟨A,n,rfl,Nat.le_refl _,hl,hp⟩
theorem zf {h:ah} {A:Option Addr} {c n:Nat} {L:List Rw} (r:j4 h (.slice A L.length c) L) (hn:n≤L.length):j4 h (.slice A n n) (L.take n)∧∀ k,dN (.slice A n n) (L.take n) k→dN (.slice A L.length c) L k:=by
 obtain ⟨r1,⟨r2,A',c',e,hc⟩,r3⟩:=r
 simp only [Value.slice.injEq] at e
 obtain ⟨rfl,_,rfl⟩:=e
 have hl:(L.take n).length=n:=by rw [List.length_take];omega
 have hcn:c ≥ L.length:=by
   obtain ⟨_,_,e,hc,_⟩:=r1
   simp only [Value.slice.injEq] at e
   omega
 refine ⟨⟨?_,⟨by rw [hl];omega,_,_,by rw [hl],by omega⟩,fun q hq=>r3 q (List.mem_of_mem_take hq)⟩,?_⟩
 · have:=CN (r1.take hn)
   rw [Nat.mul_one,← List.map_take] at this
   rw [hl]
   exact this
 · rintro k (⟨h1,h2⟩ | ⟨q,hq,h2⟩)
   · refine .inl ⟨by omega,?_⟩
     cases A with
     | none=>cases h2
     | some a=>exact h2
   · exact .inr ⟨q,List.mem_of_mem_take hq,h2⟩
theorem zg {h:ah} {A:Option Addr} {c n:Nat} {L:List Rw} (r:j4 h (.slice A L.length c) L) (hn:n≤L.length):j4 h (.slice (if c=n then A else A.map (·.add (n * 1))) (L.length - n) (c - n)) (L.drop n)∧∀ k,dN (.slice (if c=n then A else A.map (·.add (n * 1))) (L.length - n) (c - n)) (L.drop n) k→dN (.slice A L.length c) L k:=by
 obtain ⟨r1,⟨r2,A',c',e,hc⟩,r3⟩:=r
 simp only [Value.slice.injEq] at e
 obtain ⟨rfl,_,rfl⟩:=e
 have hl:(L.drop n).length=L.length - n:=List.length_drop
 refine ⟨⟨?_,⟨by rw [hl];omega,_,_,by rw [hl],by omega⟩,fun q hq=>r3 q (List.mem_of_mem_drop hq)⟩,?_⟩
 · have:=r1.drop hn
   rw [Nat.mul_one,← List.map_drop] at this
   rw [hl]
   simpa using this
 · rintro k (⟨h1,h2⟩ | ⟨q,hq,h2⟩)
   · refine .inl ⟨by omega,?_⟩
     obtain ⟨_,_,e,hcn,_⟩:=r1
     simp only [Value.slice.injEq] at e
     rw [if_neg (by omega)] at h2
     cases A with
     | none=>cases h2
     | some a =>
       simp only [Option.map_some,Value.ownBlock,Option.some.injEq] at h2 ⊢
       rw [← h2]
       unfold Addr.add
       split <;> rfl
   · exact .inr ⟨q,List.mem_of_mem_drop hq,h2⟩
def FF:PD:=⟨[],.slice none 0 0,[],.slice none 0 0,[],.slice none 0 0,[],false,false⟩
theorem gN (h:ah) (A:Option Addr):cF h (.slice A 0 0) []:=⟨⟨_,_,rfl,Nat.le_refl _,rfl,fun h=>absurd h (by decide)⟩,⟨by simp,_,_,rfl,by decide⟩,by simp⟩
theorem FG (h:ah):FF.ok h:=⟨Rd.nil _ _,by simp [FF],gN h _,⟨Rd.nil _ _,⟨by simp [FF],_,_,rfl,by decide⟩,by simp [FF]⟩⟩
end Go.Proofs.YtopgddfgefnmbaaGreatDoor
namespace Go.RK
open Go
section
variable {h:ah}
theorem Own.holds {α:Type} [Inhabited α] (enc:α→Value) {w:World} {g n cap:Nat} {e:TypeId} {l:List α} (ho:Own w.heap (.slice (some ⟨g,0,none⟩) n cap) e 1 n (l.map enc)):Go.Sort.Holds enc w g 0 l.toArray:=by
 obtain ⟨hl,⟨hv,_⟩ | ⟨g0,M0,cur,hv,hg,hn,hc,hs,htk⟩⟩:=ho
 · cases hv
 · simp only [Value.slice.injEq,Option.some.injEq,Addr.mk.injEq] at hv
   obtain ⟨⟨rfl,_,_⟩,_,rfl⟩:=hv
   intro j hj
   have hj':j < l.length:=by simpa using hj
   refine ⟨?_,?_⟩
   · rw [mG,cell_of hg,Nat.zero_add]
     have e1:(cur.toList.take (n * 1))[j]?=(l.map enc)[j]?:=by rw [htk]
     have e2:j < n * 1:=by
       have:=congrArg List.length htk
       simp at this hl
       omega
     rw [List.getElem?_take,if_pos e2,List.getElem?_map,List.getElem?_eq_getElem hj'] at e1
     rw [← Array.getElem?_toList,e1]
     simp [hj']
   · unfold World.frozen?
     simp only [hg]
     simp
end
end Go.RK
namespace Go.Proofs.YtopgddfgefnmbaaGreatDoor
open Go Go.RK
structure Pe (h:ah) (b m:Nat) (es:List (List UInt8 × Value)) (p:Nat) (name:List UInt8) (d:PD):Prop where
 set:h[b]?=some (.cells ⟨[.map (some m)]⟩ 189 (0,0))
 map:Mp .string St h m es
 look:cY es name=some (.pointer (some ⟨p,0,none⟩))
 bq:h[p]?=some (.cells ⟨d.cells⟩ 273 (0,0))
 ok:d.ok h
 apart:∀ k,d.F k→k ≠ p
theorem Pe.ne {es:List (List UInt8 × Value)} {h:ah} {b m p:Nat} {name:List UInt8} {d:PD} (r:Pe h b m es p name d):b ≠ p∧m ≠ p:=by
 constructor
 · rintro rfl
   have:=r.set
   rw [r.bq] at this
   simp only [Option.some.injEq,Obj.cells.injEq] at this
   exact absurd this.2.1 (by decide)
 · rintro rfl
   obtain ⟨_,_,e,_⟩:=r.map
   rw [r.bq] at e
   cases e
theorem tR {es:List (List UInt8 × Value)} {h:ah} {b m p:Nat} {name:List UInt8} {d:PD} (r:Pe h b m es p name d) :
   ag Tryz.prog 256 ⟨[.pointer (some ⟨b,0,none⟩),St name]⟩ h fun u h'=>u=.tuple ⟨[.pointer (some ⟨p,0,none⟩),.bool true]⟩∧h'=h:=by
 obtain ⟨hb,hm,hv,_⟩:=r
 refine calls [(0,_),(1,_)] Tryz.func256 rfl Tryz.ntmps256 rfl ⟨rfl,rfl,trivial⟩ ?_
 refine G2 ?_;refine G3 ?_;refine WL.step (eP Tryz.underlying150 rfl rfl) rfl rfl rfl (Go ?_)
 refine bG 10 ?_ TT.mk
 refine Gg ?_;refine WL.step (ae rfl) rfl rfl rfl ?_;refine Gg ?_;refine Ld ?_;refine WL.step (ku Tryz.underlying187 rfl rfl) rfl rfl rfl (Go ?_);refine Gs [(0,_),(1,_),(16,_)] ?_
 refine aJ 1 2 ?_ TT.mk
 all_goals (refine ax 2 ?_)
 refine WC.skip ?_;refine Gn ?_;refine G2 ?_;refine WL.step (ae rfl) rfl rfl rfl (Go ?_);refine Ld ?_;refine Go ?_;refine WL.step ((gI fJ Tryz.underlying187 Tryz.underlying9 rfl rfl (by assumption) (by assumption)).1) rfl rfl rfl (Go ?_)
 refine Gs [(6,_),(7,_)] ?_;refine G2 ?_;refine Gs [(4,_),(5,_)] ?_;refine Gt ?_
 exact ⟨rfl,rfl⟩
theorem HW {es:List (List UInt8 × Value)} {h:ah} {b m p:Nat} {name:List UInt8} {d:PD} {v:Value} (r:Pe h b m es p name d) (L:List Rw) (hd:d.ran=false) (hL:j4 h v L) :
   ag Tryz.prog 216 ⟨[.pointer (some ⟨b,0,none⟩),St name,v]⟩ h fun u h'=>u=.bool true∧∃ v' L',Pe h' b m es p name { d with vr:=v',rs:=L',ran:=true }∧L'.map Rw.pl=L.map Rw.pl∧(∀ k,dN v' L' k→h.size≤k)∧Ext (fun k=>k=p) h h':=by
 have hne:=r.ne
 have hdF:=r.apart
 have hof:=tR r
 obtain ⟨hb,hm,hlk,hp,hok,_⟩:=r
 have hpl:=aj hp
 obtain ⟨text,vo,oids,vp,ps,vr,rs,ran,over⟩:=d
 simp only at hd
 subst hd
 dsimp only [PD.cells] at hp
 refine calls [(0,_),(1,_),(2,_)] Tryz.func216 rfl Tryz.ntmps216 rfl ⟨rfl,rfl,rfl,trivial⟩ ?_
 refine G2 ?_;refine G2 ?_;refine WL.call (vs:=[_,_]) rfl Tryz.call256 rfl (hof) rfl rfl rfl ?_
 rintro _ hz ⟨rfl,_⟩
 subst hz
 refine Go ?_;refine Gs [(2,_),(7,_),(8,_)] ?_;refine G3 ?_
 refine bG 17 ?_ TT.mk
 refine Gg ?_;refine WL.step (ae rfl) rfl rfl rfl ?_;refine Gg ?_;refine Ld ?_;refine Go ?_;refine Gs [(2,_),(7,_),(22,_)] ?_
 refine aJ 1 2 ?_ TT.mk
 all_goals (refine ax 2 ?_)
 refine WC.skip ?_;refine Gn ?_;refine G2 ?_;refine WL.call (vs:=[_]) rfl Tryz.call257 rfl (ns L hL) rfl rfl rfl ?_
 rintro v2 h2 ⟨L2,LF,HX,aH,eN⟩
 obtain ⟨A2,c2,rfl⟩:∃ A c,v2=.slice A L2.length c:=(by obtain ⟨_,⟨_,A,c,e,_⟩,_⟩:=LF;exact ⟨A,c,e⟩)
 refine WL.step (ae rfl) rfl rfl rfl (Go ?_);refine WL.az (aC Tryz.sizeOf4 rfl rfl (aH.obj hp aO) (Nat.le_of_ble_eq_true rfl) rfl rfl) rfl rfl ?_
 rintro _ h3 ⟨bn,aP⟩
 refine WL.step (ae rfl) rfl rfl rfl (Go ?_);refine WL.az (aC Tryz.sizeOf271 rfl rfl bn (Nat.le_of_ble_eq_true rfl) rfl rfl) rfl rfl ?_
 rintro _ h4 ⟨bx,aW⟩
 have HY:=aP.trans aW
 have zh:=(aH.mono (S':=fun k=>k=p) (fun _ _ e=>e.elim)).trans HY
 refine Gn ?_;refine Gs [] ?_;refine G2 ?_;refine Gt ?_
 exact ⟨rfl,_,L2,⟨zh.obj hb hne.1,hm.ext zh hne.2,hlk,bx,⟨hok.oids.ext' zh (fun k h1 h2 e=>hdF k (.inl ⟨h1,h2⟩) e),hok.lo,hok.ps.ext zh (fun k hk e=>hdF k (.inr (.inl hk)) e),LF.ext HY (fun k hk e=>by have:=eN k hk;omega)⟩,fun k hk e=>by rcases hk with hk | hk | hk;exact hdF k (.inl hk) e;exact hdF k (.inr (.inl hk)) e;have:=eN k hk;omega⟩,HX,eN,zh⟩
theorem CO {es:List (List UInt8 × Value)} {h:ah} {b m p:Nat} {name:List UInt8} {d:PD} {v:Value} (r:Pe h b m es p name d) (hd:d.ran=true) :
   ag Tryz.prog 216 ⟨[.pointer (some ⟨b,0,none⟩),St name,v]⟩ h fun u h'=>u=.bool false∧h'=h:=by
 have hof:=tR r
 obtain ⟨hb,hm,hlk,hp,hok,_⟩:=r
 obtain ⟨text,vo,oids,vp,ps,vr,rs,ran,over⟩:=d
 simp only at hd
 subst hd
 dsimp only [PD.cells] at hp
 refine calls [(0,_),(1,_),(2,_)] Tryz.func216 rfl Tryz.ntmps216 rfl ⟨rfl,rfl,rfl,trivial⟩ ?_
 refine G2 ?_;refine G2 ?_;refine WL.call (vs:=[_,_]) rfl Tryz.call256 rfl (hof) rfl rfl rfl ?_
 rintro _ hz ⟨rfl,_⟩
 subst hz
 refine Go ?_;refine Gs [(2,_),(7,_),(8,_)] ?_;refine G3 ?_
 refine bG 17 ?_ TT.mk
 refine Gg ?_;refine WL.step (ae rfl) rfl rfl rfl ?_;refine Gg ?_;refine Ld ?_;refine Go ?_;refine Gs [(2,_),(7,_),(22,_)] ?_
 refine aJ 1 2 ?_ TT.mk
 all_goals (refine ax 1 ?_)
 refine G2 ?_;refine Gt ?_
 exact ⟨rfl,rfl⟩
theorem nu {es:List (List UInt8 × Value)} {h h':ah} {b m p n c0:Nat} {A0:Option Addr} {name text:List UInt8} {vo vp:Value} {oids:List Int} {ps:List aX} {rs:List Rw} (hb:h[b]?=some (.cells ⟨[.map (some m)]⟩ 189 (0,0))) (hm:Mp .string St h m es) (hlk:cY es name=some (.pointer (some ⟨p,0,none⟩))) (hne:b ≠ p∧m ≠ p)
   (hdF:∀ k,PD.F ⟨text,vo,oids,vp,ps,.slice A0 rs.length c0,rs,true,false⟩ k→k ≠ p) (hok:PD.ok h ⟨text,vo,oids,vp,ps,.slice A0 rs.length c0,rs,true,false⟩) (hn:n≤rs.length) (hx:Ext (fun k=>k=p) h h')
   (bx:h'[p]?=some (.cells ⟨[St text,vo,vp,.slice (if c0=n then A0 else A0.map (·.add (n * 1))) (rs.length - n) (c0 - n),.bool true,.bool (decide (((rs.length - n:Nat):Int)=0))]⟩ 273 (0,0))) :
   ∃ wo vr',Value.tuple ⟨[.slice A0 n n,.bool (!decide (((rs.length - n:Nat):Int)=0))]⟩=.tuple ⟨[wo,.bool (!decide (((rs.length - n:Nat):Int)=0))]⟩∧j4 h' wo (rs.take n)∧Pe h' b m es p name ⟨text,vo,oids,vp,ps,vr',rs.drop n,true,decide (((rs.length - n:Nat):Int)=0)⟩∧(∀ k,dN wo (rs.take n) k→dN (.slice A0 rs.length c0) rs k)∧(∀ k,dN vr' (rs.drop n) k→dN (.slice A0 rs.length c0) rs k)∧Ext (fun k=>k=p) h h':=by
 obtain ⟨t1,t2⟩:=zf hok.rs hn
 obtain ⟨d1,d2⟩:=zg hok.rs hn
 refine ⟨_,_,rfl,t1.ext hx fun k hk e=>hdF k (.inr (.inr (t2 k hk))) e,⟨hx.obj hb hne.1,hm.ext hx hne.2,hlk,bx,⟨hok.oids.ext' hx (fun k h1 h2 e=>hdF k (.inl ⟨h1,h2⟩) e),hok.lo,hok.ps.ext hx (fun k hk e=>hdF k (.inr (.inl hk)) e),d1.ext hx fun k hk e=>hdF k (.inr (.inr (d2 k hk))) e⟩,fun k hk e=>?_⟩,t2,d2,hx⟩
 rcases hk with hk | hk | hk
 · exact hdF k (.inl hk) e
 · exact hdF k (.inr (.inl hk)) e
 · exact hdF k (.inr (.inr (d2 k hk))) e
theorem tS {es:List (List UInt8 × Value)} {h:ah} {b m p:Nat} {name:List UInt8} {d:PD} (r:Pe h b m es p name d) (most:Int) (hmo:¬ 0 < most) (hd:d.ran=true) (hv:d.over=false) :
   ag Tryz.prog 219 ⟨[.pointer (some ⟨b,0,none⟩),St name,In most]⟩ h fun u h'=>∃ vo vr',u=.tuple ⟨[vo,.bool (!decide (((d.rs.length - d.rs.length:Nat):Int)=0))]⟩∧j4 h' vo (d.rs.take d.rs.length)∧Pe h' b m es p name { d with vr:=vr',rs:=d.rs.drop d.rs.length,over:=decide (((d.rs.length - d.rs.length:Nat):Int)=0) }∧(∀ k,dN vo (d.rs.take d.rs.length) k→dN d.vr d.rs k)∧(∀ k,dN vr' (d.rs.drop d.rs.length) k→dN d.vr d.rs k)∧Ext (fun k=>k=p) h h':=by
 have hne:=r.ne
 have hdF:=r.apart
 have hof:=tR r
 obtain ⟨hb,hm,hlk,hp,hok,_⟩:=r
 obtain ⟨text,vo,oids,vp,ps,vr,rs,ran,over⟩:=d
 simp only at hd hv
 subst hd
 subst hv
 obtain ⟨A0,c0,rfl,_⟩:∃ A c,vr=.slice A rs.length c∧c≤maxLen:=hok.rs.2.1.2
 dsimp only [PD.cells] at hp
 have hlr:=hok.rs.2.1.1
 simp only at hlr
 unfold reachBytes at hlr
 have hcn:rs.length≤c0:=by
   obtain ⟨A',c',e,hc,_⟩:=hok.rs.1
   simp only [Value.slice.injEq] at e
   obtain ⟨_,_,rfl⟩:=e
   exact hc
 refine calls [(0,_),(1,_),(2,_)] Tryz.func219 rfl Tryz.ntmps219 rfl ⟨rfl,rfl,rfl,trivial⟩ ?_
 refine G2 ?_;refine G2 ?_;refine WL.call (vs:=[_,_]) rfl Tryz.call256 rfl (hof) rfl rfl rfl ?_
 rintro _ hz ⟨rfl,_⟩
 subst hz
 refine Go ?_;refine Gs [(2,_),(8,_),(9,_)] ?_;refine G3 ?_
 refine bG 20 ?_ TT.mk
 refine Gg ?_;refine WL.step (ae rfl) rfl rfl rfl ?_;refine Gg ?_;refine Ld ?_;refine Gg ?_;refine Go ?_
 refine bG 27 ?_ TT.mk
 refine Gg ?_;refine WL.step (ae rfl) rfl rfl rfl ?_;refine Gg ?_;refine Ld ?_;refine Go ?_;refine Gs [(2,_),(8,_),(32,_)] ?_
 refine aJ 1 2 ?_ TT.mk
 all_goals (refine ax 2 ?_)
 refine WC.skip ?_;refine Gn ?_;refine G2 ?_;refine WL.step (ae rfl) rfl rfl rfl (Go ?_);refine Ld ?_;refine Go ?_;refine Gs [(2,_),(8,_),(10,_)] ?_;refine G3 ?_
 refine aJ 3 4 ?_ TT.mk
 all_goals (refine ax 4 ?_)
 refine WC.skip ?_;refine Gn ?_;refine G2 ?_;refine WL.step (ae rfl) rfl rfl rfl (Go ?_);refine Ld ?_;refine Go ?_;refine WL.step (fA Tryz.underlying271 Tryz.sizeOf40 rfl rfl rfl (by omega)) rfl rfl rfl (Go ?_)
 refine Gs [(8,_),(10,_),(11,_)] ?_;refine G2 ?_;refine WL.step (ae rfl) rfl rfl rfl (Go ?_);refine Ld ?_;refine Go ?_;refine WL.step (eQ Tryz.underlying271 Tryz.sizeOf40 rfl rfl (by omega)) rfl rfl rfl ?_
 refine WL.step (ae rfl) rfl rfl rfl (Go ?_);refine WL.az (aC Tryz.sizeOf271 rfl rfl hp (Nat.le_of_ble_eq_true rfl) rfl rfl) rfl rfl ?_
 rintro _ h3 ⟨bn,aP⟩
 refine Gn ?_;refine Gs [(8,_),(11,_)] ?_;refine G2 ?_;refine WL.step (ae rfl) rfl rfl rfl (Go ?_);refine Ld ?_;refine WL.step (cu rfl Tryz.underlying271 rfl) rfl rfl rfl ?_;refine WL.step (mX rfl rfl) rfl rfl rfl ?_;refine WL.step (ae rfl) rfl rfl rfl (Go ?_);refine WL.az (aC Tryz.sizeOf4 rfl rfl bn (Nat.le_of_ble_eq_true rfl) rfl rfl) rfl rfl ?_
 rintro _ h4 ⟨bx,aW⟩
 refine Gn ?_;refine Gs [(8,_),(11,_)] ?_;refine WC.seq ?_;refine WC.fo dk (by kernel_rfl) ?_
 refine WQ.aK (ak rfl) rfl rfl rfl ?_;refine WQ.aK (ak rfl) rfl rfl rfl ?_;refine WQ.aK (ae rfl) rfl rfl rfl ?_;refine WQ.aK (ad rfl Tryz.underlying273 rfl Tryz.sizeOf4) rfl rfl rfl ?_;refine WQ.aK (aA Tryz.isAgg4 rfl (by first | assumption | exact aa (by assumption) rfl)) rfl rfl rfl ?_
 refine WQ.aK (cL rfl) rfl rfl rfl ?_;refine WQ.aK (aR rfl) rfl rfl rfl ?_;refine WQ.aK (aR rfl) rfl rfl rfl ?_;refine WQ.nil ?_;refine Gn ?_;refine Gs [(6,_),(7,_)] ?_;refine Gt ?_
 exact nu (n:=rs.length) hb hm hlk hne hdF hok (by omega) (aP.trans aW) bx
theorem rP {es:List (List UInt8 × Value)} {h:ah} {b m p n:Nat} {name:List UInt8} {d:PD} (r:Pe h b m es p name d) (most:Int) (hmo:0 < most) (hn:min (d.rs.length:Int) most=(n:Int)) (hd:d.ran=true) (hv:d.over=false) :
   ag Tryz.prog 219 ⟨[.pointer (some ⟨b,0,none⟩),St name,In most]⟩ h fun u h'=>∃ vo vr',u=.tuple ⟨[vo,.bool (!decide (((d.rs.length - n:Nat):Int)=0))]⟩∧j4 h' vo (d.rs.take n)∧Pe h' b m es p name { d with vr:=vr',rs:=d.rs.drop n,over:=decide (((d.rs.length - n:Nat):Int)=0) }∧(∀ k,dN vo (d.rs.take n) k→dN d.vr d.rs k)∧(∀ k,dN vr' (d.rs.drop n) k→dN d.vr d.rs k)∧Ext (fun k=>k=p) h h':=by
 have hne:=r.ne
 have hdF:=r.apart
 have hof:=tR r
 obtain ⟨hb,hm,hlk,hp,hok,_⟩:=r
 obtain ⟨text,vo,oids,vp,ps,vr,rs,ran,over⟩:=d
 simp only at hd hv hn
 subst hd
 subst hv
 obtain ⟨A0,c0,rfl,_⟩:∃ A c,vr=.slice A rs.length c∧c≤maxLen:=hok.rs.2.1.2
 dsimp only [PD.cells] at hp
 have hlr:=hok.rs.2.1.1
 simp only at hlr
 unfold reachBytes at hlr
 have hcn:rs.length≤c0:=by
   obtain ⟨A',c',e,hc,_⟩:=hok.rs.1
   simp only [Value.slice.injEq] at e
   obtain ⟨_,_,rfl⟩:=e
   exact hc
 refine calls [(0,_),(1,_),(2,_)] Tryz.func219 rfl Tryz.ntmps219 rfl ⟨rfl,rfl,rfl,trivial⟩ ?_
 refine G2 ?_;refine G2 ?_;refine WL.call (vs:=[_,_]) rfl Tryz.call256 rfl (hof) rfl rfl rfl ?_
 rintro _ hz ⟨rfl,_⟩
 subst hz
 refine Go ?_;refine Gs [(2,_),(8,_),(9,_)] ?_;refine G3 ?_
 refine bG 20 ?_ TT.mk
 refine Gg ?_;refine WL.step (ae rfl) rfl rfl rfl ?_;refine Gg ?_;refine Ld ?_;refine Gg ?_;refine Go ?_
 refine bG 27 ?_ TT.mk
 refine Gg ?_;refine WL.step (ae rfl) rfl rfl rfl ?_;refine Gg ?_;refine Ld ?_;refine Go ?_;refine Gs [(2,_),(8,_),(32,_)] ?_
 refine aJ 1 2 ?_ TT.mk
 all_goals (refine ax 2 ?_)
 refine WC.skip ?_;refine Gn ?_;refine G2 ?_;refine WL.step (ae rfl) rfl rfl rfl (Go ?_);refine Ld ?_;refine Go ?_;refine Gs [(2,_),(8,_),(10,_)] ?_;refine G3 ?_
 refine aJ 3 4 ?_ TT.mk
 all_goals (refine ax 3 ?_)
 refine WC.region (Go ?_);refine WL.step (kE rfl rfl) rfl rfl rfl ?_
 rw [show (if most < (rs.length:Int) then most else (rs.length:Int))=(n:Int) by (split <;> omega)]
 refine Go ?_;refine Gn ?_;refine G2 ?_;refine WL.step (ae rfl) rfl rfl rfl (Go ?_);refine Ld ?_;refine Go ?_;refine WL.step (fA Tryz.underlying271 Tryz.sizeOf40 rfl rfl rfl (by omega)) rfl rfl rfl (Go ?_)
 refine Gs [(8,_),(10,_),(11,_)] ?_;refine G2 ?_;refine WL.step (ae rfl) rfl rfl rfl (Go ?_);refine Ld ?_;refine Go ?_;refine WL.step (eQ Tryz.underlying271 Tryz.sizeOf40 rfl rfl (by omega)) rfl rfl rfl ?_
 refine WL.step (ae rfl) rfl rfl rfl (Go ?_);refine WL.az (aC Tryz.sizeOf271 rfl rfl hp (Nat.le_of_ble_eq_true rfl) rfl rfl) rfl rfl ?_
 rintro _ h3 ⟨bn,aP⟩
 refine Gn ?_;refine Gs [(8,_),(11,_)] ?_;refine G2 ?_;refine WL.step (ae rfl) rfl rfl rfl (Go ?_);refine Ld ?_;refine WL.step (cu rfl Tryz.underlying271 rfl) rfl rfl rfl ?_;refine WL.step (mX rfl rfl) rfl rfl rfl ?_;refine WL.step (ae rfl) rfl rfl rfl (Go ?_);refine WL.az (aC Tryz.sizeOf4 rfl rfl bn (Nat.le_of_ble_eq_true rfl) rfl rfl) rfl rfl ?_
 rintro _ h4 ⟨bx,aW⟩
 refine Gn ?_;refine Gs [(8,_),(11,_)] ?_;refine WC.seq ?_;refine WC.fo dk (by kernel_rfl) ?_
 refine WQ.aK (ak rfl) rfl rfl rfl ?_;refine WQ.aK (ak rfl) rfl rfl rfl ?_;refine WQ.aK (ae rfl) rfl rfl rfl ?_;refine WQ.aK (ad rfl Tryz.underlying273 rfl Tryz.sizeOf4) rfl rfl rfl ?_;refine WQ.aK (aA Tryz.isAgg4 rfl (by first | assumption | exact aa (by assumption) rfl)) rfl rfl rfl ?_
 refine WQ.aK (cL rfl) rfl rfl rfl ?_;refine WQ.aK (aR rfl) rfl rfl rfl ?_;refine WQ.aK (aR rfl) rfl rfl rfl ?_;refine WQ.nil ?_;refine Gn ?_;refine Gs [(6,_),(7,_)] ?_;refine Gt ?_
 exact nu (n:=n) hb hm hlk hne hdF hok (by omega) (aP.trans aW) bx
theorem rQ {es:List (List UInt8 × Value)} {h:ah} {b m p:Nat} {name:List UInt8} {d:PD} (r:Pe h b m es p name d) (most:Int) (hd:d.ran=true) (hv:d.over=true) :
   ag Tryz.prog 219 ⟨[.pointer (some ⟨b,0,none⟩),St name,In most]⟩ h fun u h'=>u=.tuple ⟨[.slice none 0 0,.bool false]⟩∧h'=h:=by
 have hof:=tR r
 obtain ⟨hb,hm,hlk,hp,hok,_⟩:=r
 obtain ⟨text,vo,oids,vp,ps,vr,rs,ran,over⟩:=d
 simp only at hd hv
 subst hd
 subst hv
 dsimp only [PD.cells] at hp
 refine calls [(0,_),(1,_),(2,_)] Tryz.func219 rfl Tryz.ntmps219 rfl ⟨rfl,rfl,rfl,trivial⟩ ?_
 refine G2 ?_;refine G2 ?_;refine WL.call (vs:=[_,_]) rfl Tryz.call256 rfl (hof) rfl rfl rfl ?_
 rintro _ hz ⟨rfl,_⟩
 subst hz
 refine Go ?_;refine Gs [(2,_),(8,_),(9,_)] ?_;refine G3 ?_
 refine bG 20 ?_ TT.mk
 refine Gg ?_;refine WL.step (ae rfl) rfl rfl rfl ?_;refine Gg ?_;refine Ld ?_;refine Gg ?_;refine Go ?_
 refine bG 27 ?_ TT.mk
 refine Gg ?_;refine WL.step (ae rfl) rfl rfl rfl ?_;refine Gg ?_;refine Ld ?_;refine Go ?_;refine Gs [(2,_),(8,_),(32,_)] ?_
 refine aJ 1 2 ?_ TT.mk
 all_goals (refine ax 1 ?_)
 refine G2 ?_;refine Gt ?_
 exact ⟨rfl,rfl⟩
theorem tT {P:Program} {f:Fr} {h:ah} {dd:Option Tmp} {ty:TypeId} {pos:String} {af:Array Edge} {g:Option (Nat × Bool)} {x:Operand} {t kt et:TypeId} {ts:Array TypeId} {κ:Type} {d:TypeDesc} {enc:κ→Value} {m:Nat} {es:List (κ × Value)} (hts:ts=#[t]) (hu:P.underlying t=some (.map kt et)) (hx:f.ev x=some (.map (some m))) (hm:Mp d enc h m es) :
   eO P f ⟨dd,.call { callee:=.builtin .clear,args:=#[x],argTypes:=ts },ty,pos,af,g⟩ h (fun _ h'=>Mp d enc h' m ([]:List (κ × Value))∧Ext (fun b=>b=m) h h'):=fun ρ w ha hw=>by
 subst hts
 subst hw
 obtain ⟨arr,clock,hb,hs,he⟩:=hm
 refine ⟨.tuple #[],{ w with heap:=w.heap.setIfInBounds m (.map #[] clock) },⟨rfl,rfl,rfl,trivial⟩,⟨⟨_,_,dI hb,MapKept.stamped_empty _,rfl⟩,.set _ _ _ rfl⟩,.inl ?_⟩
 simp [execOp,resolve,invoke,builtin,ha _ _ hx,Builtin.clear_,run_underlying hu,MapKept.run_getObj_map hb,MapKept.run_setObj_map _ hb]
section
variable {h:ah} {b m:Nat} {es:List (List UInt8 × Value)}
theorem p4 (name:List UInt8) (hb:h[b]?=some (.cells ⟨[.map (some m)]⟩ 189 (0,0))) (hm:Mp .string St h m es) (hv:cY es name=none) :
   ag Tryz.prog 256 ⟨[.pointer (some ⟨b,0,none⟩),St name]⟩ h fun u h'=>u=.tuple ⟨[.pointer none,.bool false]⟩∧h'=h:=by
 refine calls [(0,_),(1,_)] Tryz.func256 rfl Tryz.ntmps256 rfl ⟨rfl,rfl,trivial⟩ ?_
 refine G2 ?_;refine G3 ?_;refine WL.step (eP Tryz.underlying150 rfl rfl) rfl rfl rfl (Go ?_)
 refine bG 10 ?_ TT.mk
 refine Gg ?_;refine WL.step (ae rfl) rfl rfl rfl ?_;refine Gg ?_;refine Ld ?_;refine WL.step (ku Tryz.underlying187 rfl rfl) rfl rfl rfl (Go ?_);refine Gs [(0,_),(1,_),(16,_)] ?_
 refine aJ 1 2 ?_ TT.mk
 all_goals (refine ax 2 ?_)
 refine WC.skip ?_;refine Gn ?_;refine G2 ?_;refine WL.step (ae rfl) rfl rfl rfl (Go ?_);refine Ld ?_;refine Go ?_;refine WL.step ((du fJ Tryz.underlying187 Tryz.underlying9 (fun w=>Tryz.zeroValue318 w) rfl rfl (by assumption) (by assumption)).1) rfl rfl rfl (Go ?_)
 refine Gs [(6,_),(7,_)] ?_;refine G2 ?_;refine Gs [(4,_),(5,_)] ?_;refine Gt ?_
 exact ⟨rfl,rfl⟩
theorem FH (hb:h[b]?=some (.cells ⟨[.map (some m)]⟩ 189 (0,0))) (hm:Mp .string St h m es):b ≠ m:=by
 rintro rfl
 obtain ⟨_,_,e,_⟩:=hm
 rw [hb] at e
 cases e
theorem HZ (name:List UInt8) (d:PD) (hb:h[b]?=some (.cells ⟨[.map (some m)]⟩ 189 (0,0))) (hm:Mp .string St h m es) (hd:d.ok h) (hn:name=[]∨cY es name=none) :
   ag Tryz.prog 210 ⟨[.pointer (some ⟨b,0,none⟩),St name,.agg ⟨d.cells⟩]⟩ h fun u h'=>u=In 0∧∃ p d',Mp .string St h' m (tf es name (.pointer (some ⟨p,0,none⟩)))∧h'[p]?=some (.cells ⟨PD.cells d'⟩ 273 (0,0))∧d'.ok h'∧d'.pl=d.pl∧h.size≤p∧(∀ k,d'.F k→h.size≤k∧k ≠ p)∧Ext (fun k=>k=m) h h':=by
 have hbm:=FH hb hm
 have hml:=hm.lt
 have hcs:cY es name=none∨∃ v,cY es name=some v∧name=[]:=by
   rcases hv:cY es name with _ | v
   · exact .inl rfl
   · rcases hn with e | e
     · exact .inr ⟨v,rfl,e⟩
     · rw [hv] at e;cases e
 rcases hcs with hv | ⟨v0,hv,rfl⟩
 all_goals
   refine calls [(0,_),(1,_),(2,_)] Tryz.func210 rfl Tryz.ntmps210 rfl ⟨rfl,rfl,rfl,trivial⟩ ?_
   all_goals (refine WC.sr ?_;refine WL.ai (aB rfl) rfl rfl rfl ?_;rintro _ h1 ⟨b5,rfl,pQ,bT,aN⟩;have hb':=aN.obj hb aO;have hm':=hm.ext aN aO;have hd':=hd.ext aN (fun _ _=>aO);refine Go ?_;refine G3 ?_;refine WL.step (eP Tryz.underlying150 rfl rfl) rfl rfl rfl (Go ?_);refine bG 12 ?_ TT.mk;refine Gg ?_;refine WL.step (ae rfl) rfl rfl rfl ?_;refine Gg ?_;refine Ld ?_;refine WL.step (ku Tryz.underlying187 rfl rfl) rfl rfl rfl (Go ?_);refine Gs [(0,_),(1,_),(5,_),(18,_)] ?_;refine aJ 1 2 ?_ TT.mk;refine ax 2 ?_;refine WC.skip ?_;refine Gn ?_;refine G3 ?_;refine WL.step (ae rfl) rfl rfl rfl (Go ?_);refine Ld ?_;refine Go ?_;first | (refine WL.step ((gI fJ Tryz.underlying187 Tryz.underlying9 rfl rfl (by assumption) (by assumption)).1) rfl rfl rfl ?_) | (refine WL.step ((du fJ Tryz.underlying187 Tryz.underlying9 (fun w=>Tryz.zeroValue318 w) rfl rfl (by assumption) (by assumption)).1) rfl rfl rfl ?_))
   all_goals (refine Go ?_;refine Gs [(0,_),(1,_),(5,_),(8,_)] ?_;refine G2 ?_;refine bG 29 ?_ TT.mk;refine Gg ?_;refine Go ?_;refine Gs [(0,_),(1,_),(5,_),(32,_)] ?_;refine aJ 3 4 ?_ TT.mk;refine ax 4 ?_;refine WC.skip ?_;refine Gn ?_;refine WC.sr ?_;refine WL.step (an Tryz.isAgg273 Tryz.sizeOf273 rfl rfl (by exact At.au bT)) rfl rfl rfl ?_;refine WL.call (vs:=[_]) rfl Tryz.call248 rfl (rO d hd') rfl rfl rfl ?_;rintro _ h2 ⟨d2,rfl,iN,kP,aH,eN⟩;refine WL.ai (av (fun w=>Tryz.zeroValue273 w)) rfl rfl rfl ?_;rintro _ h3 ⟨b3,rfl,gb,bn,aP⟩;refine WL.az (al Tryz.sizeOf273 rfl rfl rfl (by assumption) rfl (fg iN)) rfl rfl ?_;rintro _ h4 ⟨bx,aW⟩;have kQ:Ext No h1 h4:=(aH.trans aP).trans' aW (fun k hk e=>by have:=aH.size;omega);have hbb:=kQ.obj hb' aO;have hmm:=hm'.ext kQ aO;refine Gn ?_;refine Gs [(0,_),(1,_),(9,_)] ?_;refine G2 ?_;refine WL.step (ae rfl) rfl rfl rfl (Go ?_);refine Ld ?_;refine Go ?_;refine WL.az (hX fJ Tryz.underlying187 Tryz.underlying9 rfl rfl rfl (by assumption)) rfl rfl ?_;rintro _ h6 ⟨M1,aM⟩;refine Gn ?_;refine Gs [] ?_;refine G2 ?_;refine Gt ?_;exact ⟨rfl,b3,d2,M1,aM.obj bx (fun e=>by have:=aN.size;have:=aH.size;omega),(iN.ext (aP.trans' aW (S:=No) (fun k hk e=>by omega)) (fun _ _=>aO)).ext aM (fun k hk e=>by have:=eN k hk;have:=aN.size;omega),kP,by have:=aN.size;have:=aH.size;omega,fun k hk=>⟨by have:=eN k hk;have:=aN.size;omega,fun e=>by have:=iN.lt hk;omega⟩,(aN.mono (fun _ _ e=>e.elim)).trans ((kQ.mono (fun _ _ e=>e.elim)).trans aM)⟩)
theorem FI (name:List UInt8) (d:PD) (hb:h[b]?=some (.cells ⟨[.map (some m)]⟩ 189 (0,0))) (hm:Mp .string St h m es) {v:Value} (hv:cY es name=some v) (hn:name ≠ []) :
   ag Tryz.prog 210 ⟨[.pointer (some ⟨b,0,none⟩),St name,.agg ⟨d.cells⟩]⟩ h fun u h'=>u=In 8∧Ext No h h':=by
 refine calls [(0,_),(1,_),(2,_)] Tryz.func210 rfl Tryz.ntmps210 rfl ⟨rfl,rfl,rfl,trivial⟩ ?_
 refine WC.sr ?_;refine WL.ai (aB rfl) rfl rfl rfl ?_
 rintro _ h1 ⟨b5,rfl,pQ,bT,aN⟩
 have hb':=aN.obj hb aO
 have hm':=hm.ext aN aO
 refine Go ?_;refine G3 ?_;refine WL.step (eP Tryz.underlying150 rfl rfl) rfl rfl rfl (Go ?_)
 refine bG 12 ?_ TT.mk
 refine Gg ?_;refine WL.step (ae rfl) rfl rfl rfl ?_;refine Gg ?_;refine Ld ?_;refine WL.step (ku Tryz.underlying187 rfl rfl) rfl rfl rfl (Go ?_);refine Gs [(0,_),(1,_),(5,_),(18,_)] ?_
 refine aJ 1 2 ?_ TT.mk
 all_goals (refine ax 2 ?_)
 refine WC.skip ?_;refine Gn ?_;refine G3 ?_;refine WL.step (ae rfl) rfl rfl rfl (Go ?_);refine Ld ?_;refine Go ?_;refine WL.step ((gI fJ Tryz.underlying187 Tryz.underlying9 rfl rfl (by assumption) (by assumption)).1) rfl rfl rfl (Go ?_)
 refine Gs [(0,_),(1,_),(5,_),(8,_)] ?_;refine G2 ?_
 refine bG 29 ?_ TT.mk
 refine Gg ?_;refine Go ?_;refine Gs [(0,_),(1,_),(5,_),(32,_)] ?_
 refine aJ 3 4 ?_ TT.mk
 all_goals (refine ax 3 ?_)
 refine G2 ?_;refine Gs [(6,_)] ?_;refine Gt ?_
 exact ⟨rfl,aN⟩
theorem FJ (name:List UInt8) (hb:h[b]?=some (.cells ⟨[.map (some m)]⟩ 189 (0,0))) (hm:Mp .string St h m es) (hv:cY es name=none) :
   ag Tryz.prog 249 ⟨[.pointer (some ⟨b,0,none⟩),St name]⟩ h fun u h'=>u=.tuple ⟨[.agg ⟨FF.cells⟩,.bool false]⟩∧Ext No h h':=by
 refine calls [(0,_),(1,_)] Tryz.func249 rfl Tryz.ntmps249 rfl ⟨rfl,rfl,trivial⟩ ?_
 refine WC.sr ?_;refine WL.ai (av (fun w=>Tryz.zeroValue273 w)) rfl rfl rfl ?_
 rintro _ h1 ⟨b1,rfl,bO,aQ,ay⟩
 refine Go ?_;refine G2 ?_;refine WL.call (vs:=[_,_]) rfl Tryz.call256 rfl (p4 name (ay.obj hb aO) (hm.ext ay aO) hv) rfl rfl rfl ?_
 rintro _ hz ⟨rfl,_⟩
 subst hz
 refine Go ?_;refine Gs [(4,_),(6,_),(7,_)] ?_;refine G3 ?_
 refine aJ 1 2 ?_ TT.mk
 all_goals (refine ax 1 ?_)
 refine WC.sr ?_;refine WL.step (aD (vs:=[]) (cs:=[_,_,_,_,_,_]) (fun | []=>[(St []),(.slice none 0 0),(.slice none 0 0),(.slice none 0 0),(.bool false),(.bool false)] | _=>[]) rfl rfl (by kernel_rfl)) rfl rfl rfl ?_
 refine WL.az (al Tryz.sizeOf273 rfl rfl rfl aQ rfl (by simp [Value.oneCell'])) rfl rfl ?_
 rintro _ h2 ⟨bH,aH⟩
 refine Go ?_;refine Gs [(4,_),(5,_)] ?_;refine WC.ret ?_
 repeat' (with_reducible first | refine ba ?_ | refine aV ?_)
 refine dY _ _ ⟨⟨_,rfl,bB Tryz.isAgg273 Tryz.sizeOf273 (by assumption) rfl⟩,rfl,trivial⟩ ?_
 exact ⟨rfl,ay.trans' aH (fun k hk e=>by omega)⟩
theorem Pe.aq {h':ah} {p:Nat} {name:List UInt8} {d:PD} (r:Pe h b m es p name d) (a:Ext No h h'):Pe h' b m es p name d :=
 ⟨a.obj r.set aO,r.map.ext a aO,r.look,a.obj r.bq aO,r.ok.ext a (fun _ _=>aO),r.apart⟩
theorem Ey {p:Nat} {name:List UInt8} {d:PD} (r:Pe h b m es p name d) :
   ag Tryz.prog 221 ⟨[.pointer (some ⟨b,0,none⟩),St name]⟩ h fun u h'=>u=.bool true∧Mp .string St h' m (mq es name)∧Ext (fun k=>k=m) h h':=by
 have hb:=r.set
 have hm:=r.map
 refine calls [(0,_),(1,_)] Tryz.func221 rfl Tryz.ntmps221 rfl ⟨rfl,rfl,trivial⟩ ?_
 refine G2 ?_;refine G2 ?_;refine WL.call (vs:=[_,_]) rfl Tryz.call256 rfl (tR r) rfl rfl rfl ?_
 rintro _ hz ⟨rfl,_⟩
 subst hz
 refine Go ?_;refine Gs [(0,_),(1,_),(6,_)] ?_;refine G3 ?_
 refine aJ 1 2 ?_ TT.mk
 all_goals (refine ax 1 ?_)
 refine WC.region (Go ?_);refine WL.step (ae rfl) rfl rfl rfl (Go ?_);refine Ld ?_;refine Go ?_;refine WL.az (fD rfl fJ Tryz.underlying187 Tryz.underlying9 rfl rfl (by assumption)) rfl rfl ?_
 rintro _ h1 ⟨Ck,ay⟩
 refine Gn ?_;refine Gn ?_;refine G2 ?_;refine Gs [(4,_)] ?_;refine Gt ?_
 exact ⟨rfl,Ck,ay⟩
theorem zi (name:List UInt8) (hb:h[b]?=some (.cells ⟨[.map (some m)]⟩ 189 (0,0))) (hm:Mp .string St h m es) (hv:cY es name=none) :
   ag Tryz.prog 221 ⟨[.pointer (some ⟨b,0,none⟩),St name]⟩ h fun u h'=>u=.bool false∧h'=h:=by
 refine calls [(0,_),(1,_)] Tryz.func221 rfl Tryz.ntmps221 rfl ⟨rfl,rfl,trivial⟩ ?_
 refine G2 ?_;refine G2 ?_;refine WL.call (vs:=[_,_]) rfl Tryz.call256 rfl (p4 name hb hm hv) rfl rfl rfl ?_
 rintro _ hz ⟨rfl,_⟩
 subst hz
 refine Go ?_;refine Gs [(0,_),(1,_),(6,_)] ?_;refine G3 ?_
 refine aJ 1 2 ?_ TT.mk
 all_goals (refine ax 2 ?_)
 refine WC.skip ?_;refine Gn ?_;refine G2 ?_;refine Gs [(4,_)] ?_;refine Gt ?_
 exact ⟨rfl,rfl⟩
theorem CP (hb:h[b]?=some (.cells ⟨[.map (some m)]⟩ 189 (0,0))) (hm:Mp .string St h m es) :
   ag Tryz.prog 145 ⟨[.pointer (some ⟨b,0,none⟩)]⟩ h fun u h'=>u=.tuple ⟨[]⟩∧Mp .string St h' m ([]:List (List UInt8 × Value))∧Ext (fun k=>k=m) h h':=by
 refine calls [(0,_)] Tryz.func145 rfl Tryz.ntmps145 rfl ⟨rfl,trivial⟩ ?_
 refine G2 ?_;refine WL.step (dD Tryz.underlying150 rfl rfl) rfl rfl rfl ?_;refine Gn ?_
 refine aJ 1 2 ?_ TT.mk
 all_goals (refine ax 1 ?_)
 refine WC.region (Go ?_);refine WL.step (ae rfl) rfl rfl rfl (Go ?_);refine Ld ?_;refine WL.az (tT rfl Tryz.underlying187 rfl hm) rfl rfl ?_
 rintro _ h1 ⟨Ck,ay⟩
 refine Gn ?_;refine Gn ?_
 refine fa [] trivial ?_
 exact ⟨rfl,Ck,ay⟩
end
structure Fm where
 kind:Int
 what:Int
 name:List UInt8
 portal:List UInt8
 text:List UInt8
 vo:Value
 oids:List Int
 vf:Value
 formats:List Int
 vs:Value
 results:List Int
 vp:Value
 params:List aX
 max:Int
def Fm.cells (b:Fm):List Value:=[.int .u8 b.kind,.int .u8 b.what,St b.name,St b.portal,St b.text,b.vo,b.vf,b.vs,b.vp,In b.max]
theorem Fm.len (b:Fm):b.cells.length=10:=rfl
structure Fm.ok (h:ah) (b:Fm):Prop where
 oids:Rd h b.vo 1 b.oids.length (ints b.oids)∧b.oids.length≤maxLen
 formats:Rd h b.vf 1 b.formats.length (ints b.formats)∧b.formats.length≤maxLen
 results:Rd h b.vs 1 b.results.length (ints b.results)∧b.results.length≤maxLen
 params:cF h b.vp b.params
theorem Fm.ok.aq {h h':ah} {b:Fm} (k:b.ok h) (a:Ext No h h'):b.ok h':=⟨⟨k.1.1.aq a,k.1.2⟩,⟨k.2.1.aq a,k.2.2⟩,⟨k.3.1.aq a,k.3.2⟩,k.4.aq a⟩
theorem Fm.ok.one {h:ah} {e:Fm} (k:e.ok h):∀ v∈e.cells,v.oneCell'=true:=by
 obtain ⟨A1,c1,e1,_⟩:=k.1.1
 obtain ⟨A2,c2,e2,_⟩:=k.2.1
 obtain ⟨A3,c3,e3,_⟩:=k.3.1
 obtain ⟨_,⟨_,A4,c4,e4,_⟩,_⟩:=k.4
 simp [Fm.cells,Value.oneCell',e1,e2,e3,e4]
def Fm.pl (b:Fm):=(b.kind,b.what,b.name,b.portal,b.text,b.oids,b.formats,b.results,b.params.map aX.pl,b.max)
def FK (h:ah) (v:Value) (L:List Fm):Prop:=Rd h v 10 L.length (L.flatMap Fm.cells)∧L.length≤maxLen∧∀ e∈L,e.ok h
theorem FK.aq {h h':ah} {v:Value} {L:List Fm} (k:FK h v L) (a:Ext No h h'):FK h' v L:=⟨k.1.aq a,k.2.1,fun r hr=>(k.2.2 r hr).aq a⟩
theorem FL {n:Int} (h:(Lit.int .u8 n).wf=true):0≤n∧n≤255:=by simpa [Lit.wf,IntKind.min,IntKind.max,IntKind.signed,IntKind.bits] using h
theorem CQ {n:Int} (h:(Lit.int .i64 n).wf=true) : -9223372036854775808≤n∧n≤9223372036854775807:=by simpa [Lit.wf,IntKind.min,IntKind.max,IntKind.signed,IntKind.bits] using h
theorem zj (w:World):dZ Tryz.prog w 42 Fm.cells (fun b=>b.ok w.heap∧(0≤b.kind∧b.kind≤255) ∧ -9223372036854775808≤b.max∧b.max≤9223372036854775807):=by
 have hi:∀ {v:Value} {l:List Int},Rd w.heap v 1 l.length (l.flatMap fun n:Int=>[In n])→Rd w.heap v 1 l.length (ints l):=fun h=>by rwa [rk] at h
 have iD:=cq (P:=Tryz.prog) (w:=w) (o:=9) (f:=⟨ "Max", 3,9,false, "", "", 152⟩) rfl (eF Tryz.underlying3) (by kernel_rfl) (fun _=>rfl) ng
 have h9:=cq (P:=Tryz.prog) (w:=w) (o:=8) (f:=⟨ "Params", 40,8,false, "", "", 128⟩) rfl (rB w) (by kernel_rfl) (fun _=>rfl) iD
 have h8:=cq (P:=Tryz.prog) (w:=w) (o:=7) (f:=⟨ "Results", 39,7,false, "", "", 104⟩) rfl (dR (sz:=1) (F:=fun n:Int=>[In n]) Tryz.underlying39 (by kernel_rfl) (by decide) (fun _=>rfl) (eF Tryz.underlying3)) (by kernel_rfl) (fun _=>rfl) h9
 have h7:=cq (P:=Tryz.prog) (w:=w) (o:=6) (f:=⟨ "Formats", 39,6,false, "", "", 80⟩) rfl (dR (sz:=1) (F:=fun n:Int=>[In n]) Tryz.underlying39 (by kernel_rfl) (by decide) (fun _=>rfl) (eF Tryz.underlying3)) (by kernel_rfl) (fun _=>rfl) h8
 have h6:=cq (P:=Tryz.prog) (w:=w) (o:=5) (f:=⟨ "OIDs", 39,5,false, "", "", 56⟩) rfl (dR (sz:=1) (F:=fun n:Int=>[In n]) Tryz.underlying39 (by kernel_rfl) (by decide) (fun _=>rfl) (eF Tryz.underlying3)) (by kernel_rfl) (fun _=>rfl) h7
 have h5:=cq (P:=Tryz.prog) (w:=w) (o:=4) (f:=⟨ "Text", 9,4,false, "", "", 40⟩) rfl (hY Tryz.underlying9) (by kernel_rfl) (fun _=>rfl) h6
 have h4:=cq (P:=Tryz.prog) (w:=w) (o:=3) (f:=⟨ "Portal", 9,3,false, "", "", 24⟩) rfl (hY Tryz.underlying9) (by kernel_rfl) (fun _=>rfl) h5
 have h3:=cq (P:=Tryz.prog) (w:=w) (o:=2) (f:=⟨ "Name", 9,2,false, "", "", 8⟩) rfl (hY Tryz.underlying9) (by kernel_rfl) (fun _=>rfl) h4
 have h2:=cq (P:=Tryz.prog) (w:=w) (o:=1) (f:=⟨ "What", 5,1,false, "", "", 1⟩) rfl (eF Tryz.underlying5) (by kernel_rfl) (fun _=>rfl) h3
 have h1:=cq (P:=Tryz.prog) (w:=w) (o:=0) (f:=⟨ "Kind", 5,0,false, "", "", 0⟩) rfl (eF Tryz.underlying5) (by kernel_rfl) (fun _=>rfl) h2
 have h0:=kB Tryz.underlying42 (by kernel_rfl) h1
 refine h0.map (fun p=>(⟨p.1,p.2.1,p.2.2.1,p.2.2.2.1,p.2.2.2.2.1,p.2.2.2.2.2.1.1,p.2.2.2.2.2.1.2,p.2.2.2.2.2.2.1.1,p.2.2.2.2.2.2.1.2,p.2.2.2.2.2.2.2.1.1,p.2.2.2.2.2.2.2.1.2,p.2.2.2.2.2.2.2.2.1.1,p.2.2.2.2.2.2.2.2.1.2,p.2.2.2.2.2.2.2.2.2.1⟩:Fm)) (fun _=>rfl) (fun p q=>?_)
 obtain ⟨q1,q2,q3,q4,q5,q6,q7,q8,q9,M3,_⟩:=q
 exact ⟨⟨⟨hi q6.1,q6.2.1⟩,⟨hi q7.1,q7.2.1⟩,⟨hi q8.1,q8.2.1⟩,q9⟩,FL q1,CQ M3⟩
structure Se (h:ah) (bs ms bp mp be me:Nat) (st:Int) (sk ov:Bool) (cnt:Int) (L P R:List (List UInt8 × Value)):Prop where
 bq:h[bs]?=some (.cells ⟨[.map (some ms),.pointer (some ⟨bp,0,none⟩),.pointer (some ⟨be,0,none⟩),.int .u8 st,.bool sk,.bool ov]⟩ 153 (0,0))
 stm:Mp .string St h ms L
 pb:h[bp]?=some (.cells ⟨[.map (some mp)]⟩ 189 (0,0))
 pm:Mp .string St h mp P
 eb:h[be]?=some (.cells ⟨[.map (some me),In cnt]⟩ 104 (0,0))
 em:Mp .string St h me R
 ne:ms ≠ mp∧ms ≠ me∧mp ≠ me
theorem Se.aq {h h':ah} {bs ms bp mp be me:Nat} {st:Int} {sk ov:Bool} {cnt:Int} {L P R:List (List UInt8 × Value)} (k:Se h bs ms bp mp be me st sk ov cnt L P R) (x:Ext No h h'):Se h' bs ms bp mp be me st sk ov cnt L P R :=
 ⟨x.obj k.bq aO,k.stm.ext x aO,x.obj k.pb aO,k.pm.ext x aO,x.obj k.eb aO,k.em.ext x aO,k.ne⟩
def Kf (h h':ah):Prop:=∀ (q:Nat) (cs:Array Value),h[q]?=some (Obj.cells cs 42 (0,0))→h'[q]?=some (Obj.cells cs 42 (0,0))
theorem Kf.trans {h h1 h2:ah} (a:Kf h h1) (b:Kf h1 h2):Kf h h2:=fun q cs hq=>b q cs (a q cs hq)
theorem vE {h:ah}:ag Tryz.prog 24 ⟨[]⟩ h fun u h'=>∃ be me,u=.pointer (some ⟨be,0,none⟩)∧h'[be]?=some (.cells ⟨[.map (some me),In 0]⟩ 104 (0,0))∧Mp .string St h' me ([]:List (List UInt8 × Value))∧h.size≤be∧h.size≤me∧Ext No h h':=by
 refine calls [] Tryz.func24 rfl Tryz.ntmps24 rfl trivial ?_
 refine G2 ?_;refine WC.sr ?_;refine WL.ai iR rfl rfl rfl ?_
 rintro _ h1 ⟨b1,rfl,bO,aQ,ay⟩
 refine WL.step (aD (vs:=[_]) (cs:=[_,_]) (fun | [a0]=>[a0,(.int .i64 0)] | _=>[]) rfl rfl (by kernel_rfl)) rfl rfl rfl ?_
 refine WL.ai (aB rfl) rfl rfl rfl ?_
 rintro _ h2 ⟨b2,rfl,eS,bH,aH⟩
 refine Go ?_;refine Gt ?_
 exact ⟨b2,b1,rfl,bH,⟨_,_,aH.obj aQ id,MapKept.stamped_empty 0,rfl⟩,by have:=ay.size;omega,bO,ay.trans aH⟩
theorem zk {h:ah} (e:Option Addr):ag Tryz.prog 49 ⟨[.pointer e]⟩ h fun u h'=>∃ bs ms bp mp,u=.pointer (some ⟨bs,0,none⟩)∧h'[bs]?=some (.cells ⟨[.map (some ms),.pointer (some ⟨bp,0,none⟩),.pointer e,.int .u8 73,.bool false,.bool false]⟩ 153 (0,0))∧Mp .string St h' ms ([]:List (List UInt8 × Value)) ∧
   h'[bp]?=some (.cells ⟨[.map (some mp)]⟩ 189 (0,0))∧Mp .string St h' mp ([]:List (List UInt8 × Value))∧h.size≤ms∧ms < mp∧h.size≤bp∧h.size≤bs∧Ext No h h':=by
 refine calls [(0,_)] Tryz.func49 rfl Tryz.ntmps49 rfl ⟨rfl,trivial⟩ ?_
 refine G2 ?_;refine WC.sr ?_;refine WL.ai iR rfl rfl rfl ?_
 rintro _ h1 ⟨b1,rfl,bO,aQ,ay⟩
 refine WL.call (vs:=[]) rfl Tryz.call84 rfl (ze) rfl rfl rfl ?_
 rintro _ h2 ⟨bp,mp,rfl,hbp,hmp,hgp,hgm,aH⟩
 refine Go ?_;refine WL.step (aD (vs:=[_,_,_,_]) (cs:=[_,_,_,_,_,_]) (fun | [a0,a1,a2,a3]=>[a0,a1,a2,a3,(.bool false),(.bool false)] | _=>[]) rfl rfl (by kernel_rfl)) rfl rfl rfl ?_
 refine WL.ai (aB rfl) rfl rfl rfl ?_
 rintro _ h3 ⟨b3,rfl,gb,bn,aP⟩
 have l1:=aj aQ
 refine Go ?_;refine Gs [(2,_)] ?_;refine Gt ?_
 exact ⟨b3,b1,bp,mp,rfl,bn,⟨_,_,(aH.trans aP).obj aQ id,MapKept.stamped_empty 0,rfl⟩,aP.obj hbp aO,hmp.ext aP aO,bO,by omega,by have:=ay.size;omega,by have:=ay.size;have:=aH.size;omega,(ay.trans aH).trans aP⟩
section
variable {h:ah} {b:Nat} {m p:Value} {e:Option Addr} {st:Int} {sk ov:Bool}
theorem lC {a:Addr} (hb:h[b]?=some (.cells ⟨[m,p,.pointer (some a),.int .u8 st,.bool sk,.bool ov]⟩ 153 (0,0))):ag Tryz.prog 99 ⟨[.pointer (some ⟨b,0,none⟩)]⟩ h fun u h'=>u=.bool (!ov)∧h'=h:=by
 cases ov
 all_goals
   refine calls [(0,_)] Tryz.func99 rfl Tryz.ntmps99 rfl ⟨rfl,trivial⟩ ?_
   all_goals (refine G2 ?_;refine G2 ?_;refine WL.step (dD Tryz.underlying90 rfl rfl) rfl rfl rfl (Go ?_);refine bG 5 ?_ TT.mk;refine Gg ?_;refine WL.step (ae rfl) rfl rfl rfl ?_;refine Gg ?_;refine Ld ?_;refine WL.step (dD Tryz.underlying46 rfl rfl) rfl rfl rfl (Go ?_);refine bG 12 ?_ TT.mk;refine Gg ?_;refine WL.step (ae rfl) rfl rfl rfl ?_;refine Gg ?_;refine Ld ?_;refine Gg ?_;refine Go ?_;refine Gs [(2,_)] ?_;refine Gt ?_;exact ⟨rfl,rfl⟩)
theorem zl (hb:h[b]?=some (.cells ⟨[m,p,.pointer e,.int .u8 st,.bool sk,.bool ov]⟩ 153 (0,0))):ag Tryz.prog 75 ⟨[.pointer (some ⟨b,0,none⟩)]⟩ h fun u h'=>u=.int .u8 st∧h'=h:=by
 refine calls [(0,_)] Tryz.func75 rfl Tryz.ntmps75 rfl ⟨rfl,trivial⟩ ?_
 refine G2 ?_;refine G3 ?_;refine WL.step (eP Tryz.underlying90 rfl rfl) rfl rfl rfl ?_;refine Gn ?_
 refine aJ 1 2 ?_ TT.mk
 all_goals (refine ax 2 ?_)
 refine WC.skip ?_;refine Gn ?_;refine G2 ?_;refine WL.step (ae rfl) rfl rfl rfl (Go ?_);refine Ld ?_;refine Go ?_;refine Gs [(2,_)] ?_;refine Gt ?_
 exact ⟨rfl,rfl⟩
end
theorem tU {h:ah}:ag Tryz.prog 50 ⟨[.slice none 0 0]⟩ h fun u h'=>u=.slice none 0 0∧h'=h:=by
 refine calls [(0,_)] Tryz.func50 rfl Tryz.ntmps50 rfl ⟨rfl,trivial⟩ ?_
 refine G2 ?_;refine G3 ?_;refine WL.step (cV Tryz.underlying60 rfl rfl) rfl rfl rfl ?_;refine Gn ?_
 refine aJ 1 2 ?_ TT.mk
 all_goals (refine ax 1 ?_)
 refine G2 ?_;refine Gt ?_
 exact ⟨rfl,rfl⟩
theorem mr {k:Int} {v:Value} {xs:List Value} (hv:v.oneCell'=true) (hx:∀ x∈xs,x.oneCell'=true):∀ x∈Value.int .u8 k :: v :: xs,x.oneCell'=true:=fun x h=>by
 simp only [List.mem_cons] at h
 rcases h with rfl | rfl | h
 · rfl
 · exact hv
 · exact hx x h
end Go.Proofs.YtopgddfgefnmbaaGreatDoor
namespace Go.RK
open Go
section
variable {P:Program} {f:Fr} {h:ah} {d:Option Tmp} {ty:TypeId} {pos:String} {af:Array Edge} {g:Option (Nat × Bool)}
theorem rR {t e:TypeId} {x y:Operand} {b o l sz k:Nat} {kd:IntKind} {i:Int} (hu:P.underlying t=some (.array l e)) (hz:∀ w,(sizeOf e).run P w=.ok sz w)
   (hx:f.ev x=some (.pointer (some ⟨b,o,Option.none⟩))) (hy:f.ev y=some (.int kd i)) (hi:i=(k:Int)) (hk:k < l) :
   bK P f ⟨d,.indexAddr t x y,ty,pos,af,g⟩ h (.pointer (some ⟨b,o+k * sz,Option.none⟩)):=fun ρ w ha _=>by
 subst hi
 have h1:(0:Int)≤k∧(k:Int) < l:=⟨by omega,by omega⟩
 have hs:(Instr.sureAddr (.pointer (some ⟨b,o,Option.none⟩))).run P w=.ok ⟨b,o,Option.none⟩ w:=rfl
 simp [execOp,ha _ _ hx,ha _ _ hy,Instr.indexAt,asIntOf,run_underlying hu,h1,hz,hs,hk,Addr.add_lit]
end
end Go.RK
namespace Go.Proofs.YtopgddfgefnmbaaGreatDoor
open Go Go.RK
def j5 (s c x:List UInt8):List aY:=[⟨83,s⟩,⟨86,s⟩,⟨67,c⟩,⟨77,x⟩]
theorem FM {h:ah} (s c x:List UInt8):ag Tryz.prog 89 ⟨[St s,St c,St x]⟩ h fun u h'=>Own h' u 194 2 4 ((j5 s c x).flatMap aY.cells)∧Ext No h h'∧∀ q,u.ownBlock=some q→h.size≤q:=by
 refine calls [(0,_),(1,_),(2,_)] Tryz.func89 rfl Tryz.ntmps89 rfl ⟨rfl,rfl,rfl,trivial⟩ ?_
 refine G2 ?_;refine G2 ?_;refine WL.step (aD (vs:=[_,_,_,_]) (cs:=[_,_,_,_]) (fun | [a0,a1,a2,a3]=>[a0,a1,a2,a3] | _=>[]) rfl rfl (by kernel_rfl)) rfl rfl rfl ?_
 refine WL.ai (av (fun w=>Tryz.zeroValue192 w)) rfl rfl rfl ?_
 rintro _ h1 ⟨b7,rfl,Ez,bZ,ay⟩
 refine WL.az (al Tryz.sizeOf192 rfl rfl rfl bZ rfl (by simp [Value.oneCell'])) rfl rfl ?_
 rintro _ h2 ⟨H0,aH⟩
 refine Gn ?_;refine Gs [(7,_)] ?_;refine G2 ?_;refine WC.seq ?_;refine WC.sr ?_;refine WL.ai (aw (vs:=[_,_,_,_]) (cs:=[_,_,_,_]) (fun | [a0,a1,a2,a3]=>[a0,a1,a2,a3] | _=>[]) Tryz.underlying23 rfl rfl (by kernel_rfl)) rfl rfl rfl ?_
 rintro _ h3 ⟨OC,rfl,M4,fB,aP⟩
 refine WL.ai (fK Tryz.underlying23 Tryz.underlying5 rfl (by assumption)) rfl rfl rfl ?_
 rintro _ h4 ⟨rfl,⟨z4,bx⟩,aW⟩
 have gm:=ay.trans' aH (fun q hq e=>by omega)
 have s2:=gm.size
 have J9:=aW.obj (aP.obj H0 aO) (fun e=>by have:=aj H0;omega)
 have nk:=(gm.trans aP).trans' aW (fun q hq e=>by omega)
 refine Go ?_;refine WC.block ?_;refine WC.bC (X:=Nat × Value) (fun x=>([(19,In (x.1:Int)),(8,x.2)]:Fr)) [(7,_),(17,_),(18,_)] (fun y h'=>y.1≤4∧Own h' y.2 194 2 y.1 (((j5 s c x).take y.1).flatMap aY.cells)∧Ext No h4 h'∧∀ q,y.2.ownBlock=some q→h4.size≤q) (fun y=>4 - y.1) ((0,.slice none 0 0)) ⟨rfl,rfl,rfl,rfl,rfl,trivial⟩ (by exact ⟨by decide,Own.nil _ _ _,.refl _ _,by simp [Value.ownBlock]⟩) ?_
 rintro ⟨k,w⟩ h5 ⟨hk,eG,aN,gZ⟩
 dsimp only at hk eG gZ
 refine WC.sub [(8,_),(19,_),(7,_),(17,_),(18,_)] ⟨rfl,rfl,rfl,rfl,rfl,trivial⟩ ?_
 dsimp only
 refine G2 ?_;refine WC.seq ?_
 refine aJ 1 2 (Hb.mk fun hb=>?_) (Hb.mk fun hb=>?_)
 all_goals try (
 refine ax 1 ?_
 refine WC.skip ?_
 skip)
 all_goals try (
 refine ax 2 ?_
 refine WC.exit ?_
 repeat' (with_reducible first | refine aU ?_ | refine aG rfl ?_ | refine aI ?_ | refine aL ?_ | refine aS ?_)
 refine Br.out (i:=1000) ?_
 skip)
 all_goals (refine Gn ?_;first | refine Br.ab ?_ | refine WC.seq ?_)
 all_goals (first | refine Br.ab ?_ | refine WC.block ?_)
 all_goals (first | refine Br.ab ?_ | refine WC.sr ?_)
 all_goals (
  first
    | (refine Br.ab ?_)
    | (obtain ⟨y,hy⟩:∃ y,(j5 s c x)[k]?=some y:=⟨_,List.getElem?_eq_getElem (by show k < 4;omega)⟩
       have hcode:([.int .u8 83,.int .u8 86,.int .u8 67,.int .u8 77]:List Value)[k]?=some (.int .u8 y.k):=by have:=congrArg (Option.map fun f:aY=>Value.int .u8 f.k) hy;rw [← List.getElem?_map] at this;exact this
       have htext:([St s,St s,St c,St x]:List Value)[k]?=some (St y.t):=by have:=congrArg (Option.map fun f:aY=>St f.t) hy;rw [← List.getElem?_map] at this;exact this
       have tV:=aN.obj bx aO
       have zm:=aN.obj J9 aO))
 all_goals (first | refine Br.ab ?_ | refine WL.step (ak rfl) rfl rfl rfl ?_)
 all_goals (first | refine Br.ab ?_ | (refine WL.step (aF Tryz.underlying23 Tryz.sizeOf5 rfl rfl rfl (by omega) (by first | rfl | assumption)) rfl rfl rfl ?_))
 all_goals (first | refine Br.ab ?_ | (refine WL.ld rfl (by first | exact (At.au tV).get k hcode (by omega) | assumption) rfl rfl rfl ?_))
 all_goals (refine Go ?_;first | refine Br.ab ?_ | refine Gs [(7,_),(8,_),(9,_),(10,_),(17,_),(18,_),(19,_)] ?_)
 all_goals (first | refine Br.ab ?_ | refine WC.region ?_)
 all_goals (refine Go ?_;first | refine Br.ab ?_ | (refine WL.step (rR Tryz.underlying192 Tryz.sizeOf9 rfl rfl rfl (by omega)) rfl rfl rfl ?_))
 all_goals (first | refine Br.ab ?_ | (refine WL.ld rfl (by first | exact (At.au zm).get k htext (by omega) | assumption) rfl rfl rfl ?_))
 all_goals (first | refine Br.ab ?_ | (refine WL.step (aD (vs:=[_,_]) (cs:=[_,_]) (fun | [a0,a1]=>[a0,a1] | _=>[]) rfl rfl (by kernel_rfl)) rfl rfl rfl ?_))
 all_goals (
  first
    | (refine Br.ab ?_)
    | (refine WL.ai (aw (vs:=[_]) (cs:=[_,_]) (fun | [.agg ⟨[a0,a1]⟩]=>[a0,a1] | _=>[]) Tryz.underlying138 rfl rfl (by kernel_rfl)) rfl rfl rfl ?_
       rintro _ h6 ⟨b6,rfl,oG,bN,aM⟩))
 all_goals (
  first
    | (refine Br.ab ?_)
    | (refine WL.ai (aT (sz:=2) (bytes:=24) rfl Tryz.underlying138 (show Tryz.prog.info? 194=some Tryz.t194 by kernel_rfl) rfl rfl rfl rfl (by decide) rfl rfl (eG.ext aM (fun _ _=>aO)) (bz bN rfl) (by simp [Value.oneCell']) (by simp only [maxLen];omega) (by omega)) rfl rfl rfl ?_
       rintro v7 h7 ⟨gM,bh,Eu⟩))
 all_goals (refine Go ?_;first | refine Br.ab ?_ | refine Gs [(7,_),(8,_),(17,_),(18,_),(19,_)] ?_)
 all_goals (first | refine Br.ab ?_ | refine WC.region ?_)
 all_goals (refine Go ?_;first | refine Br.ab ?_ | (exact ⟨(k+1,_),⟨rfl,rfl,rfl,rfl,rfl,trivial⟩,(by exact ⟨by omega,by rw [List.take_add_one,hy,List.flatMap_append];simpa [aY.cells] using gM,(aN.trans aM).trans' bh (fun q hq e=>by have:=gZ q e;omega),bR Eu gZ (by have:=aN.size;have:=aM.size;omega)⟩),(by simp;omega)⟩))
 try (refine Br.mk (i:=1000) ?_)
 refine Gn ?_;refine Gs [(8,_)] ?_;refine G2 ?_;refine Gt ?_
 have M5:k=4:=by omega
 subst M5
 exact ⟨eG,nk.trans aN,fun q hq=>by have:=gZ q hq;have:=nk.size;omega⟩
abbrev jX:Value:=.slice none 0 0
def eB (v:Value):List Value:=[.int .u8 69,.int .u8 0,St [],St [],St [],In 0,In 0,jX,jX,jX,v]
theorem de {h:ah} {T:TypeId} {sz n q:Nat} {v:Value} {xs:List Value} (ho:Own h v T sz n xs) (hq:v.ownBlock=some q):∃ cur,h[q]?=some (.cells cur T (0,0)):=by
 obtain ⟨_,⟨e1,_⟩ | ⟨g,cap,cur,e1,hg,_⟩⟩:=ho
 · rw [e1] at hq;cases hq
 · rw [e1] at hq
   have:g=q:=by simpa [Value.ownBlock] using hq
   exact ⟨cur,this▸hg⟩
theorem vF {h:ah} (c x:List UInt8):ag Tryz.prog 157 ⟨[St c,St x]⟩ h fun u h'=>∃ v,u=.agg ⟨eB v⟩∧Own h' v 194 2 4 ((j5 ([69,82,82,79,82]:List UInt8) c x).flatMap aY.cells)∧Ext No h h'∧∀ q,v.ownBlock=some q→h.size≤q:=by
 have kt:∀ h',ag Tryz.prog 228 ⟨[St ([69,82,82,79,82]:List UInt8),St c,St x]⟩ h' fun u h''=>∃ v,u=.agg ⟨eB v⟩∧Own h'' v 194 2 4 ((j5 ([69,82,82,79,82]:List UInt8) c x).flatMap aY.cells)∧Ext No h' h''∧∀ q,v.ownBlock=some q→h'.size≤q:=fun h'=>by
   refine calls [(0,_),(1,_),(2,_)] Tryz.func228 rfl Tryz.ntmps228 rfl ⟨rfl,rfl,rfl,trivial⟩ ?_
   refine WC.sr ?_;refine WL.ai (av (fun w=>Tryz.zeroValue140 w)) rfl rfl rfl ?_
   rintro _ h1 ⟨b1,rfl,bO,aQ,ay⟩
   refine Gn ?_;refine G2 ?_;refine WL.call (vs:=[_,_,_]) rfl Tryz.call89 rfl (FM ([69,82,82,79,82]:List UInt8) c x) rfl rfl rfl ?_
   rintro v2 h2 ⟨dC,aH,eN⟩
   obtain ⟨A2,c2,rfl,_⟩:=dC.slice
   refine WL.step (aD (vs:=[_,_]) (cs:=[_,_,_,_,_,_,_,_,_,_,_]) (fun | [a0,gd]=>[a0,(.int .u8 0),(St []),(St []),(St []),(.int .i64 0),(.int .i64 0),(.slice none 0 0),(.slice none 0 0),(.slice none 0 0),gd] | _=>[]) rfl rfl (by kernel_rfl)) rfl rfl rfl ?_
   refine WL.az (al Tryz.sizeOf140 rfl rfl rfl (aH.obj aQ aO) rfl (by simp [Value.oneCell'])) rfl rfl ?_
   rintro _ h3 ⟨bn,aP⟩
   refine Gn ?_;refine Gs [(6,_)] ?_;refine WC.ret ?_
   repeat' (with_reducible first | refine ba ?_ | refine aV ?_)
   refine bY _ ⟨⟨_,rfl,bB Tryz.isAgg140 Tryz.sizeOf140 bn rfl⟩,trivial⟩ ?_
   exact ⟨_,rfl,dC.ext aP (fun q hq e=>by obtain ⟨_,z⟩:=de dC hq;rw [e,aH.obj aQ aO] at z;simp at z),(ay.trans aH).trans' aP (fun q hq e=>by omega),fun q hq=>by have:=eN q hq;have:=ay.size;omega⟩
 refine calls [(0,_),(1,_)] Tryz.func157 rfl Tryz.ntmps157 rfl ⟨rfl,rfl,trivial⟩ ?_
 refine WC.sr ?_;refine WL.ai (av (fun w=>Tryz.zeroValue140 w)) rfl rfl rfl ?_
 rintro _ h1 ⟨b1,rfl,bO,aQ,ay⟩
 refine Gn ?_;refine G2 ?_;refine WL.call (vs:=[_,_,_]) rfl Tryz.call228 rfl (kt _) rfl rfl rfl ?_
 rintro _ h2 ⟨v2,rfl,dC,aH,eN⟩
 obtain ⟨A2,c2,rfl,_⟩:=dC.slice
 refine WL.az (al Tryz.sizeOf140 rfl rfl rfl (aH.obj aQ aO) rfl (by simp [eB,Value.oneCell'])) rfl rfl ?_
 rintro _ h3 ⟨bn,aP⟩
 refine Gn ?_;refine Gs [(4,_)] ?_;refine WC.ret ?_
 repeat' (with_reducible first | refine ba ?_ | refine aV ?_)
 refine bY _ ⟨⟨_,rfl,bB Tryz.isAgg140 Tryz.sizeOf140 bn rfl⟩,trivial⟩ ?_
 exact ⟨_,rfl,dC.ext aP (fun q hq e=>by obtain ⟨_,z⟩:=de dC hq;rw [e,aH.obj aQ aO] at z;simp at z),(ay.trans aH).trans' aP (fun q hq e=>by omega),fun q hq=>by have:=eN q hq;have:=ay.size;omega⟩
theorem kR {α : Type} (p : α → Bool) (l : List α) : (!l.any fun x => !p x) = l.all p := by
 induction l with
 | nil => rfl
 | cons a l ih => rw [List.any_cons, List.all_cons, ← ih]; cases p a <;> simp
theorem rS {h : ah} {b : Nat} {t : TypeId} (x : b0) (p : b0 → Bool) {fk : Nat} (hcf : ∀ (args : Array Value) (w : World), (callFunc fk args).run Tryz.prog w = .ok (.enter fk args) w) (hb : h[b]? = some (.cells ⟨[.func (.func fk) ⟨[]⟩ ⟨[]⟩]⟩ t (0, 0)))
   (hp : ∀ h', Ext No h h' → ag Tryz.prog fk ⟨[.agg ⟨b0.cells x⟩]⟩ h' fun u h'' => u = .bool (p x) ∧ Ext No h' h'') :
   ag Tryz.prog 233 ⟨[.agg ⟨b0.cells x⟩, .pointer (some ⟨b, 0, none⟩)]⟩ h fun u h' => u = .bool (!p x) ∧ Ext No h h' := by
 refine calls [(0, _), (1, _)] Tryz.func233 rfl Tryz.ntmps233 rfl ⟨rfl, rfl, trivial⟩ ?_
 refine WC.sr ?_; refine WL.ai (aB rfl) rfl rfl rfl ?_
 rintro _ h1 ⟨b1, rfl, bO, aQ, ay⟩
 refine Go ?_; refine WC.sr ?_; refine WL.ld rfl (by first | exact aa (ay.obj hb aO) rfl | assumption) rfl rfl rfl ?_
 refine WL.step (an Tryz.isAgg212 Tryz.sizeOf212 rfl rfl (by exact At.au aQ)) rfl rfl rfl ?_
 refine WL.dT (vs := [_]) rfl rfl hcf rfl (hp _ ay) rfl rfl rfl ?_
 rintro _ h2 ⟨rfl, aH⟩
 refine Go ?_; refine Gs [(3, _)] ?_; refine Gt ?_
 exact ⟨rfl, ay.trans aH⟩
theorem tW {h : ah} {v : Value} (l : List b0) (p : b0 → Bool) (hr : Rd h v 7 l.length (l.flatMap b0.cells)) (hl : l.length ≤ 65535) {fk : Nat} (hcf : ∀ (args : Array Value) (w : World), (callFunc fk args).run Tryz.prog w = .ok (.enter fk args) w)
   (hp : ∀ x ∈ l, ∀ h', Ext No h h' → ag Tryz.prog fk ⟨[.agg ⟨b0.cells x⟩]⟩ h' fun u h'' => u = .bool (p x) ∧ Ext No h' h'') :
   ag Tryz.prog 192 ⟨[v, .func (.func fk) ⟨[]⟩ ⟨[]⟩]⟩ h fun u h' => u = .bool (l.all p) ∧ Ext No h h' := by
 have hcon : ∀ {h' : ah} {b : Nat} {t : TypeId}, Ext No h h' → h'[b]? = some (.cells ⟨[.func (.func fk) ⟨[]⟩ ⟨[]⟩]⟩ t (0, 0)) → ag Tryz.prog 232 ⟨[v, .func (.func 233) ⟨[]⟩ ⟨[.pointer (some ⟨b, 0, none⟩)]⟩]⟩ h' fun u h'' => u = .bool (l.any fun x => !p x) ∧ Ext No h' h'' := by
   intro h' b t hx hb
   refine calls [(0, _), (1, _)] Tryz.func232 rfl Tryz.ntmps232 rfl ⟨rfl, rfl, trivial⟩ ?_
   refine G2 ?_; refine G2 ?_; refine WL.call (vs := [_, _]) rfl Tryz.call269 rfl (jJ l (fun x => !p x) Tryz.call233 (fs := []) (us := [.pointer (some ⟨b, 0, none⟩)]) (hr.aq hx) (by unfold maxLen; omega) (fun x hxl h2 aH => rS x p hcf (aH.obj hb aO) (fun h3 aP => hp x hxl h3 ((hx.trans aH).trans aP)))) rfl rfl rfl ?_
   rintro _ h1 ⟨rfl, ay⟩
   refine WL.step (dm rfl rfl) rfl rfl rfl (Go ?_); refine Gs [(4, _)] ?_; refine Gt ?_
   exact ⟨by rw [ee], ay⟩
 obtain ⟨A, c, rfl, _⟩ := id hr
 refine calls [(0, _), (1, _)] Tryz.func192 rfl Tryz.ntmps192 rfl ⟨rfl, rfl, trivial⟩ ?_
 refine WC.sr ?_; refine WL.ai (aB rfl) rfl rfl rfl ?_
 rintro _ h1 ⟨b1, rfl, bO, aQ, ay⟩
 refine Go ?_; refine G2 ?_
 refine bG 8 ?_ TT.mk
 refine Gg ?_; refine WL.step (cO (vs := []) (us := [_]) rfl rfl) rfl rfl rfl ?_; refine WL.call (vs := [_, _]) rfl Tryz.call232 rfl (hcon ay aQ) rfl rfl rfl ?_
 rintro _ h2 ⟨rfl, aH⟩
 refine Gg ?_; refine Go ?_; refine Gs [(4, _)] ?_; refine Gt ?_
 exact ⟨by rw [← kR], ay.trans aH⟩
theorem rT {h : ah} {b : Nat} {t : TypeId} (x : aY) (p : aY → Bool) {fk : Nat} (hcf : ∀ (args : Array Value) (w : World), (callFunc fk args).run Tryz.prog w = .ok (.enter fk args) w) (hb : h[b]? = some (.cells ⟨[.func (.func fk) ⟨[]⟩ ⟨[]⟩]⟩ t (0, 0)))
   (hp : ∀ h', Ext No h h' → ag Tryz.prog fk ⟨[.agg ⟨aY.cells x⟩]⟩ h' fun u h'' => u = .bool (p x) ∧ Ext No h' h'') :
   ag Tryz.prog 236 ⟨[.agg ⟨aY.cells x⟩, .pointer (some ⟨b, 0, none⟩)]⟩ h fun u h' => u = .bool (!p x) ∧ Ext No h h' := by
 refine calls [(0, _), (1, _)] Tryz.func236 rfl Tryz.ntmps236 rfl ⟨rfl, rfl, trivial⟩ ?_
 refine WC.sr ?_; refine WL.ai (aB rfl) rfl rfl rfl ?_
 rintro _ h1 ⟨b1, rfl, bO, aQ, ay⟩
 refine Go ?_; refine WC.sr ?_; refine WL.ld rfl (by first | exact aa (ay.obj hb aO) rfl | assumption) rfl rfl rfl ?_
 refine WL.step (an Tryz.isAgg194 Tryz.sizeOf194 rfl rfl (by exact At.au aQ)) rfl rfl rfl ?_
 refine WL.dT (vs := [_]) rfl rfl hcf rfl (hp _ ay) rfl rfl rfl ?_
 rintro _ h2 ⟨rfl, aH⟩
 refine Go ?_; refine Gs [(3, _)] ?_; refine Gt ?_
 exact ⟨rfl, ay.trans aH⟩
theorem tX {h : ah} {v : Value} (l : List aY) (p : aY → Bool) (hr : Rd h v 2 l.length (l.flatMap aY.cells)) (hl : l.length ≤ 65535) {fk : Nat} (hcf : ∀ (args : Array Value) (w : World), (callFunc fk args).run Tryz.prog w = .ok (.enter fk args) w)
   (hp : ∀ x ∈ l, ∀ h', Ext No h h' → ag Tryz.prog fk ⟨[.agg ⟨aY.cells x⟩]⟩ h' fun u h'' => u = .bool (p x) ∧ Ext No h' h'') :
   ag Tryz.prog 194 ⟨[v, .func (.func fk) ⟨[]⟩ ⟨[]⟩]⟩ h fun u h' => u = .bool (l.all p) ∧ Ext No h h' := by
 have hcon : ∀ {h' : ah} {b : Nat} {t : TypeId}, Ext No h h' → h'[b]? = some (.cells ⟨[.func (.func fk) ⟨[]⟩ ⟨[]⟩]⟩ t (0, 0)) → ag Tryz.prog 235 ⟨[v, .func (.func 236) ⟨[]⟩ ⟨[.pointer (some ⟨b, 0, none⟩)]⟩]⟩ h' fun u h'' => u = .bool (l.any fun x => !p x) ∧ Ext No h' h'' := by
   intro h' b t hx hb
   refine calls [(0, _), (1, _)] Tryz.func235 rfl Tryz.ntmps235 rfl ⟨rfl, rfl, trivial⟩ ?_
   refine G2 ?_; refine G2 ?_; refine WL.call (vs := [_, _]) rfl Tryz.call272 rfl (jK l (fun x => !p x) Tryz.call236 (fs := []) (us := [.pointer (some ⟨b, 0, none⟩)]) (hr.aq hx) (by unfold maxLen; omega) (fun x hxl h2 aH => rT x p hcf (aH.obj hb aO) (fun h3 aP => hp x hxl h3 ((hx.trans aH).trans aP)))) rfl rfl rfl ?_
   rintro _ h1 ⟨rfl, ay⟩
   refine WL.step (dm rfl rfl) rfl rfl rfl (Go ?_); refine Gs [(4, _)] ?_; refine Gt ?_
   exact ⟨by rw [ee], ay⟩
 obtain ⟨A, c, rfl, _⟩ := id hr
 refine calls [(0, _), (1, _)] Tryz.func194 rfl Tryz.ntmps194 rfl ⟨rfl, rfl, trivial⟩ ?_
 refine WC.sr ?_; refine WL.ai (aB rfl) rfl rfl rfl ?_
 rintro _ h1 ⟨b1, rfl, bO, aQ, ay⟩
 refine Go ?_; refine G2 ?_
 refine bG 8 ?_ TT.mk
 refine Gg ?_; refine WL.step (cO (vs := []) (us := [_]) rfl rfl) rfl rfl rfl ?_; refine WL.call (vs := [_, _]) rfl Tryz.call235 rfl (hcon ay aQ) rfl rfl rfl ?_
 rintro _ h2 ⟨rfl, aH⟩
 refine Gg ?_; refine Go ?_; refine Gs [(4, _)] ?_; refine Gt ?_
 exact ⟨by rw [← kR], ay.trans aH⟩
theorem rU {h : ah} {b : Nat} {t : TypeId} (x : aX) (p : aX → Bool) {fk : Nat} (hcf : ∀ (args : Array Value) (w : World), (callFunc fk args).run Tryz.prog w = .ok (.enter fk args) w) (hb : h[b]? = some (.cells ⟨[.func (.func fk) ⟨[]⟩ ⟨[]⟩]⟩ t (0, 0)))
   (hp : ∀ h', Ext No h h' → ag Tryz.prog fk ⟨[.agg ⟨aX.cells x⟩]⟩ h' fun u h'' => u = .bool (p x) ∧ Ext No h' h'') :
   ag Tryz.prog 237 ⟨[.agg ⟨aX.cells x⟩, .pointer (some ⟨b, 0, none⟩)]⟩ h fun u h' => u = .bool (!p x) ∧ Ext No h h' := by
 refine calls [(0, _), (1, _)] Tryz.func237 rfl Tryz.ntmps237 rfl ⟨rfl, rfl, trivial⟩ ?_
 refine WC.sr ?_; refine WL.ai (aB rfl) rfl rfl rfl ?_
 rintro _ h1 ⟨b1, rfl, bO, aQ, ay⟩
 refine Go ?_; refine WC.sr ?_; refine WL.ld rfl (by first | exact aa (ay.obj hb aO) rfl | assumption) rfl rfl rfl ?_
 refine WL.step (an Tryz.isAgg85 Tryz.sizeOf85 rfl rfl (by exact At.au aQ)) rfl rfl rfl ?_
 refine WL.dT (vs := [_]) rfl rfl hcf rfl (hp _ ay) rfl rfl rfl ?_
 rintro _ h2 ⟨rfl, aH⟩
 refine Go ?_; refine Gs [(3, _)] ?_; refine Gt ?_
 exact ⟨rfl, ay.trans aH⟩
theorem tY {h : ah} {v : Value} (l : List aX) (p : aX → Bool) (hr : Rd h v 2 l.length (l.flatMap aX.cells)) (hl : l.length ≤ 65535) {fk : Nat} (hcf : ∀ (args : Array Value) (w : World), (callFunc fk args).run Tryz.prog w = .ok (.enter fk args) w)
   (hp : ∀ x ∈ l, ∀ h', Ext No h h' → ag Tryz.prog fk ⟨[.agg ⟨aX.cells x⟩]⟩ h' fun u h'' => u = .bool (p x) ∧ Ext No h' h'') :
   ag Tryz.prog 196 ⟨[v, .func (.func fk) ⟨[]⟩ ⟨[]⟩]⟩ h fun u h' => u = .bool (l.all p) ∧ Ext No h h' := by
 have hcon : ∀ {h' : ah} {b : Nat} {t : TypeId}, Ext No h h' → h'[b]? = some (.cells ⟨[.func (.func fk) ⟨[]⟩ ⟨[]⟩]⟩ t (0, 0)) → ag Tryz.prog 46 ⟨[v, .func (.func 237) ⟨[]⟩ ⟨[.pointer (some ⟨b, 0, none⟩)]⟩]⟩ h' fun u h'' => u = .bool (l.any fun x => !p x) ∧ Ext No h' h'' := by
   intro h' b t hx hb
   refine calls [(0, _), (1, _)] Tryz.func46 rfl Tryz.ntmps46 rfl ⟨rfl, rfl, trivial⟩ ?_
   refine G2 ?_; refine G2 ?_; refine WL.call (vs := [_, _]) rfl Tryz.call83 rfl (gD l (fun x => !p x) Tryz.call237 (fs := []) (us := [.pointer (some ⟨b, 0, none⟩)]) (hr.aq hx) (by unfold maxLen; omega) (fun x hxl h2 aH => rU x p hcf (aH.obj hb aO) (fun h3 aP => hp x hxl h3 ((hx.trans aH).trans aP)))) rfl rfl rfl ?_
   rintro _ h1 ⟨rfl, ay⟩
   refine WL.step (dm rfl rfl) rfl rfl rfl (Go ?_); refine Gs [(4, _)] ?_; refine Gt ?_
   exact ⟨by rw [ee], ay⟩
 obtain ⟨A, c, rfl, _⟩ := id hr
 refine calls [(0, _), (1, _)] Tryz.func196 rfl Tryz.ntmps196 rfl ⟨rfl, rfl, trivial⟩ ?_
 refine WC.sr ?_; refine WL.ai (aB rfl) rfl rfl rfl ?_
 rintro _ h1 ⟨b1, rfl, bO, aQ, ay⟩
 refine Go ?_; refine G2 ?_
 refine bG 8 ?_ TT.mk
 refine Gg ?_; refine WL.step (cO (vs := []) (us := [_]) rfl rfl) rfl rfl rfl ?_; refine WL.call (vs := [_, _]) rfl Tryz.call46 rfl (hcon ay aQ) rfl rfl rfl ?_
 rintro _ h2 ⟨rfl, aH⟩
 refine Gg ?_; refine Go ?_; refine Gs [(4, _)] ?_; refine Gt ?_
 exact ⟨by rw [← kR], ay.trans aH⟩
theorem vG {h : ah} {v : Value} (l : List aX) (p : aX → Bool) {fk : Nat} {fs us : List Value} (hcf : ∀ (args : Array Value) (w : World), (callFunc fk args).run Tryz.prog w = .ok (.enter fk args) w) (hr : Rd h v 2 l.length (l.flatMap aX.cells)) (hm : l.length ≤ maxLen)
   (hp : ∀ x ∈ l, ∀ h', Ext No h h' → ag Tryz.prog fk ⟨fs ++ [.agg ⟨aX.cells x⟩] ++ us⟩ h' fun u h'' => u = .bool (p x) ∧ Ext No h' h'') :
   ag Tryz.prog 46 ⟨[v, .func (.func fk) ⟨fs⟩ ⟨us⟩]⟩ h fun u h' => u = .bool (l.any p) ∧ Ext No h h' := by
 refine calls [(0, _), (1, _)] Tryz.func46 rfl Tryz.ntmps46 rfl ⟨rfl, rfl, trivial⟩ ?_
 refine G2 ?_; refine G2 ?_; refine WL.call (vs := [_, _]) rfl Tryz.call83 rfl (gD l p hcf hr hm hp) rfl rfl rfl ?_
 rintro _ h1 ⟨rfl, ay⟩
 refine WL.step (dm rfl rfl) rfl rfl rfl (Go ?_); refine Gs [(4, _)] ?_; refine Gt ?_
 exact ⟨by rw [ee], ay⟩
theorem CR {h : ah} {v : Value} (l : List eg) (p : eg → Bool) {fk : Nat} {fs us : List Value} (hcf : ∀ (args : Array Value) (w : World), (callFunc fk args).run Tryz.prog w = .ok (.enter fk args) w) (hr : Rd h v 3 l.length (l.flatMap eg.cells)) (hm : l.length ≤ maxLen)
   (hp : ∀ x ∈ l, ∀ h', Ext No h h' → ag Tryz.prog fk ⟨fs ++ [.agg ⟨eg.cells x⟩] ++ us⟩ h' fun u h'' => u = .bool (p x) ∧ Ext No h' h'') :
   ag Tryz.prog 270 ⟨[v, .func (.func fk) ⟨fs⟩ ⟨us⟩]⟩ h fun u h' => u = .bool (l.any p) ∧ Ext No h h' := by
 refine calls [(0, _), (1, _)] Tryz.func270 rfl Tryz.ntmps270 rfl ⟨rfl, rfl, trivial⟩ ?_
 refine G2 ?_; refine G2 ?_; refine WL.call (vs := [_, _]) rfl Tryz.call300 rfl (jI l p hcf hr hm hp) rfl rfl rfl ?_
 rintro _ h1 ⟨rfl, ay⟩
 refine WL.step (dm rfl rfl) rfl rfl rfl (Go ?_); refine Gs [(4, _)] ?_; refine Gt ?_
 exact ⟨by rw [ee], ay⟩
def eg.okB (b : eg) : Bool := decide (b.lo ≤ b.n) && decide (b.n ≤ b.hi)
theorem zn {h : ah} (b : eg) : ag Tryz.prog 271 ⟨[.agg ⟨b.cells⟩]⟩ h fun u h' => u = .bool (!b.okB) ∧ Ext No h h' := by
 obtain ⟨n, lo, hi⟩ := b
 dsimp only [eg.cells, eg.okB]
 refine calls [(0, _)] Tryz.func271 rfl Tryz.ntmps271 rfl ⟨rfl, trivial⟩ ?_
 refine WC.sr ?_; refine WL.ai (aB rfl) rfl rfl rfl ?_
 rintro _ h3 ⟨b3, rfl, gb, bn, aP⟩
 refine Go ?_; refine G2 ?_; refine Ld ?_; refine Go ?_; refine Ld ?_; refine Go ?_
 refine bG 8 (Hb.mk fun hb => ?_) (Hb.mk fun hb => ?_)
 all_goals (refine Gg ?_; first | refine WL.pass rfl rfl rfl ?_ | refine Ld ?_)
 all_goals (refine Gg ?_; first | refine WL.pass rfl rfl rfl ?_ | refine Ld ?_)
 all_goals (refine Gg ?_; refine Go ?_; refine Gs [(2, _)] ?_; refine Gt ?_)
 all_goals (
  refine ⟨congrArg Value.bool ?_, aP⟩
  by_cases q1 : lo ≤ n
  all_goals by_cases q2 : n ≤ hi
  all_goals first | (simp [q1, q2]; done) | (simp [q1, q2]; omega) | (exfalso; omega))
theorem H2 {h : ah} {v : Value} (l : List eg) (hr : Rd h v 3 l.length (l.flatMap eg.cells)) (hm : l.length ≤ maxLen) : ag Tryz.prog 234 ⟨[v]⟩ h fun u h' => u = .bool (l.all eg.okB) ∧ Ext No h h' := by
 refine calls [(0, _)] Tryz.func234 rfl Tryz.ntmps234 rfl ⟨rfl, trivial⟩ ?_
 refine G2 ?_; refine G2 ?_; refine WL.call (vs := [_, _]) rfl Tryz.call270 rfl (CR l (fun b => !b.okB) Tryz.call271 (fs := []) (us := []) hr hm (fun x hx h' hx' => zn x)) rfl rfl rfl ?_
 rintro _ h1 ⟨rfl, ay⟩
 refine Go ?_; refine Gs [(2, _)] ?_; refine Gt ?_
 exact ⟨by rw [← kR], ay⟩
instance (c : b0) : Decidable c.okB := by unfold b0.okB; exact inferInstance
instance (c : aY) : Decidable c.okB := by unfold aY.okB; exact inferInstance
instance (c : aX) : Decidable c.okB := by unfold aX.okB; exact inferInstance
theorem tZ {h : ah} (c : b0) : ag Tryz.prog 193 ⟨[.agg ⟨c.cells⟩]⟩ h fun u h' => u = .bool (decide c.okB) ∧ Ext No h h' := by
 obtain ⟨nm, t, a, o, s, m, f⟩ := c
 dsimp only [b0.cells]
 refine calls [(0, _)] Tryz.func193 rfl Tryz.ntmps193 rfl ⟨rfl, trivial⟩ ?_
 refine WC.sr ?_; refine WL.ai (aB rfl) rfl rfl rfl ?_
 rintro _ g1 ⟨b1, rfl, bO, aQ, ay⟩
 refine Go ?_; refine G2 ?_; refine Ld ?_; refine WL.call (vs := [_]) rfl Tryz.call187 rfl (cW nm) rfl rfl rfl ?_
 rintro _ hz ⟨rfl, _⟩
 subst hz
 refine Go ?_
 refine bG 6 (Hb.mk fun hb => ?_) (Hb.mk fun hb => ?_)
 all_goals (refine Gg ?_; first | refine WL.pass rfl rfl rfl ?_ | refine Ld ?_)
 all_goals (first | refine WL.pass rfl rfl rfl ?_ | (refine WL.step (aD (vs := [_, _, _]) (cs := [_, _, _]) (fun | [a0, a1, a2] => [a0, a1, a2] | _ => []) rfl rfl (by kernel_rfl)) rfl rfl rfl ?_))
 all_goals (refine Gg ?_; first | refine WL.pass rfl rfl rfl ?_ | refine Ld ?_)
 all_goals (first | refine WL.pass rfl rfl rfl ?_ | (refine WL.step (aD (vs := [_, _, _]) (cs := [_, _, _]) (fun | [a0, a1, a2] => [a0, a1, a2] | _ => []) rfl rfl (by kernel_rfl)) rfl rfl rfl ?_))
 all_goals (refine Gg ?_; first | refine WL.pass rfl rfl rfl ?_ | refine Ld ?_)
 all_goals (first | refine WL.pass rfl rfl rfl ?_ | (refine WL.step (aD (vs := [_, _, _]) (cs := [_, _, _]) (fun | [a0, a1, a2] => [a0, a1, a2] | _ => []) rfl rfl (by kernel_rfl)) rfl rfl rfl ?_))
 all_goals (refine Gg ?_; first | refine WL.pass rfl rfl rfl ?_ | refine Ld ?_)
 all_goals (first | refine WL.pass rfl rfl rfl ?_ | (refine WL.step (aD (vs := [_, _, _]) (cs := [_, _, _]) (fun | [a0, a1, a2] => [a0, a1, a2] | _ => []) rfl rfl (by kernel_rfl)) rfl rfl rfl ?_))
 all_goals (refine Gg ?_; first | refine WL.pass rfl rfl rfl ?_ | refine Ld ?_)
 all_goals (first | refine WL.pass rfl rfl rfl ?_ | (refine WL.step (aD (vs := [_, _, _]) (cs := [_, _, _]) (fun | [a0, a1, a2] => [a0, a1, a2] | _ => []) rfl rfl (by kernel_rfl)) rfl rfl rfl ?_))
 all_goals (refine Gg ?_; first | refine WL.pass rfl rfl rfl ?_ | refine Ld ?_)
 all_goals (first | refine WL.pass rfl rfl rfl ?_ | (refine WL.step (aD (vs := [_, _, _]) (cs := [_, _, _]) (fun | [a0, a1, a2] => [a0, a1, a2] | _ => []) rfl rfl (by kernel_rfl)) rfl rfl rfl ?_))
 all_goals (
  first
    | (refine WL.pass rfl rfl rfl ?_)
    | (refine WL.ai (aw (vs := [_, _, _, _, _, _]) (cs := [_, _, _, _, _, _, _, _, _, _, _, _, _, _, _, _, _, _]) (fun | [.agg ⟨[a0, a1, a2]⟩, .agg ⟨[a3, a4, a5]⟩, .agg ⟨[a6, a7, a8]⟩, .agg ⟨[a9, gd, rE]⟩, .agg ⟨[a12, wS, wT]⟩, .agg ⟨[yN, Fp, Fq]⟩] => [a0, a1, a2, a3, a4, a5, a6, a7, a8, a9, gd, rE, a12, wS, wT, yN, Fp, Fq] | _ => []) Tryz.underlying337 rfl rfl (by kernel_rfl)) rfl rfl rfl ?_
       rintro _ g2 ⟨b2, rfl, eS, bH, aH⟩))
 all_goals (
  first
    | (refine WL.pass rfl rfl rfl ?_)
    | (refine WL.call (vs := [_]) rfl Tryz.call234 rfl (H2 [⟨t, 0, 4294967295⟩, ⟨a, 0, 65535⟩, ⟨o, 0, 4294967295⟩, ⟨s, -32768, 32767⟩, ⟨m, -2147483648, 2147483647⟩, ⟨f, 0, 65535⟩] (bz bH rfl) (by simp [maxLen])) rfl rfl rfl ?_
       rintro _ g3 ⟨rfl, aP⟩))
 all_goals (refine Go ?_; refine Gs [(2, _)] ?_; refine Gt ?_)
 all_goals (
  first
   | (refine ⟨congrArg Value.bool ?_, (ay.trans aH).trans aP⟩
      simp [b0.okB, eg.okB, *]; done)
   | (refine ⟨congrArg Value.bool ?_, ay⟩
      simp [b0.okB, *]; done))
theorem xb {h : ah} (c : aY) : ag Tryz.prog 195 ⟨[.agg ⟨c.cells⟩]⟩ h fun u h' => u = .bool (decide c.okB) ∧ Ext No h h' := by
 obtain ⟨k, t⟩ := c
 dsimp only [aY.cells]
 refine calls [(0, _)] Tryz.func195 rfl Tryz.ntmps195 rfl ⟨rfl, trivial⟩ ?_
 refine WC.sr ?_; refine WL.ai (aB rfl) rfl rfl rfl ?_
 rintro _ g1 ⟨b1, rfl, bO, aQ, ay⟩
 refine Go ?_; refine G2 ?_; refine Ld ?_; refine Go ?_
 refine bG 6 (Hb.mk fun hb => ?_) (Hb.mk fun hb => ?_)
 all_goals (refine Gg ?_; first | refine WL.pass rfl rfl rfl ?_ | refine Ld ?_)
 all_goals (
  first
    | (refine WL.pass rfl rfl rfl ?_)
    | (refine WL.call (vs := [_]) rfl Tryz.call187 rfl (cW t) rfl rfl rfl ?_
       rintro _ hz ⟨rfl, _⟩
       subst hz))
 all_goals (refine Go ?_; refine Gs [(2, _)] ?_; refine Gt ?_; refine ⟨congrArg Value.bool ?_, ay⟩; simp [aY.okB, *])
theorem zo {h h0 : ah} (c : aX) (hk : c.ok h0) (hl : c.bytes.length ≤ 1048576) : ag Tryz.prog 197 ⟨[.agg ⟨c.cells⟩]⟩ h fun u h' => u = .bool (decide c.okB) ∧ Ext No h h' := by
 obtain ⟨nl, v, bs⟩ := c
 obtain ⟨A, cc, e, _⟩ := hk.1
 simp only at e hl
 subst e
 dsimp only [aX.cells]
 cases nl
 all_goals
   refine calls [(0, _)] Tryz.func197 rfl Tryz.ntmps197 rfl ⟨rfl, trivial⟩ ?_
   all_goals (refine WC.sr ?_; refine WL.ai (aB rfl) rfl rfl rfl ?_; rintro _ g1 ⟨b1, rfl, bO, aQ, ay⟩; refine Go ?_; refine G2 ?_; refine Ld ?_; refine Go ?_; refine bG 5 ?_ TT.mk; refine Gg ?_; first | refine WL.pass rfl rfl rfl ?_ | refine Ld ?_)
   all_goals (refine Gg ?_; refine Go ?_; first | refine bG 12 ?_ TT.mk | (refine bG 12 (Hb.mk fun hb => ?_) (Hb.mk fun hb => ?_)))
   all_goals (refine Gg ?_; first | refine WL.pass rfl rfl rfl ?_ | refine Ld ?_)
   all_goals (refine Gg ?_; refine Go ?_; refine Gs [(2, _)] ?_; refine Gt ?_)
   all_goals (
    refine ⟨congrArg Value.bool ?_, ay⟩
    first
     | exact (decide_eq_true (p := aX.okB _) ⟨fun z => (by show bs.length = 0; omega), hl⟩).symm
     | exact (decide_eq_true (p := aX.okB _) ⟨(fun z => by cases z), hl⟩).symm
     | exact (decide_eq_false (p := aX.okB _) (fun z => (by have : bs.length = 0 := z.1 rfl; omega))).symm
     | exact decide_eq_decide.2 ⟨fun z => ⟨fun z => (by show bs.length = 0; omega), hl⟩, fun z => (by omega)⟩
     | exact decide_eq_decide.2 ⟨fun z => ⟨(fun z => by cases z), hl⟩, fun z => (by omega)⟩)
def lD (n : Int) : Bool := decide (0 ≤ n) && decide (n ≤ 4294967295)
theorem p7 {h : ah} (n : Int) : ag Tryz.prog 199 ⟨[In n]⟩ h fun u h' => u = .bool (lD n) ∧ h' = h := by
 unfold lD
 refine calls [(0, _)] Tryz.func199 rfl Tryz.ntmps199 rfl ⟨rfl, trivial⟩ ?_
 refine G2 ?_; refine G2 ?_
 refine bG 5 (Hb.mk fun hb => ?_) (Hb.mk fun hb => ?_)
 all_goals (refine Gg ?_; refine Go ?_; refine Gs [(2, _)] ?_; refine Gt ?_)
 all_goals (
  refine ⟨congrArg Value.bool ?_, rfl⟩
  by_cases q1 : 0 ≤ n
  all_goals by_cases q2 : n ≤ 4294967295
  all_goals first | (simp [q1, q2]; done) | (simp [q1, q2]; omega) | (exfalso; omega))
theorem ua {h : ah} {v : Value} (l : List Int) (hr : Rd h v 1 l.length (ints l)) (hl : l.length ≤ 65535) :
   ag Tryz.prog 198 ⟨[v, .func (.func 199) ⟨[]⟩ ⟨[]⟩]⟩ h fun u h' => u = .bool (l.all lD) ∧ Ext No h h' := by
 have hf : ∀ {h : ah} {b : Nat} {t : TypeId} (x : Int), x ∈ l → h[b]? = some (.cells ⟨[.func (.func 199) ⟨[]⟩ ⟨[]⟩]⟩ t (0, 0)) → ag Tryz.prog 238 ⟨[In x, .pointer (some ⟨b, 0, none⟩)]⟩ h fun u h' => u = .bool (!lD x) ∧ h' = h := by
   intro h b t x hx hb
   refine calls [(0, _), (1, _)] Tryz.func238 rfl Tryz.ntmps238 rfl ⟨rfl, rfl, trivial⟩ ?_
   refine G2 ?_; refine WC.sr ?_; refine Ld ?_; refine Go ?_; refine WL.dT (vs := [_]) rfl rfl Tryz.call199 rfl (p7 x) rfl rfl rfl ?_
   rintro _ hz ⟨rfl, _⟩
   subst hz
   refine Go ?_; refine Gs [(3, _)] ?_; refine Gt ?_
   exact ⟨rfl, rfl⟩
 obtain ⟨A, c, rfl, _⟩ := id hr
 have hcon : ∀ {h' : ah} {b : Nat} {t : TypeId}, Ext No h h' → h'[b]? = some (.cells ⟨[.func (.func 199) ⟨[]⟩ ⟨[]⟩]⟩ t (0, 0)) → ag Tryz.prog 182 ⟨[.slice A l.length c, .func (.func 238) ⟨[]⟩ ⟨[.pointer (some ⟨b, 0, none⟩)]⟩]⟩ h' fun u h'' => u = .bool (l.any fun x => !lD x) ∧ h'' = h' := by
   intro h' b t hx hb
   refine calls [(0, _), (1, _)] Tryz.func182 rfl Tryz.ntmps182 rfl ⟨rfl, rfl, trivial⟩ ?_
   refine G2 ?_; refine G2 ?_; refine WL.call (vs := [_, _]) rfl Tryz.call229 rfl (gz l (fun x => !lD x) Tryz.call238 (fs := []) (us := [.pointer (some ⟨b, 0, none⟩)]) (hr.aq hx) (by unfold maxLen; omega) (fun x hxl => hf x hxl hb)) rfl rfl rfl ?_
   rintro _ hz ⟨rfl, _⟩
   subst hz
   refine WL.step (dm rfl rfl) rfl rfl rfl (Go ?_); refine Gs [(4, _)] ?_; refine Gt ?_
   exact ⟨by rw [ee], rfl⟩
 refine calls [(0, _), (1, _)] Tryz.func198 rfl Tryz.ntmps198 rfl ⟨rfl, rfl, trivial⟩ ?_
 refine WC.sr ?_; refine WL.ai (aB rfl) rfl rfl rfl ?_
 rintro _ h1 ⟨b1, rfl, bO, aQ, ay⟩
 refine Go ?_; refine G2 ?_
 refine bG 8 ?_ TT.mk
 refine Gg ?_; refine WL.step (cO (vs := []) (us := [_]) rfl rfl) rfl rfl rfl ?_; refine WL.call (vs := [_, _]) rfl Tryz.call182 rfl (hcon ay aQ) rfl rfl rfl ?_
 rintro _ hz ⟨rfl, _⟩
 subst hz
 refine Gg ?_; refine Go ?_; refine Gs [(4, _)] ?_; refine Gt ?_
 exact ⟨by rw [← kR], ay⟩
abbrev Ka:=Int × Int × Unit
def zp:Ka→List Value:=fun p=>[In p.1]++([In p.2.1]++[])
abbrev M6 (h:ah) (v:Value) (l:List Ka):Prop:=Rd h v 2 l.length (l.flatMap zp)∧l.length * 16≤reachBytes
abbrev Jw:=Bool × List UInt8 × Int × Unit
def zq:Jw→List Value:=fun p=>[.bool p.1]++([St p.2.1]++([In p.2.2.1]++[]))
abbrev H3 (h:ah) (v:Value) (l:List Jw):Prop:=Rd h v 3 l.length (l.flatMap zq)∧l.length≤maxLen
structure En where
 kind:Int
 hide:Bool
 src:List UInt8
 dst:List UInt8
 vg:Value
 good:List Jw
 vb:Value
 bad:List Jw
 vc:Value
 ops:List Ka
 vr:Value
 reply:List UInt8
def En.cells (e:En):List Value:=[In e.kind,.bool e.hide,St e.src,St e.dst,e.vg,e.vb,e.vc,e.vr]
structure En.ok (h:ah) (e:En):Prop where
 good:H3 h e.vg e.good
 bad:H3 h e.vb e.bad
 ops:M6 h e.vc e.ops
 reply:Rd h e.vr 1 e.reply.length (bu e.reply)∧e.reply.length≤reachBytes
theorem En.ok.one {h:ah} {e:En} (k:e.ok h):∀ v∈e.cells,v.oneCell'=true:=by
 obtain ⟨A1,c1,e1,_⟩:=k.1.1
 obtain ⟨A2,c2,e2,_⟩:=k.2.1
 obtain ⟨A3,c3,e3,_⟩:=k.3.1
 obtain ⟨A4,c4,e4,_⟩:=k.4.1
 simp [En.cells,Value.oneCell',e1,e2,e3,e4]
structure Bk.wf (b:Bk):Prop where
 kind:0≤b.kind∧b.kind≤255
 status:0≤b.status∧b.status≤255
 codes:∀ f∈b.fields,0≤f.k∧f.k≤255
theorem zr {h:ah} {v w:Value} (l m:List b0) (hr:Rd h v 7 l.length (l.flatMap b0.cells)) (hs:Rd h w 7 m.length (m.flatMap b0.cells)) (hml:l.length≤maxLen) (hmm:m.length≤maxLen) :
   ag Tryz.prog 239 ⟨[v,w]⟩ h fun u h'=>u=.bool (decide (l=m))∧h'=h:=by
 obtain ⟨A,c,rfl,_⟩:=id hr
 obtain ⟨B,d,rfl,_⟩:=id hs
 unfold maxLen at hml hmm
 refine calls [(0,_),(1,_)] Tryz.func239 rfl Tryz.ntmps239 rfl ⟨rfl,rfl,trivial⟩ ?_
 refine G2 ?_;refine G3 ?_;refine Gs [(0,_),(1,_),(10,_)] ?_
 refine aJ 1 2 (Hb.mk fun hb=>?_) (Hb.mk fun hb=>?_)
 all_goals try (
 refine ax 1 ?_
 refine G2 ?_;refine Gt ?_
 first
  | exact ⟨by rw [decide_eq_false (fun e=>by subst e;omega)],rfl⟩
  | exact ⟨by rw [decide_eq_false (fun e=>hyz (by subst e;rw [hy] at hz;exact Option.some.inj hz))],rfl⟩
  | exact ⟨by rw [decide_eq_true (by rw [List.take_of_length_le (by omega),List.take_of_length_le (by omega)] at hn;exact hn)],rfl⟩
 skip)
 all_goals (refine ax 2 ?_)
 refine WC.skip ?_;refine Gn ?_;refine G3 ?_;refine WC.block ?_;refine WC.bC (X:=Nat) (fun x=>([(13,In (x:Int))]:Fr)) [(0,_),(1,_),(12,_)] (fun k h'=>h'=h∧k≤l.length∧l.length=m.length∧l.take k=m.take k) (fun k=>l.length - k) (0) ⟨rfl,rfl,rfl,rfl,trivial⟩ (by exact ⟨rfl,Nat.zero_le _,by omega,by simp⟩) ?_
 rintro k h9 ⟨hz,hk,hlm,hn⟩
 subst h9
 refine WC.sub [(13,_),(0,_),(1,_),(12,_)] ⟨rfl,rfl,rfl,rfl,trivial⟩ ?_;refine G2 ?_;refine WC.seq ?_
 refine aJ 3 4 (Hb.mk fun hb=>?_) (Hb.mk fun hb=>?_)
 all_goals try (
 refine ax 3 ?_
 refine WC.skip ?_
 skip)
 all_goals try (
 refine ax 4 ?_
 refine WC.exit ?_
 repeat' (with_reducible first | refine aU ?_ | refine aG rfl ?_ | refine aI ?_ | refine aL ?_ | refine aS ?_)
 refine Br.out (i:=1000) ?_
 skip)
 all_goals (refine Gn ?_;first | refine Br.ab ?_ | refine WC.seq ?_)
 all_goals (first | refine Br.ab ?_ | refine WC.block ?_)
 all_goals (first | refine Br.ab ?_ | refine WC.sr ?_)
 all_goals (
  first
    | (refine Br.ab ?_)
    | (obtain ⟨bL,oL,hA,hbL,hat⟩:=Rd.at_ hr (by omega)
       obtain ⟨bM,oM,hB,hbM,hbt⟩:=Rd.at_ hs (by omega)
       obtain ⟨y,hy⟩:∃ y,l[k]?=some y:=⟨_,List.getElem?_eq_getElem (by omega)⟩
       obtain ⟨z,hz⟩:∃ z,m[k]?=some z:=⟨_,List.getElem?_eq_getElem (by omega)⟩
       have rD:At h bL (oL+k * 7) (b0.cells y):=At.elem b0.len hat hy
       have xZ:At h bM (oM+k * 7) (b0.cells z):=At.elem b0.len hbt hz
       by_cases hyz:y=z))
 all_goals (first | refine Br.ab ?_ | refine WL.step (ak rfl) rfl rfl rfl ?_)
 all_goals (refine Go ?_;first | refine Br.ab ?_ | refine WC.seq ?_)
 all_goals (first | refine Br.ab ?_ | (refine WC.fo dk (by kernel_rfl) ?_))
 all_goals (first | refine Br.ab ?_ | refine WQ.aK (ak rfl) rfl rfl rfl ?_)
 all_goals (first | refine Br.ab ?_ | refine WQ.aK (ak rfl) rfl rfl rfl ?_)
 all_goals (first | refine Br.ab ?_ | (refine WQ.aK (aF Tryz.underlying137 Tryz.sizeOf212 rfl rfl rfl (by omega) (by first | rfl | assumption)) rfl rfl rfl ?_))
 all_goals (first | refine Br.ab ?_ | (refine WQ.aK (an Tryz.isAgg212 Tryz.sizeOf212 rfl rfl (by assumption)) rfl rfl rfl ?_))
 all_goals (first | refine Br.ab ?_ | refine WQ.aK (ak rfl) rfl rfl rfl ?_)
 all_goals (first | refine Br.ab ?_ | refine WQ.aK (ak rfl) rfl rfl rfl ?_)
 all_goals (first | refine Br.ab ?_ | (refine WQ.aK (aF Tryz.underlying137 Tryz.sizeOf212 rfl rfl rfl (by omega) (by first | rfl | assumption)) rfl rfl rfl ?_))
 all_goals (first | refine Br.ab ?_ | (refine WQ.aK (an Tryz.isAgg212 Tryz.sizeOf212 rfl rfl (by assumption)) rfl rfl rfl ?_))
 all_goals (first | refine Br.ab ?_ | (first | (refine WQ.aK (bK.hG (congrArg (·.oh) hyz) (jm (us:=y.oh) (vs:=z.oh) ([.s,.i .i64,.i .i64,.i .i64,.i .i64,.i .i64,.i .i64]) (by kernel_rfl) rfl rfl rfl rfl)) rfl rfl rfl ?_) | (refine WQ.aK (bK.ka (fun e=>hyz ((b0.inj _ _).1 e)) (jm (us:=y.oh) (vs:=z.oh) ([.s,.i .i64,.i .i64,.i .i64,.i .i64,.i .i64,.i .i64]) (by kernel_rfl) rfl rfl rfl rfl)) rfl rfl rfl ?_)))
 all_goals (first | refine Br.ab ?_ | refine WQ.nil ?_)
 all_goals (refine Gn ?_;first | refine Br.ab ?_ | refine Gs [(0,_),(1,_),(12,_),(13,_),(24,_)] ?_)
 all_goals (first | refine Br.ab ?_ | refine aJ 5 6 ?_ TT.mk)
 all_goals try (
 refine ax 5 ?_
 refine G2 ?_;refine Gs [(4,_)] ?_;refine Gt ?_
 first
  | exact ⟨by rw [decide_eq_false (fun e=>by subst e;omega)],rfl⟩
  | exact ⟨by rw [decide_eq_false (fun e=>hyz (by subst e;rw [hy] at hz;exact Option.some.inj hz))],rfl⟩
  | exact ⟨by rw [decide_eq_true (by rw [List.take_of_length_le (by omega),List.take_of_length_le (by omega)] at hn;exact hn)],rfl⟩
 skip)
 all_goals try (
 refine ax 6 ?_
 refine WC.skip ?_
 skip)
 all_goals (refine Gn ?_;first | refine Br.ab ?_ | refine WC.region ?_)
 all_goals (refine Go ?_;first | refine Br.ab ?_ | (exact ⟨k+1,⟨rfl,rfl,rfl,rfl,trivial⟩,(by exact ⟨rfl,by omega,hlm,by rw [List.take_add_one,List.take_add_one,hn,hy,hz,hyz]⟩),(by omega)⟩))
 try (refine Br.mk (i:=1000) ?_)
 refine Gn ?_;refine Gs [] ?_;refine G2 ?_;refine Gt ?_
 first
  | exact ⟨by rw [decide_eq_false (fun e=>by subst e;omega)],rfl⟩
  | exact ⟨by rw [decide_eq_false (fun e=>hyz (by subst e;rw [hy] at hz;exact Option.some.inj hz))],rfl⟩
  | exact ⟨by rw [decide_eq_true (by rw [List.take_of_length_le (by omega),List.take_of_length_le (by omega)] at hn;exact hn)],rfl⟩
theorem zt {h:ah} {v w:Value} (l m:List aY) (hr:Rd h v 2 l.length (l.flatMap aY.cells)) (hs:Rd h w 2 m.length (m.flatMap aY.cells)) (hml:l.length≤maxLen) (hmm:m.length≤maxLen) :
   ag Tryz.prog 240 ⟨[v,w]⟩ h fun u h'=>u=.bool (decide (l=m))∧h'=h:=by
 obtain ⟨A,c,rfl,_⟩:=id hr
 obtain ⟨B,d,rfl,_⟩:=id hs
 unfold maxLen at hml hmm
 refine calls [(0,_),(1,_)] Tryz.func240 rfl Tryz.ntmps240 rfl ⟨rfl,rfl,trivial⟩ ?_
 refine G2 ?_;refine G3 ?_;refine Gs [(0,_),(1,_),(10,_)] ?_
 refine aJ 1 2 (Hb.mk fun hb=>?_) (Hb.mk fun hb=>?_)
 all_goals try (
 refine ax 1 ?_
 refine G2 ?_;refine Gt ?_
 first
  | exact ⟨by rw [decide_eq_false (fun e=>by subst e;omega)],rfl⟩
  | exact ⟨by rw [decide_eq_false (fun e=>hyz (by subst e;rw [hy] at hz;exact Option.some.inj hz))],rfl⟩
  | exact ⟨by rw [decide_eq_true (by rw [List.take_of_length_le (by omega),List.take_of_length_le (by omega)] at hn;exact hn)],rfl⟩
 skip)
 all_goals (refine ax 2 ?_)
 refine WC.skip ?_;refine Gn ?_;refine G3 ?_;refine WC.block ?_;refine WC.bC (X:=Nat) (fun x=>([(13,In (x:Int))]:Fr)) [(0,_),(1,_),(12,_)] (fun k h'=>h'=h∧k≤l.length∧l.length=m.length∧l.take k=m.take k) (fun k=>l.length - k) (0) ⟨rfl,rfl,rfl,rfl,trivial⟩ (by exact ⟨rfl,Nat.zero_le _,by omega,by simp⟩) ?_
 rintro k h9 ⟨hz,hk,hlm,hn⟩
 subst h9
 refine WC.sub [(13,_),(0,_),(1,_),(12,_)] ⟨rfl,rfl,rfl,rfl,trivial⟩ ?_;refine G2 ?_;refine WC.seq ?_
 refine aJ 3 4 (Hb.mk fun hb=>?_) (Hb.mk fun hb=>?_)
 all_goals try (
 refine ax 3 ?_
 refine WC.skip ?_
 skip)
 all_goals try (
 refine ax 4 ?_
 refine WC.exit ?_
 repeat' (with_reducible first | refine aU ?_ | refine aG rfl ?_ | refine aI ?_ | refine aL ?_ | refine aS ?_)
 refine Br.out (i:=1000) ?_
 skip)
 all_goals (refine Gn ?_;first | refine Br.ab ?_ | refine WC.seq ?_)
 all_goals (first | refine Br.ab ?_ | refine WC.block ?_)
 all_goals (first | refine Br.ab ?_ | refine WC.sr ?_)
 all_goals (
  first
    | (refine Br.ab ?_)
    | (obtain ⟨bL,oL,hA,hbL,hat⟩:=Rd.at_ hr (by omega)
       obtain ⟨bM,oM,hB,hbM,hbt⟩:=Rd.at_ hs (by omega)
       obtain ⟨y,hy⟩:∃ y,l[k]?=some y:=⟨_,List.getElem?_eq_getElem (by omega)⟩
       obtain ⟨z,hz⟩:∃ z,m[k]?=some z:=⟨_,List.getElem?_eq_getElem (by omega)⟩
       have rD:At h bL (oL+k * 2) (aY.cells y):=At.elem aY.len hat hy
       have xZ:At h bM (oM+k * 2) (aY.cells z):=At.elem aY.len hbt hz
       by_cases hyz:y=z))
 all_goals (first | refine Br.ab ?_ | refine WL.step (ak rfl) rfl rfl rfl ?_)
 all_goals (refine Go ?_;first | refine Br.ab ?_ | refine WC.seq ?_)
 all_goals (first | refine Br.ab ?_ | (refine WC.fo dk (by kernel_rfl) ?_))
 all_goals (first | refine Br.ab ?_ | refine WQ.aK (ak rfl) rfl rfl rfl ?_)
 all_goals (first | refine Br.ab ?_ | refine WQ.aK (ak rfl) rfl rfl rfl ?_)
 all_goals (first | refine Br.ab ?_ | (refine WQ.aK (aF Tryz.underlying138 Tryz.sizeOf194 rfl rfl rfl (by omega) (by first | rfl | assumption)) rfl rfl rfl ?_))
 all_goals (first | refine Br.ab ?_ | (refine WQ.aK (an Tryz.isAgg194 Tryz.sizeOf194 rfl rfl (by assumption)) rfl rfl rfl ?_))
 all_goals (first | refine Br.ab ?_ | refine WQ.aK (ak rfl) rfl rfl rfl ?_)
 all_goals (first | refine Br.ab ?_ | refine WQ.aK (ak rfl) rfl rfl rfl ?_)
 all_goals (first | refine Br.ab ?_ | (refine WQ.aK (aF Tryz.underlying138 Tryz.sizeOf194 rfl rfl rfl (by omega) (by first | rfl | assumption)) rfl rfl rfl ?_))
 all_goals (first | refine Br.ab ?_ | (refine WQ.aK (an Tryz.isAgg194 Tryz.sizeOf194 rfl rfl (by assumption)) rfl rfl rfl ?_))
 all_goals (first | refine Br.ab ?_ | (first | (refine WQ.aK (bK.hG (congrArg (·.oh) hyz) (jm (us:=y.oh) (vs:=z.oh) ([.i .u8,.s]) (by kernel_rfl) rfl rfl rfl rfl)) rfl rfl rfl ?_) | (refine WQ.aK (bK.ka (fun e=>hyz ((aY.inj _ _).1 e)) (jm (us:=y.oh) (vs:=z.oh) ([.i .u8,.s]) (by kernel_rfl) rfl rfl rfl rfl)) rfl rfl rfl ?_)))
 all_goals (first | refine Br.ab ?_ | refine WQ.nil ?_)
 all_goals (refine Gn ?_;first | refine Br.ab ?_ | refine Gs [(0,_),(1,_),(12,_),(13,_),(24,_)] ?_)
 all_goals (first | refine Br.ab ?_ | refine aJ 5 6 ?_ TT.mk)
 all_goals try (
 refine ax 5 ?_
 refine G2 ?_;refine Gs [(4,_)] ?_;refine Gt ?_
 first
  | exact ⟨by rw [decide_eq_false (fun e=>by subst e;omega)],rfl⟩
  | exact ⟨by rw [decide_eq_false (fun e=>hyz (by subst e;rw [hy] at hz;exact Option.some.inj hz))],rfl⟩
  | exact ⟨by rw [decide_eq_true (by rw [List.take_of_length_le (by omega),List.take_of_length_le (by omega)] at hn;exact hn)],rfl⟩
 skip)
 all_goals try (
 refine ax 6 ?_
 refine WC.skip ?_
 skip)
 all_goals (refine Gn ?_;first | refine Br.ab ?_ | refine WC.region ?_)
 all_goals (refine Go ?_;first | refine Br.ab ?_ | (exact ⟨k+1,⟨rfl,rfl,rfl,rfl,trivial⟩,(by exact ⟨rfl,by omega,hlm,by rw [List.take_add_one,List.take_add_one,hn,hy,hz,hyz]⟩),(by omega)⟩))
 try (refine Br.mk (i:=1000) ?_)
 refine Gn ?_;refine Gs [] ?_;refine G2 ?_;refine Gt ?_
 first
  | exact ⟨by rw [decide_eq_false (fun e=>by subst e;omega)],rfl⟩
  | exact ⟨by rw [decide_eq_false (fun e=>hyz (by subst e;rw [hy] at hz;exact Option.some.inj hz))],rfl⟩
  | exact ⟨by rw [decide_eq_true (by rw [List.take_of_length_le (by omega),List.take_of_length_le (by omega)] at hn;exact hn)],rfl⟩
theorem FN {h:ah} (a b:aX) (ha:a.ok h) (hb:b.ok h) :
   ag Tryz.prog 241 ⟨[.agg ⟨a.cells⟩,.agg ⟨b.cells⟩]⟩ h fun u h'=>u=.bool (decide (a.pl=b.pl))∧Ext No h h':=by
 obtain ⟨n1,v1,l1⟩:=a
 obtain ⟨n2,v2,l2⟩:=b
 obtain ⟨ha,_⟩:=ha
 obtain ⟨hb,_⟩:=hb
 simp only at ha hb
 obtain ⟨A,c,rfl,_⟩:=id ha
 obtain ⟨B,d,rfl,_⟩:=id hb
 dsimp only [aX.cells]
 cases n1
 all_goals cases n2
 all_goals
   refine calls [(0,_),(1,_)] Tryz.func241 rfl Tryz.ntmps241 rfl ⟨rfl,rfl,trivial⟩ ?_
   all_goals (refine WC.sr ?_;refine WL.ai (aB rfl) rfl rfl rfl ?_;rintro _ h1 ⟨b1,rfl,bO,aQ,ay⟩;refine WL.ai (aB rfl) rfl rfl rfl ?_;rintro _ h2 ⟨b2,rfl,eS,bH,aH⟩;have og:=aH.obj aQ aO;have hx:=ay.trans aH;refine Go ?_;refine G2 ?_;refine Ld ?_;refine Go ?_;refine Ld ?_;first | (refine WL.step (bK.dL (by rfl) (kj Tryz.underlying4 rfl rfl)) rfl rfl rfl ?_) | (refine WL.step (bK.eX (by decide) (kj Tryz.underlying4 rfl rfl)) rfl rfl rfl ?_))
   all_goals (refine Go ?_;refine bG 10 ?_ TT.mk;refine Gg ?_;first | refine WL.pass rfl rfl rfl ?_ | refine Ld ?_)
   all_goals (refine Gg ?_;first | refine WL.pass rfl rfl rfl ?_ | refine Ld ?_)
   all_goals (
    first
      | (refine WL.pass rfl rfl rfl ?_)
      | (refine WL.call (vs:=[_,_]) rfl Tryz.call12 rfl (iW l1 l2 (ha.aq hx) (hb.aq hx)) rfl rfl rfl ?_
         rintro _ hz ⟨rfl,_⟩
         subst hz))
   all_goals (refine Go ?_;refine Gs [(4,_)] ?_;refine Gt ?_;exact ⟨by simp [aX.pl],hx⟩)
theorem ub {h:ah} {v w:Value} (l m:List aX) (hl:cF h v l) (hm:cF h w m) :
   ag Tryz.prog 189 ⟨[v,w,.func (.func 241) ⟨[]⟩ ⟨[]⟩]⟩ h fun u h'=>u=.bool (decide (l.map aX.pl=m.map aX.pl))∧Ext No h h':=by
 obtain ⟨hr,⟨hlm,A,c,rfl,_⟩,ho⟩:=hl
 obtain ⟨hs,⟨hmm,B,d,rfl,_⟩,hp⟩:=hm
 unfold reachBytes at hlm hmm
 refine calls [(0,_),(1,_),(2,_)] Tryz.func189 rfl Tryz.ntmps189 rfl ⟨rfl,rfl,rfl,trivial⟩ ?_
 refine G2 ?_;refine G3 ?_;refine Gs [(0,_),(1,_),(2,_),(14,_)] ?_
 refine aJ 1 2 (Hb.mk fun hb=>?_) (Hb.mk fun hb=>?_)
 all_goals try (
 refine ax 1 ?_
 refine G2 ?_;refine Gs [(6,_)] ?_;refine Gt ?_
 first
  | exact ⟨by rw [decide_eq_false (fun e=>by have:=congrArg List.length e;simp only [List.length_map] at this;omega)],.refl _ _⟩
  | exact ⟨by rw [decide_eq_false (ik hy hz hyz)],kM.trans aM⟩
  | exact ⟨by rw [decide_eq_true (by rw [List.take_of_length_le (by omega),List.take_of_length_le (by omega)] at hn;exact hn)],ay⟩
 skip)
 all_goals (refine ax 2 ?_)
 refine WC.skip ?_;refine Gn ?_;refine G3 ?_;refine WC.block ?_;refine WC.bC (X:=Nat) (fun x=>([(17,In (x:Int))]:Fr)) [(1,_),(2,_),(15,_),(16,_)] (fun k h'=>Ext No h h'∧k≤l.length∧l.length=m.length∧(l.take k).map aX.pl=(m.take k).map aX.pl) (fun k=>l.length - k) (0) ⟨rfl,rfl,rfl,rfl,rfl,trivial⟩ (by exact ⟨.refl _ _,Nat.zero_le _,by omega,by simp⟩) ?_
 rintro k h1 ⟨ay,hk,hlen,hn⟩
 refine WC.sub [(17,_),(1,_),(2,_),(15,_),(16,_)] ⟨rfl,rfl,rfl,rfl,rfl,trivial⟩ ?_;refine G2 ?_;refine WC.seq ?_
 refine aJ 3 4 (Hb.mk fun hb=>?_) (Hb.mk fun hb=>?_)
 all_goals try (
 refine ax 3 ?_
 refine WC.skip ?_
 skip)
 all_goals try (
 refine ax 4 ?_
 refine WC.exit ?_
 repeat' (with_reducible first | refine aU ?_ | refine aG rfl ?_ | refine aI ?_ | refine aL ?_ | refine aS ?_)
 refine Br.out (i:=1000) ?_
 skip)
 all_goals (refine Gn ?_;first | refine Br.ab ?_ | refine WC.seq ?_)
 all_goals (first | refine Br.ab ?_ | refine WC.block ?_)
 all_goals (first | refine Br.ab ?_ | refine WC.sr ?_)
 all_goals (
  first
    | (refine Br.ab ?_)
    | (obtain ⟨bL,oL,hA,hbL,hat⟩:=Rd.at_ (hr.aq ay) (by omega)
       obtain ⟨bM,oM,hB,hbM,hbt⟩:=Rd.at_ (hs.aq ay) (by omega)
       obtain ⟨y,hy⟩:∃ y,l[k]?=some y:=⟨_,List.getElem?_eq_getElem (by omega)⟩
       obtain ⟨z,hz⟩:∃ y,m[k]?=some y:=⟨_,List.getElem?_eq_getElem (by omega)⟩
       have hyo:=ho y (List.mem_of_getElem? hy)
       have hzo:=hp z (List.mem_of_getElem? hz)
       have rD:At h1 bL (oL+k * 2) y.cells:=At.elem aX.len hat hy
       have xZ:At h1 bM (oM+k * 2) z.cells:=At.elem aX.len hbt hz
       have yP:∀ v∈y.cells,v.oneCell'=true:=by obtain ⟨A1,c1,e1,_⟩:=hyo.1;simp [aX.cells,Value.oneCell',e1]
       have mr:∀ v∈z.cells,v.oneCell'=true:=by obtain ⟨A1,c1,e1,_⟩:=hzo.1;simp [aX.cells,Value.oneCell',e1]))
 all_goals (first | refine Br.ab ?_ | refine WL.step (ak rfl) rfl rfl rfl ?_)
 all_goals (first | refine Br.ab ?_ | (refine WL.step (aF Tryz.underlying40 Tryz.sizeOf85 rfl rfl rfl (by omega) (by first | rfl | assumption)) rfl rfl rfl ?_))
 all_goals (first | refine Br.ab ?_ | (refine WL.step (an Tryz.isAgg85 Tryz.sizeOf85 rfl rfl (by assumption)) rfl rfl rfl ?_))
 all_goals (
  first
    | (refine Br.ab ?_)
    | (refine WL.ai (av (fun w=>Tryz.zeroValue85 w)) rfl rfl rfl ?_
       rintro _ h2 ⟨b2,rfl,eS,bH,aH⟩))
 all_goals (refine Go ?_)
 all_goals (
  first
    | (refine Br.ab ?_)
    | (refine WL.az (al Tryz.sizeOf85 rfl rfl rfl (by assumption) rfl yP) rfl rfl ?_
       rintro _ h3 ⟨bn,aP⟩))
 all_goals (first | refine Br.ab ?_ | (have il:Ext No h1 h3:=aH.trans' aP (fun q hq e=>by omega)))
 all_goals (refine Gn ?_;first | refine Br.ab ?_ | refine Gs [(1,_),(2,_),(7,_),(8,_),(15,_),(16,_),(17,_)] ?_)
 all_goals (first | refine Br.ab ?_ | refine WC.sr ?_)
 all_goals (refine Go ?_;first | refine Br.ab ?_ | (refine WL.step (aF Tryz.underlying40 Tryz.sizeOf85 rfl rfl rfl (by omega) (by first | rfl | assumption)) rfl rfl rfl ?_))
 all_goals (first | refine Br.ab ?_ | (refine WL.step (an Tryz.isAgg85 Tryz.sizeOf85 rfl rfl (by exact xZ.ext il aO)) rfl rfl rfl ?_))
 all_goals (
  first
    | (refine Br.ab ?_)
    | (refine WL.ai (av (fun w=>Tryz.zeroValue85 w)) rfl rfl rfl ?_
       rintro _ h4 ⟨b4,rfl,oF,bx,aW⟩))
 all_goals (
  first
    | (refine Br.ab ?_)
    | (refine WL.az (al Tryz.sizeOf85 rfl rfl rfl (by assumption) rfl mr) rfl rfl ?_
       rintro _ h5 ⟨bT,aN⟩))
 all_goals (
  first
    | (refine Br.ab ?_)
    | (have rF:Ext No h3 h5:=aW.trans' aN (fun q hq e=>by omega)
       have pP:=rF.obj bn aO
       have kM:=ay.trans (il.trans rF)))
 all_goals (refine Gn ?_;first | refine Br.ab ?_ | refine Gs [(1,_),(2,_),(8,_),(9,_),(15,_),(16,_),(17,_)] ?_)
 all_goals (first | refine Br.ab ?_ | refine WC.sr ?_)
 all_goals (refine Go ?_;first | refine Br.ab ?_ | (refine WL.step (an Tryz.isAgg85 Tryz.sizeOf85 rfl rfl (by exact At.au pP)) rfl rfl rfl ?_))
 all_goals (first | refine Br.ab ?_ | (refine WL.step (an Tryz.isAgg85 Tryz.sizeOf85 rfl rfl (by exact At.au bT)) rfl rfl rfl ?_))
 all_goals (
  first
    | (refine Br.ab ?_)
    | (refine WL.dT (vs:=[_,_]) rfl rfl Tryz.call241 rfl (FN y z (hyo.aq kM) (hzo.aq kM)) rfl rfl rfl ?_
       rintro _ h6 ⟨rfl,aM⟩))
 all_goals (
  first
    | (refine Br.ab ?_)
    | (by_cases hyz:y.pl=z.pl
       all_goals first | rw [decide_eq_true hyz] | rw [decide_eq_false hyz]))
 all_goals (refine Go ?_;first | refine Br.ab ?_ | refine Gs [(1,_),(2,_),(15,_),(16,_),(17,_),(30,_)] ?_)
 all_goals (first | refine Br.ab ?_ | refine aJ 5 6 ?_ TT.mk)
 all_goals try (
 refine ax 5 ?_
 refine G2 ?_;refine Gs [(6,_)] ?_;refine Gt ?_
 first
  | exact ⟨by rw [decide_eq_false (fun e=>by have:=congrArg List.length e;simp only [List.length_map] at this;omega)],.refl _ _⟩
  | exact ⟨by rw [decide_eq_false (ik hy hz hyz)],kM.trans aM⟩
  | exact ⟨by rw [decide_eq_true (by rw [List.take_of_length_le (by omega),List.take_of_length_le (by omega)] at hn;exact hn)],ay⟩
 skip)
 all_goals try (
 refine ax 6 ?_
 refine WC.skip ?_
 skip)
 all_goals (refine Gn ?_;first | refine Br.ab ?_ | refine WC.region ?_)
 all_goals (refine Go ?_;first | refine Br.ab ?_ | (exact ⟨k+1,⟨rfl,rfl,rfl,rfl,rfl,trivial⟩,(by exact ⟨kM.trans aM,by omega,hlen,map_take hn hy hz hyz⟩),(by omega)⟩))
 try (refine Br.mk (i:=1000) ?_)
 refine Gn ?_;refine Gs [] ?_;refine G2 ?_;refine Gt ?_
 first
  | exact ⟨by rw [decide_eq_false (fun e=>by have:=congrArg List.length e;simp only [List.length_map] at this;omega)],.refl _ _⟩
  | exact ⟨by rw [decide_eq_false (ik hy hz hyz)],kM.trans aM⟩
  | exact ⟨by rw [decide_eq_true (by rw [List.take_of_length_le (by omega),List.take_of_length_le (by omega)] at hn;exact hn)],ay⟩
theorem _root_.Go.RK.ag.dec {P:Program} {k:FuncId} {args:Array Value} {h:ah} {p:Prop} [Decidable p] {K:ah→Prop} (hc:ag P k args h fun u h'=>u=.bool (decide p)∧K h') :
   ag P k args h fun u h'=>((u=.bool true∧p)∨(u=.bool false∧¬p))∧K h':=hc.mono fun v h' q=>by
 by_cases e:p
 · exact ⟨.inl ⟨by rw [q.1,decide_eq_true e],e⟩,q.2⟩
 · exact ⟨.inr ⟨by rw [q.1,decide_eq_false e],e⟩,q.2⟩
theorem _root_.Go.RK.ag.bl {P:Program} {k:FuncId} {args:Array Value} {h:ah} {b:Bool} {K:ah→Prop} (hc:ag P k args h fun u h'=>u=.bool b∧K h') :
   ag P k args h fun u h'=>((u=.bool true∧b=true)∨(u=.bool false∧b=false))∧K h':=hc.mono fun v h' q=>by
 cases b
 · exact ⟨.inr ⟨q.1,rfl⟩,q.2⟩
 · exact ⟨.inl ⟨q.1,rfl⟩,q.2⟩
theorem uc {h:ah} (a b:Bk) (ha:a.ok h) (hb:b.ok h) :
   ag Tryz.prog 201 ⟨[.agg ⟨a.cells⟩,.agg ⟨b.cells⟩]⟩ h fun u h'=>(∃ x,u=.bool x∧(x=true ↔ a.pl=b.pl))∧Ext No h h':=by
 obtain ⟨k1,s1,t1,n1,v1,x1,y1,JU,l1,MI,c1,MJ,r1,JV,f1⟩:=a
 obtain ⟨k2,s2,t2,n2,v2,x2,y2,JW,l2,MK,c2,ML,r2,JX,f2⟩:=b
 obtain ⟨⟨ao,hlo⟩,⟨ac,hlc⟩,ar,af,hlf⟩:=ha
 obtain ⟨⟨bo,hmo⟩,⟨bc,hmc⟩,br,bf,hmf⟩:=hb
 simp only at ao ac ar af bo bc br bf hlo hlc hlf hmo hmc hmf
 obtain ⟨Ao,co,rfl,_⟩:=id ao
 obtain ⟨Bo,do_,rfl,_⟩:=id bo
 dsimp only [Bk.cells]
 have hpc:(k1=k2∧s1=s2∧x1=x2∧y1=y2)∨k1 ≠ k2∨(k1=k2∧s1 ≠ s2)∨(k1=k2∧s1=s2∧x1 ≠ x2)∨(k1=k2∧s1=s2∧x1=x2∧y1 ≠ y2):=by omega
 by_cases ht:t1=t2∧n1=n2∧v1=v2
 all_goals try obtain ⟨rfl,rfl,rfl⟩:=ht
 all_goals rcases hpc with ⟨rfl,rfl,rfl,rfl⟩ | q | ⟨rfl,q⟩ | ⟨rfl,rfl,q⟩ | ⟨rfl,rfl,rfl,q⟩
 all_goals
   refine calls [(0,_),(1,_)] Tryz.func201 rfl Tryz.ntmps201 rfl ⟨rfl,rfl,trivial⟩ ?_
   all_goals (refine WC.sr ?_;refine WL.ai (aB rfl) rfl rfl rfl ?_;rintro _ h1 ⟨b1,rfl,bO,aQ,ay⟩;refine WL.ai (aB rfl) rfl rfl rfl ?_;rintro _ h2 ⟨b2,rfl,eS,bH,aH⟩;have og:=aH.obj aQ aO;have hx:=ay.trans aH;refine Go ?_;refine G2 ?_;refine Ld ?_;refine Go ?_;refine Ld ?_;refine Go ?_;refine Ld ?_;refine WL.step (aD (vs:=[_,_,_]) (cs:=[_,_,_]) (fun | [a0,a1,a2]=>[a0,a1,a2] | _=>[]) rfl rfl (by kernel_rfl)) rfl rfl rfl (Go ?_);refine Ld ?_;refine Go ?_;refine Ld ?_;refine Go ?_;refine Ld ?_;refine WL.step (aD (vs:=[_,_,_]) (cs:=[_,_,_]) (fun | [a0,a1,a2]=>[a0,a1,a2] | _=>[]) rfl rfl (by kernel_rfl)) rfl rfl rfl ?_;first | (refine WL.step (bK.dL rfl (mM (us:=[t1,n1,v1]) (vs:=[t1,n1,v1]) Tryz.underlying251 (show Tryz.prog.info? 9=some Tryz.t9 by kernel_rfl) Tryz.underlying9 (by kernel_rfl) (by kernel_rfl) (by kernel_rfl) rfl rfl rfl rfl)) rfl rfl rfl ?_) | (refine WL.step (bK.eX (fun e=>ht (by simpa using e)) (mM (us:=[t1,n1,v1]) (vs:=[t2,n2,v2]) Tryz.underlying251 (show Tryz.prog.info? 9=some Tryz.t9 by kernel_rfl) Tryz.underlying9 (by kernel_rfl) (by kernel_rfl) (by kernel_rfl) rfl rfl rfl rfl)) rfl rfl rfl ?_))
   all_goals (refine Go ?_;refine Gs [(2,_),(3,_),(5,_)] ?_;refine G2 ?_;refine Ld ?_;refine Go ?_;refine Ld ?_;refine Go ?_;refine bG 28 ?_ TT.mk;refine Gg ?_;first | refine WL.pass rfl rfl rfl ?_ | refine Ld ?_)
   all_goals (refine Gg ?_;first | refine WL.pass rfl rfl rfl ?_ | refine Ld ?_)
   all_goals (refine Gg ?_;refine Go ?_;refine bG 35 ?_ TT.mk;refine Gg ?_;first | refine WL.pass rfl rfl rfl ?_ | refine Ld ?_)
   all_goals (refine Gg ?_;first | refine WL.pass rfl rfl rfl ?_ | refine Ld ?_)
   all_goals (refine Gg ?_;refine Go ?_;refine bG 42 ?_ TT.mk;refine Gg ?_;first | refine WL.pass rfl rfl rfl ?_ | refine Ld ?_)
   all_goals (refine Gg ?_;first | refine WL.pass rfl rfl rfl ?_ | refine Ld ?_)
   all_goals (refine Gg ?_;refine Go ?_;refine Gs [(2,_),(3,_),(5,_),(6,_)] ?_;refine G2 ?_;refine Ld ?_;refine Go ?_;refine Ld ?_;refine WL.call (vs:=[_,_]) rfl Tryz.call188 rfl ((gJ l1 l2 (ao.aq hx) (bo.aq hx) hlo).dec) rfl rfl rfl ?_;rintro _ _ ⟨⟨rfl,ho⟩ | ⟨rfl,ho⟩,rfl⟩)
   all_goals (refine Go ?_;refine bG 54 ?_ TT.mk;refine Gg ?_;first | refine WL.pass rfl rfl rfl ?_ | refine Ld ?_)
   all_goals (refine Gg ?_;first | refine WL.pass rfl rfl rfl ?_ | refine Ld ?_)
   all_goals (
    first
      | (refine WL.pass rfl rfl rfl ?_)
      | (refine WL.call (vs:=[_,_]) rfl Tryz.call239 rfl ((zr c1 c2 (ac.aq hx) (bc.aq hx) hlc hmc).dec) rfl rfl rfl ?_
         rintro _ _ ⟨⟨rfl,hc⟩ | ⟨rfl,hc⟩,rfl⟩))
   all_goals (refine Go ?_;refine bG 61 ?_ TT.mk;refine Gg ?_;first | refine WL.pass rfl rfl rfl ?_ | refine Ld ?_)
   all_goals (refine Gg ?_;first | refine WL.pass rfl rfl rfl ?_ | refine Ld ?_)
   all_goals (
    first
      | (refine WL.pass rfl rfl rfl ?_)
      | (refine WL.call (vs:=[_,_]) rfl Tryz.call240 rfl ((zt f1 f2 (af.aq hx) (bf.aq hx) hlf hmf).dec) rfl rfl rfl ?_
         rintro _ _ ⟨⟨rfl,hf⟩ | ⟨rfl,hf⟩,rfl⟩))
   all_goals (refine Go ?_;refine Gs [(2,_),(3,_),(5,_),(6,_),(7,_)] ?_;refine G2 ?_;refine bG 69 ?_ TT.mk;refine Gg ?_;refine Go ?_;refine bG 72 ?_ TT.mk;refine Gg ?_;refine Go ?_;refine bG 75 ?_ TT.mk;refine Gg ?_;first | refine WL.pass rfl rfl rfl ?_ | refine Ld ?_)
   all_goals (refine Gg ?_;first | refine WL.pass rfl rfl rfl ?_ | refine Ld ?_)
   all_goals (
    first
      | (refine WL.pass rfl rfl rfl ?_)
      | (refine WL.call (vs:=[_,_,_]) rfl Tryz.call189 rfl (ub _ _ (ar.aq hx) (br.aq hx)) rfl rfl rfl ?_
         rintro _ h3 ⟨rfl,aP⟩))
   all_goals (refine Go ?_;refine Gs [(4,_)] ?_;refine Gt ?_)
   all_goals (
    first
     | (refine ⟨⟨false,rfl,⟨fun z=>(by cases z),fun z=>?_⟩⟩,hx⟩
        exfalso
        simp only [Bk.pl,Prod.mk.injEq] at z
        obtain ⟨z1,z2,z3,z4,z5,z6,z7,z8,z9,OD,M7⟩:=z
        first | exact ht ⟨z3,z4,z5⟩ | exact q z1 | exact q z2 | exact q z6 | exact q z7 | exact ho z8 | exact hc z9 | exact hf M7)
     | (refine ⟨⟨_,rfl,?_⟩,hx.trans aP⟩
        simp [Bk.pl,ho,hc,hf]))
def lE (k : Int) : Prop := k = 82 ∨ k = 83 ∨ k = 75 ∨ k = 90 ∨ k = 49 ∨ k = 50 ∨ k = 51 ∨ k = 110 ∨ k = 115 ∨ k = 73 ∨ k = 67 ∨ k = 68 ∨ k = 84 ∨ k = 116 ∨ k = 69 ∨ k = 78
theorem oI (k : UInt8) : nn.contains k = true ↔ lE (k.toNat : Int) := by
 simp only [nn, List.contains_cons, List.contains_nil, Bool.or_eq_true, beq_iff_eq, ← UInt8.toNat_inj, lE, Bool.or_false]
 simp
 omega
theorem xd {h : ah} (k : Int) (h0 : 0 ≤ k ∧ k ≤ 255) : ag Tryz.prog 191 ⟨[.int .u8 k]⟩ h fun u h' => (∃ x, u = .bool x ∧ (x = true ↔ lE k)) ∧ Ext No h h' := by
 obtain ⟨c, rfl⟩ : ∃ c : UInt8, k = (c.toNat : Int) := ⟨UInt8.ofNat k.toNat, by rw [UInt8.toNat_ofNat']; omega⟩
 have e1 := Lib.contains_iff_indexByte [82, 83, 75, 90, 49, 50, 51, 110, 115, 73, 67, 68, 84, 116, 69, 78] c
 refine calls [(0, _)] Tryz.func191 rfl Tryz.ntmps191 rfl ⟨rfl, trivial⟩ ?_
 refine G2 ?_; refine WC.sr ?_; refine WL.ai (aw (vs := [_, _, _, _, _, _, _, _, _, _, _, _, _, _, _, _]) (cs := [_, _, _, _, _, _, _, _, _, _, _, _, _, _, _, _]) (fun | [a0, a1, a2, a3, a4, a5, a6, a7, a8, a9, gd, rE, a12, wS, wT, yN] => [a0, a1, a2, a3, a4, a5, a6, a7, a8, a9, gd, rE, a12, wS, wT, yN] | _ => []) Tryz.underlying23 rfl rfl (by kernel_rfl)) rfl rfl rfl ?_
 rintro _ h1 ⟨b1, rfl, bO, aQ, ay⟩
 refine WL.ai (fK Tryz.underlying23 Tryz.underlying5 rfl (by assumption)) rfl rfl rfl ?_
 rintro _ h2 ⟨rfl, ⟨z2, bH⟩, aH⟩
 refine Go ?_; refine WL.call (vs := [_, _]) rfl Tryz.call126 rfl (dh [82, 83, 75, 90, 49, 50, 51, 110, 115, 73, 67, 68, 84, 116, 69, 78] c (bz bH rfl) (by simp)) rfl rfl rfl ?_
 rintro _ hz ⟨rfl, _⟩
 subst hz
 refine WL.step (dm rfl rfl) rfl rfl rfl (Go ?_); refine Gs [(2, _)] ?_; refine Gt ?_
 exact ⟨⟨_, rfl, by rw [← e1]; exact oI c⟩, ay.trans' aH (fun q hq e => by omega)⟩
theorem p8 {h : ah} (s : List UInt8) (hm : s.length ≤ 1000000) : ag Tryz.prog 104 ⟨[St s]⟩ h fun u h' => u = .bool (aZ s) ∧ h' = h := by
 have hci : aZ s = true ↔ ∀ c ∈ s, c ≠ 0 := by
   unfold aZ
   rw [Bool.not_eq_true', ← Bool.not_eq_true, List.contains_iff_mem]
   exact ⟨fun z c hc e => z (e ▸ hc), fun z hc => z 0 hc rfl⟩
 refine calls [(0, _)] Tryz.func104 rfl Tryz.ntmps104 rfl ⟨rfl, trivial⟩ ?_
 refine G2 ?_; refine G3 ?_; refine WC.block ?_; refine WC.bC (X := Nat) (fun x => ([(3, In (x : Int))] : Fr)) [(0, _)] (fun k h' => h = h' ∧ k ≤ s.length ∧ ∀ c ∈ s.take k, c ≠ 0) (fun k => s.length - k) (0) ⟨rfl, rfl, trivial⟩ (by exact ⟨rfl, Nat.zero_le _, fun c hc => by cases hc⟩) ?_
 rintro k h2 ⟨e, hk, hn⟩
 subst e
 refine WC.sub [(3, _), (0, _)] ⟨rfl, rfl, trivial⟩ ?_; refine G3 ?_
 refine aJ 1 2 (Hb.mk fun hb => ?_) (Hb.mk fun hb => ?_)
 all_goals try (
 refine ax 1 ?_
 refine WC.skip ?_
 skip)
 all_goals try (
 refine ax 2 ?_
 refine WC.exit ?_
 repeat' (with_reducible first | refine aU ?_ | refine aG rfl ?_ | refine aI ?_ | refine aL ?_ | refine aS ?_)
 refine Br.out (i := 1000) ?_
 skip)
 all_goals (refine Gn ?_; first | refine Br.ab ?_ | refine Gs [(0, _), (3, _)] ?_)
 all_goals (first | refine Br.ab ?_ | refine WC.seq ?_)
 all_goals (first | refine Br.ab ?_ | refine WC.block ?_)
 all_goals (first | refine Br.ab ?_ | refine WC.seq ?_)
 all_goals (first | refine Br.ab ?_ | (obtain ⟨y, hy⟩ : ∃ y, s[k]? = some y := ⟨_, List.getElem?_eq_getElem (by omega)⟩))
 all_goals (first | refine Br.ab ?_ | refine WC.region ?_)
 all_goals (refine Go ?_; first | refine Br.ab ?_ | (refine WL.step (cT Tryz.underlying9 rfl rfl (by omega) (by assumption)) rfl rfl rfl ?_))
 all_goals (refine Go ?_; first | refine Br.ab ?_ | (refine aJ 3 4 (Hb.mk fun hb => ?_) (Hb.mk fun hb => ?_)))
 all_goals try (
 refine ax 3 ?_
 refine G2 ?_; refine Gs [(2, _)] ?_; refine Gt ?_
 first
  | (refine ⟨congrArg Value.bool ?_, rfl⟩; symm; rw [hci]; rw [List.take_of_length_le (by omega)] at hn; exact hn)
  | (refine ⟨congrArg Value.bool ?_, rfl⟩; cases hq : aZ s; rfl; exact absurd (UInt8.toNat_inj.1 (by simpa using hb)) (hci.1 hq _ (List.mem_of_getElem? hy)))
 skip)
 all_goals try (
 refine ax 4 ?_
 refine WC.skip ?_
 skip)
 all_goals (refine Gn ?_; first | refine Br.ab ?_ | refine Gs [(0, _), (3, _)] ?_)
 all_goals (first | refine Br.ab ?_ | refine WC.region ?_)
 all_goals (refine Go ?_; first | refine Br.ab ?_ | (exact ⟨k + 1, ⟨rfl, rfl, trivial⟩, (by exact ⟨rfl, by omega, fun c hc => by rw [List.take_add_one, hy] at hc; simp only [Option.toList_some, List.mem_append, List.mem_singleton] at hc; rcases hc with hc | rfl; exact hn c hc; exact (fun e => by subst e; simp at *)⟩), (by omega)⟩))
 try (refine Br.mk (i := 1000) ?_)
 refine Gn ?_; refine Gs [] ?_; refine G2 ?_; refine Gt ?_
 first
  | (refine ⟨congrArg Value.bool ?_, rfl⟩; symm; rw [hci]; rw [List.take_of_length_le (by omega)] at hn; exact hn)
  | (refine ⟨congrArg Value.bool ?_, rfl⟩; cases hq : aZ s; rfl; exact absurd (UInt8.toNat_inj.1 (by simpa using hb)) (hci.1 hq _ (List.mem_of_getElem? hy)))
theorem rV {α : Type} {p : α → Prop} {l : List α} {k : Nat} {y : α} (hy : l[k]? = some y) (hn : ∀ c ∈ l.take k, p c) (hp : p y) : ∀ c ∈ l.take (k + 1), p c := fun c hc => by
 rw [List.take_add_one, hy] at hc
 simp only [Option.toList_some, List.mem_append, List.mem_singleton] at hc
 rcases hc with hc | rfl
 · exact hn c hc
 · exact hp
theorem zu {h : ah} {v : Value} (l : List aX) (hl : cF h v l) (hm : l.length ≤ 65535) (ht : ∀ c ∈ l, c.bytes.length ≤ 1048576) :
   ag Tryz.prog 109 ⟨[v]⟩ h fun u h' => u = .bool (decide (∀ c ∈ l, c.okB)) ∧ h' = h := by
 obtain ⟨hr, ⟨_, A, c, rfl, _⟩, ho⟩ := hl
 refine calls [(0, _)] Tryz.func109 rfl Tryz.ntmps109 rfl ⟨rfl, trivial⟩ ?_
 refine G2 ?_; refine G3 ?_
 refine aJ 1 2 ?_ TT.mk
 all_goals (refine ax 2 ?_)
 refine WC.skip ?_; refine Gn ?_; refine Gs [(0, _)] ?_; refine G3 ?_; refine WC.block ?_; refine WC.bC (X := Nat) (fun x => ([(3, In (x : Int))] : Fr)) [(0, _)] (fun k h' => h' = h ∧ k ≤ l.length ∧ ∀ c ∈ l.take k, c.okB) (fun k => l.length - k) (0) ⟨rfl, rfl, trivial⟩ (by exact ⟨rfl, Nat.zero_le _, by simp⟩) ?_
 rintro k h1 ⟨hz, hk, hn⟩
 subst h1
 refine WC.sub [(3, _), (0, _)] ⟨rfl, rfl, trivial⟩ ?_; refine G3 ?_
 refine aJ 3 4 (Hb.mk fun hb => ?_) (Hb.mk fun hb => ?_)
 all_goals try (
 refine ax 3 ?_
 refine WC.skip ?_
 skip)
 all_goals try (
 refine ax 4 ?_
 refine WC.exit ?_
 repeat' (with_reducible first | refine aU ?_ | refine aG rfl ?_ | refine aI ?_ | refine aL ?_ | refine aS ?_)
 refine Br.out (i := 1000) ?_
 skip)
 all_goals (refine Gn ?_; first | refine Br.ab ?_ | refine Gs [(0, _), (3, _)] ?_)
 all_goals (first | refine Br.ab ?_ | refine WC.seq ?_)
 all_goals (first | refine Br.ab ?_ | refine WC.block ?_)
 all_goals (first | refine Br.ab ?_ | refine WC.sr ?_)
 all_goals (
  first
    | (refine Br.ab ?_)
    | (obtain ⟨bL, oL, hA, hbL, hat⟩ := Rd.at_ hr (by omega)
       obtain ⟨y, hy⟩ : ∃ y, l[k]? = some y := ⟨_, List.getElem?_eq_getElem (by omega)⟩
       have hyl := ht y (List.mem_of_getElem? hy)
       have hyo := (ho y (List.mem_of_getElem? hy)).1
       have rD : At h bL (oL + k * 2) y.cells := At.elem aX.len hat hy
       obtain ⟨yn, yv, yb⟩ := y
       dsimp only [aX.cells] at rD hyl hyo
       obtain ⟨yA, yc, rfl, _⟩ := id hyo
       cases yn
       all_goals by_cases c2 : yb.length = 0))
 all_goals (first | refine Br.ab ?_ | refine WL.step (ak rfl) rfl rfl rfl ?_)
 all_goals (refine Go ?_; first | refine Br.ab ?_ | (refine WL.step (aF Tryz.underlying40 Tryz.sizeOf85 rfl rfl rfl (by omega) (by first | rfl | assumption)) rfl rfl rfl ?_))
 all_goals (refine Go ?_; first | refine Br.ab ?_ | (refine WL.ld rfl (by first | exact rD.get 0 rfl rfl | assumption) rfl rfl rfl ?_))
 all_goals (refine Go ?_; first | refine Br.ab ?_ | refine bG 18 ?_ TT.mk)
 all_goals (refine Gg ?_; first | refine Br.ab ?_ | (first | (refine WL.pass rfl rfl rfl ?_) | (refine WL.step (aF Tryz.underlying40 Tryz.sizeOf85 rfl rfl rfl (by omega) (by first | rfl | assumption)) rfl rfl rfl ?_)))
 all_goals (refine Gg ?_; first | refine Br.ab ?_ | (first | (refine WL.pass rfl rfl rfl ?_) | (refine WL.ld rfl (by first | exact rD.get 1 rfl rfl | assumption) rfl rfl rfl ?_)))
 all_goals (refine Gg ?_; refine Go ?_; first | refine Br.ab ?_ | refine bG 27 ?_ TT.mk)
 all_goals (refine Gg ?_; first | refine Br.ab ?_ | (first | (refine WL.pass rfl rfl rfl ?_) | (refine WL.step (aF Tryz.underlying40 Tryz.sizeOf85 rfl rfl rfl (by omega) (by first | rfl | assumption)) rfl rfl rfl ?_)))
 all_goals (refine Gg ?_; first | refine Br.ab ?_ | (first | (refine WL.pass rfl rfl rfl ?_) | (refine WL.ld rfl (by first | exact rD.get 1 rfl rfl | assumption) rfl rfl rfl ?_)))
 all_goals (refine Gg ?_; refine Go ?_; first | refine Br.ab ?_ | refine Gs [(0, _), (3, _), (35, _)] ?_)
 all_goals (first | refine Br.ab ?_ | refine aJ 5 6 ?_ TT.mk)
 all_goals try (
 refine ax 5 ?_
 refine G2 ?_; refine Gt ?_
 first
  | exact ⟨congrArg Value.bool (decide_eq_true (by rw [List.take_of_length_le (by omega)] at hn; exact hn)).symm, rfl⟩
  | (refine ⟨congrArg Value.bool (decide_eq_false (fun z => ?_)).symm, rfl⟩
     obtain ⟨d1, d2⟩ := z _ (List.mem_of_getElem? hy)
     first | exact c2 (d1 rfl) | (exfalso; omega))
 skip)
 all_goals try (
 refine ax 6 ?_
 all_goals (refine WC.skip ?_)
 skip)
 all_goals (refine Gn ?_; first | refine Br.ab ?_ | refine WC.region ?_)
 all_goals (refine Go ?_; first | refine Br.ab ?_ | (exact ⟨k + 1, ⟨rfl, rfl, trivial⟩, (by exact ⟨rfl, by omega, rV hy hn ⟨(fun z => by first | exact c2 | cases z), hyl⟩⟩), (by omega)⟩))
 try (refine Br.mk (i := 1000) ?_)
 refine Gn ?_; refine Gs [] ?_; refine G2 ?_; refine Gt ?_
 first
  | exact ⟨congrArg Value.bool (decide_eq_true (by rw [List.take_of_length_le (by omega)] at hn; exact hn)).symm, rfl⟩
  | (refine ⟨congrArg Value.bool (decide_eq_false (fun z => ?_)).symm, rfl⟩
     obtain ⟨d1, d2⟩ := z _ (List.mem_of_getElem? hy)
     first | exact c2 (d1 rfl) | (exfalso; omega))
structure Bk.EA (b:Bk):Prop where
 oids:b.oids.length≤100
 cols:b.cols.length≤100
 row:b.row.length≤100
 fields:b.fields.length≤100
 names:∀ c∈b.cols,c.nm.length≤1000
 cells:∀ c∈b.row,c.bytes.length≤1000
 texts:∀ f∈b.fields,f.t.length≤200000
 tag:b.tag.length≤1000
 name:b.name.length≤1000
 value:b.value.length≤1000
instance (b:Bk):Decidable b.kN:=by unfold Bk.kN;exact inferInstance
theorem zv (k st:Int):k ≠ 90∨(k=90∧st=73)∨(k=90∧st=84)∨(k=90∧st=69)∨(k=90∧st ≠ 73∧st ≠ 84∧st ≠ 69):=by omega
theorem ud {h:ah} (b:Bk):ag Tryz.prog 200 ⟨[.agg ⟨b.cells⟩]⟩ h fun u h'=>u=.bool (decide b.kN)∧Ext No h h':=by
 obtain ⟨k,st,t,n,v,x,y,vo,lo,vc,lc,vr,lr,vf,lf⟩:=b
 dsimp only [Bk.cells]
 rcases zv k st with q | ⟨q,q1⟩ | ⟨q,q1⟩ | ⟨q,q1⟩ | ⟨q,q1,q2,q3⟩
 all_goals
   refine calls [(0,_)] Tryz.func200 rfl Tryz.ntmps200 rfl ⟨rfl,trivial⟩ ?_
   all_goals (refine WC.sr ?_;refine WL.ai (aB rfl) rfl rfl rfl ?_;rintro _ h1 ⟨b1,rfl,bO,aQ,ay⟩;refine Go ?_;refine G2 ?_;refine Ld ?_;refine Go ?_;refine bG 6 ?_ TT.mk;refine Gg ?_;first | refine WL.pass rfl rfl rfl ?_ | refine Ld ?_)
   all_goals (refine Gg ?_;refine Go ?_;refine bG 11 ?_ TT.mk;refine Gg ?_;first | refine WL.pass rfl rfl rfl ?_ | refine Ld ?_)
   all_goals (refine Gg ?_;refine Go ?_;refine bG 16 ?_ TT.mk;refine Gg ?_;first | refine WL.pass rfl rfl rfl ?_ | refine Ld ?_)
   all_goals (refine Gg ?_;refine Go ?_;refine Gs [(2,_)] ?_;refine Gt ?_)
   all_goals (
    refine ⟨congrArg Value.bool ?_,ay⟩
    first
     | exact (decide_eq_true (p:=Bk.kN _) (by unfold Bk.kN;simp only;omega)).symm
     | exact (decide_eq_false (p:=Bk.kN _) (by unfold Bk.kN;simp only;omega)).symm)
theorem zw {k:Int} (h0:0≤k∧k≤255):(∃ c:UInt8,Value.int .u8 k=By c∧nn.contains c=true) ↔ lE k:=by
 obtain ⟨c,rfl⟩:∃ c:UInt8,k=(c.toNat:Int):=⟨UInt8.ofNat k.toNat,by rw [UInt8.toNat_ofNat'];omega⟩
 rw [← oI]
 constructor
 · rintro ⟨d,e,hd⟩
   have:c=d:=by simp only [By,Value.int.injEq,true_and] at e;exact UInt8.toNat_inj.1 (by omega)
   rw [this];exact hd
 · exact fun hd=>⟨c,rfl,hd⟩
theorem dK {α:Type} {p:α→Prop} [DecidablePred p] {l:List α}:(l.all fun c=>decide (p c))=true ↔ ∀ c∈l,p c:=by simp
theorem mN {l:List Int}:l.all lD=true ↔ ∀ n∈l,0≤n∧n≤4294967295:=by simp [lD]
theorem gv {n:Int}:lD n=true ↔ 0≤n∧n≤4294967295:=by simp [lD]
theorem mj {h:ah} (b:Bk) (hb:b.ok h) (Kb:0≤b.kind∧b.kind≤255) (hmd:b.EA) :
   ag Tryz.prog 139 ⟨[.agg ⟨b.cells⟩]⟩ h fun u h'=>(∃ e,u=In e∧(e=0 ↔ b.may))∧Ext No h h':=by
 have hof:=fun {h':ah} (hx:Ext No h h')=>vw (h:=h') b (hb.aq hx)
 have hst:=fun {h':ah}=>(ud (h:=h') b).dec
 have hsa:=fun {h':ah} (hx:Ext No h h')=>uc (h:=h') b (qU b) (hb.aq hx) (yQ (hb.aq hx))
 have hmk:=zw Kb
 have hyes:lE b.kind→aZ b.tag=true→aZ b.name=true→aZ b.value=true→(∀ c∈b.cols,c.okB)→(∀ c∈b.fields,c.okB)→(∀ c∈b.row,c.okB)→(∀ n∈b.oids,0≤n∧n≤4294967295)→(0≤b.n∧b.n≤4294967295)→(0≤b.m∧b.m≤4294967295)→b.kN→b.pl=(qU b).pl→b.may:=fun a1 a2 a3 a4 a5 a6 a7 a8 a9 gd rE a12 =>
   ⟨hmk.2 a1,a2,a3,a4,⟨by have:=hmd.cols;omega,a5⟩,⟨by have:=hmd.fields;omega,a6⟩,⟨by have:=hmd.row;omega,a7⟩,⟨by have:=hmd.oids;omega,a8⟩,a9,gd,rE,a12.symm⟩
 have hnk:¬ lE b.kind→¬ b.may:=fun a z=>a (hmk.1 z.kind)
 have CI:aZ b.tag=false→¬ b.may:=fun a z=>by rw [z.tag] at a;cases a
 have FO:aZ b.name=false→¬ b.may:=fun a z=>by rw [z.name] at a;cases a
 have H4:aZ b.value=false→¬ b.may:=fun a z=>by rw [z.value] at a;cases a
 have H5:(b.cols.all fun c=>decide c.okB)=false→¬ b.may:=fun a z=>by rw [dK.2 z.cols.2] at a;cases a
 have Hm:(b.fields.all fun c=>decide c.okB)=false→¬ b.may:=fun a z=>by rw [dK.2 z.fields.2] at a;cases a
 have H6:(b.row.all fun c=>decide c.okB)=false→¬ b.may:=fun a z=>by rw [dK.2 z.row.2] at a;cases a
 have H7:b.oids.all lD=false→¬ b.may:=fun a z=>by rw [mN.2 z.oids.2] at a;cases a
 have x5:lD b.n=false→¬ b.may:=fun a z=>by rw [gv.2 z.n] at a;cases a
 have zx:lD b.m=false→¬ b.may:=fun a z=>by rw [gv.2 z.m] at a;cases a
 have zy:¬ b.kN→¬ b.may:=fun a z=>a z.st
 have lF:¬ b.pl=(qU b).pl→¬ b.may:=fun a z=>a z.own.symm
 generalize hob:qU b=ob at hof hsa hyes lF
 generalize b.may=BM at hyes hnk CI FO H4 H5 Hm H6 H7 x5 zx zy lF ⊢
 obtain ⟨ho,hc,hr,hf⟩:=hb
 obtain ⟨Kc,Ke,Jx,Jy,H8,H9,Jz,Kg,Kh,FP⟩:=hmd
 generalize hPL:b.pl=PL at hsa hyes lF
 generalize hST:b.kN=ST at hst hyes zy
 obtain ⟨k,st,t,n,v,x,y,vo,lo,vc,lc,vr,lr,vf,lf⟩:=b
 simp only at Kb ho hc hr hf Kc Ke Jx Jy H8 H9 Jz Kg Kh FP hyes hnk CI FO H4 H5 Hm H6 H7 x5 zx
 dsimp only [Bk.cells] at hof hst hsa ⊢
 refine calls [(0,_)] Tryz.func139 rfl Tryz.ntmps139 rfl ⟨rfl,trivial⟩ ?_
 refine WC.sr ?_;refine WL.ai (aB rfl) rfl rfl rfl ?_
 rintro _ g1 ⟨b1,rfl,bO,aQ,ay⟩
 refine Go ?_;refine G3 ?_;refine Ld ?_;refine WL.call (vs:=[_]) rfl Tryz.call191 rfl (xd k Kb) rfl rfl rfl ?_
 rintro _ g2 ⟨⟨kx,rfl,hkx⟩,aH⟩
 have bH:=aH.obj aQ aO
 have gm:=ay.trans aH
 cases kx
 all_goals (refine Go ?_;refine Gs [(1,_),(8,_)] ?_;refine aJ 1 2 ?_ TT.mk)
 all_goals try (
 refine ax 1 ?_
 refine G2 ?_;refine Gt ?_
 first
  | exact ⟨⟨0,rfl,⟨fun _=>hyes (hkx.1 rfl) c1 c2 c3 (dK.1 c4) (dK.1 c5) (dK.1 c6) (mN.1 c7) (gv.1 c8) (gv.1 c9) Cm (hsx.1 rfl),fun _=>rfl⟩⟩,kJ.trans cg⟩
  | (refine ⟨⟨_,rfl,⟨fun z=>absurd z (by decide),fun z=>absurd z ?_⟩⟩,?_⟩
     · first | exact hnk (fun z=>Bool.false_ne_true (hkx.2 z)) | exact CI c1 | exact FO c2 | exact H4 c3 | exact H5 c4 | exact Hm c5 | exact H6 c6 | exact H7 c7 | exact x5 c8 | exact zx c9 | exact zy Cm | exact lF (fun z=>Bool.false_ne_true (hsx.2 z))
     · first | exact kJ.trans cg | exact yT | exact Ft | exact kM | exact nk | exact jT | exact gm)
 skip)
 all_goals (refine ax 2 ?_)
 refine WC.skip ?_;refine Gn ?_;refine G2 ?_;refine Ld ?_;refine WL.call (vs:=[_]) rfl Tryz.call187 rfl ((cW t).bl) rfl rfl rfl ?_
 rintro _ h9 ⟨⟨rfl,c1⟩ | ⟨rfl,c1⟩,ml⟩
 all_goals subst h9
 all_goals (refine Go ?_;refine bG 12 ?_ TT.mk;refine Gg ?_;first | refine WL.pass rfl rfl rfl ?_ | refine Ld ?_)
 all_goals (
  first
    | (refine WL.pass rfl rfl rfl ?_)
    | (refine WL.call (vs:=[_]) rfl Tryz.call187 rfl ((cW n).bl) rfl rfl rfl ?_
       rintro _ h9 ⟨⟨rfl,c2⟩ | ⟨rfl,c2⟩,ml⟩
       all_goals subst h9))
 all_goals (refine Go ?_;refine bG 17 ?_ TT.mk;refine Gg ?_;first | refine WL.pass rfl rfl rfl ?_ | refine Ld ?_)
 all_goals (
  first
    | (refine WL.pass rfl rfl rfl ?_)
    | (refine WL.call (vs:=[_]) rfl Tryz.call187 rfl ((cW v).bl) rfl rfl rfl ?_
       rintro _ h9 ⟨⟨rfl,c3⟩ | ⟨rfl,c3⟩,ml⟩
       all_goals subst h9))
 all_goals (refine Go ?_;refine Gs [(1,_),(3,_)] ?_;refine G2 ?_;refine Ld ?_)
 all_goals (
  refine WL.call (vs:=[_,_]) rfl Tryz.call192 rfl ((tW lc (fun c=>decide c.okB) (hc.1.aq gm) (by omega) Tryz.call193 (fun c hc _ _=>tZ c)).bl) rfl rfl rfl ?_
  rintro _ g3 ⟨⟨rfl,c4⟩ | ⟨rfl,c4⟩,aP⟩
  all_goals have bn:=aP.obj bH aO
  all_goals have jT:=gm.trans aP)
 all_goals (refine Go ?_;refine bG 25 ?_ TT.mk;refine Gg ?_;first | refine WL.pass rfl rfl rfl ?_ | refine Ld ?_)
 all_goals (
  first
    | (refine WL.pass rfl rfl rfl ?_)
    | (refine WL.call (vs:=[_,_]) rfl Tryz.call194 rfl ((tX lf (fun c=>decide c.okB) (hf.1.aq jT) (by omega) Tryz.call195 (fun c hc _ _=>xb c)).bl) rfl rfl rfl ?_
       rintro _ g4 ⟨⟨rfl,c5⟩ | ⟨rfl,c5⟩,aW⟩
       all_goals have bx:=aW.obj bn aO
       all_goals have nk:=jT.trans aW))
 all_goals (refine Go ?_;refine bG 30 ?_ TT.mk;refine Gg ?_;first | refine WL.pass rfl rfl rfl ?_ | refine Ld ?_)
 all_goals (
  first
    | (refine WL.pass rfl rfl rfl ?_)
    | (refine WL.call (vs:=[_,_]) rfl Tryz.call196 rfl ((tY lr (fun c=>decide c.okB) (hr.1.aq nk) (by omega) Tryz.call197 (fun c hc _ _=>zo c (hr.2.2 c hc) (by have:=H9 c hc;omega))).bl) rfl rfl rfl ?_
       rintro _ g5 ⟨⟨rfl,c6⟩ | ⟨rfl,c6⟩,aN⟩
       all_goals have bT:=aN.obj bx aO
       all_goals have kM:=nk.trans aN))
 all_goals (refine Go ?_;refine bG 35 ?_ TT.mk;refine Gg ?_;first | refine WL.pass rfl rfl rfl ?_ | refine Ld ?_)
 all_goals (
  first
    | (refine WL.pass rfl rfl rfl ?_)
    | (refine WL.call (vs:=[_,_]) rfl Tryz.call198 rfl ((ua lo (ho.1.aq kM) (by omega)).bl) rfl rfl rfl ?_
       rintro _ g6 ⟨⟨rfl,c7⟩ | ⟨rfl,c7⟩,aM⟩
       all_goals have bN:=aM.obj bT aO
       all_goals have Ft:=kM.trans aM))
 all_goals (refine Go ?_;refine Gs [(1,_),(3,_),(4,_)] ?_;refine WC.seq ?_;refine WC.seq ?_;refine WC.bW (fun h'=>h'[b1]?=some (.cells ⟨[.int .u8 k,.int .u8 st,St t,St n,St v,In x,In y,vo,vc,vr,vf]⟩ 140 (0,0))) 30 30 rfl dk ?_;refine WH.tk 0 rfl (fun hq hC=>ak rfl) rfl rfl rfl ?_ (hC:=(by first | exact bQ | exact bE | exact bZ | exact bN | exact bT | exact bx | exact bn));refine WH.tk 1 rfl (fun hq hC=>cL rfl) rfl rfl rfl ?_ (hC:=(by first | exact bQ | exact bE | exact bZ | exact bN | exact bT | exact bx | exact bn));refine WH.tk 2 rfl (fun hq hC=>ak rfl) rfl rfl rfl ?_ (hC:=(by first | exact bQ | exact bE | exact bZ | exact bN | exact bT | exact bx | exact bn));try ((fail_if_success (refine WH.part 42 (b:=true) rfl (fun _=>?_) (fun _=>?_)));(fail_if_success (refine WH.part 42 (b:=false) rfl (fun _=>?_) (fun _=>?_)));(refine WH.part 42 rfl (fun hb=>?_) (fun hb=>?_))))
 all_goals (first | (refine WH.ps 3 rfl rfl rfl rfl ?_ (hC:=(by first | exact bQ | exact bE | exact bZ | exact bN | exact bT | exact bx | exact bn))) | (refine WH.tk 3 rfl (fun hq hC=>ak rfl) rfl rfl rfl ?_ (hC:=(by first | exact bQ | exact bE | exact bZ | exact bN | exact bT | exact bx | exact bn))))
 all_goals (first | (refine WH.ps 4 rfl rfl rfl rfl ?_ (hC:=(by first | exact bQ | exact bE | exact bZ | exact bN | exact bT | exact bx | exact bn))) | (refine WH.tk 4 rfl (fun hq hC=>cL rfl) rfl rfl rfl ?_ (hC:=(by first | exact bQ | exact bE | exact bZ | exact bN | exact bT | exact bx | exact bn))))
 all_goals (first | (refine WH.tk 5 rfl (fun hq hC=>cM rfl rfl) rfl rfl rfl ?_ (hC:=(by first | exact bQ | exact bE | exact bZ | exact bN | exact bT | exact bx | exact bn))) | (refine WH.tk 5 rfl (fun hq hC=>cd rfl rfl) rfl rfl rfl ?_ (hC:=(by first | exact bQ | exact bE | exact bZ | exact bN | exact bT | exact bx | exact bn))))
 all_goals (refine WH.tk 6 rfl (fun hq hC=>ak rfl) rfl rfl rfl ?_ (hC:=(by first | exact bQ | exact bE | exact bZ | exact bN | exact bT | exact bx | exact bn));try ((fail_if_success (refine WH.part 46 (b:=true) rfl (fun _=>?_) (fun _=>?_)));(fail_if_success (refine WH.part 46 (b:=false) rfl (fun _=>?_) (fun _=>?_)));(refine WH.part 46 rfl (fun hb=>?_) (fun hb=>?_))))
 all_goals (first | (refine WH.ps 7 rfl rfl rfl rfl ?_ (hC:=(by first | exact bQ | exact bE | exact bZ | exact bN | exact bT | exact bx | exact bn))) | (refine WH.tk 7 rfl (fun hq hC=>ad rfl Tryz.underlying140 rfl Tryz.sizeOf3) rfl rfl rfl ?_ (hC:=(by first | exact bQ | exact bE | exact bZ | exact bN | exact bT | exact bx | exact bn))))
 all_goals (first | (refine WH.ps 8 rfl rfl rfl rfl ?_ (hC:=(by first | exact bQ | exact bE | exact bZ | exact bN | exact bT | exact bx | exact bn))) | (refine WH.tk 8 rfl (fun hq hC=>aA Tryz.isAgg3 rfl (aa hC rfl)) rfl rfl rfl ?_ (hC:=(by first | exact bQ | exact bE | exact bZ | exact bN | exact bT | exact bx | exact bn))))
 all_goals (first
   | (refine WH.ps 9 rfl rfl rfl rfl ?_ (hC:=(by first | exact bQ | exact bE | exact bZ | exact bN | exact bT | exact bx | exact bn)))
   | (refine WH.one 9 (by kernel_rfl) ?_
      refine aE.call (vs:=[_]) rfl rfl Tryz.call199 rfl ((p7 x).bl) rfl rfl rfl ?_ (fun _=>by kernel_rfl)
      rintro _ h9 ⟨⟨rfl,c8⟩ | ⟨rfl,c8⟩,ml⟩
      all_goals subst h9
      all_goals (refine ⟨fun _=>by first | assumption | trivial,?_⟩)
      skip))
 all_goals (first | (refine WH.ps 10 rfl rfl rfl rfl ?_ (hC:=(by first | exact bQ | exact bE | exact bZ | exact bN | exact bT | exact bx | exact bn))) | (refine WH.tk 10 rfl (fun hq hC=>cL rfl) rfl rfl rfl ?_ (hC:=(by first | exact bQ | exact bE | exact bZ | exact bN | exact bT | exact bx | exact bn))))
 all_goals (first | (refine WH.tk 11 rfl (fun hq hC=>cM rfl rfl) rfl rfl rfl ?_ (hC:=(by first | exact bQ | exact bE | exact bZ | exact bN | exact bT | exact bx | exact bn))) | (refine WH.tk 11 rfl (fun hq hC=>cd rfl rfl) rfl rfl rfl ?_ (hC:=(by first | exact bQ | exact bE | exact bZ | exact bN | exact bT | exact bx | exact bn))))
 all_goals (refine WH.tk 12 rfl (fun hq hC=>ak rfl) rfl rfl rfl ?_ (hC:=(by first | exact bQ | exact bE | exact bZ | exact bN | exact bT | exact bx | exact bn));try ((fail_if_success (refine WH.part 52 (b:=true) rfl (fun _=>?_) (fun _=>?_)));(fail_if_success (refine WH.part 52 (b:=false) rfl (fun _=>?_) (fun _=>?_)));(refine WH.part 52 rfl (fun hb=>?_) (fun hb=>?_))))
 all_goals (first | (refine WH.ps 13 rfl rfl rfl rfl ?_ (hC:=(by first | exact bQ | exact bE | exact bZ | exact bN | exact bT | exact bx | exact bn))) | (refine WH.tk 13 rfl (fun hq hC=>ad rfl Tryz.underlying140 rfl Tryz.sizeOf3) rfl rfl rfl ?_ (hC:=(by first | exact bQ | exact bE | exact bZ | exact bN | exact bT | exact bx | exact bn))))
 all_goals (first | (refine WH.ps 14 rfl rfl rfl rfl ?_ (hC:=(by first | exact bQ | exact bE | exact bZ | exact bN | exact bT | exact bx | exact bn))) | (refine WH.tk 14 rfl (fun hq hC=>aA Tryz.isAgg3 rfl (aa hC rfl)) rfl rfl rfl ?_ (hC:=(by first | exact bQ | exact bE | exact bZ | exact bN | exact bT | exact bx | exact bn))))
 all_goals (first
   | (refine WH.ps 15 rfl rfl rfl rfl ?_ (hC:=(by first | exact bQ | exact bE | exact bZ | exact bN | exact bT | exact bx | exact bn)))
   | (refine WH.one 15 (by kernel_rfl) ?_
      refine aE.call (vs:=[_]) rfl rfl Tryz.call199 rfl ((p7 y).bl) rfl rfl rfl ?_ (fun _=>by kernel_rfl)
      rintro _ h9 ⟨⟨rfl,c9⟩ | ⟨rfl,c9⟩,ml⟩
      all_goals subst h9
      all_goals (refine ⟨fun _=>by first | assumption | trivial,?_⟩)
      skip))
 all_goals (first | (refine WH.ps 16 rfl rfl rfl rfl ?_ (hC:=(by first | exact bQ | exact bE | exact bZ | exact bN | exact bT | exact bx | exact bn))) | (refine WH.tk 16 rfl (fun hq hC=>cL rfl) rfl rfl rfl ?_ (hC:=(by first | exact bQ | exact bE | exact bZ | exact bN | exact bT | exact bx | exact bn))))
 all_goals (first | (refine WH.tk 17 rfl (fun hq hC=>cM rfl rfl) rfl rfl rfl ?_ (hC:=(by first | exact bQ | exact bE | exact bZ | exact bN | exact bT | exact bx | exact bn))) | (refine WH.tk 17 rfl (fun hq hC=>cd rfl rfl) rfl rfl rfl ?_ (hC:=(by first | exact bQ | exact bE | exact bZ | exact bN | exact bT | exact bx | exact bn))))
 all_goals (refine WH.tk 18 rfl (fun hq hC=>ak rfl) rfl rfl rfl ?_ (hC:=(by first | exact bQ | exact bE | exact bZ | exact bN | exact bT | exact bx | exact bn));try ((fail_if_success (refine WH.part 58 (b:=true) rfl (fun _=>?_) (fun _=>?_)));(fail_if_success (refine WH.part 58 (b:=false) rfl (fun _=>?_) (fun _=>?_)));(refine WH.part 58 rfl (fun hb=>?_) (fun hb=>?_))))
 all_goals (first | (refine WH.ps 19 rfl rfl rfl rfl ?_ (hC:=(by first | exact bQ | exact bE | exact bZ | exact bN | exact bT | exact bx | exact bn))) | (refine WH.tk 19 rfl (fun hq hC=>an Tryz.isAgg140 Tryz.sizeOf140 rfl rfl (by exact At.au hC)) rfl rfl rfl ?_ (hC:=(by first | exact bQ | exact bE | exact bZ | exact bN | exact bT | exact bx | exact bn))))
 all_goals (first
   | (refine WH.ps 20 rfl rfl rfl rfl ?_ (hC:=(by first | exact bQ | exact bE | exact bZ | exact bN | exact bT | exact bx | exact bn)))
   | (refine WH.one 20 (by kernel_rfl) ?_
      refine aE.call (vs:=[_]) rfl rfl Tryz.call200 rfl (hst) rfl rfl rfl ?_ (fun _=>by kernel_rfl)
      rintro _ g7 ⟨⟨rfl,Cm⟩ | ⟨rfl,Cm⟩,bh⟩
      all_goals have bZ:=bh.obj bN aO
      all_goals have yT:=Ft.trans bh
      all_goals (refine ⟨fun _=>bZ,?_⟩)
      skip))
 all_goals (first | (refine WH.ps 21 rfl rfl rfl rfl ?_ (hC:=(by first | exact bQ | exact bE | exact bZ | exact bN | exact bT | exact bx | exact bn))) | (refine WH.tk 21 rfl (fun hq hC=>cL rfl) rfl rfl rfl ?_ (hC:=(by first | exact bQ | exact bE | exact bZ | exact bN | exact bT | exact bx | exact bn))))
 all_goals (first | (refine WH.tk 22 rfl (fun hq hC=>cM rfl rfl) rfl rfl rfl ?_ (hC:=(by first | exact bQ | exact bE | exact bZ | exact bN | exact bT | exact bx | exact bn))) | (refine WH.tk 22 rfl (fun hq hC=>cd rfl rfl) rfl rfl rfl ?_ (hC:=(by first | exact bQ | exact bE | exact bZ | exact bN | exact bT | exact bx | exact bn))))
 all_goals (refine WH.tk 23 rfl (fun hq hC=>ak rfl) rfl rfl rfl ?_ (hC:=(by first | exact bQ | exact bE | exact bZ | exact bN | exact bT | exact bx | exact bn));try ((fail_if_success (refine WH.part 63 (b:=true) rfl (fun _=>?_) (fun _=>?_)));(fail_if_success (refine WH.part 63 (b:=false) rfl (fun _=>?_) (fun _=>?_)));(refine WH.part 63 rfl (fun hb=>?_) (fun hb=>?_))))
 all_goals (first | (refine WH.ps 24 rfl rfl rfl rfl ?_ (hC:=(by first | exact bQ | exact bE | exact bZ | exact bN | exact bT | exact bx | exact bn))) | (refine WH.tk 24 rfl (fun hq hC=>an Tryz.isAgg140 Tryz.sizeOf140 rfl rfl (by exact At.au hC)) rfl rfl rfl ?_ (hC:=(by first | exact bQ | exact bE | exact bZ | exact bN | exact bT | exact bx | exact bn))))
 all_goals (first | (refine WH.ps 25 rfl rfl rfl rfl ?_ (hC:=(by first | exact bQ | exact bE | exact bZ | exact bN | exact bT | exact bx | exact bn))) | (refine WH.tk 25 rfl (fun hq hC=>an Tryz.isAgg140 Tryz.sizeOf140 rfl rfl (by exact At.au hC)) rfl rfl rfl ?_ (hC:=(by first | exact bQ | exact bE | exact bZ | exact bN | exact bT | exact bx | exact bn))))
 all_goals (first
   | (refine WH.ps 26 rfl rfl rfl rfl ?_ (hC:=(by first | exact bQ | exact bE | exact bZ | exact bN | exact bT | exact bx | exact bn)))
   | (refine WH.one 26 (by kernel_rfl) ?_
      refine aE.call (vs:=[_]) rfl rfl Tryz.call202 rfl (hof yT) rfl rfl rfl ?_ (fun _=>by kernel_rfl)
      rintro _ g8 ⟨rfl,bD⟩
      have bE:=bD.obj bZ aO
      have kJ:=yT.trans bD
      refine ⟨fun _=>bE,?_⟩
      skip))
 all_goals (first
   | (refine WH.ps 27 rfl rfl rfl rfl ?_ (hC:=(by first | exact bQ | exact bE | exact bZ | exact bN | exact bT | exact bx | exact bn)))
   | (refine WH.one 27 (by kernel_rfl) ?_
      refine aE.call (vs:=[_,_]) rfl rfl Tryz.call201 rfl (hsa kJ) rfl rfl rfl ?_ (fun _=>by kernel_rfl)
      rintro _ g9 ⟨⟨sx,rfl,hsx⟩,cg⟩
      have bQ:=cg.obj bE aO
      cases sx
      all_goals (refine ⟨fun _=>bQ,?_⟩)
      skip))
 all_goals (first | (refine WH.ps 28 rfl rfl rfl rfl ?_ (hC:=(by first | exact bQ | exact bE | exact bZ | exact bN | exact bT | exact bx | exact bn))) | (refine WH.tk 28 rfl (fun hq hC=>cL rfl) rfl rfl rfl ?_ (hC:=(by first | exact bQ | exact bE | exact bZ | exact bN | exact bT | exact bx | exact bn))))
 all_goals (first | (refine WH.tk 29 rfl (fun hq hC=>cM rfl rfl) rfl rfl rfl ?_ (hC:=(by first | exact bQ | exact bE | exact bZ | exact bN | exact bT | exact bx | exact bn))) | (refine WH.tk 29 rfl (fun hq hC=>cd rfl rfl) rfl rfl rfl ?_ (hC:=(by first | exact bQ | exact bE | exact bZ | exact bN | exact bT | exact bx | exact bn))))
 all_goals (refine WH.done (by kernel_rfl) ?_;refine Gn ?_;refine Gs [(69,_)] ?_;refine aJ 3 4 ?_ TT.mk)
 all_goals try (
 refine ax 3 ?_
 all_goals (refine G2 ?_;refine Gt ?_)
 all_goals (
  first
   | exact ⟨⟨0,rfl,⟨fun _=>hyes (hkx.1 rfl) c1 c2 c3 (dK.1 c4) (dK.1 c5) (dK.1 c6) (mN.1 c7) (gv.1 c8) (gv.1 c9) Cm (hsx.1 rfl),fun _=>rfl⟩⟩,kJ.trans cg⟩
   | (refine ⟨⟨_,rfl,⟨fun z=>absurd z (by decide),fun z=>absurd z ?_⟩⟩,?_⟩
      · first | exact hnk (fun z=>Bool.false_ne_true (hkx.2 z)) | exact CI c1 | exact FO c2 | exact H4 c3 | exact H5 c4 | exact Hm c5 | exact H6 c6 | exact H7 c7 | exact x5 c8 | exact zx c9 | exact zy Cm | exact lF (fun z=>Bool.false_ne_true (hsx.2 z))
      · first | exact kJ.trans cg | exact yT | exact Ft | exact kM | exact nk | exact jT | exact gm))
 skip)
 all_goals (refine ax 4 ?_)
 refine WC.skip ?_;refine Gn ?_;refine G2 ?_;refine Gt ?_
 first
  | exact ⟨⟨0,rfl,⟨fun _=>hyes (hkx.1 rfl) c1 c2 c3 (dK.1 c4) (dK.1 c5) (dK.1 c6) (mN.1 c7) (gv.1 c8) (gv.1 c9) Cm (hsx.1 rfl),fun _=>rfl⟩⟩,kJ.trans cg⟩
  | (refine ⟨⟨_,rfl,⟨fun z=>absurd z (by decide),fun z=>absurd z ?_⟩⟩,?_⟩
     · first | exact hnk (fun z=>Bool.false_ne_true (hkx.2 z)) | exact CI c1 | exact FO c2 | exact H4 c3 | exact H5 c4 | exact Hm c5 | exact H6 c6 | exact H7 c7 | exact x5 c8 | exact zx c9 | exact zy Cm | exact lF (fun z=>Bool.false_ne_true (hsx.2 z))
     · first | exact kJ.trans cg | exact yT | exact Ft | exact kM | exact nk | exact jT | exact gm)
structure Wr (g h:ah) (b:Nat) (v:Value) (l:List UInt8):Prop where
 bq:h[b]?=some (.cells ⟨[v]⟩ 207 (0,0))
 own:Own h v 5 1 l.length (bu l)
 lo:g.size≤b∧∀ q,v.ownBlock=some q→g.size≤q
 ext:Ext No g h
def Ki (b:Nat) (v:Value) (q:Nat):Prop:=q=b∨v.ownBlock=some q
section
variable {g h:ah} {b:Nat} {v:Value} {l:List UInt8}
theorem Wr.ne (w:Wr g h b v l):v.ownBlock ≠ some b:=fun e=>by obtain ⟨_,z⟩:=de w.own e;rw [w.bq] at z;simp at z
theorem Wr.stay {h':ah} (w:Wr g h b v l) (x:Ext No h h'):Wr g h' b v l:=⟨x.obj w.bq aO,w.own.ext x (fun _ _=>aO),w.lo,w.ext.trans x⟩
theorem zA (w:Wr g h b v l) (s:List UInt8) (hl:l.length+s.length≤1000000000):ag Tryz.prog 141 ⟨[.pointer (some ⟨b,0,none⟩),St s]⟩ h fun _ h'=>∃ v',Wr g h' b v' (l++s++[0])∧Ext (Ki b v) h h'∧∀ q,v'.ownBlock=some q→v.ownBlock=some q∨h.size≤q:=by
 have hne:=w.ne
 have EB:=w.bq
 have hbl:=aj EB
 have ho:=w.own
 have lo:=w.lo
 have hxg:=w.ext
 have hsg:=hxg.size
 refine calls [(0,_),(1,_)] Tryz.func141 rfl Tryz.ntmps141 rfl ⟨rfl,rfl,trivial⟩ ?_
 refine WC.region (Go ?_);refine WL.step (ae rfl) rfl rfl rfl (Go ?_);refine WL.ld rfl (by first | exact aa EB rfl | assumption) rfl rfl rfl (Go ?_)
 refine WL.ai (gl rfl Tryz.underlying23 Tryz.underlying9 (show Tryz.prog.info? 5=some Tryz.t5 by kernel_rfl) rfl rfl rfl rfl rfl ho (by omega)) rfl rfl rfl ?_
 rintro v1 h1 ⟨fE,ay,Hl,_⟩
 refine WL.ai (aw (vs:=[_]) (cs:=[_]) (fun | [a0]=>[a0] | _=>[]) Tryz.underlying23 rfl rfl (by kernel_rfl)) rfl rfl rfl ?_
 rintro _ h2 ⟨b2,rfl,eS,bH,aH⟩
 refine WL.ai (aT (sz:=1) (bytes:=1) rfl Tryz.underlying23 (show Tryz.prog.info? 5=some Tryz.t5 by kernel_rfl) rfl rfl rfl rfl (by decide) rfl rfl (fE.ext aH (fun _ _=>aO)) (bz bH rfl) (by simp [Value.oneCell']) (by simp only [maxLen];omega) (by omega)) rfl rfl rfl ?_
 rintro v3 h3 ⟨dE,aP,Cl⟩
 have fM:∀ q,v1.ownBlock=some q→v.ownBlock=some q∨h.size≤q:=Hl
 have s1:=ay.size
 have s2:=aH.size
 have gG:∀ q,v3.ownBlock=some q→v.ownBlock=some q∨h.size≤q:=fun q hq=>Cl.elim (fun e=>fM q (e▸hq)) (fun e=>.inr (by rw [e] at hq;cases hq;omega))
 have jT:Ext (fun q=>v.ownBlock=some q) h h3:=(ay.trans (aH.mono fun _ _ e=>e.elim)).trans' aP (fun q hq e=>(fM q e).elim id (fun z=>by omega))
 obtain ⟨A3,c3,rfl,_⟩:=dE.slice
 have bn:=jT.obj EB hne
 refine WL.step (ae rfl) rfl rfl rfl (Go ?_);refine WL.az (aC Tryz.sizeOf23 rfl rfl bn (Nat.le_of_ble_eq_true rfl) rfl rfl) rfl rfl ?_
 rintro _ h4 ⟨bx,aW⟩
 refine Gn ?_
 refine fa [] trivial ?_
 refine ⟨_,⟨bx,?_,⟨lo.1,fun q hq=>?_⟩,?_⟩,(jT.mono fun q _ e=>.inr e).trans (aW.mono fun q _ e=>.inl e),gG⟩
 · rw [show (l++s++[(0:UInt8)]).length=l.length+s.length+1 by simp [Nat.add_assoc],show bu (l++s++[0])=bu l++bu s++[Value.int .u8 0] by simp only [bu,List.map_append,List.map_cons,List.map_nil];rfl];exact dE.ext aW (fun q hq e=>by obtain ⟨_,z⟩:=de dE hq;rw [e,bn] at z;simp at z)
 · exact (gG q hq).elim (fun e=>lo.2 q e) (fun e=>by omega)
 · exact (hxg.trans' jT (fun q hq e=>by have:=lo.2 q e;omega)).trans' aW (fun q hq e=>by have:=lo.1;omega)
end
def fC (F:List aY):List UInt8:=F.flatMap fun f=>[UInt8.ofNat f.k.toNat]++f.t++[0]
theorem Kj {k:Int} (h0:0≤k) (h1:k≤255):By (UInt8.ofNat k.toNat)=.int .u8 k:=by
 show Value.int .u8 ((UInt8.ofNat k.toNat).toNat:Int)=.int .u8 k
 rw [UInt8.toNat_ofNat']
 congr 1
 omega
theorem xe {F:List aY} {k:Nat} {y:aY} (hy:F[k]?=some y):fC (F.take (k+1))=fC (F.take k)++[UInt8.ofNat y.k.toNat]++y.t++[0]:=by
 unfold fC
 rw [List.take_add_one,hy,List.flatMap_append]
 simp
theorem rW (F:List aY) (n:Nat) (hF:∀ f∈F,f.t.length≤n):(fC F).length≤F.length * (n+2):=by
 induction F with
 | nil=>simp [fC]
 | cons a F ih =>
   have h1:=ih (fun f hf=>hF f (by simp [hf]))
   have h2:=hF a (by simp)
   have:fC (a :: F)=[UInt8.ofNat a.k.toNat]++a.t++[0]++fC F:=by simp [fC]
   rw [this]
   simp only [List.length_append,List.length_cons,List.length_nil] at *
   rw [Nat.add_mul]
   omega
theorem zC {g h:ah} {b:Nat} {v:Value} (F:List aY) (w:Wr g h b jX []) (hr:Rd g v 2 F.length (F.flatMap aY.cells)) (hF:∀ f∈F,f.t.length≤200000∧0≤f.k∧f.k≤255) (hm:F.length≤100) :
   ag Tryz.prog 144 ⟨[.pointer (some ⟨b,0,none⟩),v]⟩ h fun _ h'=>∃ v',Wr g h' b v' (fC F++[0])∧Ext (fun q=>q=b) h h':=by
 obtain ⟨A,c,rfl,_⟩:=id hr
 have hlen:∀ k,(fC (F.take k)).length≤100 * 200002:=fun k=>Nat.le_trans (rW (F.take k) 200000 (fun f hf=>(hF f (List.mem_of_mem_take hf)).1)) (Nat.mul_le_mul (by rw [List.length_take];omega) (Nat.le_refl _))
 refine calls [(0,_),(1,_)] Tryz.func144 rfl Tryz.ntmps144 rfl ⟨rfl,rfl,trivial⟩ ?_
 refine G3 ?_;refine WC.block ?_;refine WC.bC (X:=Nat × Value) (fun x=>([(8,In (x.1:Int))]:Fr)) [(0,_),(6,_),(7,_)] (fun y h'=>y.1≤F.length∧Wr g h' b y.2 (fC (F.take y.1))∧Ext (fun q=>q=b) h h'∧∀ q,y.2.ownBlock=some q→h.size≤q) (fun y=>F.length - y.1) ((0,jX)) ⟨rfl,rfl,rfl,rfl,trivial⟩ (by exact ⟨Nat.zero_le _,w,.refl _ _,by simp [Value.ownBlock]⟩) ?_
 rintro ⟨k,u⟩ h1 ⟨hk,w1,ay,fM⟩
 dsimp only at hk w1 fM
 refine WC.sub [(8,_),(0,_),(6,_),(7,_)] ⟨rfl,rfl,rfl,rfl,trivial⟩ ?_
 dsimp only
 refine G2 ?_;refine WC.seq ?_
 refine aJ 1 2 (Hb.mk fun hb=>?_) (Hb.mk fun hb=>?_)
 all_goals try (
 refine ax 1 ?_
 refine WC.skip ?_
 skip)
 all_goals try (
 refine ax 2 ?_
 refine WC.exit ?_
 repeat' (with_reducible first | refine aU ?_ | refine aG rfl ?_ | refine aI ?_ | refine aL ?_ | refine aS ?_)
 refine Br.out (i:=1000) ?_
 skip)
 all_goals (refine Gn ?_;first | refine Br.ab ?_ | refine WC.seq ?_)
 all_goals (first | refine Br.ab ?_ | refine WC.block ?_)
 all_goals (first | refine Br.ab ?_ | refine WC.sr ?_)
 all_goals (
  first
    | (refine Br.ab ?_)
    | (obtain ⟨bL,oL,hA,hbL,hat⟩:=Rd.at_ hr (by omega)
       obtain ⟨⟨yk,yt⟩,hy⟩:∃ y,F[k]?=some y:=⟨_,List.getElem?_eq_getElem (by omega)⟩
       have hyF:=hF _ (List.mem_of_getElem? hy)
       dsimp only at hyF
       have hcd:At h1 bL (oL+k * 2) [.int .u8 yk,St yt]:=At.elem aY.len (hat.ext w1.ext aO) hy
       have hlk:=hlen k))
 all_goals (first | refine Br.ab ?_ | (refine WL.step (aF Tryz.underlying138 Tryz.sizeOf194 rfl rfl rfl (by omega) (by first | rfl | assumption)) rfl rfl rfl ?_))
 all_goals (first | refine Br.ab ?_ | (refine WL.step (an Tryz.isAgg194 Tryz.sizeOf194 rfl rfl (by exact hcd)) rfl rfl rfl ?_))
 all_goals (
  first
    | (refine Br.ab ?_)
    | (refine WL.ai (av (fun w=>Tryz.zeroValue194 w)) rfl rfl rfl ?_
       rintro _ h2 ⟨b5,rfl,pQ,bT,aH⟩))
 all_goals (
  first
    | (refine Br.ab ?_)
    | (refine WL.az (al Tryz.sizeOf194 rfl rfl rfl bT rfl (by simp [Value.oneCell'])) rfl rfl ?_
       rintro _ h3 ⟨xg,aP⟩))
 all_goals (
  first
    | (refine Br.ab ?_)
    | (have jT:Ext No h1 h3:=aH.trans' aP (fun q hq e=>by omega)
       have w3:=w1.stay jT
       have n3:=w3.ne
       have n5:¬ u.ownBlock=some b5:=fun e=>by have:=w1.own.lt e;omega
       have l1:=aj w1.bq
       have s3:=jT.size
       have sh:=ay.size))
 all_goals (refine Gn ?_;first | refine Br.ab ?_ | refine WC.seq ?_)
 all_goals (first | refine Br.ab ?_ | (refine WC.bW (fun h'=>Ext (fun q=>u.ownBlock=some q) h3 h') 9 12 rfl dk ?_))
 all_goals (first | refine Br.ab ?_ | (refine WH.tk 0 rfl (fun hq hC=>ak rfl) rfl rfl rfl ?_))
 all_goals (first | refine Br.ab ?_ | (refine WH.tk 1 rfl (fun hq hC=>ak rfl) rfl rfl rfl ?_))
 all_goals (first | refine Br.ab ?_ | (refine WH.tk 2 rfl (fun hq hC=>ae rfl) rfl rfl rfl ?_))
 all_goals (first | refine Br.ab ?_ | (refine WH.tk 3 rfl (fun hq hC=>ad rfl Tryz.underlying207 rfl Tryz.sizeOf23) rfl rfl rfl ?_))
 all_goals (first | refine Br.ab ?_ | (refine WH.tk 4 rfl (fun hq hC=>aA Tryz.isAgg23 rfl (by first | exact hC.cell (by first | exact aa w3.bq rfl | assumption) (by first | exact n3 | exact n5))) rfl rfl rfl ?_))
 all_goals (first | refine Br.ab ?_ | (refine WH.tk 5 rfl (fun hq hC=>ad rfl Tryz.underlying194 rfl Tryz.sizeOf5) rfl rfl rfl ?_))
 all_goals (first | refine Br.ab ?_ | (refine WH.tk 6 rfl (fun hq hC=>aA Tryz.isAgg5 rfl (by first | exact hC.cell (by first | exact aa xg rfl | assumption) (by first | exact n3 | exact n5))) rfl rfl rfl ?_))
 all_goals (first | refine Br.ab ?_ | (refine WH.one 7 (by kernel_rfl) ?_))
 all_goals (
  first
    | (refine Br.ab ?_)
    | (refine aE.run rfl (aw (vs:=[_]) (cs:=[_]) (fun | [a0]=>[a0] | _=>[]) Tryz.underlying23 rfl rfl (by kernel_rfl)) rfl rfl rfl ?_ (fun _=>by kernel_rfl)
       rintro _ h7 ⟨b7,rfl,Ez,bZ,bh⟩))
 all_goals (first | refine Br.ab ?_ | (refine ⟨fun _=>bh.mono fun _ _ e=>e.elim,?_⟩))
 all_goals (first | refine Br.ab ?_ | (have Hn:Ext (fun q=>u.ownBlock=some q) h3 h7:=bh.mono fun _ _ e=>e.elim))
 all_goals (first | refine Br.ab ?_ | (refine WH.one 8 (by kernel_rfl) ?_))
 all_goals (
  first
    | (refine Br.ab ?_)
    | (refine aE.run rfl (aT (sz:=1) (bytes:=1) rfl Tryz.underlying23 (show Tryz.prog.info? 5=some Tryz.t5 by kernel_rfl) rfl rfl rfl rfl (by decide) rfl rfl (w3.own.ext bh (fun _ _=>aO)) (bz bZ rfl) (by simp [Value.oneCell']) (by simp only [maxLen];omega) (by omega)) rfl rfl rfl ?_ (fun _=>by kernel_rfl)
       rintro v8 h8 ⟨iI,bD,pM⟩))
 all_goals (first | refine Br.ab ?_ | (refine ⟨fun _=>Hn.trans bD,?_⟩))
 all_goals (
  first
    | (refine Br.ab ?_)
    | (have EC:=Hn.trans bD
       have bE:=EC.obj w3.bq n3
       obtain ⟨A8,c8,rfl,_⟩:=iI.slice))
 all_goals (first | refine Br.ab ?_ | (refine WH.one 9 (by kernel_rfl) ?_))
 all_goals (
  first
    | (refine Br.ab ?_)
    | (refine aE.run rfl (bK.r (ae rfl)) rfl rfl rfl ?_ (fun _=>by kernel_rfl)
       rintro _ hz ⟨rfl,_⟩
       subst hz))
 all_goals (first | refine Br.ab ?_ | (refine ⟨fun e=>(by cases e),?_⟩))
 all_goals (first | refine Br.ab ?_ | (refine WH.one 10 (by kernel_rfl) ?_))
 all_goals (
  first
    | (refine Br.ab ?_)
    | (refine aE.run rfl (bK.r (ad rfl Tryz.underlying207 rfl Tryz.sizeOf23)) rfl rfl rfl ?_ (fun _=>by kernel_rfl)
       rintro _ hz ⟨rfl,_⟩
       subst hz))
 all_goals (first | refine Br.ab ?_ | (refine ⟨fun e=>(by cases e),?_⟩))
 all_goals (first | refine Br.ab ?_ | (refine WH.one 11 (by kernel_rfl) ?_))
 all_goals (
  first
    | (refine Br.ab ?_)
    | (refine aE.cQ rfl (aC Tryz.sizeOf23 rfl rfl bE (Nat.le_of_ble_eq_true rfl) rfl rfl) rfl rfl ?_ (fun _=>by kernel_rfl)
       rintro _ h9 ⟨bQ,cg⟩))
 all_goals (first | refine Br.ab ?_ | (refine ⟨fun e=>(by cases e),?_⟩))
 all_goals (
  first
    | (refine Br.ab ?_)
    | (have s7:=bh.size
       have Ev:∀ q,(Value.slice A8 ((fC (F.take k)).length+1) c8).ownBlock=some q→u.ownBlock=some q∨h3.size≤q:=fun q hq=>pM.elim (fun e=>.inl (e▸hq)) (fun e=>.inr (by rw [e] at hq;cases hq;omega))
       have w9:Wr g h9 b (.slice A8 ((fC (F.take k)).length+1) c8) (fC (F.take k)++[UInt8.ofNat yk.toNat]):=⟨bQ,by rw [show (fC (F.take k)++[UInt8.ofNat yk.toNat]).length=(fC (F.take k)).length+1 by simp,show bu (fC (F.take k)++[UInt8.ofNat yk.toNat])=bu (fC (F.take k))++[Value.int .u8 yk] by simp only [bu,List.map_append,List.map_cons,List.map_nil];rw [Kj hyF.2.1 hyF.2.2]];exact iI.ext cg (fun q hq e=>by obtain ⟨_,z⟩:=de iI hq;rw [e,bE] at z;simp at z),⟨w1.lo.1,fun q hq=>(Ev q hq).elim (fun e=>w1.lo.2 q e) (fun e=>by have:=w1.ext.size;omega)⟩,(w3.ext.trans' EC (fun q hq e=>by have:=w1.lo.2 q e;omega)).trans' cg (fun q hq e=>by have:=w1.lo.1;omega)⟩
       have M8:b5 ≠ b:=by omega
       have FQ:=cg.obj (EC.obj xg n5) M8))
 all_goals (first | refine Br.ab ?_ | (refine WH.done (by kernel_rfl) ?_))
 all_goals (refine Gn ?_;first | refine Br.ab ?_ | refine Gs [(0,_),(5,_),(6,_),(7,_),(8,_)] ?_)
 all_goals (first | refine Br.ab ?_ | refine WC.region ?_)
 all_goals (refine Go ?_;first | refine Br.ab ?_ | (refine WL.ld rfl (by first | exact aa FQ rfl | assumption) rfl rfl rfl ?_))
 all_goals (
  first
    | (refine Br.ab ?_)
    | (refine WL.call (vs:=[_,_]) rfl Tryz.call141 rfl (zA w9 yt (by simp only [List.length_append,List.length_cons,List.length_nil];omega)) rfl rfl rfl ?_
       rintro _ iD ⟨v10,M9,cG,Ia⟩))
 all_goals (refine Gn ?_;first | refine Br.ab ?_ | refine Gs [(0,_),(6,_),(7,_),(8,_)] ?_)
 all_goals (first | refine Br.ab ?_ | refine WC.region ?_)
 all_goals (refine Go ?_;first | refine Br.ab ?_ | (exact ⟨(k+1,_),⟨rfl,rfl,rfl,rfl,trivial⟩,(by exact ⟨by omega,by rw [xe hy];exact M9,(((ay.trans' jT (fun q hq e=>e.elim)).trans' EC (fun q hq e=>by have:=fM q e;omega)).trans' cg (fun q hq e=>e)).trans' cG (fun q hq e=>e.elim id (fun z=>(Ev q z).elim (fun z=>by have:=fM q z;omega) (fun z=>by omega))),fun q hq=>(Ia q hq).elim (fun z=>(Ev q z).elim (fun z=>fM q z) (fun z=>by omega)) (fun z=>by have:=EC.size;have:=cg.size;omega)⟩),(by simp;omega)⟩))
 try (refine Br.mk (i:=1000) ?_)
 refine Gn ?_;refine Gs [(0,_)] ?_;refine WC.region ?_
 have hkF:k=F.length:=by omega
 have hlk:=hlen k
 have sh:=ay.size
 have n1:=w1.ne
 refine WL.step (ak rfl) rfl rfl rfl (Go ?_);refine WL.step (ae rfl) rfl rfl rfl (Go ?_);refine WL.ld rfl (by first | exact aa w1.bq rfl | assumption) rfl rfl rfl ?_
 refine WL.ai (aw (vs:=[_]) (cs:=[_]) (fun | [a0]=>[a0] | _=>[]) Tryz.underlying23 rfl rfl (by kernel_rfl)) rfl rfl rfl ?_
 rintro _ h2 ⟨b2,rfl,eS,bH,aH⟩
 refine WL.ai (aT (sz:=1) (bytes:=1) rfl Tryz.underlying23 (show Tryz.prog.info? 5=some Tryz.t5 by kernel_rfl) rfl rfl rfl rfl (by decide) rfl rfl (w1.own.ext aH (fun _ _=>aO)) (bz bH rfl) (by simp [Value.oneCell']) (by simp only [maxLen];omega) (by omega)) rfl rfl rfl ?_
 rintro v3 h3 ⟨dE,aP,Cl⟩
 have ED:Ext (fun q=>u.ownBlock=some q) h1 h3:=(aH.mono fun _ _ e=>e.elim).trans aP
 have bn:=ED.obj w1.bq n1
 obtain ⟨A3,c3,rfl,_⟩:=dE.slice
 have s2:=aH.size
 refine WL.step (ae rfl) rfl rfl rfl (Go ?_);refine WL.az (aC Tryz.sizeOf23 rfl rfl bn (Nat.le_of_ble_eq_true rfl) rfl rfl) rfl rfl ?_
 rintro _ h4 ⟨bx,aW⟩
 refine Gn ?_
 refine fa [] trivial ?_
 have gG:∀ q,(Value.slice A3 ((fC (F.take k)).length+1) c3).ownBlock=some q→u.ownBlock=some q∨h1.size≤q:=fun q hq=>Cl.elim (fun e=>.inl (e▸hq)) (fun e=>.inr (by rw [e] at hq;cases hq;omega))
 have e0:F.take k=F:=List.take_of_length_le (by omega)
 refine ⟨_,⟨bx,?_,⟨w1.lo.1,fun q hq=>(gG q hq).elim (fun e=>w1.lo.2 q e) (fun e=>by have:=w1.ext.size;omega)⟩,(w1.ext.trans' ED (fun q hq e=>by have:=w1.lo.2 q e;omega)).trans' aW (fun q hq e=>by have:=w1.lo.1;omega)⟩,(ay.trans' ED (fun q hq e=>by have:=fM q e;omega)).trans aW⟩
 rw [e0] at dE ⊢
 rw [show (fC F++[(0:UInt8)]).length=(fC F).length+1 by simp,show bu (fC F++[0])=bu (fC F)++[Value.int .u8 0] by simp only [bu,List.map_append,List.map_cons,List.map_nil];rfl]
 exact dE.ext aW (fun q hq e=>by obtain ⟨_,z⟩:=de dE hq;rw [e,bn] at z;simp at z)
theorem Ho {n:Int} (h : -32768≤n∧n≤65535):Rt n 2:=by
 unfold Rt
 rw [show (256:Int) ^ 2=65536 from rfl]
 omega
theorem qc {n:Int} (h : -2147483648≤n∧n≤4294967295):Rt n 4:=by
 unfold Rt
 rw [show (256:Int) ^ 4=4294967296 from rfl]
 omega
theorem Hp:Sz 2:=.inr (.inl rfl)
theorem CS:Sz 4:=.inr (.inr rfl)
theorem zD {α:Type} {f:α→List UInt8} {n:Nat} (l:List α) (h:∀ x∈l,(f x).length≤n):(l.flatMap f).length≤l.length * n:=by
 induction l with
 | nil=>simp
 | cons a l ih =>
   have h1:=ih (fun x hx=>h x (by simp [hx]))
   have h2:=h a (by simp)
   simp only [List.flatMap_cons,List.length_append,List.length_cons,Nat.add_mul,Nat.one_mul]
   omega
theorem lG {α:Type} {f:α→List UInt8} {n:Nat} (l:List α) (k:Nat) (h:∀ x∈l,(f x).length≤n):((l.take k).flatMap f).length≤l.length * n :=
 Nat.le_trans (zD _ fun x hx=>h x (List.mem_of_mem_take hx)) (Nat.mul_le_mul_right n (by rw [List.length_take];omega))
theorem jt {α:Type} {f:α→List UInt8} {l:List α} {k:Nat} {y:α} (hy:l[k]?=some y):(l.take (k+1)).flatMap f=(l.take k).flatMap f++f y:=by
 rw [List.take_add_one,hy,List.flatMap_append]
 simp
def iZ (c:b0):List UInt8:=c.nm++[0]++be c.t 4++be c.a 2++be c.o 4++be c.s 2++be c.m 4++be c.f 2
def dO (c:aX):List UInt8:=if c.null then be 4294967295 4 else be c.bytes.length 4++c.bytes
theorem nw {c:b0} (h:c.nm.length≤1000):(iZ c).length≤1100:=by simp [iZ,bm];omega
theorem nx {c:aX} (h:c.bytes.length≤1000):(dO c).length≤1100:=by unfold dO;split <;> simp [bm] <;> omega
def gw (h:ah) (b:Nat) (v:Value) (h':ah) (v':Value):Prop:=Ext (Ki b v) h h'∧∀ q,v'.ownBlock=some q→v.ownBlock=some q∨h.size≤q
theorem gw.refl {h:ah} {b:Nat} {v:Value}:gw h b v h v:=⟨.refl _ _,fun _ e=>.inl e⟩
theorem gw.stay {h h':ah} {b:Nat} {v:Value} (x:Ext No h h'):gw h b v h' v:=⟨x.mono fun _ _ e=>e.elim,fun _ e=>.inl e⟩
theorem gw.trans {h h1 h2:ah} {b:Nat} {v v1 v2:Value} (a:gw h b v h1 v1) (c:gw h1 b v1 h2 v2):gw h b v h2 v2 :=
 ⟨a.1.trans' c.1 (fun q hq e=>e.elim .inl (fun e=>(a.2 q e).elim .inr (fun z=>absurd hq (by omega)))),fun q e=>(c.2 q e).elim (fun e=>a.2 q e) (fun z=>.inr (by have:=a.1.size;omega))⟩
section
variable {g h h':ah} {b:Nat} {v:Value} {l:List UInt8}
theorem Wr.obj (w:Wr g h b v l) (x:Ext (Ki b v) h h') {q:Nat} {o:Array Value} {T:TypeId} {z:Nat × Nat} (hq:h[q]?=some (.cells o T z)) (hT:T ≠ 5) (hne:q ≠ b):h'[q]?=some (.cells o T z) :=
 x.obj hq (fun e=>e.elim hne (fun e=>by obtain ⟨_,k⟩:=de w.own e;rw [hq] at k;simp only [Option.some.injEq,Obj.cells.injEq] at k;exact hT k.2.1))
theorem zE (w:Wr g h b v l) (s:List UInt8) (hl:l.length+s.length≤1000000000):ag Tryz.prog 141 ⟨[.pointer (some ⟨b,0,none⟩),St s]⟩ h fun _ h'=>∃ v',Wr g h' b v' (l++s++[0])∧gw h b v h' v' :=
 (zA w s hl).mono fun _ _ ⟨v',a,x,c⟩=>⟨v',a,x,c⟩
theorem fP (w:Wr g h b v l) (n:Int) (s:Nat) (hs:Sz s) (hr:Rt n s) (hl:l.length≤1000000000):ag Tryz.prog 140 ⟨[.pointer (some ⟨b,0,none⟩),In n,In s]⟩ h fun _ h'=>∃ v',Wr g h' b v' (l++be n s)∧gw h b v h' v':=by
 have EB:=w.bq
 have hbl:=aj EB
 have ho:=w.own
 have lo:=w.lo
 have hxg:=w.ext
 have hsg:=hxg.size
 obtain ⟨A0,c0,rfl,_⟩:=id ho.slice
 refine calls [(0,_),(1,_),(2,_)] Tryz.func140 rfl Tryz.ntmps140 rfl ⟨rfl,rfl,rfl,trivial⟩ ?_
 refine WC.region (Go ?_);refine WL.step (ae rfl) rfl rfl rfl (Go ?_);refine WL.ld rfl (by first | exact aa EB rfl | assumption) rfl rfl rfl (Go ?_)
 refine WL.call (vs:=[_,_,_]) rfl Tryz.call164 rfl (yG l n s hs hr ho.rd (by omega)) rfl rfl rfl ?_
 rintro v1 h1 ⟨fE,ay,fM⟩
 obtain ⟨A1,c1,rfl,_⟩:=id fE.slice
 refine WL.step (ae rfl) rfl rfl rfl (Go ?_);refine WL.az (aC Tryz.sizeOf23 rfl rfl (ay.obj EB aO) (Nat.le_of_ble_eq_true rfl) rfl rfl) rfl rfl ?_
 rintro _ h4 ⟨bx,aW⟩
 refine Gn ?_
 refine fa [] trivial ?_
 have aQ:=ay.obj EB aO
 exact ⟨_,⟨bx,fE.ext aW (fun q hq e=>by obtain ⟨_,z⟩:=de fE hq;rw [e,aQ] at z;simp at z),⟨lo.1,fun q hq=>by have:=fM q hq;omega⟩,(hxg.trans ay).trans' aW (fun q hq e=>by have:=lo.1;omega)⟩,⟨(ay.mono fun _ _ e=>e.elim).trans (aW.mono fun q _ e=>.inl e),fun q hq=>.inr (fM q hq)⟩⟩
theorem zG (w:Wr g h b v l) (c:b0) (hc:c.okB) (hn:c.nm.length≤1000) (hl:l.length≤900000000):ag Tryz.prog 143 ⟨[.pointer (some ⟨b,0,none⟩),.agg ⟨c.cells⟩]⟩ h fun _ h'=>∃ v',Wr g h' b v' (l++iZ c)∧gw h b v h' v':=by
 obtain ⟨nm,t,a,o,s,m,f⟩:=c
 obtain ⟨c1,c2,c3,c4,c5,c6,c7⟩:=hc
 dsimp only at c2 c3 c4 c5 c6 c7 hn
 dsimp only [b0.cells]
 have hbl:=aj w.bq
 refine calls [(0,_),(1,_)] Tryz.func143 rfl Tryz.ntmps143 rfl ⟨rfl,rfl,trivial⟩ ?_
 refine WC.sr ?_;refine WL.ai (aB rfl) rfl rfl rfl ?_
 rintro _ h1 ⟨b1,rfl,bO,aQ,ay⟩
 have w1:=w.stay ay
 have s1:gw h b v h1 v:=.stay ay
 have hne:b1 ≠ b:=by omega
 refine Gn ?_;refine G2 ?_;refine WL.ld rfl (by first | exact aa aQ rfl | assumption) rfl rfl rfl ?_
 refine WL.call (vs:=[_,_]) rfl Tryz.call141 rfl (zE w1 nm (by omega)) rfl rfl rfl ?_
 rintro _ h2 ⟨v2,w2,t2⟩
 have bH:=w1.obj t2.1 aQ (by decide) hne
 have l2:(l++nm++[(0:UInt8)]).length=l.length+nm.length+1:=by simp [Nat.add_assoc]
 refine Gn ?_;refine Gs [(0,_),(3,_)] ?_;refine G2 ?_;refine WL.ld rfl (by first | exact aa bH rfl | assumption) rfl rfl rfl ?_
 refine WL.call (vs:=[_,_,_]) rfl Tryz.call140 rfl (fP w2 t 4 CS (qc (by omega)) (by omega)) rfl rfl rfl ?_
 rintro _ h3 ⟨v3,w3,t3⟩
 have bn:=w2.obj t3.1 bH (by decide) hne
 refine Gn ?_;refine Gs [(0,_),(3,_)] ?_;refine G2 ?_;refine WL.ld rfl (by first | exact aa bn rfl | assumption) rfl rfl rfl ?_
 refine WL.call (vs:=[_,_,_]) rfl Tryz.call140 rfl (fP w3 a 2 Hp (Ho (by omega)) (by simp only [List.length_append,bm] at l2 ⊢;omega)) rfl rfl rfl ?_
 rintro _ h4 ⟨v4,w4,t4⟩
 have bx:=w3.obj t4.1 bn (by decide) hne
 refine Gn ?_;refine Gs [(0,_),(3,_)] ?_;refine G2 ?_;refine WL.ld rfl (by first | exact aa bx rfl | assumption) rfl rfl rfl ?_
 refine WL.call (vs:=[_,_,_]) rfl Tryz.call140 rfl (fP w4 o 4 CS (qc (by omega)) (by simp only [List.length_append,bm] at l2 ⊢;omega)) rfl rfl rfl ?_
 rintro _ h5 ⟨v5,w5,t5⟩
 have bT:=w4.obj t5.1 bx (by decide) hne
 refine Gn ?_;refine Gs [(0,_),(3,_)] ?_;refine G2 ?_;refine WL.ld rfl (by first | exact aa bT rfl | assumption) rfl rfl rfl ?_
 refine WL.call (vs:=[_,_,_]) rfl Tryz.call140 rfl (fP w5 s 2 Hp (Ho (by omega)) (by simp only [List.length_append,bm] at l2 ⊢;omega)) rfl rfl rfl ?_
 rintro _ h6 ⟨v6,w6,t6⟩
 have bN:=w5.obj t6.1 bT (by decide) hne
 refine Gn ?_;refine Gs [(0,_),(3,_)] ?_;refine G2 ?_;refine WL.ld rfl (by first | exact aa bN rfl | assumption) rfl rfl rfl ?_
 refine WL.call (vs:=[_,_,_]) rfl Tryz.call140 rfl (fP w6 m 4 CS (qc (by omega)) (by simp only [List.length_append,bm] at l2 ⊢;omega)) rfl rfl rfl ?_
 rintro _ h7 ⟨v7,w7,t7⟩
 have bZ:=w6.obj t7.1 bN (by decide) hne
 refine Gn ?_;refine Gs [(0,_),(3,_)] ?_;refine WC.region (Go ?_);refine WL.ld rfl (by first | exact aa bZ rfl | assumption) rfl rfl rfl ?_
 refine WL.call (vs:=[_,_,_]) rfl Tryz.call140 rfl (fP w7 f 2 Hp (Ho (by omega)) (by simp only [List.length_append,bm] at l2 ⊢;omega)) rfl rfl rfl ?_
 rintro _ h8 ⟨v8,w8,t8⟩
 refine Gn ?_
 refine fa [] trivial ?_
 exact ⟨v8,by simpa [iZ] using w8,((((((s1.trans t2).trans t3).trans t4).trans t5).trans t6).trans t7).trans t8⟩
theorem Ib (w:Wr g h b v l) {vr:Value} (R:List aX) (hR:cF g vr R) (hm:R.length≤100) (hc:∀ c∈R,c.bytes.length≤1000) (hl:l.length≤1000000) :
   ag Tryz.prog 142 ⟨[.pointer (some ⟨b,0,none⟩),vr]⟩ h fun _ h'=>∃ v',Wr g h' b v' (l++be R.length 2++R.flatMap dO)∧gw h b v h' v':=by
 obtain ⟨hr,⟨_,A,cc,rfl,_⟩,hok⟩:=hR
 have hfl:∀ k,((R.take k).flatMap dO).length≤110000:=fun k=>Nat.le_trans (lG R k fun x hx=>nx (hc x hx)) (by omega)
 refine calls [(0,_),(1,_)] Tryz.func142 rfl Tryz.ntmps142 rfl ⟨rfl,rfl,trivial⟩ ?_
 refine G2 ?_;refine WL.call (vs:=[_,_,_]) rfl Tryz.call140 rfl (fP w R.length 2 Hp (Ho (by omega)) (by omega)) rfl rfl rfl ?_
 rintro _ h1 ⟨v1,w1,t1⟩
 refine Gn ?_;refine Gs [(0,_),(1,_)] ?_;refine G2 ?_;refine WC.block ?_;refine WC.bC (X:=Nat × Value) (fun x=>([(12,In (x.1:Int))]:Fr)) [(0,_),(10,_),(11,_)] (fun y h'=>y.1≤R.length∧Wr g h' b y.2 (l++be R.length 2++(R.take y.1).flatMap dO)∧gw h b v h' y.2) (fun y=>R.length - y.1) ((0,v1)) ⟨rfl,rfl,rfl,rfl,trivial⟩ (by exact ⟨Nat.zero_le _,by simpa using w1,t1⟩) ?_
 rintro ⟨k,u⟩ h2 ⟨hk,w2,t2⟩
 dsimp only at hk w2 t2
 refine WC.sub [(12,_),(0,_),(10,_),(11,_)] ⟨rfl,rfl,rfl,rfl,trivial⟩ ?_
 dsimp only
 refine G2 ?_;refine WC.seq ?_
 refine aJ 1 2 (Hb.mk fun hb=>?_) (Hb.mk fun hb=>?_)
 all_goals try (
 refine ax 1 ?_
 refine WC.skip ?_
 skip)
 all_goals try (
 refine ax 2 ?_
 refine WC.exit ?_
 repeat' (with_reducible first | refine aU ?_ | refine aG rfl ?_ | refine aI ?_ | refine aL ?_ | refine aS ?_)
 refine Br.out (i:=1000) ?_
 skip)
 all_goals (refine Gn ?_;first | refine Br.ab ?_ | refine WC.seq ?_)
 all_goals (first | refine Br.ab ?_ | refine WC.block ?_)
 all_goals (first | refine Br.ab ?_ | refine WC.sr ?_)
 all_goals (
  first
    | (refine Br.ab ?_)
    | (obtain ⟨bL,oL,hA,hbL,hat⟩:=Rd.at_ hr (by omega)
       obtain ⟨⟨yn,yv,yb⟩,hy⟩:∃ y,R[k]?=some y:=⟨_,List.getElem?_eq_getElem (by omega)⟩
       have hyo:=(hok _ (List.mem_of_getElem? hy)).1
       have hyc:=hc _ (List.mem_of_getElem? hy)
       dsimp only at hyo hyc
       obtain ⟨yA,yc,rfl,_⟩:=id hyo
       have hcd:At h2 bL (oL+k * 2) [.bool yn,.slice yA yb.length yc]:=At.elem aX.len (hat.ext w2.ext aO) hy
       have hlk:=hfl k
       have lu:(l++be (R.length:Int) 2++(R.take k).flatMap dO).length≤2000000:=by simp only [List.length_append,bm];omega
       cases yn))
 all_goals (first | refine Br.ab ?_ | (refine WL.step (aF Tryz.underlying40 Tryz.sizeOf85 rfl rfl rfl (by omega) (by first | rfl | assumption)) rfl rfl rfl ?_))
 all_goals (first | refine Br.ab ?_ | (refine WL.step (an Tryz.isAgg85 Tryz.sizeOf85 rfl rfl (by exact hcd)) rfl rfl rfl ?_))
 all_goals (
  first
    | (refine Br.ab ?_)
    | (refine WL.ai (av (fun w=>Tryz.zeroValue85 w)) rfl rfl rfl ?_
       rintro _ h3 ⟨b5,rfl,pQ,bT,aP⟩))
 all_goals (
  first
    | (refine Br.ab ?_)
    | (refine WL.az (al Tryz.sizeOf85 rfl rfl rfl bT rfl (by simp [Value.oneCell'])) rfl rfl ?_
       rintro _ h4 ⟨xa,aW⟩))
 all_goals (
  first
    | (refine Br.ab ?_)
    | (have nk:Ext No h2 h4:=aP.trans' aW (fun q hq e=>by omega)
       have w4:=w2.stay nk
       have t4:=t2.trans (.stay nk)
       have hbl:=aj w2.bq
       have hne:b5 ≠ b:=by omega))
 all_goals (refine Gn ?_;first | refine Br.ab ?_ | refine WC.seq ?_)
 all_goals (first | refine Br.ab ?_ | refine WC.sr ?_)
 all_goals (refine Go ?_;first | refine Br.ab ?_ | (refine WL.ld rfl (by first | exact aa xa rfl | assumption) rfl rfl rfl ?_))
 all_goals (refine Gn ?_;first | refine Br.ab ?_ | refine Gs [(0,_),(5,_),(10,_),(11,_),(12,_),(17,_)] ?_)
 all_goals (first | refine Br.ab ?_ | refine aJ 3 4 ?_ TT.mk)
 all_goals try (
 refine ax 3 ?_
 refine G2 ?_;refine WL.call (vs:=[_,_,_]) rfl Tryz.call140 rfl (fP w4 4294967295 4 CS (qc (by omega)) (by omega)) rfl rfl rfl ?_
 rintro _ h5 ⟨v5,w5,t5⟩
 have tE:=t4.trans t5
 have wE:Wr g h5 b v5 (l++be (R.length:Int) 2++(R.take (k+1)).flatMap dO):=by rw [jt hy,show dO ⟨true,.slice yA yb.length yc,yb⟩=be 4294967295 4 from rfl,← List.append_assoc];exact w5
 refine Gn ?_;refine Gs [(0,_),(10,_),(11,_),(12,_)] ?_;refine WC.exit ?_
 repeat' (with_reducible first | refine aU ?_ | refine aG rfl ?_ | refine aI ?_ | refine aL ?_ | refine aS ?_)
 refine Br.out (i:=1001) ?_
 skip)
 all_goals try (
 refine ax 4 ?_
 refine WC.skip ?_
 skip)
 all_goals (refine Gn ?_;first | refine Br.ab ?_ | refine WC.sr ?_)
 all_goals (refine Go ?_;first | refine Br.ab ?_ | (refine WL.ld rfl (by first | exact aa xa rfl | assumption) rfl rfl rfl ?_))
 all_goals (refine Go ?_)
 all_goals (
  first
    | (refine Br.ab ?_)
    | (refine WL.call (vs:=[_,_,_]) rfl Tryz.call140 rfl (fP w4 yb.length 4 CS (qc (by omega)) (by omega)) rfl rfl rfl ?_
       rintro _ h5 ⟨v5,w5,t5⟩
       have Ic:=w4.obj t5.1 xa (by decide) hne
       have n5:=w5.ne
       have LG:¬ v5.ownBlock=some b5:=fun e=>by obtain ⟨_,z⟩:=de w5.own e;rw [Ic] at z;simp at z
       have yI:(l++be (R.length:Int) 2++(R.take k).flatMap dO++be (yb.length:Int) 4).length≤3000000:=by rw [List.length_append,bm];omega))
 all_goals (refine Gn ?_;first | refine Br.ab ?_ | refine Gs [(0,_),(5,_),(10,_),(11,_),(12,_)] ?_)
 all_goals (first | refine Br.ab ?_ | (refine WC.bW (fun h'=>Ext (fun q=>v5.ownBlock=some q) h5 h') 8 11 rfl dk ?_))
 all_goals (first | refine Br.ab ?_ | (refine WH.tk 0 rfl (fun hq hC=>ak rfl) rfl rfl rfl ?_))
 all_goals (first | refine Br.ab ?_ | (refine WH.tk 1 rfl (fun hq hC=>ak rfl) rfl rfl rfl ?_))
 all_goals (first | refine Br.ab ?_ | (refine WH.tk 2 rfl (fun hq hC=>ae rfl) rfl rfl rfl ?_))
 all_goals (first | refine Br.ab ?_ | (refine WH.tk 3 rfl (fun hq hC=>ad rfl Tryz.underlying207 rfl Tryz.sizeOf23) rfl rfl rfl ?_))
 all_goals (first | refine Br.ab ?_ | (refine WH.tk 4 rfl (fun hq hC=>aA Tryz.isAgg23 rfl (by first | exact hC.cell (by first | exact aa w5.bq rfl | assumption) (by first | exact n5 | exact LG))) rfl rfl rfl ?_))
 all_goals (first | refine Br.ab ?_ | (refine WH.tk 5 rfl (fun hq hC=>ad rfl Tryz.underlying85 rfl Tryz.sizeOf23) rfl rfl rfl ?_))
 all_goals (first | refine Br.ab ?_ | (refine WH.tk 6 rfl (fun hq hC=>aA Tryz.isAgg23 rfl (by first | exact hC.cell (by first | exact aa Ic rfl | assumption) (by first | exact n5 | exact LG))) rfl rfl rfl ?_))
 all_goals (first | refine Br.ab ?_ | (refine WH.one 7 (by kernel_rfl) ?_))
 all_goals (
  first
    | (refine Br.ab ?_)
    | (refine aE.run rfl (aT (sz:=1) (bytes:=1) rfl Tryz.underlying23 (show Tryz.prog.info? 5=some Tryz.t5 by kernel_rfl) rfl rfl rfl rfl (by decide) rfl rfl w5.own (hyo.aq w5.ext) (by intro c hc;obtain ⟨b,_,rfl⟩:=List.mem_map.1 hc;rfl) (by simp only [maxLen];omega) (by omega)) rfl rfl rfl ?_ (fun _=>by kernel_rfl)
       rintro v8 h8 ⟨iI,bD,pM⟩
       obtain ⟨A8,c8,rfl,_⟩:=iI.slice))
 all_goals (first | refine Br.ab ?_ | (refine ⟨fun _=>bD,?_⟩))
 all_goals (first | refine Br.ab ?_ | (refine WH.one 8 (by kernel_rfl) ?_))
 all_goals (
  first
    | (refine Br.ab ?_)
    | (refine aE.run rfl (bK.r (ae rfl)) rfl rfl rfl ?_ (fun _=>by kernel_rfl)
       rintro _ hz ⟨rfl,_⟩
       subst hz))
 all_goals (first | refine Br.ab ?_ | (refine ⟨fun e=>(by cases e),?_⟩))
 all_goals (first | refine Br.ab ?_ | (refine WH.one 9 (by kernel_rfl) ?_))
 all_goals (
  first
    | (refine Br.ab ?_)
    | (refine aE.run rfl (bK.r (ad rfl Tryz.underlying207 rfl Tryz.sizeOf23)) rfl rfl rfl ?_ (fun _=>by kernel_rfl)
       rintro _ hz ⟨rfl,_⟩
       subst hz))
 all_goals (first | refine Br.ab ?_ | (refine ⟨fun e=>(by cases e),?_⟩))
 all_goals (first | refine Br.ab ?_ | (refine WH.one 10 (by kernel_rfl) ?_))
 all_goals (
  first
    | (refine Br.ab ?_)
    | (refine aE.cQ rfl (aC Tryz.sizeOf23 rfl rfl (bD.obj w5.bq n5) (Nat.le_of_ble_eq_true rfl) rfl rfl) rfl rfl ?_ (fun _=>by kernel_rfl)
       rintro _ h9 ⟨bQ,cg⟩
       have bE:=bD.obj w5.bq n5
       have sg:=w5.ext.size
       have f8:∀ q,(Value.slice A8 ((l++be (R.length:Int) 2++(R.take k).flatMap dO++be (yb.length:Int) 4).length+yb.length) c8).ownBlock=some q→v5.ownBlock=some q∨h5.size≤q:=fun q hq=>pM.elim (fun e=>.inl (e▸hq)) (fun e=>.inr (by rw [e] at hq;cases hq;exact Nat.le_refl _))
       have tE:=(t4.trans t5).trans ⟨(bD.mono fun q _ e=>.inr e).trans (cg.mono fun q _ e=>.inl e),f8⟩
       have wE:Wr g h9 b _ (l++be (R.length:Int) 2++(R.take (k+1)).flatMap dO):=⟨bQ,by rw [jt hy,show dO ⟨false,.slice yA yb.length yc,yb⟩=be yb.length 4++yb from rfl,← List.append_assoc,← List.append_assoc,List.length_append (bs:=yb),show ∀ m:List UInt8,bu (m++yb)=bu m++bu yb from fun m=>List.map_append ..];exact iI.ext cg (fun q hq e=>by obtain ⟨_,z⟩:=de iI hq;rw [e,bE] at z;simp at z),⟨w5.lo.1,fun q hq=>(f8 q hq).elim (fun e=>w5.lo.2 q e) (fun e=>by omega)⟩,(w5.ext.trans' bD (fun q hq e=>by have:=w5.lo.2 q e;omega)).trans' cg (fun q hq e=>by have:=w5.lo.1;omega)⟩))
 all_goals (first | refine Br.ab ?_ | (refine ⟨fun e=>(by cases e),?_⟩))
 all_goals (first | refine Br.ab ?_ | (refine WH.done (by kernel_rfl) ?_))
 all_goals (refine Gn ?_;try (refine Br.mk (i:=1001) ?_))
 all_goals (refine Gn ?_;first | refine Br.ab ?_ | refine WC.region ?_)
 all_goals (refine Go ?_;first | refine Br.ab ?_ | (exact ⟨(k+1,_),⟨rfl,rfl,rfl,rfl,trivial⟩,(by exact ⟨by omega,wE,tE⟩),(by simp;omega)⟩))
 try (refine Br.mk (i:=1000) ?_)
 refine Gn ?_
 refine fa [] trivial ?_
 exact ⟨u,by rw [List.take_of_length_le (by omega)] at w2;exact w2,t2⟩
end
def ei (b:Bk):List UInt8 :=
 if b.kind=82 then be 0 4
 else if b.kind=83 then b.name++[0]++b.value++[0]
 else if b.kind=75 then be b.n 4++be b.m 4
 else if b.kind=90 then [UInt8.ofNat b.status.toNat]
 else if b.kind=67 then b.tag++[0]
 else if b.kind=68 then be b.row.length 2++b.row.flatMap dO
 else if b.kind=84 then be b.cols.length 2++b.cols.flatMap iZ
 else if b.kind=116 then be b.oids.length 2++b.oids.flatMap fun n=>be n 4
 else if b.kind=69∨b.kind=78 then fC b.fields++[0]
 else []
theorem FR {h:ah} (b:Bk) (hb:b.ok h) (hw:b.wf) (hmd:b.EA) (hmay:b.may) (hk:b.kind=90∨b.kind=67∨b.kind=68∨b.kind=84∨b.kind=116∨b.kind=69∨b.kind=82∨b.kind=75∨b.kind=49∨b.kind=50∨b.kind=51∨b.kind=110∨b.kind=115∨b.kind=73) :
   ag Tryz.prog 98 ⟨[.agg ⟨b.cells⟩]⟩ h fun u h'=>∃ v',u=.tuple ⟨[.agg ⟨[.int .u8 b.kind,v']⟩,In 0]⟩∧Own h' v' 5 1 (ei b).length (bu (ei b))∧Ext No h h'∧∀ q,v'.ownBlock=some q→h.size≤q:=by
 have kc:=fun h' (hx:Ext No h h')=>mj b (hb.aq hx) hw.kind hmd
 have hst:=hw.status
 obtain ⟨Kc,Ke,Jx,Jy,H8,H9,Jz,Kg,Kh,FP⟩:=hmd
 have m_c:=hmay.cols.2
 have m_o:=hmay.oids.2
 have m_n:=hmay.n
 have m_m:=hmay.m
 have hF:∀ f∈b.fields,f.t.length≤200000∧0≤f.k∧f.k≤255:=fun f hf=>⟨Jz f hf,hw.codes f hf⟩
 clear hw
 obtain ⟨ho,hc,hr,hf⟩:=hb
 generalize hE:ei b=E
 obtain ⟨k,st,t,n,v,x,y,vo,lo,vc,lc,vr,lr,vf,lf⟩:=b
 dsimp only at hk hst ho hc hr hf Kc Ke Jx Jy H8 H9 Jz Kg Kh FP m_c m_o m_n m_m hF ⊢
 have hro:=ho.1
 have hrc:=hc.1
 have hrr:=hr.1
 have hrf:=hf.1
 obtain ⟨Ao,co,rfl,_⟩:=id hro
 obtain ⟨Ac,cc,rfl,_⟩:=id hrc
 obtain ⟨Ar,cr,rfl,_⟩:=id hrr
 obtain ⟨Af,cf,rfl,_⟩:=id hrf
 dsimp only [Bk.cells] at kc ⊢
 rcases hk with rfl | rfl | rfl | rfl | rfl | rfl | rfl | rfl | rfl | rfl | rfl | rfl | rfl | rfl
 all_goals
   refine calls [(0,_)] Tryz.func98 rfl Tryz.ntmps98 rfl ⟨rfl,trivial⟩ ?_
   all_goals (refine WC.sr ?_;refine WL.ai (aB rfl) rfl rfl rfl ?_;rintro _ h1 ⟨b1,rfl,bO,aQ,ay⟩;refine WL.ai (av (fun w=>Tryz.zeroValue53 w)) rfl rfl rfl ?_;rintro _ h2 ⟨b2,rfl,eS,bH,aH⟩;have gm:=ay.trans aH;have bX:=aH.obj aQ aO;refine Go ?_;refine WC.seq ?_;refine WC.sr ?_;refine WL.step (an Tryz.isAgg140 Tryz.sizeOf140 rfl rfl (by exact At.au bX)) rfl rfl rfl ?_;refine WL.call (vs:=[_]) rfl Tryz.call139 rfl (kc _ gm) rfl rfl rfl ?_;rintro _ h3 ⟨⟨e,rfl,he⟩,aP⟩;obtain rfl:=he.2 hmay;have cm:=aP.obj bX aO;have gL:=aP.obj bH aO;have jT:=gm.trans aP;refine Go ?_;refine Gs [(1,_),(2,_),(4,_)] ?_;refine G2 ?_;refine aJ 1 2 ?_ TT.mk;refine ax 2 ?_;refine WC.skip ?_;refine Gn ?_;refine WC.sr ?_;refine WL.step (aD (vs:=[]) (cs:=[_]) (fun | []=>[(.slice none 0 0)] | _=>[]) rfl rfl (by kernel_rfl)) rfl rfl rfl ?_;refine WL.ai (aB rfl) rfl rfl rfl ?_;rintro _ h4 ⟨b5,rfl,pQ,bT,aW⟩;have bP:=aW.obj cm aO;have l1:=aj cm;have l2:=aj gL;have w4:Wr h3 h4 b5 jX []:=⟨bT,Own.nil _ _ _,⟨by omega,by simp [Value.ownBlock]⟩,aW⟩;refine Go ?_;refine Gs [(1,_),(2,_),(5,_)] ?_;refine G3 ?_;refine WL.ld rfl (by first | exact aa bP rfl | assumption) rfl rfl rfl ?_;first | (have Na:E=[]:=(by rw [← hE];rfl);rename ah=>h6) | skip)
   all_goals (refine Gn ?_;refine WC.block ?_;refine G2 ?_;refine aJ 3 4 ?_ TT.mk)
   all_goals try (
   refine ax 3 ?_
   all_goals (refine WC.region (Go ?_);refine WL.call (vs:=[_,_,_]) rfl Tryz.call140 rfl (fP w4 0 4 CS (qc (by omega)) (by decide)) rfl rfl rfl ?_;rintro _ h6 ⟨v6,CT,t6⟩;(have wE:Wr h3 h6 b5 v6 E:=by rw [← hE];simpa [ei] using CT);refine Gn ?_)
   skip)
   all_goals try (
   refine ax 4 ?_
   all_goals (refine G2 ?_;refine Gs [(1,_),(2,_),(5,_),(19,_),(24,_)] ?_;refine aJ 5 6 ?_ TT.mk;refine ax 6 ?_;refine G2 ?_;refine aJ 7 8 ?_ TT.mk)
   all_goals try (
   refine ax 7 ?_
   all_goals (refine G2 ?_;refine WL.ld rfl (by first | exact aa bP rfl | assumption) rfl rfl rfl ?_;refine WL.call (vs:=[_,_,_]) rfl Tryz.call140 rfl (fP w4 x 4 CS (qc (by omega)) (by decide)) rfl rfl rfl ?_;rintro _ h5 ⟨v5,w5,t5⟩;have eI:=w5.ext.obj cm aO;refine Gn ?_;refine Gs [(1,_),(2,_),(5,_)] ?_;refine WC.region (Go ?_);refine WL.ld rfl (by first | exact aa eI rfl | assumption) rfl rfl rfl ?_;refine WL.call (vs:=[_,_,_]) rfl Tryz.call140 rfl (fP w5 y 4 CS (qc (by omega)) (by simp only [List.length_append,bm,List.length_nil];omega)) rfl rfl rfl ?_;rintro _ h6 ⟨v6,CT,t6⟩;(have wE:Wr h3 h6 b5 v6 E:=by rw [← hE];simpa [ei] using CT);refine Gn ?_)
   skip)
   all_goals try (
   refine ax 8 ?_
   all_goals (refine G2 ?_;refine Gs [(1,_),(2,_),(5,_),(19,_),(44,_)] ?_;refine aJ 9 10 ?_ TT.mk)
   all_goals try (
   refine ax 9 ?_
   all_goals (refine WC.region (Go ?_);refine WL.ld rfl (by first | exact aa bP rfl | assumption) rfl rfl rfl ?_;refine WL.ai (aw (vs:=[_]) (cs:=[_]) (fun | [a0]=>[a0] | _=>[]) Tryz.underlying23 rfl rfl (by kernel_rfl)) rfl rfl rfl ?_;rintro _ h5 ⟨b6,rfl,oG,bN,aN⟩;refine WL.step (ae rfl) rfl rfl rfl (Go ?_);refine WL.az (aC Tryz.sizeOf23 rfl rfl (aN.obj w4.bq aO) (Nat.le_of_ble_eq_true rfl) rfl rfl) rfl rfl ?_;rintro _ h6 ⟨tJ,aM⟩)
   all_goals (
    have MN:=aj w4.bq
    have Kk:=aM.obj bN (fun e=>by omega)
    have w6:Wr h3 h6 b5 _ ([UInt8.ofNat st.toNat]):=⟨tJ,dJ (by show h6[b6]?=some (.cells ⟨bu [UInt8.ofNat st.toNat]⟩ 5 (0,0));rw [show bu [UInt8.ofNat st.toNat]=[.int .u8 st] by simp only [bu,List.map_cons,List.map_nil];exact congrArg (fun z=>[z]) (Kj hst.1 hst.2)];exact Kk) rfl (by decide),⟨w4.lo.1,fun q hq=>by have:b6=q:=(by simpa [Value.ownBlock] using hq);have:=aW.size;omega⟩,(w4.ext.trans aN).trans' aM (fun q hq e=>by have:=w4.lo.1;omega)⟩
    rw [show [UInt8.ofNat st.toNat]=E by rw [← hE];simp [ei]] at w6
    have wE:=w6)
   all_goals (refine Gn ?_)
   skip)
   all_goals try (
   refine ax 10 ?_
   all_goals (refine G2 ?_;refine aJ 11 12 ?_ TT.mk)
   all_goals try (
   refine ax 11 ?_
   all_goals (refine WC.region (Go ?_);refine WL.ld rfl (by first | exact aa bP rfl | assumption) rfl rfl rfl ?_;refine WL.call (vs:=[_,_]) rfl Tryz.call141 rfl (zE w4 t (by simp only [List.length_nil];omega)) rfl rfl rfl ?_;rintro _ h6 ⟨v6,CT,t6⟩;(have wE:Wr h3 h6 b5 v6 E:=by rw [← hE];simpa [ei] using CT);refine Gn ?_)
   skip)
   all_goals try (
   refine ax 12 ?_
   all_goals (refine G2 ?_;refine Gs [(1,_),(2,_),(5,_),(19,_),(58,_)] ?_;refine aJ 13 14 ?_ TT.mk)
   all_goals try (
   refine ax 13 ?_
   all_goals (refine WC.region (Go ?_);refine WL.ld rfl (by first | exact aa bP rfl | assumption) rfl rfl rfl ?_;refine WL.call (vs:=[_,_]) rfl Tryz.call142 rfl (Ib w4 lr (hr.aq jT) Jx H9 (by decide)) rfl rfl rfl ?_;rintro _ h6 ⟨v6,CT,t6⟩;(have wE:Wr h3 h6 b5 v6 E:=by rw [← hE];simpa [ei] using CT);refine Gn ?_)
   skip)
   all_goals try (
   refine ax 14 ?_
   all_goals (refine G2 ?_;refine aJ 15 16 ?_ TT.mk)
   all_goals try (
   refine ax 15 ?_
   all_goals (refine G2 ?_;refine WL.ld rfl (by first | exact aa bP rfl | assumption) rfl rfl rfl (Go ?_);refine WL.call (vs:=[_,_,_]) rfl Tryz.call140 rfl (fP w4 (lc.length:Int) 2 Hp (Ho (by omega)) (by decide)) rfl rfl rfl ?_;rintro _ h5 ⟨v5,w5,t5⟩;have eI:=w5.ext.obj cm aO;refine Gn ?_;refine Gs [(1,_),(2,_),(5,_)] ?_;refine G2 ?_;refine WL.ld rfl (by first | exact aa eI rfl | assumption) rfl rfl rfl ?_;(have hfl:∀ j,((lc.take j).flatMap iZ).length≤110000:=fun j=>Nat.le_trans (lG lc j fun x hx=>nw (H8 x hx)) (by omega));refine Go ?_;refine WC.block ?_)
   all_goals (refine WC.bC (X:=Nat × Value) (fun x=>([(74,In (x.1:Int))]:Fr)) [(1,_),(2,_),(5,_),(72,_),(73,_)] (fun y h'=>y.1≤lc.length∧Wr h3 h' b5 y.2 (be (lc.length:Int) 2++(lc.take y.1).flatMap iZ)) (fun y=>lc.length - y.1) ((0,v5)) ⟨rfl,rfl,rfl,rfl,rfl,rfl,trivial⟩ (by exact ⟨Nat.zero_le _,by simpa using w5⟩) ?_;rintro ⟨j,v6⟩ h6 ⟨hj,w6⟩;dsimp only at hj w6)
   all_goals (refine WC.sub [(74,_),(1,_),(2,_),(5,_),(72,_),(73,_)] ⟨rfl,rfl,rfl,rfl,rfl,rfl,trivial⟩ ?_;dsimp only)
   all_goals (refine G2 ?_;refine WC.seq ?_;refine aJ 17 18 (Hb.mk fun hb=>?_) (Hb.mk fun hb=>?_))
   all_goals try (
   refine ax 17 ?_
   all_goals (refine WC.skip ?_)
   skip)
   all_goals try (
   refine ax 18 ?_
   all_goals (refine WC.exit ?_;repeat' (with_reducible first | refine aU ?_ | refine aG rfl ?_ | refine aI ?_ | refine aL ?_ | refine aS ?_))
   all_goals (refine Br.out (i:=1001) ?_)
   skip)
   all_goals (refine Gn ?_;first | refine Br.ab ?_ | refine WC.seq ?_)
   all_goals (first | refine Br.ab ?_ | refine WC.block ?_)
   all_goals (first | refine Br.ab ?_ | refine WC.sr ?_)
   all_goals (
    first
      | (refine Br.ab ?_)
      | (obtain ⟨bL,oL,hA,hbL,hat⟩:=Rd.at_ (hrc.aq jT) (by omega)
         obtain ⟨yy,hy⟩:∃ y,lc[j]?=some y:=⟨_,List.getElem?_eq_getElem (by omega)⟩
         have hyn:=H8 _ (List.mem_of_getElem? hy)
         have hyc:=m_c _ (List.mem_of_getElem? hy)
         have hcd:At h6 bL (oL+j * 7) yy.cells:=At.elem b0.len (hat.ext w6.ext aO) hy
         have hlj:=hfl j))
   all_goals (first | refine Br.ab ?_ | (refine WL.step (aF Tryz.underlying137 Tryz.sizeOf212 rfl rfl rfl (by omega) (by first | rfl | assumption)) rfl rfl rfl ?_))
   all_goals (first | refine Br.ab ?_ | (refine WL.step (an Tryz.isAgg212 Tryz.sizeOf212 rfl rfl (by exact hcd)) rfl rfl rfl ?_))
   all_goals (
    first
      | (refine Br.ab ?_)
      | (refine WL.ai (av (fun w=>Tryz.zeroValue212 w)) rfl rfl rfl ?_
         rintro _ h7 ⟨b7,rfl,Ez,bZ,bh⟩))
   all_goals (
    first
      | (refine Br.ab ?_)
      | (refine WL.az (al Tryz.sizeOf212 rfl rfl rfl bZ rfl (by simp [b0.cells,Value.oneCell'])) rfl rfl ?_
         rintro _ h8 ⟨bE,bD⟩))
   all_goals (first | refine Br.ab ?_ | (have kJ:Ext No h6 h8:=bh.trans' bD (fun q hq e=>by omega)))
   all_goals (refine Gn ?_;first | refine Br.ab ?_ | refine WC.region ?_)
   all_goals (refine Go ?_;first | refine Br.ab ?_ | (refine WL.step (an Tryz.isAgg212 Tryz.sizeOf212 rfl rfl (by exact At.au bE)) rfl rfl rfl ?_))
   all_goals (
    first
      | (refine Br.ab ?_)
      | (refine WL.call (vs:=[_,_]) rfl Tryz.call143 rfl (zG (w6.stay kJ) yy hyc hyn (by simp only [List.length_append,bm];omega)) rfl rfl rfl ?_
         rintro _ h9 ⟨v9,w9,t9⟩))
   all_goals (refine Gn ?_;first | refine Br.ab ?_ | refine Gs [(1,_),(2,_),(5,_),(72,_),(73,_),(74,_)] ?_)
   all_goals (first | refine Br.ab ?_ | refine WC.region ?_)
   all_goals (refine Go ?_;first | refine Br.ab ?_ | (exact ⟨(j+1,_),⟨rfl,rfl,rfl,rfl,rfl,rfl,trivial⟩,(by exact ⟨by omega,by rw [jt hy,← List.append_assoc];exact w9⟩),(by simp;omega)⟩))
   all_goals (try (refine Br.mk (i:=1001) ?_))
   skip)
   all_goals try (
   refine ax 16 ?_
   all_goals (refine G2 ?_;refine Gs [(1,_),(2,_),(5,_),(19,_),(82,_)] ?_;refine aJ 19 20 ?_ TT.mk)
   all_goals try (
   refine ax 19 ?_
   all_goals (refine G2 ?_;refine WL.ld rfl (by first | exact aa bP rfl | assumption) rfl rfl rfl (Go ?_);refine WL.call (vs:=[_,_,_]) rfl Tryz.call140 rfl (fP w4 (lo.length:Int) 2 Hp (Ho (by omega)) (by decide)) rfl rfl rfl ?_;rintro _ h5 ⟨v5,w5,t5⟩;have eI:=w5.ext.obj cm aO;refine Gn ?_;refine Gs [(1,_),(2,_),(5,_)] ?_;refine G2 ?_;refine WL.ld rfl (by first | exact aa eI rfl | assumption) rfl rfl rfl ?_;(have hfl:∀ j,((lo.take j).flatMap fun n=>be n 4).length≤1000:=fun j=>Nat.le_trans (lG (n:=4) lo j fun x hx=>by rw [bm];omega) (by omega));refine Go ?_;refine WC.block ?_)
   all_goals (refine WC.bC (X:=Nat × Value) (fun x=>([(92,In (x.1:Int))]:Fr)) [(1,_),(2,_),(5,_),(90,_),(91,_)] (fun y h'=>y.1≤lo.length∧Wr h3 h' b5 y.2 (be (lo.length:Int) 2++(lo.take y.1).flatMap fun n=>be n 4)) (fun y=>lo.length - y.1) ((0,v5)) ⟨rfl,rfl,rfl,rfl,rfl,rfl,trivial⟩ (by exact ⟨Nat.zero_le _,by simpa using w5⟩) ?_;rintro ⟨j,v6⟩ h6 ⟨hj,w6⟩;dsimp only at hj w6)
   all_goals (refine WC.sub [(92,_),(1,_),(2,_),(5,_),(90,_),(91,_)] ⟨rfl,rfl,rfl,rfl,rfl,rfl,trivial⟩ ?_;dsimp only)
   all_goals (refine G2 ?_;refine WC.seq ?_;refine aJ 21 22 (Hb.mk fun hb=>?_) (Hb.mk fun hb=>?_))
   all_goals try (
   refine ax 21 ?_
   all_goals (refine WC.skip ?_)
   skip)
   all_goals try (
   refine ax 22 ?_
   all_goals (refine WC.exit ?_;repeat' (with_reducible first | refine aU ?_ | refine aG rfl ?_ | refine aI ?_ | refine aL ?_ | refine aS ?_))
   all_goals (refine Br.out (i:=1003) ?_)
   skip)
   all_goals (refine Gn ?_;first | refine Br.ab ?_ | refine WC.seq ?_)
   all_goals (first | refine Br.ab ?_ | refine WC.block ?_)
   all_goals (first | refine Br.ab ?_ | refine WC.sr ?_)
   all_goals (
    first
      | (refine Br.ab ?_)
      | (obtain ⟨bL,oL,hA,hbL,hat⟩:=Rd.at_ (hro.aq jT) (by omega)
         obtain ⟨yy,hy⟩:∃ y,lo[j]?=some y:=⟨_,List.getElem?_eq_getElem (by omega)⟩
         have hyo:=m_o _ (List.mem_of_getElem? hy)
         have hcd:cell h6 ⟨bL,oL+j * 1,none⟩=some (In yy):=(hat.ext w6.ext aO).get j (ic hy) (by omega)
         have hlj:=hfl j))
   all_goals (first | refine Br.ab ?_ | (refine WL.step (aF Tryz.underlying39 Tryz.sizeOf3 rfl rfl rfl (by omega) (by first | rfl | assumption)) rfl rfl rfl ?_))
   all_goals (first | refine Br.ab ?_ | (refine WL.ld rfl (by first | exact hcd | assumption) rfl rfl rfl ?_))
   all_goals (refine Go ?_;first | refine Br.ab ?_ | refine WC.region ?_)
   all_goals (refine Go ?_)
   all_goals (
    first
      | (refine Br.ab ?_)
      | (refine WL.call (vs:=[_,_,_]) rfl Tryz.call140 rfl (fP w6 yy 4 CS (qc (by omega)) (by simp only [List.length_append,bm];omega)) rfl rfl rfl ?_
         rintro _ h9 ⟨v9,w9,t9⟩))
   all_goals (refine Gn ?_;first | refine Br.ab ?_ | refine Gs [(1,_),(2,_),(5,_),(90,_),(91,_),(92,_)] ?_)
   all_goals (first | refine Br.ab ?_ | refine WC.region ?_)
   all_goals (refine Go ?_;first | refine Br.ab ?_ | (exact ⟨(j+1,_),⟨rfl,rfl,rfl,rfl,rfl,rfl,trivial⟩,(by exact ⟨by omega,by rw [jt hy,← List.append_assoc];exact w9⟩),(by simp;omega)⟩))
   all_goals (try (refine Br.mk (i:=1003) ?_))
   skip)
   all_goals try (
   refine ax 20 ?_
   all_goals (refine G3 ?_;refine aJ 23 24 ?_ TT.mk)
   all_goals try (
   refine ax 23 ?_
   all_goals (refine WC.skip ?_)
   skip)
   all_goals try (
   refine ax 24 ?_
   all_goals (refine WC.region (Go ?_))
   skip)
   all_goals (refine Gn ?_;refine aJ 25 26 ?_ TT.mk)
   all_goals try (
   refine ax 25 ?_
   all_goals (refine WC.region (Go ?_);refine WL.ld rfl (by first | exact aa bP rfl | assumption) rfl rfl rfl ?_;refine WL.call (vs:=[_,_]) rfl Tryz.call144 rfl (zC lf w4 (hf.1.aq jT) hF Jy) rfl rfl rfl ?_;rintro _ h6 ⟨v6,CT,t6⟩;(have wE:Wr h3 h6 b5 v6 E:=by rw [← hE];simpa [ei] using CT);refine Gn ?_)
   skip)
   all_goals try (
   refine ax 26 ?_
   all_goals (refine WC.skip ?_)
   skip)
   skip)
   skip)
   skip)
   skip)
   skip)
   skip)
   skip)
   all_goals (refine Gn ?_;refine WC.seq ?_;refine WC.bW (fun h'=>Ext No h6 h') 7 9 rfl dk ?_)
   all_goals (
    first
     | (have:=wE;clear this)
     | (rw [List.take_of_length_le (by omega)] at w6
        have wE:Wr h3 h6 b5 v6 E:=by rw [← hE];simpa [ei] using w6)
     | (have wE:Wr h3 h6 b5 jX E:=by rw [Na];exact w4)
    have fB:=wE.ext.obj cm aO
    have lB:=wE.ext.obj gL aO
    have JA:=wE.own
    obtain ⟨A6,c6,e6,_⟩:=JA.slice
    rw [e6] at wE JA)
   all_goals (refine WH.tk 0 rfl (fun hq hC=>ad rfl Tryz.underlying140 rfl Tryz.sizeOf5) rfl rfl rfl ?_;refine WH.tk 1 rfl (fun hq hC=>aA Tryz.isAgg5 rfl (by first | exact hC.cell (by first | exact aa fB rfl | assumption) aO)) rfl rfl rfl ?_;refine WH.tk 2 rfl (fun hq hC=>ak rfl) rfl rfl rfl ?_;refine WH.tk 3 rfl (fun hq hC=>ae rfl) rfl rfl rfl ?_;refine WH.tk 4 rfl (fun hq hC=>ad rfl Tryz.underlying207 rfl Tryz.sizeOf23) rfl rfl rfl ?_;refine WH.tk 5 rfl (fun hq hC=>aA Tryz.isAgg23 rfl (by first | exact hC.cell (by first | exact aa wE.bq rfl | assumption) aO)) rfl rfl rfl ?_;refine WH.tk 6 rfl (fun hq hC=>aD (vs:=[_,_]) (cs:=[_,_]) (fun | [a0,a1]=>[a0,a1] | _=>[]) rfl rfl (by kernel_rfl)) rfl rfl rfl ?_;refine WH.one 7 (by kernel_rfl) ?_;refine aE.cQ rfl (al Tryz.sizeOf53 rfl rfl rfl lB rfl (by simp [Value.oneCell'])) rfl rfl ?_ (fun _=>by kernel_rfl);rintro _ h7 ⟨bZ,bh⟩;refine ⟨fun e=>(by cases e),?_⟩;refine WH.one 8 (by kernel_rfl) ?_;refine aE.run rfl (bK.r (aR rfl)) rfl rfl rfl ?_ (fun _=>by kernel_rfl);rintro _ hz ⟨rfl,_⟩;subst hz;refine ⟨fun e=>(by cases e),?_⟩;refine WH.done (by kernel_rfl) ?_;refine Gn ?_;refine Gs [(2,_),(3,_)] ?_;refine WC.ret ?_;repeat' (with_reducible first | refine ba ?_ | refine aV ?_))
   all_goals (refine dY _ _ ⟨⟨_,rfl,bB Tryz.isAgg53 Tryz.sizeOf53 bZ rfl⟩,rfl,trivial⟩ ?_;exact ⟨_,rfl,JA.ext bh (fun q hq e=>by obtain ⟨_,z⟩:=de JA hq;rw [e,lB] at z;simp at z),(jT.trans wE.ext).trans' bh (fun q hq e=>by have:=ay.size;omega),fun q hq=>by have:=wE.lo.2 q hq;have:=jT.size;omega⟩)
theorem zH {h:ah} (b:Bk) (hb:b.ok h) (hw:0≤b.kind∧b.kind≤255) (hmd:b.EA) (hmay:¬ b.may) :
   ag Tryz.prog 98 ⟨[.agg ⟨b.cells⟩]⟩ h fun u h'=>∃ e:Int,e ≠ 0∧u=.tuple ⟨[.agg ⟨[.int .u8 0,jX]⟩,In e]⟩∧Ext No h h':=by
 have kc:=fun h' (hx:Ext No h h')=>mj b (hb.aq hx) hw hmd
 have OE:Ext No h h:=.refl _ _
 clear hmd
 obtain ⟨ho,hc,hr,hf⟩:=hb
 obtain ⟨k,st,t,n,v,x,y,vo,lo,vc,lc,vr,lr,vf,lf⟩:=b
 dsimp only at ho hc hr hf
 obtain ⟨Ao,co,rfl,_⟩:=id ho.1
 obtain ⟨Ac,cc,rfl,_⟩:=id hc.1
 obtain ⟨Ar,cr,rfl,_⟩:=id hr.1
 obtain ⟨Af,cf,rfl,_⟩:=id hf.1
 dsimp only [Bk.cells] at kc ⊢
 refine calls [(0,_)] Tryz.func98 rfl Tryz.ntmps98 rfl ⟨rfl,trivial⟩ ?_
 refine WC.sr ?_;refine WL.ai (aB rfl) rfl rfl rfl ?_
 rintro _ h1 ⟨b1,rfl,bO,aQ,ay⟩
 refine WL.ai (av (fun w=>Tryz.zeroValue53 w)) rfl rfl rfl ?_
 rintro _ h2 ⟨b2,rfl,eS,bH,aH⟩
 have gm:=ay.trans aH
 have bX:=aH.obj aQ aO
 refine Go ?_;refine WC.seq ?_;refine WC.sr ?_;refine WL.step (an Tryz.isAgg140 Tryz.sizeOf140 rfl rfl (by exact At.au bX)) rfl rfl rfl ?_
 refine WL.call (vs:=[_]) rfl Tryz.call139 rfl (kc _ gm) rfl rfl rfl ?_
 rintro _ h3 ⟨⟨e,rfl,he⟩,aP⟩
 have hne:e ≠ 0:=fun z=>hmay (he.1 z)
 have gL:=aP.obj bH aO
 have jT:=gm.trans aP
 refine Go ?_;refine Gs [(1,_),(2,_),(4,_)] ?_;refine G2 ?_
 refine aJ 1 2 ?_ TT.mk
 all_goals (refine ax 1 ?_)
 refine WC.sr ?_;refine WL.step (aD (vs:=[]) (cs:=[_,_]) (fun | []=>[(.int .u8 0),(.slice none 0 0)] | _=>[]) rfl rfl (by kernel_rfl)) rfl rfl rfl (Go ?_)
 refine WL.az (al Tryz.sizeOf53 rfl rfl rfl gL rfl (by simp [Value.oneCell'])) rfl rfl ?_
 rintro _ h4 ⟨bx,aW⟩
 refine Go ?_;refine Gs [(2,_),(3,_)] ?_;refine WC.ret ?_
 repeat' (with_reducible first | refine ba ?_ | refine aV ?_)
 refine dY _ _ ⟨⟨_,rfl,bB Tryz.isAgg53 Tryz.sizeOf53 bx rfl⟩,rfl,trivial⟩ ?_
 exact ⟨_,hne,rfl,jT.trans' aW (fun q hq e=>by have:=ay.size;omega)⟩
end Go.Proofs.YtopgddfgefnmbaaGreatDoor
namespace Go.RK
open Go
section
variable {P:Program} {f:Fr} {h:ah} {d:Option Tmp} {ty:TypeId} {pos:String} {af:Array Edge} {g:Option (Nat × Bool)}
theorem fQ {x:Operand} {t:TypeId} {v:Value} (hu:∃ u,P.underlying t=some u∧∀ ms,u ≠ .interface ms) (hx:f.ev x=some v):bK P f ⟨d,.makeInterface t x,ty,pos,af,g⟩ h (.iface t v):=fun ρ w ha _=>by
 obtain ⟨u,h1,h2⟩:=hu
 have key:(Instr.makeInterface t v).run P w=.ok (.iface t v) w:=by
   simp only [Instr.makeInterface,Sem.run_bind,run_underlying h1,Result.andThen_ok]
   cases u <;> first | rfl | exact absurd rfl (h2 _)
 simp [execOp,ha _ _ hx,key]
theorem zI {t t2 u:TypeId} {x y:Operand} {v:Value} (hu:P.underlying t=some (.interface (P.methodsAt t))) (hx:f.ev x=some (.iface u v)) (hy:f.ev y=some .nilIface):bK P f ⟨d,.binOp .eql t x y t2,ty,pos,af,g⟩ h (.bool false):=fun ρ w ha _=>by
 simp [execOp,ha _ _ hx,ha _ _ hy,eqGuard_at_iface,run_eql_held_nil w t u v hu]
theorem fR {t t2 u:TypeId} {x y:Operand} {v:Value} (hu:P.underlying t=some (.interface (P.methodsAt t))) (hx:f.ev x=some (.iface u v)) (hy:f.ev y=some .nilIface):bK P f ⟨d,.binOp .neq t x y t2,ty,pos,af,g⟩ h (.bool true):=fun ρ w ha _=>by
 simp [execOp,ha _ _ hx,ha _ _ hy,eqGuard_at_iface,run_neq_held_nil w t u v hu]
theorem rX {t t2:TypeId} {x:Operand} {c:Value} (hu:P.underlying t=some (.interface (P.methodsAt t))) (hx:f.ev x=some .nilIface) (hy:f.ev (.const c)=some .nilIface):bK P f ⟨d,.binOp .eql t x (.const c) t2,ty,pos,af,g⟩ h (.bool true):=fun ρ w ha _=>by
 have:=ha _ _ hy
 simp [execOp,ha _ _ hx,this,eqGuard_nil_constR,run_eql_nil_nil w t hu]
theorem cR {t t2:TypeId} {x:Operand} {c:Value} (hu:P.underlying t=some (.interface (P.methodsAt t))) (hx:f.ev x=some .nilIface) (hy:f.ev (.const c)=some .nilIface):bK P f ⟨d,.binOp .neq t x (.const c) t2,ty,pos,af,g⟩ h (.bool false):=fun ρ w ha _=>by
 have:=ha _ _ hy
 simp [execOp,ha _ _ hx,this,eqGuard_nil_constR,run_neq_nil_nil w t hu]
end
end Go.RK
namespace Go.Proofs.YtopgddfgefnmbaaGreatDoor
open Go Go.RK
abbrev qd:List UInt8:=([98,101,103,105,110]:List UInt8)
theorem zJ {h:ah} (y:UInt8) (s:List UInt8) (c:Int) (hy:(y.toNat:Int) ≠ c) (hm:s.length≤1000000):ag Tryz.prog 280 ⟨[St (y :: s),.int .u8 c]⟩ h fun u h'=>u=St (y :: s)∧h'=h:=by
 have e0:(y :: s)[0]?=some y:=rfl
 refine calls [(0,_),(1,_)] Tryz.func280 rfl Tryz.ntmps280 rfl ⟨rfl,rfl,trivial⟩ ?_
 refine G2 ?_;refine WC.seq ?_;refine WC.block ?_;refine WC.bC (X:=Unit) (fun x=>([(0,St (y :: s))]:Fr)) [(1,_)] (fun _ h'=>h'=h) (fun _=>0) (()) ⟨rfl,rfl,trivial⟩ (by exact rfl) ?_
 rintro _ h1 hz
 subst hz
 refine WC.sub [(0,_),(1,_)] ⟨rfl,rfl,trivial⟩ ?_;refine G3 ?_
 refine bG 8 (Hb.mk fun hb=>?_) (Hb.mk fun hb=>?_)
 all_goals (refine Gg ?_;first | refine WL.pass rfl rfl rfl ?_ | (refine WL.step (cT Tryz.underlying9 rfl rfl (by omega) e0) rfl rfl rfl ?_))
 all_goals (refine Gg ?_;refine Go ?_;refine Gs [(0,_),(1,_),(13,_)] ?_;refine aJ 1 2 ?_ TT.mk;refine ax 2 ?_;refine WC.exit ?_;repeat' (with_reducible first | refine aU ?_ | refine aG rfl ?_ | refine aI ?_ | refine aL ?_ | refine aS ?_))
 all_goals (refine Br.out (i:=1000) ?_;refine Gn ?_;refine Br.ab ?_;refine Br.ab ?_;refine Go ?_;refine Br.ab ?_;refine Go ?_;refine Br.ab ?_;try (refine Br.mk (i:=1000) ?_))
 all_goals (refine Gn ?_;refine G2 ?_;refine Gs [(4,_)] ?_;refine Gt ?_;first | exact ⟨rfl,rfl⟩ | (exfalso;simp at *;omega))
theorem zK {h:ah} (y:UInt8) (s:List UInt8) (c:Int) (hy:(y.toNat:Int) ≠ c) (hm:s.length≤1000000):ag Tryz.prog 281 ⟨[St (s++[y]),.int .u8 c]⟩ h fun u h'=>u=St (s++[y])∧h'=h:=by
 have e0:(s++[y])[s.length]?=some y:=by simp
 have el:(s++[y]).length=s.length+1:=by simp
 generalize s++[y]=t at *
 refine calls [(0,_),(1,_)] Tryz.func281 rfl Tryz.ntmps281 rfl ⟨rfl,rfl,trivial⟩ ?_
 refine G2 ?_;refine WC.seq ?_;refine WC.block ?_;refine WC.bC (X:=Unit) (fun x=>([(0,St t)]:Fr)) [(1,_)] (fun _ h'=>h'=h) (fun _=>0) (()) ⟨rfl,rfl,trivial⟩ (by exact rfl) ?_
 rintro _ h1 hz
 subst hz
 refine WC.sub [(0,_),(1,_)] ⟨rfl,rfl,trivial⟩ ?_;refine G3 ?_
 refine bG 8 ?_ TT.mk
 refine WL.step (ak rfl) rfl rfl rfl ?_;refine WL.step (ak rfl) rfl rfl rfl ?_;refine WL.step (kq rfl Tryz.underlying9 rfl) rfl rfl rfl ?_;refine WL.step (fu rfl rfl (by omega)) rfl rfl rfl ?_
 rw [show ((t.length:Int) - 1)=((s.length:Nat):Int) by omega]
 refine WL.step (cT Tryz.underlying9 rfl rfl (by omega) e0) rfl rfl rfl ?_
 refine Gg ?_;refine Go ?_;refine Gs [(0,_),(1,_),(16,_)] ?_
 refine aJ 1 2 ?_ TT.mk
 all_goals (refine ax 2 ?_)
 refine WC.exit ?_
 repeat' (with_reducible first | refine aU ?_ | refine aG rfl ?_ | refine aI ?_ | refine aL ?_ | refine aS ?_)
 refine Br.out (i:=1000) ?_;refine Gn ?_;refine Br.ab ?_;refine Br.ab ?_;refine Go ?_;refine Br.ab ?_;refine Go ?_;refine Br.ab ?_
 try (refine Br.mk (i:=1000) ?_)
 refine Gn ?_;refine G2 ?_;refine Gs [(4,_)] ?_;refine Gt ?_
 first | exact ⟨rfl,rfl⟩ | (exfalso;simp at *;omega)
theorem CU {h:ah} (y z:UInt8) (s:List UInt8) (hy:y ≠ 32) (hz:z ≠ 32) (hm:s.length≤1000):ag Tryz.prog 251 ⟨[St (y :: (s++[z])),St [32]]⟩ h fun u h'=>u=St (y :: (s++[z]))∧h'=h:=by
 have hy':(y.toNat:Int) ≠ 32:=fun e=>hy (UInt8.toNat_inj.1 (by show _=32;omega))
 have hz':(z.toNat:Int) ≠ 32:=fun e=>hz (UInt8.toNat_inj.1 (by show _=32;omega))
 have k1:=zK (h:=h) z (y :: s) 32 hz' (by simp;omega)
 have k2:=zJ (h:=h) y (s++[z]) 32 hy' (by simp;omega)
 rw [List.cons_append] at k1
 have hne:y :: (s++[z]) ≠ []:=by simp
 generalize y :: (s++[z])=t at *
 have e0:([32]:List UInt8)[0]?=some 32:=rfl
 refine calls [(0,_),(1,_)] Tryz.func251 rfl Tryz.ntmps251 rfl ⟨rfl,rfl,trivial⟩ ?_
 refine G2 ?_;refine G3 ?_
 refine bG 9 ?_ TT.mk
 refine Gg ?_;refine Go ?_;refine Gs [(0,_),(1,_),(12,_)] ?_
 refine aJ 1 2 ?_ TT.mk
 all_goals (refine ax 2 ?_)
 refine WC.skip ?_;refine Gn ?_;refine G3 ?_
 refine bG 17 ?_ TT.mk
 refine Gg ?_;refine WL.step (cT Tryz.underlying9 rfl rfl (by omega) e0) rfl rfl rfl ?_
 refine Gg ?_;refine Go ?_;refine Gs [(0,_),(1,_),(21,_)] ?_
 refine aJ 3 4 ?_ TT.mk
 all_goals (refine ax 3 ?_)
 refine WC.seq ?_;refine WC.bW (fun h'=>h'=h) 7 8 rfl dk ?_
 refine WH.tk 0 rfl (fun hq hC=>ak rfl) rfl rfl rfl ?_ (hC:=rfl)
 refine WH.tk 1 rfl (fun hq hC=>ak rfl) rfl rfl rfl ?_ (hC:=rfl)
 refine WH.tk 2 rfl (fun hq hC=>cT Tryz.underlying9 rfl rfl (by omega) e0) rfl rfl rfl ?_ (hC:=rfl)
 refine WH.tk 4 rfl (fun hq hC=>ak rfl) rfl rfl rfl ?_ (hC:=rfl)
 refine WH.tk 5 rfl (fun hq hC=>cT Tryz.underlying9 rfl rfl (by omega) e0) rfl rfl rfl ?_ (hC:=rfl)
 refine WH.one 3 (by kernel_rfl) ?_
 refine aE.call (vs:=[_,_]) rfl rfl Tryz.call281 rfl (k1) rfl rfl rfl ?_ (fun _=>by kernel_rfl)
 rintro _ hq ⟨rfl,jo⟩
 subst jo
 refine ⟨fun _=>rfl,?_⟩
 refine WH.one 6 (by kernel_rfl) ?_
 refine aE.call (vs:=[_,_]) rfl rfl Tryz.call280 rfl (k2) rfl rfl rfl ?_ (fun _=>by kernel_rfl)
 rintro _ hq ⟨rfl,Ie⟩
 subst Ie
 refine ⟨fun _=>rfl,?_⟩
 refine WH.one 7 (by kernel_rfl) ?_
 refine aE.run rfl (bK.r (aR rfl)) rfl rfl rfl ?_ (fun _=>by kernel_rfl)
 rintro _ hz ⟨rfl,_⟩
 subst hz
 refine ⟨fun e=>(by cases e),?_⟩
 refine WH.done (by kernel_rfl) ?_
 refine Gn ?_;refine Gs [(4,_)] ?_;refine Gt ?_
 exact ⟨rfl,rfl⟩
theorem ue {h:ah}:ag Tryz.prog 252 ⟨[St qd]⟩ h fun u h'=>u=.tuple ⟨[In 2,.bool true]⟩∧h'=h:=by
 refine calls [(0,_)] Tryz.func252 rfl Tryz.ntmps252 rfl ⟨rfl,trivial⟩ ?_
 refine G2 ?_;refine G3 ?_;refine WC.block ?_;refine G2 ?_;refine Gs [(4,_),(5,_)] ?_
 refine aJ 1 2 ?_ TT.mk
 all_goals (refine ax 2 ?_)
 refine G2 ?_
 refine aJ 3 4 ?_ TT.mk
 all_goals (refine ax 3 ?_)
 refine G2 ?_;refine Gs [(2,_),(3,_)] ?_;refine Gt ?_
 exact ⟨rfl,rfl⟩
def my (k n:Int) (c:List UInt8):List Value:=[In k,In n,St c]
theorem EE {h:ah}:ag Tryz.prog 214 ⟨[St qd]⟩ h fun u h'=>u=.agg ⟨my 2 0 []⟩∧Ext No h h':=by
 have kt:=fun h'=>CU (h:=h') 98 110 [101,103,105] (by decide) (by decide) (by decide)
 unfold my
 refine calls [(0,_)] Tryz.func214 rfl Tryz.ntmps214 rfl ⟨rfl,trivial⟩ ?_
 refine WC.sr ?_;refine WL.ai (av (fun w=>Tryz.zeroValue278 w)) rfl rfl rfl ?_
 rintro _ h1 ⟨b2,rfl,eS,bH,aH⟩
 refine Gn ?_;refine G2 ?_;refine WL.call (vs:=[_,_]) rfl Tryz.call251 rfl (kt _) rfl rfl rfl ?_
 rintro _ hq ⟨rfl,hz⟩
 subst hz
 refine Go ?_;refine G3 ?_;refine WL.call (vs:=[_]) rfl Tryz.call252 rfl (ue) rfl rfl rfl ?_
 rintro _ hq ⟨rfl,hz⟩
 subst hz
 refine Go ?_;refine Gs [(2,_),(3,_),(4,_),(5,_)] ?_;refine G2 ?_
 refine aJ 1 2 ?_ TT.mk
 all_goals (refine ax 1 ?_)
 refine G2 ?_;refine WL.step (aD (vs:=[_]) (cs:=[_,_,_]) (fun | [a0]=>[a0,(.int .i64 0),(St [])] | _=>[]) rfl rfl (by kernel_rfl)) rfl rfl rfl ?_
 refine WL.az (al Tryz.sizeOf278 rfl rfl rfl bH rfl (by simp [Value.oneCell'])) rfl rfl ?_
 rintro _ h3 ⟨bn,aP⟩
 refine Gn ?_;refine Gs [(2,_)] ?_;refine WC.ret ?_
 repeat' (with_reducible first | refine ba ?_ | refine aV ?_)
 refine bY _ ⟨⟨_,rfl,bB Tryz.isAgg278 Tryz.sizeOf278 bn rfl⟩,trivial⟩ ?_
 exact ⟨rfl,aH.trans' aP (fun q hq e=>by omega)⟩
theorem uf {h:ah} {A:Option Addr} {c:Nat} (l:List Int) (x:Int) (hr:Rd h (.slice A l.length c) 1 l.length (ints l)) (hm:l.length≤maxLen) :
   ag Tryz.prog 290 ⟨[.slice A l.length c,In x]⟩ h fun u h'=>u=.bool (decide (0≤idxOf l x))∧h'=h:=by
 refine calls [(0,_),(1,_)] Tryz.func290 rfl Tryz.ntmps290 rfl ⟨rfl,rfl,trivial⟩ ?_
 refine G2 ?_;refine G2 ?_;refine WL.call (vs:=[_,_]) rfl Tryz.call310 rfl (wJ l x hr hm) rfl rfl rfl ?_
 rintro _ hq ⟨rfl,hz⟩
 subst hz
 refine WL.step (dm rfl rfl) rfl rfl rfl (Go ?_);refine Gs [(4,_)] ?_;refine Gt ?_
 exact ⟨rfl,rfl⟩
theorem EF {h:ah} {A:Option Addr} {cc:Nat} (k n:Int) (c:List UInt8) (l:List Int) (hr:Rd h (.slice A l.length cc) 1 l.length (ints l)) (hm:l.length≤maxLen) :
   ag Tryz.prog 255 ⟨[.agg ⟨my k n c⟩,.slice A l.length cc]⟩ h fun u h'=>u=.bool (decide (k∈l))∧Ext No h h':=by
 have e:decide (0≤idxOf l k)=decide (k∈l):=by
   rcases iU l k with ⟨e,hn⟩ | ⟨j,e,hj,_⟩
   · rw [e,decide_eq_false hn];rfl
   · rw [e,decide_eq_true (List.mem_of_getElem? hj)];simp
 unfold my
 refine calls [(0,_),(1,_)] Tryz.func255 rfl Tryz.ntmps255 rfl ⟨rfl,rfl,trivial⟩ ?_
 refine WC.sr ?_;refine WL.ai (aB rfl) rfl rfl rfl ?_
 rintro _ h1 ⟨b2,rfl,eS,bH,aH⟩
 refine Go ?_;refine G2 ?_;refine WL.ld rfl (by first | exact aa bH rfl | assumption) rfl rfl rfl ?_
 refine WL.call (vs:=[_,_]) rfl Tryz.call290 rfl (uf l k (hr.aq aH) hm) rfl rfl rfl ?_
 rintro _ hq ⟨rfl,hz⟩
 subst hz
 rw [e]
 refine Go ?_;refine Gs [(4,_)] ?_;refine Gt ?_
 exact ⟨rfl,aH⟩
theorem FT {h:ah} (k n:Int) (c:List UInt8):ag Tryz.prog 265 ⟨[.agg ⟨my k n c⟩]⟩ h fun u h'=>u=.bool (decide (k=3∨k=4))∧Ext No h h':=by
 have ko:=fun h' (A:Option Addr) (cc:Nat)=>EF (h:=h') (A:=A) (cc:=cc) k n c [3,4]
 unfold my at *
 refine calls [(0,_)] Tryz.func265 rfl Tryz.ntmps265 rfl ⟨rfl,trivial⟩ ?_
 refine WC.sr ?_;refine WL.ai (aB rfl) rfl rfl rfl ?_
 rintro _ h1 ⟨b2,rfl,eS,bH,aH⟩
 refine Go ?_;refine WC.sr ?_;refine WL.step (an Tryz.isAgg278 Tryz.sizeOf278 rfl rfl (by exact At.au bH)) rfl rfl rfl ?_
 refine WL.ai (aw (vs:=[_,_]) (cs:=[_,_]) (fun | [a0,a1]=>[a0,a1] | _=>[]) Tryz.underlying39 rfl rfl (by kernel_rfl)) rfl rfl rfl ?_
 rintro _ h3 ⟨b3,rfl,gb,bn,aP⟩
 refine WL.call (vs:=[_,_]) rfl Tryz.call255 rfl (ko _ _ _ (bz bn rfl) (by decide)) rfl rfl rfl ?_
 rintro _ h4 ⟨rfl,aW⟩
 refine Go ?_;refine Gs [(2,_)] ?_;refine Gt ?_
 exact ⟨by simp,(aH.trans aP).trans aW⟩
theorem CV {h:ah} (k n:Int) (c:List UInt8):ag Tryz.prog 215 ⟨[.agg ⟨my k n c⟩]⟩ h fun u h'=>u=.bool (decide (k=5∨k=6∨k=7))∧Ext No h h':=by
 have ko:=fun h' (A:Option Addr) (cc:Nat)=>EF (h:=h') (A:=A) (cc:=cc) k n c [5,6,7]
 unfold my at *
 refine calls [(0,_)] Tryz.func215 rfl Tryz.ntmps215 rfl ⟨rfl,trivial⟩ ?_
 refine WC.sr ?_;refine WL.ai (aB rfl) rfl rfl rfl ?_
 rintro _ h1 ⟨b2,rfl,eS,bH,aH⟩
 refine Go ?_;refine WC.sr ?_;refine WL.step (an Tryz.isAgg278 Tryz.sizeOf278 rfl rfl (by exact At.au bH)) rfl rfl rfl ?_
 refine WL.ai (aw (vs:=[_,_,_]) (cs:=[_,_,_]) (fun | [a0,a1,a2]=>[a0,a1,a2] | _=>[]) Tryz.underlying39 rfl rfl (by kernel_rfl)) rfl rfl rfl ?_
 rintro _ h3 ⟨b3,rfl,gb,bn,aP⟩
 refine WL.call (vs:=[_,_]) rfl Tryz.call255 rfl (ko _ _ _ (bz bn rfl) (by decide)) rfl rfl rfl ?_
 rintro _ h4 ⟨rfl,aW⟩
 refine Go ?_;refine Gs [(2,_)] ?_;refine Gt ?_
 exact ⟨by simp,(aH.trans aP).trans aW⟩
def EG (s:List UInt8):List UInt8:=s.dropWhile (· == 32)
def x6 (s:List UInt8):List UInt8:=(s.reverse.dropWhile (· == 32)).reverse
def iE (s:List UInt8):List UInt8:=EG (x6 s)
theorem CW (s:List UInt8):(EG s).length≤s.length:=(List.dropWhile_sublist _).length_le
theorem CX (s:List UInt8):(x6 s).length≤s.length:=by unfold x6;rw [List.length_reverse];have:=(List.dropWhile_sublist (l:=s.reverse) (· == (32:UInt8))).length_le;simpa using this
theorem zL (s:List UInt8):x6 (s++[32])=x6 s:=by simp [x6]
theorem FU {s:List UInt8} {y:UInt8} (hy:y ≠ 32):x6 (s++[y])=s++[y]:=by simp [x6,hy]
theorem FV {s:List UInt8} {y:UInt8} (hy:y ≠ 32):EG (y :: s)=y :: s:=by simp [EG,hy]
theorem zM (x:List UInt8):x=[]∨(∃ r,x=32 :: r∧x.length=r.length+1)∨∃ y r,x=y :: r∧x.length=r.length+1∧y ≠ 32∧(y.toNat:Int) ≠ 32:=by
 rcases x with _ | ⟨y,r⟩
 · exact .inl rfl
 · by_cases hy:y=32
   · exact .inr (.inl ⟨r,by rw [hy],rfl⟩)
   · exact .inr (.inr ⟨y,r,rfl,rfl,hy,fun e=>hy (UInt8.toNat_inj.1 (by show _=32;omega))⟩)
theorem FW (x:List UInt8):x=[]∨(∃ r,x=r++[32]∧x.length=r.length+1)∨∃ y r,x=r++[y]∧x.length=r.length+1∧y ≠ 32∧(y.toNat:Int) ≠ 32:=by
 rcases zM x.reverse with e | ⟨r,e,e1⟩ | ⟨y,r,e,e1,h1,h2⟩
 · exact .inl (by simpa using e)
 · exact .inr (.inl ⟨r.reverse,by simpa using congrArg List.reverse e,by simpa using e1⟩)
 · exact .inr (.inr ⟨y,r.reverse,by simpa using congrArg List.reverse e,by simpa using e1,h1,h2⟩)
theorem zN (r:List UInt8) (y:UInt8):(r++[y])[((r.length:Int)).toNat]?=some y:=by simp
theorem xh (r:List UInt8) (y:UInt8):(r++[y]).take (((r.length:Nat):Int)).toNat=r:=by simp
theorem i32:(((32:UInt8).toNat:Nat):Int)=32:=rfl
theorem CY {h:ah} (s:List UInt8):ag Tryz.prog 280 ⟨[St s,.int .u8 32]⟩ h fun u h'=>u=St (EG s)∧h'=h:=by
 refine calls [(0,_),(1,_)] Tryz.func280 rfl Tryz.ntmps280 rfl ⟨rfl,rfl,trivial⟩ ?_
 refine G2 ?_;refine WC.seq ?_;refine WC.block ?_;refine WC.bC (X:=List UInt8) (fun x=>([(0,St x)]:Fr)) [(1,_)] (fun x h'=>h'=h∧EG x=EG s∧x.length≤s.length) (fun x=>x.length) (s) ⟨rfl,rfl,trivial⟩ (by exact ⟨rfl,rfl,Nat.le_refl _⟩) ?_
 rintro x h1 ⟨hz,hx,hl⟩
 subst hz
 have e0:∀ (y:UInt8) (r:List UInt8),(y :: r)[0]?=some y:=fun _ _=>rfl
 have hi:=i32
 rcases zM x with rfl | ⟨r,rfl,hcl⟩ | ⟨y,r,rfl,hcl,hy,hyi⟩
 all_goals (refine WC.sub [(0,_),(1,_)] ⟨rfl,rfl,trivial⟩ ?_;refine G3 ?_;refine bG 8 ?_ TT.mk;refine Gg ?_;first | refine WL.pass rfl rfl rfl ?_ | (refine WL.step (cT Tryz.underlying9 rfl rfl (by omega) (e0 _ _)) rfl rfl rfl ?_))
 all_goals (refine Gg ?_;refine Go ?_;refine Gs [(0,_),(1,_),(13,_)] ?_;refine aJ 1 2 ?_ TT.mk)
 all_goals try (
 refine ax 1 ?_
 refine WC.skip ?_
 skip)
 all_goals try (
 refine ax 2 ?_
 all_goals (refine WC.exit ?_;repeat' (with_reducible first | refine aU ?_ | refine aG rfl ?_ | refine aI ?_ | refine aL ?_ | refine aS ?_))
 all_goals (refine Br.out (i:=1000) ?_)
 skip)
 all_goals (refine Gn ?_;first | refine Br.ab ?_ | refine WC.block ?_)
 all_goals (first | refine Br.ab ?_ | refine WC.region ?_)
 all_goals (refine Go ?_;first | refine Br.ab ?_ | (refine WL.step (mb Tryz.underlying9 rfl rfl (by first | omega | (simp <;> omega))) rfl rfl rfl ?_))
 all_goals (refine Go ?_;first | refine Br.ab ?_ | (exact ⟨r,⟨rfl,rfl,trivial⟩,(by exact ⟨rfl,by rw [← hx];simp [EG],by simp at hl;omega⟩),(by simp)⟩))
 all_goals (try (refine Br.mk (i:=1000) ?_))
 all_goals (refine Gn ?_;refine G2 ?_;refine Gs [(4,_)] ?_;refine Gt ?_;exact ⟨congrArg St (by rw [← hx];first | rfl | rw [FV hy]),rfl⟩)
theorem CZ {h:ah} (s:List UInt8) (hm:s.length≤1000000):ag Tryz.prog 281 ⟨[St s,.int .u8 32]⟩ h fun u h'=>u=St (x6 s)∧h'=h:=by
 refine calls [(0,_),(1,_)] Tryz.func281 rfl Tryz.ntmps281 rfl ⟨rfl,rfl,trivial⟩ ?_
 refine G2 ?_;refine WC.seq ?_;refine WC.block ?_;refine WC.bC (X:=List UInt8) (fun x=>([(0,St x)]:Fr)) [(1,_)] (fun x h'=>h'=h∧x6 x=x6 s∧x.length≤s.length) (fun x=>x.length) (s) ⟨rfl,rfl,trivial⟩ (by exact ⟨rfl,rfl,Nat.le_refl _⟩) ?_
 rintro x h1 ⟨hz,hx,hl⟩
 subst hz
 have hi:=i32
 rcases FW x with rfl | ⟨r,rfl,hcl⟩ | ⟨y,r,rfl,hcl,hy,hyi⟩
 all_goals (refine WC.sub [(0,_),(1,_)] ⟨rfl,rfl,trivial⟩ ?_;refine G3 ?_;refine bG 8 ?_ TT.mk;first | refine WL.pass rfl rfl rfl ?_ | refine WL.step (ak rfl) rfl rfl rfl ?_)
 all_goals (first | refine WL.pass rfl rfl rfl ?_ | refine WL.step (ak rfl) rfl rfl rfl ?_)
 all_goals (first | refine WL.pass rfl rfl rfl ?_ | refine WL.step (kq rfl Tryz.underlying9 rfl) rfl rfl rfl ?_)
 all_goals (first | refine WL.pass rfl rfl rfl ?_ | (refine WL.step (fu rfl rfl (by omega)) rfl rfl rfl ?_))
 all_goals (try rw [hcl,show (((r.length+1:Nat):Int) - 1)=((r.length:Nat):Int) by omega])
 all_goals (first | refine WL.pass rfl rfl rfl ?_ | (refine WL.step (cT Tryz.underlying9 rfl rfl (by omega) (zN r _)) rfl rfl rfl ?_))
 all_goals (refine Gg ?_;refine Go ?_;refine Gs [(0,_),(1,_),(16,_)] ?_;refine aJ 1 2 ?_ TT.mk)
 all_goals try (
 refine ax 1 ?_
 refine WC.skip ?_
 skip)
 all_goals try (
 refine ax 2 ?_
 all_goals (refine WC.exit ?_;repeat' (with_reducible first | refine aU ?_ | refine aG rfl ?_ | refine aI ?_ | refine aL ?_ | refine aS ?_))
 all_goals (refine Br.out (i:=1000) ?_)
 skip)
 all_goals (refine Gn ?_;first | refine Br.ab ?_ | refine WC.block ?_)
 all_goals (first | refine Br.ab ?_ | refine WC.region ?_)
 all_goals (first | refine Br.ab ?_ | refine WL.step (ak rfl) rfl rfl rfl ?_)
 all_goals (first | refine Br.ab ?_ | refine WL.step (ak rfl) rfl rfl rfl ?_)
 all_goals (first | refine Br.ab ?_ | refine WL.step (kq rfl Tryz.underlying9 rfl) rfl rfl rfl ?_)
 all_goals (first | refine Br.ab ?_ | (refine WL.step (fu rfl rfl (by omega)) rfl rfl rfl ?_))
 all_goals (first | refine Br.ab ?_ | (rw [hcl,show (((r.length+1:Nat):Int) - 1)=((r.length:Nat):Int) by omega]))
 all_goals (first | refine Br.ab ?_ | (refine WL.step (mc Tryz.underlying9 rfl rfl (by first | omega | (simp <;> omega))) rfl rfl rfl ?_))
 all_goals (first | refine Br.ab ?_ | try rw [xh])
 all_goals (refine Go ?_;first | refine Br.ab ?_ | (exact ⟨r,⟨rfl,rfl,trivial⟩,(by exact ⟨rfl,by rw [← hx,zL],by simp at hl;omega⟩),(by simp)⟩))
 all_goals (try (refine Br.mk (i:=1000) ?_))
 all_goals (refine Gn ?_;refine G2 ?_;refine Gs [(4,_)] ?_;refine Gt ?_;exact ⟨congrArg St (by rw [← hx];first | rfl | rw [FU hy]),rfl⟩)
theorem FX {h:ah} (s:List UInt8) (hm:s.length≤1000000):ag Tryz.prog 251 ⟨[St s,St [32]]⟩ h fun u h'=>u=St (iE s)∧h'=h:=by
 have k1:=CZ (h:=h) s hm
 have k2:=CY (h:=h) (x6 s)
 have e0:([32]:List UInt8)[0]?=some 32:=rfl
 by_cases hs:s=[]
 · subst hs
   refine calls [(0,_),(1,_)] Tryz.func251 rfl Tryz.ntmps251 rfl ⟨rfl,rfl,trivial⟩ ?_
   refine G2 ?_;refine G3 ?_
   refine bG 9 ?_ TT.mk
   refine Gg ?_;refine Go ?_;refine Gs [(0,_),(1,_),(12,_)] ?_
   refine aJ 1 2 ?_ TT.mk
   all_goals (refine ax 1 ?_)
   refine G2 ?_;refine Gs [(4,_)] ?_;refine Gt ?_
   exact ⟨rfl,rfl⟩
 · have hs':s ≠ []:=hs
   refine calls [(0,_),(1,_)] Tryz.func251 rfl Tryz.ntmps251 rfl ⟨rfl,rfl,trivial⟩ ?_
   refine G2 ?_;refine G3 ?_
   refine bG 9 ?_ TT.mk
   refine Gg ?_;refine Go ?_;refine Gs [(0,_),(1,_),(12,_)] ?_
   refine aJ 1 2 ?_ TT.mk
   all_goals (refine ax 2 ?_)
   refine WC.skip ?_;refine Gn ?_;refine G3 ?_
   refine bG 17 ?_ TT.mk
   refine Gg ?_;refine WL.step (cT Tryz.underlying9 rfl rfl (by omega) e0) rfl rfl rfl ?_
   refine Gg ?_;refine Go ?_;refine Gs [(0,_),(1,_),(21,_)] ?_
   refine aJ 3 4 ?_ TT.mk
   all_goals (refine ax 3 ?_)
   refine WC.seq ?_;refine WC.bW (fun h'=>h'=h) 7 8 rfl dk ?_
   refine WH.tk 0 rfl (fun hq hC=>ak rfl) rfl rfl rfl ?_ (hC:=rfl)
   refine WH.tk 1 rfl (fun hq hC=>ak rfl) rfl rfl rfl ?_ (hC:=rfl)
   refine WH.tk 2 rfl (fun hq hC=>cT Tryz.underlying9 rfl rfl (by omega) e0) rfl rfl rfl ?_ (hC:=rfl)
   refine WH.tk 4 rfl (fun hq hC=>ak rfl) rfl rfl rfl ?_ (hC:=rfl)
   refine WH.tk 5 rfl (fun hq hC=>cT Tryz.underlying9 rfl rfl (by omega) e0) rfl rfl rfl ?_ (hC:=rfl)
   refine WH.one 3 (by kernel_rfl) ?_
   refine aE.call (vs:=[_,_]) rfl rfl Tryz.call281 rfl (k1) rfl rfl rfl ?_ (fun _=>by kernel_rfl)
   rintro _ hq ⟨rfl,jo⟩
   subst jo
   refine ⟨fun _=>rfl,?_⟩
   refine WH.one 6 (by kernel_rfl) ?_
   refine aE.call (vs:=[_,_]) rfl rfl Tryz.call280 rfl (k2) rfl rfl rfl ?_ (fun _=>by kernel_rfl)
   rintro _ hq ⟨rfl,Ie⟩
   subst Ie
   refine ⟨fun _=>rfl,?_⟩
   refine WH.one 7 (by kernel_rfl) ?_
   refine aE.run rfl (bK.r (aR rfl)) rfl rfl rfl ?_ (fun _=>by kernel_rfl)
   rintro _ hz ⟨rfl,_⟩
   subst hz
   refine ⟨fun e=>(by cases e),?_⟩
   refine WH.done (by kernel_rfl) ?_
   refine Gn ?_;refine Gs [(4,_)] ?_;refine Gt ?_
   exact ⟨rfl,rfl⟩
theorem Ig {h:ah} (s:List UInt8) (c:UInt8):ag Tryz.prog 268 ⟨[St s,By c]⟩ h fun u h'=>u=In (Lib.indexByte s c)∧h'=h:=fun w hw =>
 (Tryz.stringslite_IndexByte ⟨⟨s⟩⟩ c.toNat w).mono fun e w' ⟨he,hb⟩=>⟨⟨by rw [hb],by rw [hb],by rw [hb],trivial⟩,_,he,by rw [show ((c.toNat:Int)).toNat.toUInt8=c by simp],by rw [hb,hw]⟩
theorem C0 {h:ah} (s:List UInt8):ag Tryz.prog 308 ⟨[St s,St [32]]⟩ h fun u h'=>u=In (Lib.indexByte s 32)∧h'=h:=by
 have e0:([32]:List UInt8)[0]?=some 32:=rfl
 have k1:=Ig (h:=h) s 32
 by_cases hs:s=[32]
 · subst hs
   refine calls [(0,_),(1,_)] Tryz.func308 rfl Tryz.ntmps308 rfl ⟨rfl,rfl,trivial⟩ ?_
   refine G2 ?_;refine G2 ?_;refine WC.seq ?_;refine WC.block ?_;refine G2 ?_
   refine bG 19 ?_ TT.mk
   refine Gg ?_;refine Go ?_;refine Gs [(0,_),(1,_),(5,_),(16,_)] ?_
   refine aJ 1 2 ?_ TT.mk
   all_goals (refine ax 1 ?_)
   refine G2 ?_;refine Gs [(4,_)] ?_;refine Gt ?_
   exact ⟨rfl,rfl⟩
 · have hs':¬ [32]=s:=fun e=>hs e.symm
   refine calls [(0,_),(1,_)] Tryz.func308 rfl Tryz.ntmps308 rfl ⟨rfl,rfl,trivial⟩ ?_
   refine G2 ?_;refine G2 ?_;refine WC.seq ?_;refine WC.block ?_;refine G2 ?_
   refine bG 19 ?_ TT.mk
   refine Gg ?_;refine Go ?_;refine Gs [(0,_),(1,_),(5,_),(16,_)] ?_
   refine aJ 1 2 ?_ TT.mk
   all_goals (refine ax 2 ?_)
   refine G2 ?_
   refine aJ 3 4 ?_ TT.mk
   all_goals (refine ax 3 ?_)
   refine G2 ?_;refine WL.step (cT Tryz.underlying9 rfl rfl (by omega) e0) rfl rfl rfl ?_
   refine WL.call (vs:=[_,_]) rfl Tryz.call268 rfl (k1) rfl rfl rfl ?_
   rintro _ hq ⟨rfl,jo⟩
   subst jo
   refine Go ?_;refine Gs [(4,_)] ?_;refine Gt ?_
   exact ⟨rfl,rfl⟩
theorem xi (s:List UInt8) (c:UInt8):Lib.indexByte s c = -1∨∃ i:Nat,Lib.indexByte s c=(i:Int)∧i < s.length:=by
 have h1:=Lib.indexByte_ge s c
 by_cases h0:0≤Lib.indexByte s c
 · refine .inr ⟨(Lib.indexByte s c).toNat,by omega,?_⟩
   have:=(Lib.indexByte_some (l:=s) (c:=c) (o:=(Lib.indexByte s c).toNat) (by omega)).1
   exact (List.getElem?_eq_some_iff.1 this).1
 · exact .inl (by omega)
def lH (s:List UInt8):List UInt8 × List UInt8 × Bool:=if 0≤Lib.indexByte s 32 then (s.take (Lib.indexByte s 32).toNat,s.drop ((Lib.indexByte s 32).toNat+1),true) else (s,[],false)
theorem Ih {h:ah} (s:List UInt8) (hm:s.length≤1000000):ag Tryz.prog 253 ⟨[St s,St [32]]⟩ h fun u h'=>u=.tuple ⟨[St (lH s).1,St (lH s).2.1,.bool (lH s).2.2]⟩∧h'=h:=by
 have k0:ag Tryz.prog 287 ⟨[St s,St [32]]⟩ h fun u h'=>u=.tuple ⟨[St (lH s).1,St (lH s).2.1,.bool (lH s).2.2]⟩∧h'=h:=by
   have ki:=C0 (h:=h) s
   unfold lH
   rcases xi s 32 with e | ⟨i,e,hi⟩
   · rw [e] at ki ⊢
     refine calls [(0,_),(1,_)] Tryz.func287 rfl Tryz.ntmps287 rfl ⟨rfl,rfl,trivial⟩ ?_
     refine G2 ?_;refine G3 ?_;refine WL.call (vs:=[_,_]) rfl Tryz.call308 rfl (ki) rfl rfl rfl ?_
     rintro _ hq ⟨rfl,jo⟩
     subst jo
     refine Go ?_;refine Gs [(0,_),(1,_),(7,_)] ?_;refine G2 ?_
     refine aJ 1 2 ?_ TT.mk
     all_goals (refine ax 2 ?_)
     refine WC.skip ?_;refine Gn ?_;refine Gs [(0,_)] ?_;refine G2 ?_;refine Gt ?_
     exact ⟨rfl,rfl⟩
   · rw [e] at ki ⊢
     rw [if_pos (by omega)]
     have Nb:([32]:List UInt8).length=1:=rfl
     refine calls [(0,_),(1,_)] Tryz.func287 rfl Tryz.ntmps287 rfl ⟨rfl,rfl,trivial⟩ ?_
     refine G2 ?_;refine G3 ?_;refine WL.call (vs:=[_,_]) rfl Tryz.call308 rfl (ki) rfl rfl rfl ?_
     rintro _ hq ⟨rfl,jo⟩
     subst jo
     refine Go ?_;refine Gs [(0,_),(1,_),(7,_)] ?_;refine G2 ?_
     refine aJ 1 2 ?_ TT.mk
     all_goals (refine ax 1 ?_)
     refine WC.seq ?_;refine WC.fo dk (by kernel_rfl) ?_
     refine WQ.aK (ak rfl) rfl rfl rfl ?_;refine WQ.aK (ak rfl) rfl rfl rfl ?_;refine WQ.aK (mc Tryz.underlying9 rfl rfl (by first | omega | (simp <;> omega))) rfl rfl rfl ?_
     refine WQ.aK (ak rfl) rfl rfl rfl ?_;refine WQ.aK (ak rfl) rfl rfl rfl ?_;refine WQ.aK (ak rfl) rfl rfl rfl ?_;refine WQ.aK (kq rfl Tryz.underlying9 rfl) rfl rfl rfl ?_;refine WQ.aK (ft rfl rfl (by omega)) rfl rfl rfl ?_
     refine WQ.aK (mb Tryz.underlying9 rfl rfl (by first | omega | (simp <;> omega))) rfl rfl rfl ?_
     refine WQ.aK (aR rfl) rfl rfl rfl ?_;refine WQ.aK (aR rfl) rfl rfl rfl ?_;refine WQ.aK (aR rfl) rfl rfl rfl ?_;refine WQ.nil ?_;refine Gn ?_;refine Gs [(4,_),(5,_),(6,_)] ?_;refine Gt ?_
     refine ⟨?_,rfl⟩
     rw [show ((i:Int)+(([32]:List UInt8).length:Int)).toNat=(i:Int).toNat+1 by rw [Nb];omega]
 refine calls [(0,_),(1,_)] Tryz.func253 rfl Tryz.ntmps253 rfl ⟨rfl,rfl,trivial⟩ ?_
 refine G2 ?_;refine G2 ?_;refine WL.call (vs:=[_,_]) rfl Tryz.call287 rfl (k0) rfl rfl rfl ?_
 rintro _ hq ⟨rfl,jo⟩
 subst jo
 refine Go ?_;refine Gs [(4,_),(5,_),(6,_)] ?_;refine Gt ?_
 exact ⟨rfl,rfl⟩
def ja (s:List UInt8):Option Int:=if s=[] then some 1 else if s=([98,101,103,105,110]:List UInt8) then some 2 else if s=([99,111,109,109,105,116]:List UInt8) then some 3 else if s=([114,111,108,108,98,97,99,107]:List UInt8) then some 4 else if s=([101,99,104,111]:List UInt8) then some 6 else if s=([110,101,120,116]:List UInt8) then some 7 else none
theorem FY {h:ah} (s:List UInt8):ag Tryz.prog 252 ⟨[St s]⟩ h fun u h'=>u=.tuple ⟨[In ((ja s).getD 0),.bool (ja s).isSome]⟩∧h'=h:=by
 rcases (show s=[]∨s=([98,101,103,105,110]:List UInt8)∨s=([99,111,109,109,105,116]:List UInt8)∨s=([114,111,108,108,98,97,99,107]:List UInt8)∨s=([101,99,104,111]:List UInt8)∨s=([110,101,120,116]:List UInt8)∨(s ≠ []∧s ≠ ([98,101,103,105,110]:List UInt8)∧s ≠ ([99,111,109,109,105,116]:List UInt8)∧s ≠ ([114,111,108,108,98,97,99,107]:List UInt8)∧s ≠ ([101,99,104,111]:List UInt8)∧s ≠ ([110,101,120,116]:List UInt8)) by
   by_cases e1:s=[];exact .inl e1
   by_cases e2:s=([98,101,103,105,110]:List UInt8);exact .inr (.inl e2)
   by_cases e3:s=([99,111,109,109,105,116]:List UInt8);exact .inr (.inr (.inl e3))
   by_cases e4:s=([114,111,108,108,98,97,99,107]:List UInt8);exact .inr (.inr (.inr (.inl e4)))
   by_cases e5:s=([101,99,104,111]:List UInt8);exact .inr (.inr (.inr (.inr (.inl e5))))
   by_cases e6:s=([110,101,120,116]:List UInt8);exact .inr (.inr (.inr (.inr (.inr (.inl e6)))))
   exact .inr (.inr (.inr (.inr (.inr (.inr ⟨e1,e2,e3,e4,e5,e6⟩)))))) with rfl | rfl | rfl | rfl | rfl | rfl | ⟨e1,e2,e3,e4,e5,e6⟩
 all_goals
   refine calls [(0,_)] Tryz.func252 rfl Tryz.ntmps252 rfl ⟨rfl,trivial⟩ ?_
   all_goals (refine G2 ?_;refine G3 ?_;refine WC.block ?_;refine G2 ?_;refine Gs [(4,_),(5,_)] ?_;refine aJ 1 2 ?_ TT.mk)
   all_goals try (
   refine ax 1 ?_
   all_goals (refine G2 ?_;refine Gt ?_;exact ⟨by first | rfl | (unfold ja;rw [if_neg e1,if_neg e2,if_neg e3,if_neg e4,if_neg e5,if_neg e6];rfl),rfl⟩)
   skip)
   all_goals (refine ax 2 ?_;refine G2 ?_;refine aJ 3 4 ?_ TT.mk)
   all_goals try (
   refine ax 3 ?_
   all_goals (refine G2 ?_;refine Gs [(2,_),(3,_)] ?_;refine Gt ?_;exact ⟨by first | rfl | (unfold ja;rw [if_neg e1,if_neg e2,if_neg e3,if_neg e4,if_neg e5,if_neg e6];rfl),rfl⟩)
   skip)
   all_goals (refine ax 4 ?_;refine G2 ?_;refine Gs [(4,_),(9,_)] ?_;refine aJ 5 6 ?_ TT.mk)
   all_goals try (
   refine ax 5 ?_
   all_goals (refine G2 ?_;refine Gt ?_;exact ⟨by first | rfl | (unfold ja;rw [if_neg e1,if_neg e2,if_neg e3,if_neg e4,if_neg e5,if_neg e6];rfl),rfl⟩)
   skip)
   all_goals (refine ax 6 ?_;refine G2 ?_;refine aJ 7 8 ?_ TT.mk)
   all_goals try (
   refine ax 7 ?_
   all_goals (refine G2 ?_;refine Gs [(2,_),(3,_)] ?_;refine Gt ?_;exact ⟨by first | rfl | (unfold ja;rw [if_neg e1,if_neg e2,if_neg e3,if_neg e4,if_neg e5,if_neg e6];rfl),rfl⟩)
   skip)
   all_goals (refine ax 8 ?_;refine G2 ?_;refine Gs [(4,_),(13,_)] ?_;refine aJ 9 10 ?_ TT.mk)
   all_goals try (
   refine ax 9 ?_
   all_goals (refine G2 ?_;refine Gt ?_;exact ⟨by first | rfl | (unfold ja;rw [if_neg e1,if_neg e2,if_neg e3,if_neg e4,if_neg e5,if_neg e6];rfl),rfl⟩)
   skip)
   all_goals (refine ax 10 ?_;refine G2 ?_;refine aJ 11 12 ?_ TT.mk)
   all_goals try (
   refine ax 11 ?_
   all_goals (refine G2 ?_;refine Gs [(2,_),(3,_)] ?_;refine Gt ?_;exact ⟨by first | rfl | (unfold ja;rw [if_neg e1,if_neg e2,if_neg e3,if_neg e4,if_neg e5,if_neg e6];rfl),rfl⟩)
   skip)
   all_goals (refine ax 12 ?_;refine WC.skip ?_;refine Gn ?_;refine Gs [] ?_;refine G2 ?_;refine Gt ?_;exact ⟨by first | rfl | (unfold ja;rw [if_neg e1,if_neg e2,if_neg e3,if_neg e4,if_neg e5,if_neg e6];rfl),rfl⟩)
def ej (y:UInt8):Bool:=decide (48≤y.toNat) && decide (y.toNat≤57)
def om (s:List UInt8):Int:=s.foldl (fun n y=>10 * n+((y.toNat:Int) - 48)) 0
def ny (s:List UInt8) (most:Int):Option Int:=if s=[]∨10 < s.length then none else if s[0]?=some 48∧1 < s.length then none else if s.all ej=true then (if most < om s then none else some (om s)) else none
theorem oJ (l:List UInt8) (x:UInt8):om (l++[x])=10 * om l+((x.toNat:Int) - 48):=by simp [om]
theorem wrap_u8 {a:Int} (h0:0≤a) (h1:a≤255):IntKind.u8.wrap a=a:=by simp [IntKind.wrap,IntKind.bits,IntKind.signed];omega
def Ii (b:Bool) (y:UInt8):Value:=match b with
 | true=>.tuple ⟨[In ((y.toNat:Int) - 48),.bool true]⟩
 | false=>.tuple ⟨[In 0,.bool false]⟩
theorem C1 {h:ah} (y:UInt8):ag Tryz.prog 309 ⟨[By y]⟩ h fun u h'=>u=Ii (ej y) y∧h'=h:=by
 have hy:=y.toNat_lt
 rcases (show ej y=true∧48≤(y.toNat:Int)∧(y.toNat:Int)≤57∨ej y=false∧(y.toNat:Int) < 48∨ej y=false∧48≤(y.toNat:Int)∧57 < (y.toNat:Int) by
   by_cases e1:48≤y.toNat
   · by_cases e2:y.toNat≤57
     · exact .inl ⟨by simp [ej,e1,e2],by omega,by omega⟩
     · exact .inr (.inr ⟨by simp [ej,e2],by omega,by omega⟩)
   · exact .inr (.inl ⟨by simp [ej,e1],by omega⟩)) with ⟨e,h1,h2⟩ | ⟨e,h1⟩ | ⟨e,h1,h2⟩
 all_goals
   refine calls [(0,_)] Tryz.func309 rfl Tryz.ntmps309 rfl ⟨rfl,trivial⟩ ?_
   all_goals (refine G2 ?_;refine G3 ?_;refine bG 6 ?_ TT.mk;refine Gg ?_;refine Go ?_;refine Gs [(0,_),(9,_)] ?_;refine aJ 1 2 ?_ TT.mk)
   all_goals try (
   refine ax 1 ?_
   all_goals (refine G2 ?_;refine Gt ?_)
   all_goals (
    rw [e]
    exact ⟨rfl,rfl⟩)
   skip)
   all_goals (refine ax 2 ?_;refine WC.skip ?_;refine Gn ?_;refine WC.sr ?_;refine WL.step (ak rfl) rfl rfl rfl ?_;refine WL.step (ta rfl rfl) rfl rfl rfl ?_;try rw [wrap_u8 (by omega) (by omega)])
   all_goals (refine WL.step (kG Tryz.underlying5 Tryz.underlying3 rfl (by omega)) rfl rfl rfl (Go ?_);refine Gs [(2,_),(3,_)] ?_;refine Gt ?_)
   all_goals (
    rw [e]
    exact ⟨rfl,rfl⟩)
theorem zO {y:UInt8} (h:ej y=true):48≤(y.toNat:Int)∧(y.toNat:Int)≤57:=by
 simp [ej] at h
 omega
theorem C2:∀ (n:Nat) (l:List UInt8),l.length=n→l.all ej=true→0≤om l∧om l+1≤10 ^ n:=by
 intro n
 induction n with
 | zero=>intro l hl _;rw [List.eq_nil_of_length_eq_zero hl];exact ⟨by decide,by decide⟩
 | succ n ih =>
   intro l hl ha
   rcases List.eq_nil_or_concat l with rfl | ⟨r,y,rfl⟩
   · simp at hl
   · rw [List.concat_eq_append] at *
     simp only [List.all_append,Bool.and_eq_true,List.all_cons,List.all_nil,Bool.and_true] at ha
     have:=ih r (by simpa using hl) ha.1
     have hd:=zO ha.2
     rw [oJ,Int.pow_succ]
     omega
theorem Ij {n:Nat} (h:n≤10):(10:Int) ^ n≤10000000000:=by
 match n,h with
 | 0,_=>decide
 | 1,_=>decide
 | 2,_=>decide
 | 3,_=>decide
 | 4,_=>decide
 | 5,_=>decide
 | 6,_=>decide
 | 7,_=>decide
 | 8,_=>decide
 | 9,_=>decide
 | 10,_=>decide
def zP (o:Option Int):Value:=.tuple ⟨[In (o.getD 0),.bool o.isSome]⟩
theorem ug {h:ah} (s:List UInt8) (most:Int) (h1:s=[]∨10 < s.length):ag Tryz.prog 288 ⟨[St s,In most]⟩ h fun u h'=>u=zP none∧h'=h:=by
 rcases h1 with rfl | h1
 · have hs:True:=trivial
   refine calls [(0,_),(1,_)] Tryz.func288 rfl Tryz.ntmps288 rfl ⟨rfl,rfl,trivial⟩ ?_
   refine G2 ?_;refine WC.seq ?_;refine WC.block ?_;refine G3 ?_;refine Gs [(0,_),(1,_),(10,_)] ?_
   refine aJ 1 2 ?_ TT.mk
   all_goals (refine ax 1 ?_)
   refine WC.skip ?_;refine Gn ?_
   refine aJ 3 4 ?_ TT.mk
   all_goals (refine ax 3 ?_)
   refine G2 ?_;refine Gt ?_
   exact ⟨rfl,rfl⟩
 · have hs:s ≠ []:=fun e=>by rw [e] at h1;simp at h1
   refine calls [(0,_),(1,_)] Tryz.func288 rfl Tryz.ntmps288 rfl ⟨rfl,rfl,trivial⟩ ?_
   refine G2 ?_;refine WC.seq ?_;refine WC.block ?_;refine G3 ?_;refine Gs [(0,_),(1,_),(10,_)] ?_
   refine aJ 1 2 ?_ TT.mk
   all_goals (refine ax 2 ?_)
   refine WC.region (Go ?_);refine Gn ?_
   refine aJ 3 4 ?_ TT.mk
   all_goals (refine ax 3 ?_)
   refine G2 ?_;refine Gt ?_
   exact ⟨rfl,rfl⟩
theorem uh {h:ah} (s:List UInt8) (most:Int) (h1:s ≠ []∧s.length≤10) (h2:s[0]?=some 48∧1 < s.length):ag Tryz.prog 288 ⟨[St s,In most]⟩ h fun u h'=>u=zP none∧h'=h:=by
 have hs:=h1.1
 have e0:=h2.1
 have OG:(((48:UInt8).toNat:Nat):Int)=48:=rfl
 refine calls [(0,_),(1,_)] Tryz.func288 rfl Tryz.ntmps288 rfl ⟨rfl,rfl,trivial⟩ ?_
 refine G2 ?_;refine WC.seq ?_;refine WC.block ?_;refine G3 ?_;refine Gs [(0,_),(1,_),(10,_)] ?_
 refine aJ 1 2 ?_ TT.mk
 all_goals (refine ax 2 ?_)
 refine WC.region (Go ?_);refine Gn ?_
 refine aJ 3 4 ?_ TT.mk
 all_goals (refine ax 4 ?_)
 refine G2 ?_;refine WL.step (cT Tryz.underlying9 rfl rfl (by omega) e0) rfl rfl rfl (Go ?_)
 refine bG 20 ?_ TT.mk
 refine Gg ?_;refine Go ?_;refine Gs [(0,_),(1,_),(16,_)] ?_
 refine aJ 5 6 ?_ TT.mk
 all_goals (refine ax 5 ?_)
 refine G2 ?_;refine Gt ?_
 exact ⟨rfl,rfl⟩
theorem xj {h:ah} (s:List UInt8) (most:Int) (h1:s ≠ []∧s.length≤10) (h2:¬ (s[0]?=some 48∧1 < s.length)):ag Tryz.prog 288 ⟨[St s,In most]⟩ h fun u h'=>u=zP (if s.all ej=true then (if most < om s then none else some (om s)) else none)∧h'=h:=by
 have hs:=h1.1
 have hp:0 < s.length:=List.length_pos_iff.2 hs
 obtain ⟨y0,e0⟩:∃ y,s[0]?=some y:=⟨_,List.getElem?_eq_getElem (by omega)⟩
 have hq:(y0.toNat:Int) ≠ 48∨(y0.toNat:Int)=48∧¬ (s.length:Int) > 1:=by
   by_cases e:(y0.toNat:Int)=48
   · exact .inr ⟨e,fun e2=>h2 ⟨by rw [e0,show y0=48 from UInt8.toNat_inj.1 (by show _=48;omega)],by omega⟩⟩
   · exact .inl e
 have kd:=fun (h':ah) (y:UInt8)=>C1 (h:=h') y
 rcases hq with hq | ⟨hq,Hq⟩
 all_goals
   refine calls [(0,_),(1,_)] Tryz.func288 rfl Tryz.ntmps288 rfl ⟨rfl,rfl,trivial⟩ ?_
   all_goals (refine G2 ?_;refine WC.seq ?_;refine WC.block ?_;refine G3 ?_;refine Gs [(0,_),(1,_),(10,_)] ?_;refine aJ 1 2 ?_ TT.mk;refine ax 2 ?_;refine WC.region (Go ?_);refine Gn ?_;refine aJ 3 4 ?_ TT.mk;refine ax 4 ?_;refine G2 ?_;refine WL.step (cT Tryz.underlying9 rfl rfl (by omega) e0) rfl rfl rfl (Go ?_);refine bG 20 ?_ TT.mk;refine Gg ?_;refine Go ?_;refine Gs [(0,_),(1,_),(16,_)] ?_;refine aJ 5 6 ?_ TT.mk;refine ax 6 ?_;refine WC.skip ?_;refine Gn ?_;refine G2 ?_;refine G3 ?_;refine WC.block ?_)
   all_goals (refine WC.bC (X:=Nat × Int) (fun x=>([(27,In (x.1:Int)),(6,In x.2)]:Fr)) [(0,_),(1,_),(26,_)] (fun x h'=>h'=h∧x.1≤s.length∧x.2=om (s.take x.1)∧(s.take x.1).all ej=true) (fun x=>s.length - x.1) ((0,0)) ⟨rfl,rfl,rfl,rfl,rfl,trivial⟩ (by exact ⟨rfl,Nat.zero_le _,rfl,rfl⟩) ?_)
   all_goals (
    rintro ⟨j,n⟩ hh ⟨hz,hj,hn,ha⟩
    dsimp only at hj hn ha
    subst hz
    have hvl:=C2 j (s.take j) (by rw [List.length_take];omega) ha
    have hpw:=Ij (show j≤10 by omega))
   all_goals (refine WC.sub [(6,_),(27,_),(0,_),(1,_),(26,_)] ⟨rfl,rfl,rfl,rfl,rfl,trivial⟩ ?_;dsimp only)
   all_goals (refine G2 ?_;refine WC.seq ?_;refine aJ 7 8 (Hb.mk fun hb=>?_) (Hb.mk fun hb=>?_))
   all_goals try (
   refine ax 7 ?_
   all_goals (refine WC.skip ?_)
   skip)
   all_goals try (
   refine ax 8 ?_
   all_goals (refine WC.exit ?_;repeat' (with_reducible first | refine aU ?_ | refine aG rfl ?_ | refine aI ?_ | refine aL ?_ | refine aS ?_))
   all_goals (refine Br.out (i:=1001) ?_)
   skip)
   all_goals (refine Gn ?_;first | refine Br.ab ?_ | refine WC.seq ?_)
   all_goals (first | refine Br.ab ?_ | refine WC.block ?_)
   all_goals (first | refine Br.ab ?_ | refine WC.sr ?_)
   all_goals (refine Go ?_;first | refine Br.ab ?_ | refine WC.sr ?_)
   all_goals (
    first
      | (refine Br.ab ?_)
      | (obtain ⟨y,hy⟩:∃ y,s[j]?=some y:=⟨_,List.getElem?_eq_getElem (by omega)⟩
         have hyl:=y.toNat_lt))
   all_goals (first | refine Br.ab ?_ | refine WL.step (ak rfl) rfl rfl rfl ?_)
   all_goals (refine Go ?_;first | refine Br.ab ?_ | (refine WL.step (cT Tryz.underlying9 rfl rfl (by omega) hy) rfl rfl rfl ?_))
   all_goals (
    first
      | (refine Br.ab ?_)
      | (refine WL.call (vs:=[_]) rfl Tryz.call309 rfl (kd _ y) rfl rfl rfl ?_
         rintro _ OH ⟨rfl,jo⟩
         subst jo
         obtain ⟨bd,hdy⟩:∃ b,ej y=b:=⟨_,rfl⟩
         rw [hdy]
         have hdi:=fun (e:bd=true)=>zO (hdy.trans e)
         cases bd
         all_goals first | (have hdi:=hdi rfl) | clear hdi
         all_goals unfold Ii))
   all_goals (refine Go ?_;first | refine Br.ab ?_ | refine Gs [(0,_),(1,_),(6,_),(8,_),(9,_),(26,_),(27,_)] ?_)
   all_goals (first | refine Br.ab ?_ | refine WC.seq ?_)
   all_goals (first | refine Br.ab ?_ | refine WC.sr ?_)
   all_goals (refine Go ?_;first | refine Br.ab ?_ | refine aJ 9 10 ?_ TT.mk)
   all_goals try (
   refine ax 9 ?_
   all_goals (refine G2 ?_;refine Gs [(4,_),(5,_)] ?_;refine Gt ?_)
   all_goals (
    first
     | (rw [if_neg (show ¬ s.all ej=true from fun e=>by have:=List.all_eq_true.1 e y (List.mem_of_getElem? hy);rw [hdy] at this;cases this)];exact ⟨rfl,rfl⟩)
     | (rw [show s.take j=s from List.take_of_length_le (by omega)] at hn ha;subst hn;rw [if_pos ha,if_pos (by omega)];exact ⟨rfl,rfl⟩)
     | (rw [show s.take j=s from List.take_of_length_le (by omega)] at hn ha;subst hn;rw [if_pos ha,if_neg (by omega)];exact ⟨rfl,rfl⟩))
   skip)
   all_goals try (
   refine ax 10 ?_
   all_goals (refine WC.skip ?_)
   skip)
   all_goals (refine Gn ?_;first | refine Br.ab ?_ | refine WC.region ?_)
   all_goals (refine Go ?_;first | refine Br.ab ?_ | (refine WL.step (j9 rfl rfl (by omega)) rfl rfl rfl ?_))
   all_goals (refine Go ?_;first | refine Br.ab ?_ | refine Gs [(0,_),(1,_),(6,_),(26,_),(27,_)] ?_)
   all_goals (first | refine Br.ab ?_ | refine WC.region ?_)
   all_goals (refine Go ?_;first | refine Br.ab ?_ | (exact ⟨(j+1,_),⟨rfl,rfl,rfl,rfl,rfl,trivial⟩,(by exact ⟨rfl,by omega,by rw [List.take_add_one,hy,Option.toList_some,oJ,← hn],by rw [List.take_add_one,hy];simp [ha,hdy]⟩),(by dsimp only;omega)⟩))
   all_goals (try (refine Br.mk (i:=1001) ?_))
   all_goals (refine Gn ?_;refine Gs [(1,_),(6,_)] ?_;refine G3 ?_;refine aJ 11 12 (Hb.mk fun hb=>?_) (Hb.mk fun hb=>?_))
   all_goals try (
   refine ax 11 ?_
   all_goals (refine G2 ?_;refine Gs [(4,_),(5,_)] ?_;refine Gt ?_)
   all_goals (
    first
     | (rw [if_neg (show ¬ s.all ej=true from fun e=>by have:=List.all_eq_true.1 e y (List.mem_of_getElem? hy);rw [hdy] at this;cases this)];exact ⟨rfl,rfl⟩)
     | (rw [show s.take j=s from List.take_of_length_le (by omega)] at hn ha;subst hn;rw [if_pos ha,if_pos (by omega)];exact ⟨rfl,rfl⟩)
     | (rw [show s.take j=s from List.take_of_length_le (by omega)] at hn ha;subst hn;rw [if_pos ha,if_neg (by omega)];exact ⟨rfl,rfl⟩))
   skip)
   all_goals (refine ax 12 ?_;refine WC.skip ?_;refine Gn ?_;refine Gs [(6,_)] ?_;refine G2 ?_;refine Gt ?_)
   all_goals (
    first
     | (rw [if_neg (show ¬ s.all ej=true from fun e=>by have:=List.all_eq_true.1 e y (List.mem_of_getElem? hy);rw [hdy] at this;cases this)];exact ⟨rfl,rfl⟩)
     | (rw [show s.take j=s from List.take_of_length_le (by omega)] at hn ha;subst hn;rw [if_pos ha,if_pos (by omega)];exact ⟨rfl,rfl⟩)
     | (rw [show s.take j=s from List.take_of_length_le (by omega)] at hn ha;subst hn;rw [if_pos ha,if_neg (by omega)];exact ⟨rfl,rfl⟩))
end Go.Proofs.YtopgddfgefnmbaaGreatDoor
