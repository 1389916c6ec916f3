/-
  SEVERAL TEXTS IN ONE: K16, IxB, Cell, Back, K17, BkChk, BkChk2, Hv9, K28, Hv10, Hv1, Cl, Hv2, Hv3, Hv4, Hv5, Hv6, Hv7, K13, Hv8, Hv11, Hv12, Hv13, Port.
-/
import Derived.Test.YtopgddfgefnmbaaGreatDoorPSoloPieces1
import Derived.Lib.IndexAny
import Derived.Lib.IndexLaws
import Derived.ChangeKeysEq
import Derived.HandedShaped
import Derived.Handed
import Derived.Scope
set_option maxHeartbeats 8000000
set_option maxRecDepth 100000
namespace Go.RK
open Go
section
variable {P:Program} {f:Fr} {h:ah} {d:Option Tmp} {ty:TypeId} {pos:String} {af:Array Edge} {g:Option (Nat × Bool)}
theorem fK {x:Operand} {src e t:TypeId} {b n c:Nat} {cs:Array Value} {z:Nat × Nat} (hs:P.underlying src=some (.slice e)) (he:P.underlying e=some (.int .u8)) (hx:f.ev x=some (.slice (some ⟨b,0,Option.none⟩) n c)) (hb:h[b]?=some (.cells cs t z)) :
   eO P f ⟨d,.convert src src x,ty,pos,af,g⟩ h (fun v h'=>v=.slice (some ⟨b,0,Option.none⟩) n c∧(∃ z',h'[b]?=some (.cells cs t z'))∧Ext (fun k=>k=b) h h') :=
 fun ρ w ha hw=>by
   subst hw
   have hsh:w.shape? b=some (t,cs.size):=by simp [World.shape?,hb]
   refine ⟨_,w.freeze ⟨b,cs.size,Option.none⟩ 1,?_,⟨rfl,?_,?_⟩,.inl ?_⟩
   · unfold World.freeze
     split <;> exact ⟨rfl,rfl,rfl,trivial⟩
   · unfold World.freeze
     split
     · exact ⟨z,hb⟩
     · obtain ⟨lo,hi⟩:=z
       refine ⟨if lo == hi then (cs.size,cs.size+1) else (min lo cs.size,max hi (cs.size+1)),?_⟩
       simp only [Array.getElem?_modify,if_true,hb]
       rfl
   · unfold World.freeze
     split
     · exact .refl _ _
     · refine ⟨by simp,fun k _ hk=>?_⟩
       simp only [Array.getElem?_modify]
       rw [if_neg (fun e=>hk e.symm)]
   · simp [execOp,ha _ _ hx,convert,run_underlying hs,run_underlying he,markStringish,hsh]
end
end Go.RK
namespace Go.Proofs.YtopgddfgefnmbaaGreatDoor
open Go Go.RK
theorem pN (c:UInt8):((c.toNat:Int)).toNat.toUInt8=c:=by simp
theorem oc {h:ah} (s:List UInt8) (c:UInt8) :
   ag Tryz.prog 231 ⟨[St s,By c]⟩ h fun u h'=>u=In (Lib.indexByte s c)∧h'=h:=fun w hw =>
 (Tryz.strings_IndexByte ⟨⟨s⟩⟩ c.toNat w).mono fun e w' ⟨he,hb⟩=>⟨⟨by rw [hb],by rw [hb],by rw [hb],trivial⟩,_,he,by rw [pN],by rw [hb,hw]⟩
theorem dh {h:ah} {v:Value} (l:List UInt8) (c:UInt8) (hr:Rd h v 1 l.length (bu l)) (h0:0 < l.length) :
   ag Tryz.prog 126 ⟨[v,By c]⟩ h fun u h'=>u=In (Lib.indexByte l c)∧h'=h:=by
 obtain ⟨A,cap,rfl,_⟩:=id hr
 obtain ⟨b,o,rfl,_,hat⟩:=Rd.at_ hr h0
 intro w hw
 subst hw
 have e:Lib.bytesOf (l.map fun x:UInt8=>(x.toNat:Int))=l:=by
   unfold Lib.bytesOf
   rw [List.map_map]
   conv=>rhs;rw [← List.map_id l]
   exact List.map_congr_left fun x _=>pN x
 refine (Tryz.bytes_IndexByte b o l.length cap (l.map fun x:UInt8=>(x.toNat:Int)) c.toNat w (by simp) fun i hi=>?_).mono fun e' w' ⟨he,hb⟩=>⟨⟨by rw [hb],by rw [hb],by rw [hb],trivial⟩,_,he,by rw [pN,e],by rw [hb]⟩
 rw [mG]
 have:=hat i (By l[i]) (by simp [hi])
 rw [this]
 simp [List.getD,hi]
def aZ (s:List UInt8):Bool := !s.contains 0
theorem cW {h:ah} (s:List UInt8):ag Tryz.prog 187 ⟨[St s]⟩ h fun u h'=>u=.bool (aZ s)∧h'=h:=by
 refine calls [(0,_)] Tryz.func187 rfl Tryz.ntmps187 rfl ⟨rfl,trivial⟩ ?_
 refine G2 ?_;refine G2 ?_;refine WL.call (vs:=[_,_]) rfl Tryz.call231 rfl (oc s 0) rfl rfl rfl ?_
 rintro _ hz ⟨rfl,_⟩
 subst hz
 refine WL.step (mV rfl rfl) rfl rfl rfl (Go ?_);refine Gs [(2,_)] ?_;refine Gt ?_
 exact ⟨by unfold aZ;rw [Lib.contains_iff_indexByte];exact congrArg Value.bool (by rw [← decide_not];exact decide_eq_decide.2 (by omega)),rfl⟩
theorem od {h:ah} {A:Option Addr} {c:Nat} (l:List (List UInt8)) (p:(List UInt8)→Bool) {fk:Nat} {fs us:List Value} (hcf:∀ (args:Array Value) (w:World),(callFunc fk args).run Tryz.prog w=.ok (.enter fk args) w) (hr:Rd h (.slice A l.length c) 1 l.length (l.map St)) (hm:l.length≤maxLen)
   (hp:∀ x∈l,ag Tryz.prog fk ⟨fs++[St x]++us⟩ h fun u h'=>u=.bool (p x)∧h'=h) :
   ag Tryz.prog 230 ⟨[.slice A l.length c,.func (.func fk) ⟨fs⟩ ⟨us⟩]⟩ h fun u h'=>u=In (jU p l)∧h'=h:=by
 unfold maxLen at hm
 refine calls [(0,_),(1,_)] Tryz.func230 rfl Tryz.ntmps230 rfl ⟨rfl,rfl,trivial⟩ ?_
 refine G2 ?_;refine G3 ?_;refine WC.block ?_;refine WC.bC (X:=Nat) (fun x=>([(8,In (x:Int))]:Fr)) [(0,_),(1,_),(7,_)] (fun k h'=>h'=h∧k≤l.length∧∀ x∈l.take k,p x=false) (fun k=>l.length - k) (0) ⟨rfl,rfl,rfl,rfl,trivial⟩ (by exact ⟨rfl,Nat.zero_le _,by simp⟩) ?_
 rintro k _ ⟨rfl,hk,hn⟩
 refine WC.sub [(8,_),(0,_),(1,_),(7,_)] ⟨rfl,rfl,rfl,rfl,trivial⟩ ?_;refine G2 ?_;refine WC.seq ?_
 refine aJ 1 2 (Hb.mk fun hb=>?_) (Hb.mk fun hb=>?_)
 all_goals try (
 refine ax 1 ?_
 refine WC.skip ?_
 skip)
 all_goals try (
 refine ax 2 ?_
 refine WC.exit ?_
 repeat' (with_reducible first | refine aU ?_ | refine aG rfl ?_ | refine aI ?_ | refine aL ?_ | refine aS ?_)
 refine Br.out (i:=1000) ?_
 skip)
 all_goals (refine Gn ?_;first | refine Br.ab ?_ | refine WC.seq ?_)
 all_goals (first | refine Br.ab ?_ | refine WC.block ?_)
 all_goals (first | refine Br.ab ?_ | refine WC.sr ?_)
 all_goals (refine Go ?_;first | refine Br.ab ?_ | refine WC.sr ?_)
 all_goals (refine Go ?_)
 all_goals (
  first
    | (refine Br.ab ?_)
    | (obtain ⟨b,o,hA,hbL,hat⟩:=Rd.at_ hr (by omega)
       obtain ⟨y,hy⟩:∃ y,l[k]?=some y:=⟨_,List.getElem?_eq_getElem (by omega)⟩
       have hc:=hat.get (p:=o+k * 1) (v:=St y) k (by rw [List.getElem?_map,hy];exact rfl) (by omega)))
 all_goals (first | refine Br.ab ?_ | (refine WL.step (aF Tryz.underlying249 Tryz.sizeOf9 rfl rfl rfl (by omega) (by first | rfl | assumption)) rfl rfl rfl ?_))
 all_goals (first | refine Br.ab ?_ | refine Ld ?_)
 all_goals (
  first
    | (refine Br.ab ?_)
    | (refine WL.dT (vs:=[_]) rfl rfl hcf rfl (hp y (List.mem_of_getElem? hy)) rfl rfl rfl ?_
       rintro _ hz ⟨rfl,_⟩
       subst hz))
 all_goals (first | refine Br.ab ?_ | cases hpy:p y)
 all_goals (refine Gn ?_;first | refine Br.ab ?_ | refine Gs [(0,_),(1,_),(5,_),(7,_),(8,_),(16,_)] ?_)
 all_goals (first | refine Br.ab ?_ | refine aJ 3 4 ?_ TT.mk)
 all_goals try (
 refine ax 3 ?_
 refine G2 ?_;refine Gs [(4,_)] ?_;refine Gt ?_
 first | exact ⟨by rw [cD (by rw [List.take_of_length_le (by omega)] at hn;exact hn)],rfl⟩ | exact ⟨by rw [di hy hpy hn],rfl⟩
 skip)
 all_goals try (
 refine ax 4 ?_
 refine WC.skip ?_
 skip)
 all_goals (refine Gn ?_;first | refine Br.ab ?_ | refine WC.region ?_)
 all_goals (refine Go ?_;first | refine Br.ab ?_ | (exact ⟨k+1,⟨rfl,rfl,rfl,rfl,trivial⟩,(by exact ⟨rfl,by omega,dq hn hy hpy⟩),(by omega)⟩))
 try (refine Br.mk (i:=1000) ?_)
 refine Gn ?_;refine Gs [] ?_;refine G2 ?_;refine Gt ?_
 first | exact ⟨by rw [cD (by rw [List.take_of_length_le (by omega)] at hn;exact hn)],rfl⟩ | exact ⟨by rw [di hy hpy hn],rfl⟩
theorem yM {h:ah} (s:List UInt8):ag Tryz.prog 186 ⟨[St s]⟩ h fun u h'=>u=.bool (!aZ s)∧h'=h:=by
 refine calls [(0,_)] Tryz.func186 rfl Tryz.ntmps186 rfl ⟨rfl,trivial⟩ ?_
 refine G2 ?_;refine G2 ?_;refine WL.call (vs:=[_]) rfl Tryz.call187 rfl (cW s) rfl rfl rfl ?_
 rintro _ hz ⟨rfl,_⟩
 subst hz
 cases hc:aZ s
 all_goals (refine Go ?_;refine Gs [(2,_)] ?_;refine Gt ?_;exact ⟨rfl,rfl⟩)
theorem pO {h:ah} {A:Option Addr} {c:Nat} (l:List (List UInt8)) (p:List UInt8→Bool) {fk:Nat} {fs us:List Value} (hcf:∀ (args:Array Value) (w:World),(callFunc fk args).run Tryz.prog w=.ok (.enter fk args) w) (hr:Rd h (.slice A l.length c) 1 l.length (l.map St)) (hm:l.length≤maxLen)
   (hp:∀ x∈l,ag Tryz.prog fk ⟨fs++[St x]++us⟩ h fun u h'=>u=.bool (p x)∧h'=h) :
   ag Tryz.prog 185 ⟨[.slice A l.length c,.func (.func fk) ⟨fs⟩ ⟨us⟩]⟩ h fun u h'=>u=.bool (l.any p)∧h'=h:=by
 refine calls [(0,_),(1,_)] Tryz.func185 rfl Tryz.ntmps185 rfl ⟨rfl,rfl,trivial⟩ ?_
 refine G2 ?_;refine G2 ?_;refine WL.call (vs:=[_,_]) rfl Tryz.call230 rfl (od l p hcf hr hm hp) rfl rfl rfl ?_
 rintro _ hz ⟨rfl,_⟩
 subst hz
 refine WL.step (dm rfl rfl) rfl rfl rfl (Go ?_);refine Gs [(4,_)] ?_;refine Gt ?_
 exact ⟨by rw [ee],rfl⟩
theorem oe {h:ah} {A:Option Addr} {c:Nat} (l:List Int) (p:Int→Bool) {fk:Nat} {fs us:List Value} (hcf:∀ (args:Array Value) (w:World),(callFunc fk args).run Tryz.prog w=.ok (.enter fk args) w) (hr:Rd h (.slice A l.length c) 1 l.length (ints l)) (hm:l.length≤maxLen)
   (hp:∀ x∈l,ag Tryz.prog fk ⟨fs++[In x]++us⟩ h fun u h'=>u=.bool (p x)∧h'=h) :
   ag Tryz.prog 182 ⟨[.slice A l.length c,.func (.func fk) ⟨fs⟩ ⟨us⟩]⟩ h fun u h'=>u=.bool (l.any p)∧h'=h:=by
 refine calls [(0,_),(1,_)] Tryz.func182 rfl Tryz.ntmps182 rfl ⟨rfl,rfl,trivial⟩ ?_
 refine G2 ?_;refine G2 ?_;refine WL.call (vs:=[_,_]) rfl Tryz.call229 rfl (gz l p hcf hr hm hp) rfl rfl rfl ?_
 rintro _ hz ⟨rfl,_⟩
 subst hz
 refine WL.step (dm rfl rfl) rfl rfl rfl (Go ?_);refine Gs [(4,_)] ?_;refine Gt ?_
 exact ⟨by rw [ee],rfl⟩
theorem rz {h:ah} {v:Value} (l:List (List UInt8)) (hr:Rd h v 1 l.length (l.map St)) (hm:l.length≤maxLen) :
   ag Tryz.prog 136 ⟨[v]⟩ h fun u h'=>u=.bool (l.all aZ)∧h'=h:=by
 obtain ⟨A,c,rfl,_⟩:=id hr
 refine calls [(0,_)] Tryz.func136 rfl Tryz.ntmps136 rfl ⟨rfl,trivial⟩ ?_
 refine G2 ?_;refine G2 ?_;refine WL.call (vs:=[_,_]) rfl Tryz.call185 rfl (pO l (fun s => !aZ s) Tryz.call186 (fs:=[]) (us:=[]) hr hm (fun x _=>yM x)) rfl rfl rfl ?_
 rintro _ hz ⟨rfl,_⟩
 subst hz
 rw [show (l.any fun s => !aZ s) = !l.all aZ by rw [List.not_all_eq_any_not]]
 cases hc:l.all aZ
 all_goals (refine Go ?_;refine Gs [(2,_)] ?_;refine Gt ?_;exact ⟨rfl,rfl⟩)
def mL (l:List Int) (lo hi:Int):Bool:=decide (l.length≤65535) && !l.any fun n=>decide (n < lo) || decide (hi < n)
theorem wK {h:ah} {b1 b2:Nat} {lo hi:Int} {t1 t2:TypeId} (n:Int) (h1:h[b1]?=some (.cells ⟨[In lo]⟩ t1 (0,0))) (h2:h[b2]?=some (.cells ⟨[In hi]⟩ t2 (0,0))) :
   ag Tryz.prog 183 ⟨[In n,.pointer (some ⟨b1,0,none⟩),.pointer (some ⟨b2,0,none⟩)]⟩ h fun u h'=>u=.bool (decide (n < lo) || decide (hi < n))∧h'=h:=by
 refine calls [(0,_),(1,_),(2,_)] Tryz.func183 rfl Tryz.ntmps183 rfl ⟨rfl,rfl,rfl,trivial⟩ ?_
 refine G2 ?_;refine G2 ?_;refine Ld ?_;refine Go ?_
 refine bG 8 (Hb.mk fun hb=>?_) (Hb.mk fun hb=>?_)
 all_goals (refine Gg ?_;first | refine WL.pass rfl rfl rfl ?_ | refine Ld ?_)
 all_goals (refine Gg ?_;refine Go ?_;refine Gs [(4,_)] ?_;refine Gt ?_;exact ⟨by first | (rw [decide_eq_true (show n < lo by omega)];done) | (rw [decide_eq_true (show n < lo by omega)];rfl) | (rw [decide_eq_false (show ¬ n < lo by omega)];rfl),rfl⟩)
theorem ij {h:ah} {v:Value} (l:List Int) (lo hi:Int) (hr:Rd h v 1 l.length (ints l)) (hm:l.length≤maxLen) :
   ag Tryz.prog 133 ⟨[v,In lo,In hi]⟩ h fun u h'=>u=.bool (mL l lo hi)∧Ext No h h':=by
 obtain ⟨A,c,rfl,_⟩:=id hr
 refine calls [(0,_),(1,_),(2,_)] Tryz.func133 rfl Tryz.ntmps133 rfl ⟨rfl,rfl,rfl,trivial⟩ ?_
 refine WC.sr ?_;refine WL.ai (aB rfl) rfl rfl rfl ?_
 rintro _ h1 ⟨b1,rfl,bO,aQ,ay⟩
 refine WL.ai (aB rfl) rfl rfl rfl ?_
 rintro _ h2 ⟨b2,rfl,eS,bH,aH⟩
 have og:=aH.obj aQ aO
 have hx:=ay.trans aH
 refine Go ?_;refine G2 ?_
 refine bG 10 (Hb.mk fun hb=>?_) (Hb.mk fun hb=>?_)
 all_goals (refine Gg ?_;first | refine WL.pass rfl rfl rfl ?_ | refine WL.step (cO (vs:=[]) (us:=[_,_]) rfl rfl) rfl rfl rfl ?_)
 all_goals (
  first
    | (refine WL.pass rfl rfl rfl ?_)
    | (refine WL.call (vs:=[_,_]) rfl Tryz.call182 rfl (oe l (fun n=>decide (n < lo) || decide (hi < n)) Tryz.call183 (fs:=[]) (us:=[.pointer (some ⟨b1,0,none⟩),.pointer (some ⟨b2,0,none⟩)]) (hr.aq hx) hm (fun x _=>wK x og bH)) rfl rfl rfl ?_
       rintro _ hz ⟨rfl,_⟩
       subst hz))
 all_goals (refine Gg ?_;refine Go ?_;refine Gs [(6,_)] ?_;refine Gt ?_;exact ⟨by unfold mL;first | (rw [decide_eq_true (by omega)];rfl) | (rw [decide_eq_false (by omega)];rfl),hx⟩)
def iV (k:UInt8):Int:=if ([66,67,68,69,72,80,81,83,88]:List UInt8).contains k then 1 else if ([70,99,100,102,112]:List UInt8).contains k then 2 else 0
theorem rA {h:ah} (k:UInt8):ag Tryz.prog 93 ⟨[By k]⟩ h fun u h'=>u=In (iV k)∧Ext No h h':=by
 have e1:=Lib.contains_iff_indexByte [66,67,68,69,72,80,81,83,88] k
 have e2:=Lib.contains_iff_indexByte [70,99,100,102,112] k
 refine calls [(0,_)] Tryz.func93 rfl Tryz.ntmps93 rfl ⟨rfl,trivial⟩ ?_
 refine G2 ?_;refine WC.seq ?_;refine WC.block ?_;refine WC.sr ?_;refine WL.ai (aw (vs:=[_,_,_,_,_,_,_,_,_]) (cs:=[_,_,_,_,_,_,_,_,_]) (fun | [a0,a1,a2,a3,a4,a5,a6,a7,a8]=>[a0,a1,a2,a3,a4,a5,a6,a7,a8] | _=>[]) Tryz.underlying23 rfl rfl (by kernel_rfl)) rfl rfl rfl ?_
 rintro _ h1 ⟨b1,rfl,bO,aQ,ay⟩
 refine WL.ai (fK Tryz.underlying23 Tryz.underlying5 rfl (by assumption)) rfl rfl rfl ?_
 rintro _ h2 ⟨rfl,⟨z2,bH⟩,aH⟩
 have gm:Ext No h h2:=ay.trans' aH (fun q hq e=>by omega)
 refine Go ?_;refine WL.call (vs:=[_,_]) rfl Tryz.call126 rfl (dh [66,67,68,69,72,80,81,83,88] k (bz bH rfl) (by simp)) rfl rfl rfl ?_
 rintro _ hz ⟨rfl,_⟩
 subst hz
 refine WL.step (dm rfl rfl) rfl rfl rfl ?_
 rw [← e1]
 cases ga:([66,67,68,69,72,80,81,83,88]:List UInt8).contains k
 all_goals (refine Go ?_;refine Gs [(0,_),(3,_)] ?_;refine aJ 1 2 ?_ TT.mk)
 all_goals try (
 refine ax 1 ?_
 refine G2 ?_;refine Gt ?_
 first | exact ⟨by unfold iV;rw [ga];rfl,gm⟩ | exact ⟨by unfold iV;rw [ga,mJ];rfl,(gm.trans aP).trans' aW (fun q hq e=>by have:=gm.size;omega)⟩
 skip)
 all_goals (refine ax 2 ?_)
 refine WC.sr ?_;refine WL.ai (aw (vs:=[_,_,_,_,_]) (cs:=[_,_,_,_,_]) (fun | [a0,a1,a2,a3,a4]=>[a0,a1,a2,a3,a4] | _=>[]) Tryz.underlying23 rfl rfl (by kernel_rfl)) rfl rfl rfl ?_
 rintro _ h3 ⟨b3,rfl,gb,bn,aP⟩
 refine WL.ai (fK Tryz.underlying23 Tryz.underlying5 rfl (by assumption)) rfl rfl rfl ?_
 rintro _ h4 ⟨rfl,⟨z4,bx⟩,aW⟩
 refine Go ?_;refine WL.call (vs:=[_,_]) rfl Tryz.call126 rfl (dh [70,99,100,102,112] k (bz bx rfl) (by simp)) rfl rfl rfl ?_
 rintro _ hz ⟨rfl,_⟩
 subst hz
 refine WL.step (dm rfl rfl) rfl rfl rfl ?_
 rw [← e2]
 cases mJ:([70,99,100,102,112]:List UInt8).contains k
 all_goals (refine Go ?_;refine Gs [(9,_)] ?_;refine aJ 3 4 ?_ TT.mk)
 all_goals try (
 refine ax 3 ?_
 refine G2 ?_;refine Gt ?_
 first | exact ⟨by unfold iV;rw [ga];rfl,gm⟩ | exact ⟨by unfold iV;rw [ga,mJ];rfl,(gm.trans aP).trans' aW (fun q hq e=>by have:=gm.size;omega)⟩
 skip)
 all_goals (refine ax 4 ?_)
 refine WC.skip ?_;refine Gn ?_;refine G2 ?_;refine Gt ?_
 first | exact ⟨by unfold iV;rw [ga];rfl,gm⟩ | exact ⟨by unfold iV;rw [ga,mJ];rfl,(gm.trans aP).trans' aW (fun q hq e=>by have:=gm.size;omega)⟩
structure aX where
 null:Bool
 v:Value
 bytes:List UInt8
def aX.cells (c:aX):List Value:=[.bool c.null,c.v]
theorem aX.len (c:aX):c.cells.length=2:=rfl
def aX.pl (c:aX):Bool × List UInt8:=(c.null,c.bytes)
def aX.ok (h:ah) (c:aX):Prop:=Rd h c.v 1 c.bytes.length (bu c.bytes)∧c.bytes.length≤reachBytes
def cF (h:ah) (v:Value) (l:List aX):Prop:=Rd h v 2 l.length (l.flatMap aX.cells)∧(l.length * 32≤reachBytes∧∃ A c,v=.slice A l.length c∧c≤maxLen)∧∀ c∈l,c.ok h
theorem aX.ok.aq {h h':ah} {c:aX} (k:c.ok h) (a:Ext No h h'):c.ok h':=⟨k.1.aq a,k.2⟩
theorem cF.aq {h h':ah} {v:Value} {l:List aX} (k:cF h v l) (a:Ext No h h'):cF h' v l:=⟨k.1.aq a,k.2.1,fun c hc=>(k.2.2 c hc).aq a⟩
def dy (v:Value) (l:List aX) (b:Nat):Prop:=(0 < l.length∧v.ownBlock=some b)∨∃ c∈l,0 < c.bytes.length∧c.v.ownBlock=some b
theorem cF.lt {h:ah} {v:Value} {l:List aX} {b:Nat} (k:cF h v l) (hb:dy v l b):b < h.size:=by
 rcases hb with ⟨h1,h2⟩ | ⟨c,hc,h1,h2⟩
 · exact k.1.lt h1 h2
 · exact (k.2.2 c hc).1.lt h1 h2
theorem cF.ext {h h':ah} {S:Nat→Prop} {v:Value} {l:List aX} (k:cF h v l) (a:Ext S h h') (hS:∀ b,dy v l b→¬ S b):cF h' v l :=
 ⟨k.1.ext' a fun b h1 h2=>hS b (.inl ⟨h1,h2⟩),k.2.1,fun c hc=>⟨(k.2.2 c hc).1.ext' a fun b h1 h2=>hS b (.inr ⟨c,hc,h1,h2⟩),(k.2.2 c hc).2⟩⟩
structure Rw where
 v:Value
 l:List aX
def Rw.pl (r:Rw):List (Bool × List UInt8):=r.l.map aX.pl
def j4 (h:ah) (v:Value) (L:List Rw):Prop:=Rd h v 1 L.length (L.map Rw.v)∧(L.length * 24≤reachBytes∧∃ A c,v=.slice A L.length c∧c≤maxLen)∧∀ r∈L,cF h r.v r.l
def dN (v:Value) (L:List Rw) (b:Nat):Prop:=(0 < L.length∧v.ownBlock=some b)∨∃ r∈L,dy r.v r.l b
theorem j4.lt {h:ah} {v:Value} {l:List Rw} {b:Nat} (k:j4 h v l) (hb:dN v l b):b < h.size:=by
 rcases hb with ⟨h1,h2⟩ | ⟨c,hc,h1⟩
 · exact k.1.lt h1 h2
 · exact (k.2.2 c hc).lt h1
theorem j4.ext {h h':ah} {S:Nat→Prop} {v:Value} {l:List Rw} (k:j4 h v l) (a:Ext S h h') (hS:∀ b,dN v l b→¬ S b):j4 h' v l :=
 ⟨k.1.ext' a fun b h1 h2=>hS b (.inl ⟨h1,h2⟩),k.2.1,fun c hc=>(k.2.2 c hc).ext a fun b h1=>hS b (.inr ⟨c,hc,h1⟩)⟩
theorem j4.aq {h h':ah} {v:Value} {l:List Rw} (k:j4 h v l) (a:Ext No h h'):j4 h' v l:=k.ext a fun _ _=>aO
theorem tz (w:World):dZ Tryz.prog w 85 aX.cells (fun c=>c.ok w.heap):=by
 have h1:=cq (P:=Tryz.prog) (w:=w) (o:=1) (f:=⟨ "Bytes", 23,1,false, "", "", 8⟩) rfl (mf Tryz.underlying23 (by kernel_rfl) (by kernel_rfl) Tryz.underlying5) (by kernel_rfl) (fun _=>rfl) ng
 have h2:=cq (P:=Tryz.prog) (w:=w) (o:=0) (f:=⟨ "Null", 4,0,false, "", "", 0⟩) rfl (th Tryz.underlying4) (by kernel_rfl) (fun _=>rfl) h1
 exact (kB Tryz.underlying85 (by kernel_rfl) h2).map (fun p=>(⟨p.1,p.2.1.1,p.2.1.2⟩:aX)) (fun _=>rfl) (fun p q=>q.2.1)
theorem rB (w:World):dZ Tryz.prog w 40 (fun p:Value × List aX=>[p.1]) (fun p=>cF w.heap p.1 p.2) :=
 (dR Tryz.underlying40 (by kernel_rfl) (by decide) aX.len (tz w)).map id (fun _=>rfl) fun p q=>⟨q.1,⟨by have:=q.2.2.2.2;rwa [show Tryz.prog.bytesOf 85=32 by kernel_rfl] at this,q.2.2.1⟩,q.2.2.2.1⟩
theorem map_take {α β:Type} {F:α→β} {l m:List α} {k:Nat} {a b:α} (h:(l.take k).map F=(m.take k).map F) (ha:l[k]?=some a) (hb:m[k]?=some b) (e:F a=F b):(l.take (k+1)).map F=(m.take (k+1)).map F:=by
 rw [List.take_add_one,List.take_add_one,ha,hb,List.map_append,List.map_append,h]
 simp [e]
theorem ik {α β:Type} {F:α→β} {l m:List α} {k:Nat} {a b:α} (ha:l[k]?=some a) (hb:m[k]?=some b) (e:F a ≠ F b):l.map F ≠ m.map F:=fun h=>e (by
 have:=congrArg (·[k]?) h
 simpa [ha,hb] using this)
theorem wL {h:ah} {v u:Value} (l m:List aX) (hl:cF h v l) (hm:cF h u m) :
   ag Tryz.prog 160 ⟨[v,u]⟩ h fun u h'=>u=.bool (decide (l.map aX.pl=m.map aX.pl))∧h'=h:=by
 obtain ⟨hr,⟨hlm,A,c,rfl,_⟩,ho⟩:=hl
 obtain ⟨hs,⟨hmm,B,d,rfl,_⟩,hp⟩:=hm
 unfold reachBytes at hlm hmm
 refine calls [(0,_),(1,_)] Tryz.func160 rfl Tryz.ntmps160 rfl ⟨rfl,rfl,trivial⟩ ?_
 refine G2 ?_;refine G3 ?_;refine Gs [(0,_),(1,_),(10,_)] ?_
 refine aJ 1 2 (Hb.mk fun hb=>?_) (Hb.mk fun hb=>?_)
 all_goals try (
 refine ax 1 ?_
 refine G2 ?_;refine Gt ?_
 first | exact ⟨by rw [decide_eq_false (fun e=>by have:=congrArg List.length e;simp at this;omega)],rfl⟩ | exact ⟨by rw [decide_eq_false (ik ga mJ (by simp_all [aX.pl]))],rfl⟩ | exact ⟨by rw [decide_eq_true (by rw [List.take_of_length_le (by omega),List.take_of_length_le (by omega)] at hn;exact hn)],rfl⟩
 skip)
 all_goals (refine ax 2 ?_)
 refine WC.skip ?_;refine Gn ?_;refine G3 ?_;refine WC.block ?_;refine WC.bC (X:=Nat) (fun x=>([(5,In (x:Int))]:Fr)) [(0,_),(1,_)] (fun k h'=>h'=h∧k≤l.length∧(l.take k).map aX.pl=(m.take k).map aX.pl) (fun k=>l.length - k) (0) ⟨rfl,rfl,rfl,trivial⟩ (by exact ⟨rfl,Nat.zero_le _,by simp⟩) ?_
 rintro k _ ⟨rfl,hk,hn⟩
 refine WC.sub [(5,_),(0,_),(1,_)] ⟨rfl,rfl,rfl,trivial⟩ ?_;refine G3 ?_
 refine aJ 3 4 (Hb.mk fun hb=>?_) (Hb.mk fun hb=>?_)
 all_goals try (
 refine ax 3 ?_
 refine WC.skip ?_
 skip)
 all_goals try (
 refine ax 4 ?_
 refine WC.exit ?_
 repeat' (with_reducible first | refine aU ?_ | refine aG rfl ?_ | refine aI ?_ | refine aL ?_ | refine aS ?_)
 refine Br.out (i:=1000) ?_
 skip)
 all_goals (refine Gn ?_;first | refine Br.ab ?_ | refine Gs [(0,_),(1,_),(5,_)] ?_)
 all_goals (first | refine Br.ab ?_ | refine WC.seq ?_)
 all_goals (first | refine Br.ab ?_ | refine WC.block ?_)
 all_goals (first | refine Br.ab ?_ | refine WC.seq ?_)
 all_goals (
  first
    | (refine Br.ab ?_)
    | (obtain ⟨b,o,hA,hbL,hat⟩:=Rd.at_ hr (by omega)
       obtain ⟨b2,o2,hB,bH,yL⟩:=Rd.at_ hs (by omega)
       obtain ⟨⟨n1,v1,s1⟩,ga⟩:∃ y,l[k]?=some y:=⟨_,List.getElem?_eq_getElem (by omega)⟩
       obtain ⟨⟨n2,v2,s2⟩,mJ⟩:∃ y,m[k]?=some y:=⟨_,List.getElem?_eq_getElem (by omega)⟩
       have rC:=(ho _ (List.mem_of_getElem? ga)).1
       have iN:=(hp _ (List.mem_of_getElem? mJ)).1
       simp only at rC iN
       have rD:=At.elem aX.len hat ga
       have xZ:=At.elem aX.len yL mJ
       obtain ⟨A1,k1,rfl,_⟩:=id rC
       obtain ⟨A2,k2,rfl,_⟩:=id iN))
 all_goals (first | refine Br.ab ?_ | (refine WC.fo dk (by kernel_rfl) ?_))
 all_goals (first | refine Br.ab ?_ | refine WQ.aK (ak rfl) rfl rfl rfl ?_)
 all_goals (first | refine Br.ab ?_ | refine WQ.aK (ak rfl) rfl rfl rfl ?_)
 all_goals (first | refine Br.ab ?_ | (refine WQ.aK (aF Tryz.underlying40 Tryz.sizeOf85 rfl rfl rfl (by omega) (by first | rfl | assumption)) rfl rfl rfl ?_))
 all_goals (first | refine Br.ab ?_ | refine WQ.aK (ad rfl Tryz.underlying85 rfl Tryz.sizeOf4) rfl rfl rfl ?_)
 all_goals (first | refine Br.ab ?_ | (refine WQ.aK (aA Tryz.isAgg4 rfl (by first | exact rD.get 0 rfl rfl | assumption)) rfl rfl rfl ?_))
 all_goals (first | refine Br.ab ?_ | refine WQ.aK (ak rfl) rfl rfl rfl ?_)
 all_goals (first | refine Br.ab ?_ | refine WQ.aK (ak rfl) rfl rfl rfl ?_)
 all_goals (first | refine Br.ab ?_ | (refine WQ.aK (aF Tryz.underlying40 Tryz.sizeOf85 rfl rfl rfl (by omega) (by first | rfl | assumption)) rfl rfl rfl ?_))
 all_goals (first | refine Br.ab ?_ | refine WQ.aK (ad rfl Tryz.underlying85 rfl Tryz.sizeOf4) rfl rfl rfl ?_)
 all_goals (first | refine Br.ab ?_ | (refine WQ.aK (aA Tryz.isAgg4 rfl (by first | exact xZ.get 0 rfl rfl | assumption)) rfl rfl rfl ?_))
 all_goals (first | refine Br.ab ?_ | refine WQ.aK (Ct Tryz.underlying4 rfl rfl) rfl rfl rfl ?_)
 all_goals (first | refine Br.ab ?_ | refine WQ.aK (ak rfl) rfl rfl rfl ?_)
 all_goals (first | refine Br.ab ?_ | (try ((fail_if_success (refine WQ.part 28 (b:=true) rfl (fun _=>?_) (fun _=>?_)));(fail_if_success (refine WQ.part 28 (b:=false) rfl (fun _=>?_) (fun _=>?_)));(refine WQ.part 28 rfl (fun hb=>?_) (fun hb=>?_) <;> (first | replace hb:=of_decide_eq_true hb | replace hb:=of_decide_eq_false hb | replace hb:=of_decide_eq_false (nt hb) | replace hb:=of_decide_eq_true (nf hb) | skip)))))
 all_goals (first | refine Br.ab ?_ | (first | (refine WQ.pass rfl rfl rfl ?_) | (refine WQ.aK (ak rfl) rfl rfl rfl ?_)))
 all_goals (first | refine Br.ab ?_ | (first | (refine WQ.pass rfl rfl rfl ?_) | (refine WQ.aK (ak rfl) rfl rfl rfl ?_)))
 all_goals (first | refine Br.ab ?_ | (first | (refine WQ.pass rfl rfl rfl ?_) | (refine WQ.aK (aF Tryz.underlying40 Tryz.sizeOf85 rfl rfl rfl (by omega) (by first | rfl | assumption)) rfl rfl rfl ?_)))
 all_goals (first | refine Br.ab ?_ | (first | (refine WQ.pass rfl rfl rfl ?_) | (refine WQ.aK (ad rfl Tryz.underlying85 rfl Tryz.sizeOf23) rfl rfl rfl ?_)))
 all_goals (first | refine Br.ab ?_ | (first | (refine WQ.pass rfl rfl rfl ?_) | (refine WQ.aK (aA Tryz.isAgg23 rfl (by first | exact rD.get 1 rfl rfl | assumption)) rfl rfl rfl ?_)))
 all_goals (first | refine Br.ab ?_ | (first | (refine WQ.pass rfl rfl rfl ?_) | (refine WQ.aK (dS Tryz.underlying23 Tryz.underlying5 Tryz.underlying9 rfl (by assumption)) rfl rfl rfl ?_)))
 all_goals (first | refine Br.ab ?_ | (first | (refine WQ.pass rfl rfl rfl ?_) | (refine WQ.aK (ak rfl) rfl rfl rfl ?_)))
 all_goals (first | refine Br.ab ?_ | (first | (refine WQ.pass rfl rfl rfl ?_) | (refine WQ.aK (ak rfl) rfl rfl rfl ?_)))
 all_goals (first | refine Br.ab ?_ | (first | (refine WQ.pass rfl rfl rfl ?_) | (refine WQ.aK (aF Tryz.underlying40 Tryz.sizeOf85 rfl rfl rfl (by omega) (by first | rfl | assumption)) rfl rfl rfl ?_)))
 all_goals (first | refine Br.ab ?_ | (first | (refine WQ.pass rfl rfl rfl ?_) | (refine WQ.aK (ad rfl Tryz.underlying85 rfl Tryz.sizeOf23) rfl rfl rfl ?_)))
 all_goals (first | refine Br.ab ?_ | (first | (refine WQ.pass rfl rfl rfl ?_) | (refine WQ.aK (aA Tryz.isAgg23 rfl (by first | exact xZ.get 1 rfl rfl | assumption)) rfl rfl rfl ?_)))
 all_goals (first | refine Br.ab ?_ | (first | (refine WQ.pass rfl rfl rfl ?_) | (refine WQ.aK (dS Tryz.underlying23 Tryz.underlying5 Tryz.underlying9 rfl (by assumption)) rfl rfl rfl ?_)))
 all_goals (first | refine Br.ab ?_ | (first | (refine WQ.pass rfl rfl rfl ?_) | (refine WQ.aK (mF rfl rfl) rfl rfl rfl ?_)))
 all_goals (first | refine Br.ab ?_ | (first | (refine WQ.aK (cM rfl rfl) rfl rfl rfl ?_) | (refine WQ.aK (cd rfl rfl) rfl rfl rfl ?_)))
 all_goals (first | refine Br.ab ?_ | refine WQ.nil ?_)
 all_goals (refine Gn ?_;first | refine Br.ab ?_ | refine Gs [(0,_),(1,_),(5,_),(42,_)] ?_)
 all_goals (first | refine Br.ab ?_ | (first | (refine aJ 5 6 ?_ TT.mk) | (refine aJ 5 6 (Hb.mk fun hb=>?_) (Hb.mk fun hb=>?_))))
 all_goals try (
 refine ax 5 ?_
 all_goals (refine G2 ?_;refine Gs [(4,_)] ?_;refine Gt ?_;first | exact ⟨by rw [decide_eq_false (fun e=>by have:=congrArg List.length e;simp at this;omega)],rfl⟩ | exact ⟨by rw [decide_eq_false (ik ga mJ (by simp_all [aX.pl]))],rfl⟩ | exact ⟨by rw [decide_eq_true (by rw [List.take_of_length_le (by omega),List.take_of_length_le (by omega)] at hn;exact hn)],rfl⟩)
 skip)
 all_goals try (
 refine ax 6 ?_
 refine WC.skip ?_
 skip)
 all_goals (refine Gn ?_;first | refine Br.ab ?_ | refine WC.region ?_)
 all_goals (refine Go ?_;first | refine Br.ab ?_ | (exact ⟨k+1,⟨rfl,rfl,rfl,trivial⟩,(by exact ⟨rfl,by omega,map_take hn ga mJ (by simp_all [aX.pl])⟩),(by omega)⟩))
 try (refine Br.mk (i:=1000) ?_)
 refine Gn ?_;refine Gs [] ?_;refine G2 ?_;refine Gt ?_
 first | exact ⟨by rw [decide_eq_false (fun e=>by have:=congrArg List.length e;simp at this;omega)],rfl⟩ | exact ⟨by rw [decide_eq_false (ik ga mJ (by simp_all [aX.pl]))],rfl⟩ | exact ⟨by rw [decide_eq_true (by rw [List.take_of_length_le (by omega),List.take_of_length_le (by omega)] at hn;exact hn)],rfl⟩
structure b0 where
 nm:List UInt8
 t:Int
 a:Int
 o:Int
 s:Int
 m:Int
 f:Int
deriving DecidableEq
def b0.oh (c:b0):List jG:=[.s c.nm,.i .i64 c.t,.i .i64 c.a,.i .i64 c.o,.i .i64 c.s,.i .i64 c.m,.i .i64 c.f]
def b0.cells (c:b0):List Value:=[St c.nm,In c.t,In c.a,In c.o,In c.s,In c.m,In c.f]
theorem b0.len (c:b0):c.cells.length=7:=rfl
theorem b0.inj (c d:b0):c.oh=d.oh ↔ c=d:=by cases c;cases d;simp [b0.oh]
structure aY where
 k:Int
 t:List UInt8
deriving DecidableEq
def aY.oh (c:aY):List jG:=[.i .u8 c.k,.s c.t]
def aY.cells (c:aY):List Value:=[.int .u8 c.k,St c.t]
theorem aY.len (c:aY):c.cells.length=2:=rfl
theorem aY.inj (c d:aY):c.oh=d.oh ↔ c=d:=by cases c;cases d;simp [aY.oh]
structure Bk where
 kind:Int
 status:Int
 tag:List UInt8
 name:List UInt8
 value:List UInt8
 n:Int
 m:Int
 vo:Value
 oids:List Int
 vc:Value
 cols:List b0
 vr:Value
 row:List aX
 vf:Value
 fields:List aY
def Bk.cells (b:Bk):List Value:=[.int .u8 b.kind,.int .u8 b.status,St b.tag,St b.name,St b.value,In b.n,In b.m,b.vo,b.vc,b.vr,b.vf]
structure Bk.ok (h:ah) (b:Bk):Prop where
 oids:Rd h b.vo 1 b.oids.length (ints b.oids)∧b.oids.length≤maxLen
 cols:Rd h b.vc 7 b.cols.length (b.cols.flatMap b0.cells)∧b.cols.length≤maxLen
 row:cF h b.vr b.row
 fields:Rd h b.vf 2 b.fields.length (b.fields.flatMap aY.cells)∧b.fields.length≤maxLen
theorem Bk.ok.aq {h h':ah} {b:Bk} (k:b.ok h) (a:Ext No h h'):b.ok h':=⟨⟨k.1.1.aq a,k.1.2⟩,⟨k.2.1.aq a,k.2.2⟩,k.3.aq a,⟨k.4.1.aq a,k.4.2⟩⟩
def Bk.pl (b:Bk):=(b.kind,b.status,b.tag,b.name,b.value,b.n,b.m,b.oids,b.cols,b.row.map aX.pl,b.fields)
theorem nj {h:ah} {v u:Value} (l m:List Int) (hr:Rd h v 1 l.length (ints l)) (hs:Rd h u 1 m.length (ints m)) (hl:l.length≤maxLen) (hm:m.length≤maxLen) :
   ag Tryz.prog 159 ⟨[v,u]⟩ h fun u h'=>u=.bool (decide (l=m))∧h'=h:=by
 unfold maxLen at hl hm
 obtain ⟨A,c,rfl,_⟩:=id hr
 obtain ⟨B,d,rfl,_⟩:=id hs
 refine calls [(0,_),(1,_)] Tryz.func159 rfl Tryz.ntmps159 rfl ⟨rfl,rfl,trivial⟩ ?_
 refine G2 ?_;refine G3 ?_;refine Gs [(0,_),(1,_),(10,_)] ?_
 refine aJ 1 2 (Hb.mk fun hb=>?_) (Hb.mk fun hb=>?_)
 all_goals try (
 refine ax 1 ?_
 refine G2 ?_;refine Gt ?_
 first | exact ⟨by rw [decide_eq_false (fun e=>by subst e;omega)],rfl⟩ | exact ⟨by rw [decide_eq_false (fun e=>by subst e;rw [hy] at hz;injection hz with hz;omega)],rfl⟩ | exact ⟨by rw [decide_eq_true (by rw [List.take_of_length_le (by omega),List.take_of_length_le (by omega)] at hn;exact hn)],rfl⟩
 skip)
 all_goals (refine ax 2 ?_)
 refine WC.skip ?_;refine Gn ?_;refine G3 ?_;refine WC.block ?_;refine WC.bC (X:=Nat) (fun x=>([(5,In (x:Int))]:Fr)) [(0,_),(1,_)] (fun k h'=>h'=h∧k≤l.length∧l.take k=m.take k) (fun k=>l.length - k) (0) ⟨rfl,rfl,rfl,trivial⟩ (by exact ⟨rfl,Nat.zero_le _,by simp⟩) ?_
 rintro k _ ⟨rfl,hk,hn⟩
 refine WC.sub [(5,_),(0,_),(1,_)] ⟨rfl,rfl,rfl,trivial⟩ ?_;refine G3 ?_
 refine aJ 3 4 (Hb.mk fun hb=>?_) (Hb.mk fun hb=>?_)
 all_goals try (
 refine ax 3 ?_
 refine WC.skip ?_
 skip)
 all_goals try (
 refine ax 4 ?_
 refine WC.exit ?_
 repeat' (with_reducible first | refine aU ?_ | refine aG rfl ?_ | refine aI ?_ | refine aL ?_ | refine aS ?_)
 refine Br.out (i:=1000) ?_
 skip)
 all_goals (refine Gn ?_;first | refine Br.ab ?_ | refine Gs [(0,_),(1,_),(5,_)] ?_)
 all_goals (first | refine Br.ab ?_ | refine WC.seq ?_)
 all_goals (first | refine Br.ab ?_ | refine WC.block ?_)
 all_goals (first | refine Br.ab ?_ | refine WC.seq ?_)
 all_goals (
  first
    | (refine Br.ab ?_)
    | (obtain ⟨b,o,hA,hbL,hat⟩:=Rd.at_ hr (by omega)
       obtain ⟨b2,o2,hB,bH,yL⟩:=Rd.at_ hs (by omega)
       obtain ⟨y,hy⟩:∃ y,l[k]?=some y:=⟨_,List.getElem?_eq_getElem (by omega)⟩
       obtain ⟨z,hz⟩:∃ z,m[k]?=some z:=⟨_,List.getElem?_eq_getElem (by omega)⟩
       have hc:=hat.get (p:=o+k * 1) k (ic hy) (by omega)
       have mJ:=yL.get (p:=o2+k * 1) k (ic hz) (by omega)))
 all_goals (first | refine Br.ab ?_ | (refine WC.fo dk (by kernel_rfl) ?_))
 all_goals (first | refine Br.ab ?_ | refine WQ.aK (ak rfl) rfl rfl rfl ?_)
 all_goals (first | refine Br.ab ?_ | refine WQ.aK (ak rfl) rfl rfl rfl ?_)
 all_goals (first | refine Br.ab ?_ | (refine WQ.aK (aF Tryz.underlying39 Tryz.sizeOf3 rfl rfl rfl (by omega) (by first | rfl | assumption)) rfl rfl rfl ?_))
 all_goals (first | refine Br.ab ?_ | (refine WQ.aK (aA Tryz.isAgg3 rfl (by first | assumption | exact aa (by assumption) rfl)) rfl rfl rfl ?_))
 all_goals (first | refine Br.ab ?_ | refine WQ.aK (ak rfl) rfl rfl rfl ?_)
 all_goals (first | refine Br.ab ?_ | refine WQ.aK (ak rfl) rfl rfl rfl ?_)
 all_goals (first | refine Br.ab ?_ | (refine WQ.aK (aF Tryz.underlying39 Tryz.sizeOf3 rfl rfl rfl (by omega) (by first | rfl | assumption)) rfl rfl rfl ?_))
 all_goals (first | refine Br.ab ?_ | (refine WQ.aK (aA Tryz.isAgg3 rfl (by first | assumption | exact aa (by assumption) rfl)) rfl rfl rfl ?_))
 all_goals (first | refine Br.ab ?_ | refine WQ.aK (jQ rfl rfl) rfl rfl rfl ?_)
 all_goals (first | refine Br.ab ?_ | refine WQ.nil ?_)
 all_goals (refine Gn ?_;first | refine Br.ab ?_ | refine Gs [(0,_),(1,_),(5,_),(25,_)] ?_)
 all_goals (first | refine Br.ab ?_ | (refine aJ 5 6 (Hb.mk fun hb=>?_) (Hb.mk fun hb=>?_)))
 all_goals try (
 refine ax 5 ?_
 refine G2 ?_;refine Gs [(4,_)] ?_;refine Gt ?_
 first | exact ⟨by rw [decide_eq_false (fun e=>by subst e;omega)],rfl⟩ | exact ⟨by rw [decide_eq_false (fun e=>by subst e;rw [hy] at hz;injection hz with hz;omega)],rfl⟩ | exact ⟨by rw [decide_eq_true (by rw [List.take_of_length_le (by omega),List.take_of_length_le (by omega)] at hn;exact hn)],rfl⟩
 skip)
 all_goals try (
 refine ax 6 ?_
 refine WC.skip ?_
 skip)
 all_goals (refine Gn ?_;first | refine Br.ab ?_ | refine WC.region ?_)
 all_goals (refine Go ?_;first | refine Br.ab ?_ | (exact ⟨k+1,⟨rfl,rfl,rfl,trivial⟩,(by exact ⟨rfl,by omega,by rw [List.take_add_one,List.take_add_one,hn,hy,hz,show y=z by omega]⟩),(by omega)⟩))
 try (refine Br.mk (i:=1000) ?_)
 refine Gn ?_;refine Gs [] ?_;refine G2 ?_;refine Gt ?_
 first | exact ⟨by rw [decide_eq_false (fun e=>by subst e;omega)],rfl⟩ | exact ⟨by rw [decide_eq_false (fun e=>by subst e;rw [hy] at hz;injection hz with hz;omega)],rfl⟩ | exact ⟨by rw [decide_eq_true (by rw [List.take_of_length_le (by omega),List.take_of_length_le (by omega)] at hn;exact hn)],rfl⟩
end Go.Proofs.YtopgddfgefnmbaaGreatDoor
namespace Go.RK
open Go
section
variable {P:Program}
theorem iB (w:World) (d:Nat) {e:TypeId} (he:P.underlying e=some .string) (hp:P.plainKey e=true) (xs ys:Array Value):∀ (us vs:List (List UInt8)) (o:Nat),vs.length=us.length →
   (∀ (j:Nat) (a:List UInt8),us[j]?=some a→xs[o+j]?=some (St a))→(∀ (j:Nat) (a:List UInt8),vs[j]?=some a→ys[o+j]?=some (St a)) →
   (Op.eqItems (d+1) e 1 xs ys (List.range' o us.length)).run P w=.ok (decide (us=vs)) w
 | [],vs,o,hl,_,_=>by
   obtain rfl:vs=[]:=List.eq_nil_of_length_eq_zero hl
   simp [Op.eqItems]
 | a :: us,[],o,hl,_,_=>by simp at hl
 | a :: us,b :: vs,o,hl,hx,hy=>by
   have p1:=hx 0 a rfl
   have p2:=hy 0 b rfl
   rw [Nat.add_zero] at p1 p2
   have r1:=run_part_plain (P:=P) (w:=w) hp p1
   have r2:=run_part_plain (P:=P) (w:=w) hp p2
   have r3:(Op.equalIn (d+1) e (St a) (St b)).run P w=.ok (decide (a=b)) w:=by
     show (Op.equalIn (d+1) e (.string _) (.string _)).run P w=_
     rw [run_equalIn_string w d e _ _ he]
     simp [jk]
   have ih:=iB w d he hp xs ys us vs (o+1) (by simpa using hl) (fun j c hj=>by
     have:=hx (j+1) c (by simpa using hj)
     rwa [show o+(j+1)=o+1+j by omega] at this) (fun j c hj=>by
     have:=hy (j+1) c (by simpa using hj)
     rwa [show o+(j+1)=o+1+j by omega] at this)
   rw [List.length_cons,List.range'_succ]
   simp only [Op.eqItems,Nat.mul_one,Sem.run_bind,r1,r2,r3,Result.andThen_ok]
   by_cases h:a=b
   · simp [h,ih]
   · simp [h]
variable {f:Fr} {h:ah} {d:Option Tmp} {ty:TypeId} {pos:String} {af:Array Edge} {g:Option (Nat × Bool)}
theorem mM {t t2 e:TypeId} {x y:Operand} {n:Nat} {i:TypeInfo} {us vs:List (List UInt8)} (hu:P.underlying t=some (.array n e)) (hi:P.info? e=some i) (he:P.underlying e=some .string) (hp:P.plainKey e=true) (h1:P.cellsOf e=1) (hg:P.eqGuardType P.depth t=false)
   (hl:us.length=n) (lu:vs.length=n) (hx:f.ev x=some (.agg ⟨us.map St⟩)) (hy:f.ev y=some (.agg ⟨vs.map St⟩)) :
   bK P f ⟨d,.binOp .eql t x y t2,ty,pos,af,g⟩ h (.bool (decide (us=vs))):=fun ρ w hag _=>by
 have r1:=run_eqGuard_agg (P:=P) w .eql t x y ⟨us.map St⟩ ⟨vs.map St⟩ hg
 have r2:=run_eql_struct (P:=P) w t ⟨us.map St⟩ ⟨vs.map St⟩
 rw [show (10000:Nat)=9999+1 from rfl,run_equalIn_array w 9999 _ _ hu hi,h1,List.range_eq_range',← hl] at r2
 rw [iB w 9998 he hp _ _ us vs 0 (by omega) (fun j a hj=>by simp [hj]) (fun j a hj=>by simp [hj])] at r2
 simp only [execOp,hag _ _ hx,hag _ _ hy,Sem.run_bind,r1,r2,Result.andThen_ok,Sem.run_pure]
end
end Go.RK
namespace Go.Proofs.YtopgddfgefnmbaaGreatDoor
open Go Go.RK
structure eg where
 n:Int
 lo:Int
 hi:Int
def eg.cells (b:eg):List Value:=[In b.n,In b.lo,In b.hi]
theorem eg.len (b:eg):b.cells.length=3:=rfl
def eg.ok (b:eg):Prop:=b.lo≤b.n∧b.n≤b.hi
theorem jI {h:ah} {v:Value} (l:List eg) (p:eg→Bool) {fk:Nat} {fs us:List Value} (hcf:∀ (args:Array Value) (w:World),(callFunc fk args).run Tryz.prog w=.ok (.enter fk args) w) (hr:Rd h v 3 l.length (l.flatMap eg.cells)) (hm:l.length≤maxLen)
   (hp:∀ x∈l,∀ h',Ext No h h'→ag Tryz.prog fk ⟨fs++[.agg ⟨eg.cells x⟩]++us⟩ h' fun u h''=>u=.bool (p x)∧Ext No h' h'') :
   ag Tryz.prog 300 ⟨[v,.func (.func fk) ⟨fs⟩ ⟨us⟩]⟩ h fun u h'=>u=In (jU p l)∧Ext No h h':=by
 obtain ⟨A,c,rfl,_⟩:=id hr
 unfold maxLen at hm
 refine calls [(0,_),(1,_)] Tryz.func300 rfl Tryz.ntmps300 rfl ⟨rfl,rfl,trivial⟩ ?_
 refine G2 ?_;refine G3 ?_;refine WC.block ?_;refine WC.bC (X:=Nat) (fun x=>([(8,In (x:Int))]:Fr)) [(0,_),(1,_),(7,_)] (fun k h'=>Ext No h h'∧k≤l.length∧∀ x∈l.take k,p x=false) (fun k=>l.length - k) (0) ⟨rfl,rfl,rfl,rfl,trivial⟩ (by exact ⟨.refl _ _,Nat.zero_le _,by simp⟩) ?_
 rintro k h1 ⟨ay,hk,hn⟩
 refine WC.sub [(8,_),(0,_),(1,_),(7,_)] ⟨rfl,rfl,rfl,rfl,trivial⟩ ?_;refine G2 ?_;refine WC.seq ?_
 refine aJ 1 2 (Hb.mk fun hb=>?_) (Hb.mk fun hb=>?_)
 all_goals try (
 refine ax 1 ?_
 refine WC.skip ?_
 skip)
 all_goals try (
 refine ax 2 ?_
 refine WC.exit ?_
 repeat' (with_reducible first | refine aU ?_ | refine aG rfl ?_ | refine aI ?_ | refine aL ?_ | refine aS ?_)
 refine Br.out (i:=1000) ?_
 skip)
 all_goals (refine Gn ?_;first | refine Br.ab ?_ | refine WC.seq ?_)
 all_goals (first | refine Br.ab ?_ | refine WC.block ?_)
 all_goals (first | refine Br.ab ?_ | refine WC.sr ?_)
 all_goals (refine Go ?_;first | refine Br.ab ?_ | refine WC.sr ?_)
 all_goals (first | refine Br.ab ?_ | refine WL.step (ak rfl) rfl rfl rfl ?_)
 all_goals (first | refine Br.ab ?_ | refine WL.step (ak rfl) rfl rfl rfl ?_)
 all_goals (
  first
    | (refine Br.ab ?_)
    | (obtain ⟨b,o,hA,hbL,hat⟩:=Rd.at_ (hr.aq ay) (by omega)
       obtain ⟨y,hy⟩:∃ y,l[k]?=some y:=⟨_,List.getElem?_eq_getElem (by omega)⟩
       have hc:At h1 b (o+k * 3) (eg.cells y):=At.elem eg.len hat hy))
 all_goals (first | refine Br.ab ?_ | refine WL.step (ak rfl) rfl rfl rfl ?_)
 all_goals (first | refine Br.ab ?_ | (refine WL.step (aF Tryz.underlying337 Tryz.sizeOf310 rfl rfl rfl (by omega) (by first | rfl | assumption)) rfl rfl rfl ?_))
 all_goals (first | refine Br.ab ?_ | (refine WL.step (an Tryz.isAgg310 Tryz.sizeOf310 rfl rfl (by assumption)) rfl rfl rfl ?_))
 all_goals (
  first
    | (refine Br.ab ?_)
    | (refine WL.dT (vs:=[_]) rfl rfl hcf rfl (hp y (List.mem_of_getElem? hy) h1 ay) rfl rfl rfl ?_
       rintro _ h2 ⟨rfl,aH⟩))
 all_goals (first | refine Br.ab ?_ | cases hpy:p y)
 all_goals (refine Gn ?_;first | refine Br.ab ?_ | refine Gs [(0,_),(1,_),(5,_),(7,_),(8,_),(16,_)] ?_)
 all_goals (first | refine Br.ab ?_ | refine aJ 3 4 ?_ TT.mk)
 all_goals try (
 refine ax 3 ?_
 refine G2 ?_;refine Gs [(4,_)] ?_;refine Gt ?_
 first | exact ⟨by rw [cD (by rw [List.take_of_length_le (by omega)] at hn;exact hn)],ay⟩ | exact ⟨by rw [di hy hpy hn],ay.trans aH⟩
 skip)
 all_goals try (
 refine ax 4 ?_
 refine WC.skip ?_
 skip)
 all_goals (refine Gn ?_;first | refine Br.ab ?_ | refine WC.region ?_)
 all_goals (refine Go ?_;first | refine Br.ab ?_ | (exact ⟨k+1,⟨rfl,rfl,rfl,rfl,trivial⟩,(by exact ⟨ay.trans aH,by omega,dq hn hy hpy⟩),(by omega)⟩))
 try (refine Br.mk (i:=1000) ?_)
 refine Gn ?_;refine Gs [] ?_;refine G2 ?_;refine Gt ?_
 first | exact ⟨by rw [cD (by rw [List.take_of_length_le (by omega)] at hn;exact hn)],ay⟩ | exact ⟨by rw [di hy hpy hn],ay.trans aH⟩
theorem jJ {h:ah} {v:Value} (l:List b0) (p:b0→Bool) {fk:Nat} {fs us:List Value} (hcf:∀ (args:Array Value) (w:World),(callFunc fk args).run Tryz.prog w=.ok (.enter fk args) w) (hr:Rd h v 7 l.length (l.flatMap b0.cells)) (hm:l.length≤maxLen)
   (hp:∀ x∈l,∀ h',Ext No h h'→ag Tryz.prog fk ⟨fs++[.agg ⟨b0.cells x⟩]++us⟩ h' fun u h''=>u=.bool (p x)∧Ext No h' h'') :
   ag Tryz.prog 269 ⟨[v,.func (.func fk) ⟨fs⟩ ⟨us⟩]⟩ h fun u h'=>u=In (jU p l)∧Ext No h h':=by
 obtain ⟨A,c,rfl,_⟩:=id hr
 unfold maxLen at hm
 refine calls [(0,_),(1,_)] Tryz.func269 rfl Tryz.ntmps269 rfl ⟨rfl,rfl,trivial⟩ ?_
 refine G2 ?_;refine G3 ?_;refine WC.block ?_;refine WC.bC (X:=Nat) (fun x=>([(8,In (x:Int))]:Fr)) [(0,_),(1,_),(7,_)] (fun k h'=>Ext No h h'∧k≤l.length∧∀ x∈l.take k,p x=false) (fun k=>l.length - k) (0) ⟨rfl,rfl,rfl,rfl,trivial⟩ (by exact ⟨.refl _ _,Nat.zero_le _,by simp⟩) ?_
 rintro k h1 ⟨ay,hk,hn⟩
 refine WC.sub [(8,_),(0,_),(1,_),(7,_)] ⟨rfl,rfl,rfl,rfl,trivial⟩ ?_;refine G2 ?_;refine WC.seq ?_
 refine aJ 1 2 (Hb.mk fun hb=>?_) (Hb.mk fun hb=>?_)
 all_goals try (
 refine ax 1 ?_
 refine WC.skip ?_
 skip)
 all_goals try (
 refine ax 2 ?_
 refine WC.exit ?_
 repeat' (with_reducible first | refine aU ?_ | refine aG rfl ?_ | refine aI ?_ | refine aL ?_ | refine aS ?_)
 refine Br.out (i:=1000) ?_
 skip)
 all_goals (refine Gn ?_;first | refine Br.ab ?_ | refine WC.seq ?_)
 all_goals (first | refine Br.ab ?_ | refine WC.block ?_)
 all_goals (first | refine Br.ab ?_ | refine WC.sr ?_)
 all_goals (refine Go ?_;first | refine Br.ab ?_ | refine WC.sr ?_)
 all_goals (first | refine Br.ab ?_ | refine WL.step (ak rfl) rfl rfl rfl ?_)
 all_goals (first | refine Br.ab ?_ | refine WL.step (ak rfl) rfl rfl rfl ?_)
 all_goals (
  first
    | (refine Br.ab ?_)
    | (obtain ⟨b,o,hA,hbL,hat⟩:=Rd.at_ (hr.aq ay) (by omega)
       obtain ⟨y,hy⟩:∃ y,l[k]?=some y:=⟨_,List.getElem?_eq_getElem (by omega)⟩
       have hc:At h1 b (o+k * 7) (b0.cells y):=At.elem b0.len hat hy))
 all_goals (first | refine Br.ab ?_ | refine WL.step (ak rfl) rfl rfl rfl ?_)
 all_goals (first | refine Br.ab ?_ | (refine WL.step (aF Tryz.underlying137 Tryz.sizeOf212 rfl rfl rfl (by omega) (by first | rfl | assumption)) rfl rfl rfl ?_))
 all_goals (first | refine Br.ab ?_ | (refine WL.step (an Tryz.isAgg212 Tryz.sizeOf212 rfl rfl (by assumption)) rfl rfl rfl ?_))
 all_goals (
  first
    | (refine Br.ab ?_)
    | (refine WL.dT (vs:=[_]) rfl rfl hcf rfl (hp y (List.mem_of_getElem? hy) h1 ay) rfl rfl rfl ?_
       rintro _ h2 ⟨rfl,aH⟩))
 all_goals (first | refine Br.ab ?_ | cases hpy:p y)
 all_goals (refine Gn ?_;first | refine Br.ab ?_ | refine Gs [(0,_),(1,_),(5,_),(7,_),(8,_),(16,_)] ?_)
 all_goals (first | refine Br.ab ?_ | refine aJ 3 4 ?_ TT.mk)
 all_goals try (
 refine ax 3 ?_
 refine G2 ?_;refine Gs [(4,_)] ?_;refine Gt ?_
 first | exact ⟨by rw [cD (by rw [List.take_of_length_le (by omega)] at hn;exact hn)],ay⟩ | exact ⟨by rw [di hy hpy hn],ay.trans aH⟩
 skip)
 all_goals try (
 refine ax 4 ?_
 refine WC.skip ?_
 skip)
 all_goals (refine Gn ?_;first | refine Br.ab ?_ | refine WC.region ?_)
 all_goals (refine Go ?_;first | refine Br.ab ?_ | (exact ⟨k+1,⟨rfl,rfl,rfl,rfl,trivial⟩,(by exact ⟨ay.trans aH,by omega,dq hn hy hpy⟩),(by omega)⟩))
 try (refine Br.mk (i:=1000) ?_)
 refine Gn ?_;refine Gs [] ?_;refine G2 ?_;refine Gt ?_
 first | exact ⟨by rw [cD (by rw [List.take_of_length_le (by omega)] at hn;exact hn)],ay⟩ | exact ⟨by rw [di hy hpy hn],ay.trans aH⟩
theorem jK {h:ah} {v:Value} (l:List aY) (p:aY→Bool) {fk:Nat} {fs us:List Value} (hcf:∀ (args:Array Value) (w:World),(callFunc fk args).run Tryz.prog w=.ok (.enter fk args) w) (hr:Rd h v 2 l.length (l.flatMap aY.cells)) (hm:l.length≤maxLen)
   (hp:∀ x∈l,∀ h',Ext No h h'→ag Tryz.prog fk ⟨fs++[.agg ⟨aY.cells x⟩]++us⟩ h' fun u h''=>u=.bool (p x)∧Ext No h' h'') :
   ag Tryz.prog 272 ⟨[v,.func (.func fk) ⟨fs⟩ ⟨us⟩]⟩ h fun u h'=>u=In (jU p l)∧Ext No h h':=by
 obtain ⟨A,c,rfl,_⟩:=id hr
 unfold maxLen at hm
 refine calls [(0,_),(1,_)] Tryz.func272 rfl Tryz.ntmps272 rfl ⟨rfl,rfl,trivial⟩ ?_
 refine G2 ?_;refine G3 ?_;refine WC.block ?_;refine WC.bC (X:=Nat) (fun x=>([(8,In (x:Int))]:Fr)) [(0,_),(1,_),(7,_)] (fun k h'=>Ext No h h'∧k≤l.length∧∀ x∈l.take k,p x=false) (fun k=>l.length - k) (0) ⟨rfl,rfl,rfl,rfl,trivial⟩ (by exact ⟨.refl _ _,Nat.zero_le _,by simp⟩) ?_
 rintro k h1 ⟨ay,hk,hn⟩
 refine WC.sub [(8,_),(0,_),(1,_),(7,_)] ⟨rfl,rfl,rfl,rfl,trivial⟩ ?_;refine G2 ?_;refine WC.seq ?_
 refine aJ 1 2 (Hb.mk fun hb=>?_) (Hb.mk fun hb=>?_)
 all_goals try (
 refine ax 1 ?_
 refine WC.skip ?_
 skip)
 all_goals try (
 refine ax 2 ?_
 refine WC.exit ?_
 repeat' (with_reducible first | refine aU ?_ | refine aG rfl ?_ | refine aI ?_ | refine aL ?_ | refine aS ?_)
 refine Br.out (i:=1000) ?_
 skip)
 all_goals (refine Gn ?_;first | refine Br.ab ?_ | refine WC.seq ?_)
 all_goals (first | refine Br.ab ?_ | refine WC.block ?_)
 all_goals (first | refine Br.ab ?_ | refine WC.sr ?_)
 all_goals (refine Go ?_;first | refine Br.ab ?_ | refine WC.sr ?_)
 all_goals (first | refine Br.ab ?_ | refine WL.step (ak rfl) rfl rfl rfl ?_)
 all_goals (first | refine Br.ab ?_ | refine WL.step (ak rfl) rfl rfl rfl ?_)
 all_goals (
  first
    | (refine Br.ab ?_)
    | (obtain ⟨b,o,hA,hbL,hat⟩:=Rd.at_ (hr.aq ay) (by omega)
       obtain ⟨y,hy⟩:∃ y,l[k]?=some y:=⟨_,List.getElem?_eq_getElem (by omega)⟩
       have hc:At h1 b (o+k * 2) (aY.cells y):=At.elem aY.len hat hy))
 all_goals (first | refine Br.ab ?_ | refine WL.step (ak rfl) rfl rfl rfl ?_)
 all_goals (first | refine Br.ab ?_ | (refine WL.step (aF Tryz.underlying138 Tryz.sizeOf194 rfl rfl rfl (by omega) (by first | rfl | assumption)) rfl rfl rfl ?_))
 all_goals (first | refine Br.ab ?_ | (refine WL.step (an Tryz.isAgg194 Tryz.sizeOf194 rfl rfl (by assumption)) rfl rfl rfl ?_))
 all_goals (
  first
    | (refine Br.ab ?_)
    | (refine WL.dT (vs:=[_]) rfl rfl hcf rfl (hp y (List.mem_of_getElem? hy) h1 ay) rfl rfl rfl ?_
       rintro _ h2 ⟨rfl,aH⟩))
 all_goals (first | refine Br.ab ?_ | cases hpy:p y)
 all_goals (refine Gn ?_;first | refine Br.ab ?_ | refine Gs [(0,_),(1,_),(5,_),(7,_),(8,_),(16,_)] ?_)
 all_goals (first | refine Br.ab ?_ | refine aJ 3 4 ?_ TT.mk)
 all_goals try (
 refine ax 3 ?_
 refine G2 ?_;refine Gs [(4,_)] ?_;refine Gt ?_
 first | exact ⟨by rw [cD (by rw [List.take_of_length_le (by omega)] at hn;exact hn)],ay⟩ | exact ⟨by rw [di hy hpy hn],ay.trans aH⟩
 skip)
 all_goals try (
 refine ax 4 ?_
 refine WC.skip ?_
 skip)
 all_goals (refine Gn ?_;first | refine Br.ab ?_ | refine WC.region ?_)
 all_goals (refine Go ?_;first | refine Br.ab ?_ | (exact ⟨k+1,⟨rfl,rfl,rfl,rfl,trivial⟩,(by exact ⟨ay.trans aH,by omega,dq hn hy hpy⟩),(by omega)⟩))
 try (refine Br.mk (i:=1000) ?_)
 refine Gn ?_;refine Gs [] ?_;refine G2 ?_;refine Gt ?_
 first | exact ⟨by rw [cD (by rw [List.take_of_length_le (by omega)] at hn;exact hn)],ay⟩ | exact ⟨by rw [di hy hpy hn],ay.trans aH⟩
theorem gD {h:ah} {v:Value} (l:List aX) (p:aX→Bool) {fk:Nat} {fs us:List Value} (hcf:∀ (args:Array Value) (w:World),(callFunc fk args).run Tryz.prog w=.ok (.enter fk args) w) (hr:Rd h v 2 l.length (l.flatMap aX.cells)) (hm:l.length≤maxLen)
   (hp:∀ x∈l,∀ h',Ext No h h'→ag Tryz.prog fk ⟨fs++[.agg ⟨aX.cells x⟩]++us⟩ h' fun u h''=>u=.bool (p x)∧Ext No h' h'') :
   ag Tryz.prog 83 ⟨[v,.func (.func fk) ⟨fs⟩ ⟨us⟩]⟩ h fun u h'=>u=In (jU p l)∧Ext No h h':=by
 obtain ⟨A,c,rfl,_⟩:=id hr
 unfold maxLen at hm
 refine calls [(0,_),(1,_)] Tryz.func83 rfl Tryz.ntmps83 rfl ⟨rfl,rfl,trivial⟩ ?_
 refine G2 ?_;refine G3 ?_;refine WC.block ?_;refine WC.bC (X:=Nat) (fun x=>([(8,In (x:Int))]:Fr)) [(0,_),(1,_),(7,_)] (fun k h'=>Ext No h h'∧k≤l.length∧∀ x∈l.take k,p x=false) (fun k=>l.length - k) (0) ⟨rfl,rfl,rfl,rfl,trivial⟩ (by exact ⟨.refl _ _,Nat.zero_le _,by simp⟩) ?_
 rintro k h1 ⟨ay,hk,hn⟩
 refine WC.sub [(8,_),(0,_),(1,_),(7,_)] ⟨rfl,rfl,rfl,rfl,trivial⟩ ?_;refine G2 ?_;refine WC.seq ?_
 refine aJ 1 2 (Hb.mk fun hb=>?_) (Hb.mk fun hb=>?_)
 all_goals try (
 refine ax 1 ?_
 refine WC.skip ?_
 skip)
 all_goals try (
 refine ax 2 ?_
 refine WC.exit ?_
 repeat' (with_reducible first | refine aU ?_ | refine aG rfl ?_ | refine aI ?_ | refine aL ?_ | refine aS ?_)
 refine Br.out (i:=1000) ?_
 skip)
 all_goals (refine Gn ?_;first | refine Br.ab ?_ | refine WC.seq ?_)
 all_goals (first | refine Br.ab ?_ | refine WC.block ?_)
 all_goals (first | refine Br.ab ?_ | refine WC.sr ?_)
 all_goals (refine Go ?_;first | refine Br.ab ?_ | refine WC.sr ?_)
 all_goals (first | refine Br.ab ?_ | refine WL.step (ak rfl) rfl rfl rfl ?_)
 all_goals (first | refine Br.ab ?_ | refine WL.step (ak rfl) rfl rfl rfl ?_)
 all_goals (
  first
    | (refine Br.ab ?_)
    | (obtain ⟨b,o,hA,hbL,hat⟩:=Rd.at_ (hr.aq ay) (by omega)
       obtain ⟨y,hy⟩:∃ y,l[k]?=some y:=⟨_,List.getElem?_eq_getElem (by omega)⟩
       have hc:At h1 b (o+k * 2) (aX.cells y):=At.elem aX.len hat hy))
 all_goals (first | refine Br.ab ?_ | refine WL.step (ak rfl) rfl rfl rfl ?_)
 all_goals (first | refine Br.ab ?_ | (refine WL.step (aF Tryz.underlying40 Tryz.sizeOf85 rfl rfl rfl (by omega) (by first | rfl | assumption)) rfl rfl rfl ?_))
 all_goals (first | refine Br.ab ?_ | (refine WL.step (an Tryz.isAgg85 Tryz.sizeOf85 rfl rfl (by assumption)) rfl rfl rfl ?_))
 all_goals (
  first
    | (refine Br.ab ?_)
    | (refine WL.dT (vs:=[_]) rfl rfl hcf rfl (hp y (List.mem_of_getElem? hy) h1 ay) rfl rfl rfl ?_
       rintro _ h2 ⟨rfl,aH⟩))
 all_goals (first | refine Br.ab ?_ | cases hpy:p y)
 all_goals (refine Gn ?_;first | refine Br.ab ?_ | refine Gs [(0,_),(1,_),(5,_),(7,_),(8,_),(16,_)] ?_)
 all_goals (first | refine Br.ab ?_ | refine aJ 3 4 ?_ TT.mk)
 all_goals try (
 refine ax 3 ?_
 refine G2 ?_;refine Gs [(4,_)] ?_;refine Gt ?_
 first | exact ⟨by rw [cD (by rw [List.take_of_length_le (by omega)] at hn;exact hn)],ay⟩ | exact ⟨by rw [di hy hpy hn],ay.trans aH⟩
 skip)
 all_goals try (
 refine ax 4 ?_
 refine WC.skip ?_
 skip)
 all_goals (refine Gn ?_;first | refine Br.ab ?_ | refine WC.region ?_)
 all_goals (refine Go ?_;first | refine Br.ab ?_ | (exact ⟨k+1,⟨rfl,rfl,rfl,rfl,trivial⟩,(by exact ⟨ay.trans aH,by omega,dq hn hy hpy⟩),(by omega)⟩))
 try (refine Br.mk (i:=1000) ?_)
 refine Gn ?_;refine Gs [] ?_;refine G2 ?_;refine Gt ?_
 first | exact ⟨by rw [cD (by rw [List.take_of_length_le (by omega)] at hn;exact hn)],ay⟩ | exact ⟨by rw [di hy hpy hn],ay.trans aH⟩
theorem tA {h:ah} {b:Nat} {t:TypeId} (x:b0) {fk:Nat} (hcf:∀ (args:Array Value) (w:World),(callFunc fk args).run Tryz.prog w=.ok (.enter fk args) w) (hb:h[b]?=some (.cells ⟨[.func (.func fk) ⟨[]⟩ ⟨[]⟩]⟩ t (0,0)))
   (hp:∀ h',Ext No h h'→ag Tryz.prog fk ⟨[.agg ⟨b0.cells x⟩]⟩ h' fun u h''=>u=.bool true∧Ext No h' h'') :
   ag Tryz.prog 233 ⟨[.agg ⟨b0.cells x⟩,.pointer (some ⟨b,0,none⟩)]⟩ h fun u h'=>u=.bool false∧Ext No h h':=by
 refine calls [(0,_),(1,_)] Tryz.func233 rfl Tryz.ntmps233 rfl ⟨rfl,rfl,trivial⟩ ?_
 refine WC.sr ?_;refine WL.ai (aB rfl) rfl rfl rfl ?_
 rintro _ h1 ⟨b1,rfl,bO,aQ,ay⟩
 refine Go ?_;refine WC.sr ?_;refine WL.ld rfl (by first | exact aa (ay.obj hb aO) rfl | assumption) rfl rfl rfl ?_
 refine WL.step (an Tryz.isAgg212 Tryz.sizeOf212 rfl rfl (by exact At.au aQ)) rfl rfl rfl ?_
 refine WL.dT (vs:=[_]) rfl rfl hcf rfl (hp _ ay) rfl rfl rfl ?_
 rintro _ h2 ⟨rfl,aH⟩
 refine Go ?_;refine Gs [(3,_)] ?_;refine Gt ?_
 exact ⟨rfl,ay.trans aH⟩
theorem wM {h:ah} {v:Value} (l:List b0) (hr:Rd h v 7 l.length (l.flatMap b0.cells)) (hl:l.length≤65535) {fk:Nat} (hcf:∀ (args:Array Value) (w:World),(callFunc fk args).run Tryz.prog w=.ok (.enter fk args) w)
   (hp:∀ x∈l,∀ h',Ext No h h'→ag Tryz.prog fk ⟨[.agg ⟨b0.cells x⟩]⟩ h' fun u h''=>u=.bool true∧Ext No h' h'') :
   ag Tryz.prog 192 ⟨[v,.func (.func fk) ⟨[]⟩ ⟨[]⟩]⟩ h fun u h'=>u=.bool true∧Ext No h h':=by
 have hcon:∀ {h':ah} {b:Nat} {t:TypeId},Ext No h h'→h'[b]?=some (.cells ⟨[.func (.func fk) ⟨[]⟩ ⟨[]⟩]⟩ t (0,0))→ag Tryz.prog 232 ⟨[v,.func (.func 233) ⟨[]⟩ ⟨[.pointer (some ⟨b,0,none⟩)]⟩]⟩ h' fun u h''=>u=.bool false∧Ext No h' h'':=by
   intro h' b t hx hb
   refine calls [(0,_),(1,_)] Tryz.func232 rfl Tryz.ntmps232 rfl ⟨rfl,rfl,trivial⟩ ?_
   refine G2 ?_;refine G2 ?_;refine WL.call (vs:=[_,_]) rfl Tryz.call269 rfl (jJ l (fun _=>false) Tryz.call233 (fs:=[]) (us:=[.pointer (some ⟨b,0,none⟩)]) (hr.aq hx) (by unfold maxLen;omega) (fun x hxl h2 aH=>tA x hcf (aH.obj hb aO) (fun h3 aP=>hp x hxl h3 ((hx.trans aH).trans aP)))) rfl rfl rfl ?_
   rintro _ h1 ⟨rfl,ay⟩
   rw [cD (fun _ _=>rfl)]
   refine Go ?_;refine Gs [(4,_)] ?_;refine Gt ?_
   exact ⟨rfl,ay⟩
 obtain ⟨A,c,rfl,_⟩:=id hr
 refine calls [(0,_),(1,_)] Tryz.func192 rfl Tryz.ntmps192 rfl ⟨rfl,rfl,trivial⟩ ?_
 refine WC.sr ?_;refine WL.ai (aB rfl) rfl rfl rfl ?_
 rintro _ h1 ⟨b1,rfl,bO,aQ,ay⟩
 refine Go ?_;refine G2 ?_
 refine bG 8 ?_ TT.mk
 refine Gg ?_;refine WL.step (cO (vs:=[]) (us:=[_]) rfl rfl) rfl rfl rfl ?_;refine WL.call (vs:=[_,_]) rfl Tryz.call232 rfl (hcon ay aQ) rfl rfl rfl ?_
 rintro _ h2 ⟨rfl,aH⟩
 refine Gg ?_;refine Go ?_;refine Gs [(4,_)] ?_;refine Gt ?_
 exact ⟨rfl,ay.trans aH⟩
theorem tB {h:ah} {b:Nat} {t:TypeId} (x:aY) {fk:Nat} (hcf:∀ (args:Array Value) (w:World),(callFunc fk args).run Tryz.prog w=.ok (.enter fk args) w) (hb:h[b]?=some (.cells ⟨[.func (.func fk) ⟨[]⟩ ⟨[]⟩]⟩ t (0,0)))
   (hp:∀ h',Ext No h h'→ag Tryz.prog fk ⟨[.agg ⟨aY.cells x⟩]⟩ h' fun u h''=>u=.bool true∧Ext No h' h'') :
   ag Tryz.prog 236 ⟨[.agg ⟨aY.cells x⟩,.pointer (some ⟨b,0,none⟩)]⟩ h fun u h'=>u=.bool false∧Ext No h h':=by
 refine calls [(0,_),(1,_)] Tryz.func236 rfl Tryz.ntmps236 rfl ⟨rfl,rfl,trivial⟩ ?_
 refine WC.sr ?_;refine WL.ai (aB rfl) rfl rfl rfl ?_
 rintro _ h1 ⟨b1,rfl,bO,aQ,ay⟩
 refine Go ?_;refine WC.sr ?_;refine WL.ld rfl (by first | exact aa (ay.obj hb aO) rfl | assumption) rfl rfl rfl ?_
 refine WL.step (an Tryz.isAgg194 Tryz.sizeOf194 rfl rfl (by exact At.au aQ)) rfl rfl rfl ?_
 refine WL.dT (vs:=[_]) rfl rfl hcf rfl (hp _ ay) rfl rfl rfl ?_
 rintro _ h2 ⟨rfl,aH⟩
 refine Go ?_;refine Gs [(3,_)] ?_;refine Gt ?_
 exact ⟨rfl,ay.trans aH⟩
theorem wN {h:ah} {v:Value} (l:List aY) (hr:Rd h v 2 l.length (l.flatMap aY.cells)) (hl:l.length≤65535) {fk:Nat} (hcf:∀ (args:Array Value) (w:World),(callFunc fk args).run Tryz.prog w=.ok (.enter fk args) w)
   (hp:∀ x∈l,∀ h',Ext No h h'→ag Tryz.prog fk ⟨[.agg ⟨aY.cells x⟩]⟩ h' fun u h''=>u=.bool true∧Ext No h' h'') :
   ag Tryz.prog 194 ⟨[v,.func (.func fk) ⟨[]⟩ ⟨[]⟩]⟩ h fun u h'=>u=.bool true∧Ext No h h':=by
 have hcon:∀ {h':ah} {b:Nat} {t:TypeId},Ext No h h'→h'[b]?=some (.cells ⟨[.func (.func fk) ⟨[]⟩ ⟨[]⟩]⟩ t (0,0))→ag Tryz.prog 235 ⟨[v,.func (.func 236) ⟨[]⟩ ⟨[.pointer (some ⟨b,0,none⟩)]⟩]⟩ h' fun u h''=>u=.bool false∧Ext No h' h'':=by
   intro h' b t hx hb
   refine calls [(0,_),(1,_)] Tryz.func235 rfl Tryz.ntmps235 rfl ⟨rfl,rfl,trivial⟩ ?_
   refine G2 ?_;refine G2 ?_;refine WL.call (vs:=[_,_]) rfl Tryz.call272 rfl (jK l (fun _=>false) Tryz.call236 (fs:=[]) (us:=[.pointer (some ⟨b,0,none⟩)]) (hr.aq hx) (by unfold maxLen;omega) (fun x hxl h2 aH=>tB x hcf (aH.obj hb aO) (fun h3 aP=>hp x hxl h3 ((hx.trans aH).trans aP)))) rfl rfl rfl ?_
   rintro _ h1 ⟨rfl,ay⟩
   rw [cD (fun _ _=>rfl)]
   refine Go ?_;refine Gs [(4,_)] ?_;refine Gt ?_
   exact ⟨rfl,ay⟩
 obtain ⟨A,c,rfl,_⟩:=id hr
 refine calls [(0,_),(1,_)] Tryz.func194 rfl Tryz.ntmps194 rfl ⟨rfl,rfl,trivial⟩ ?_
 refine WC.sr ?_;refine WL.ai (aB rfl) rfl rfl rfl ?_
 rintro _ h1 ⟨b1,rfl,bO,aQ,ay⟩
 refine Go ?_;refine G2 ?_
 refine bG 8 ?_ TT.mk
 refine Gg ?_;refine WL.step (cO (vs:=[]) (us:=[_]) rfl rfl) rfl rfl rfl ?_;refine WL.call (vs:=[_,_]) rfl Tryz.call235 rfl (hcon ay aQ) rfl rfl rfl ?_
 rintro _ h2 ⟨rfl,aH⟩
 refine Gg ?_;refine Go ?_;refine Gs [(4,_)] ?_;refine Gt ?_
 exact ⟨rfl,ay.trans aH⟩
theorem tC {h:ah} {b:Nat} {t:TypeId} (x:aX) {fk:Nat} (hcf:∀ (args:Array Value) (w:World),(callFunc fk args).run Tryz.prog w=.ok (.enter fk args) w) (hb:h[b]?=some (.cells ⟨[.func (.func fk) ⟨[]⟩ ⟨[]⟩]⟩ t (0,0)))
   (hp:∀ h',Ext No h h'→ag Tryz.prog fk ⟨[.agg ⟨aX.cells x⟩]⟩ h' fun u h''=>u=.bool true∧Ext No h' h'') :
   ag Tryz.prog 237 ⟨[.agg ⟨aX.cells x⟩,.pointer (some ⟨b,0,none⟩)]⟩ h fun u h'=>u=.bool false∧Ext No h h':=by
 refine calls [(0,_),(1,_)] Tryz.func237 rfl Tryz.ntmps237 rfl ⟨rfl,rfl,trivial⟩ ?_
 refine WC.sr ?_;refine WL.ai (aB rfl) rfl rfl rfl ?_
 rintro _ h1 ⟨b1,rfl,bO,aQ,ay⟩
 refine Go ?_;refine WC.sr ?_;refine WL.ld rfl (by first | exact aa (ay.obj hb aO) rfl | assumption) rfl rfl rfl ?_
 refine WL.step (an Tryz.isAgg85 Tryz.sizeOf85 rfl rfl (by exact At.au aQ)) rfl rfl rfl ?_
 refine WL.dT (vs:=[_]) rfl rfl hcf rfl (hp _ ay) rfl rfl rfl ?_
 rintro _ h2 ⟨rfl,aH⟩
 refine Go ?_;refine Gs [(3,_)] ?_;refine Gt ?_
 exact ⟨rfl,ay.trans aH⟩
theorem wO {h:ah} {v:Value} (l:List aX) (hr:Rd h v 2 l.length (l.flatMap aX.cells)) (hl:l.length≤65535) {fk:Nat} (hcf:∀ (args:Array Value) (w:World),(callFunc fk args).run Tryz.prog w=.ok (.enter fk args) w)
   (hp:∀ x∈l,∀ h',Ext No h h'→ag Tryz.prog fk ⟨[.agg ⟨aX.cells x⟩]⟩ h' fun u h''=>u=.bool true∧Ext No h' h'') :
   ag Tryz.prog 196 ⟨[v,.func (.func fk) ⟨[]⟩ ⟨[]⟩]⟩ h fun u h'=>u=.bool true∧Ext No h h':=by
 have hcon:∀ {h':ah} {b:Nat} {t:TypeId},Ext No h h'→h'[b]?=some (.cells ⟨[.func (.func fk) ⟨[]⟩ ⟨[]⟩]⟩ t (0,0))→ag Tryz.prog 46 ⟨[v,.func (.func 237) ⟨[]⟩ ⟨[.pointer (some ⟨b,0,none⟩)]⟩]⟩ h' fun u h''=>u=.bool false∧Ext No h' h'':=by
   intro h' b t hx hb
   refine calls [(0,_),(1,_)] Tryz.func46 rfl Tryz.ntmps46 rfl ⟨rfl,rfl,trivial⟩ ?_
   refine G2 ?_;refine G2 ?_;refine WL.call (vs:=[_,_]) rfl Tryz.call83 rfl (gD l (fun _=>false) Tryz.call237 (fs:=[]) (us:=[.pointer (some ⟨b,0,none⟩)]) (hr.aq hx) (by unfold maxLen;omega) (fun x hxl h2 aH=>tC x hcf (aH.obj hb aO) (fun h3 aP=>hp x hxl h3 ((hx.trans aH).trans aP)))) rfl rfl rfl ?_
   rintro _ h1 ⟨rfl,ay⟩
   rw [cD (fun _ _=>rfl)]
   refine Go ?_;refine Gs [(4,_)] ?_;refine Gt ?_
   exact ⟨rfl,ay⟩
 obtain ⟨A,c,rfl,_⟩:=id hr
 refine calls [(0,_),(1,_)] Tryz.func196 rfl Tryz.ntmps196 rfl ⟨rfl,rfl,trivial⟩ ?_
 refine WC.sr ?_;refine WL.ai (aB rfl) rfl rfl rfl ?_
 rintro _ h1 ⟨b1,rfl,bO,aQ,ay⟩
 refine Go ?_;refine G2 ?_
 refine bG 8 ?_ TT.mk
 refine Gg ?_;refine WL.step (cO (vs:=[]) (us:=[_]) rfl rfl) rfl rfl rfl ?_;refine WL.call (vs:=[_,_]) rfl Tryz.call46 rfl (hcon ay aQ) rfl rfl rfl ?_
 rintro _ h2 ⟨rfl,aH⟩
 refine Gg ?_;refine Go ?_;refine Gs [(4,_)] ?_;refine Gt ?_
 exact ⟨rfl,ay.trans aH⟩
theorem wP {h:ah} {v w:Value} (l:List b0) (hr:Rd h v 7 l.length (l.flatMap b0.cells)) (hs:Rd h w 7 l.length (l.flatMap b0.cells)) (hm:l.length≤maxLen) :
   ag Tryz.prog 239 ⟨[v,w]⟩ h fun u h'=>u=.bool true∧h'=h:=by
 obtain ⟨A,c,rfl,_⟩:=id hr
 obtain ⟨B,d,rfl,_⟩:=id hs
 unfold maxLen at hm
 refine calls [(0,_),(1,_)] Tryz.func239 rfl Tryz.ntmps239 rfl ⟨rfl,rfl,trivial⟩ ?_
 refine G2 ?_;refine G3 ?_;refine Gs [(0,_),(1,_),(10,_)] ?_
 refine aJ 1 2 ?_ TT.mk
 all_goals (refine ax 2 ?_)
 refine WC.skip ?_;refine Gn ?_;refine G3 ?_;refine WC.block ?_;refine WC.bC (X:=Nat) (fun x=>([(13,In (x:Int))]:Fr)) [(0,_),(1,_),(12,_)] (fun k h'=>h'=h∧k≤l.length) (fun k=>l.length - k) (0) ⟨rfl,rfl,rfl,rfl,trivial⟩ (by exact ⟨rfl,Nat.zero_le _⟩) ?_
 rintro k h9 ⟨hz,hk⟩
 subst h9
 refine WC.sub [(13,_),(0,_),(1,_),(12,_)] ⟨rfl,rfl,rfl,rfl,trivial⟩ ?_;refine G2 ?_;refine WC.seq ?_
 refine aJ 3 4 (Hb.mk fun hb=>?_) (Hb.mk fun hb=>?_)
 all_goals try (
 refine ax 3 ?_
 refine WC.skip ?_
 skip)
 all_goals try (
 refine ax 4 ?_
 refine WC.exit ?_
 repeat' (with_reducible first | refine aU ?_ | refine aG rfl ?_ | refine aI ?_ | refine aL ?_ | refine aS ?_)
 refine Br.out (i:=1000) ?_
 skip)
 all_goals (refine Gn ?_;first | refine Br.ab ?_ | refine WC.seq ?_)
 all_goals (first | refine Br.ab ?_ | refine WC.block ?_)
 all_goals (first | refine Br.ab ?_ | refine WC.sr ?_)
 all_goals (
  first
    | (refine Br.ab ?_)
    | (obtain ⟨bL,oL,hA,hbL,hat⟩:=Rd.at_ hr (by omega)
       obtain ⟨bM,oM,hB,hbM,hbt⟩:=Rd.at_ hs (by omega)
       obtain ⟨y,hy⟩:∃ y,l[k]?=some y:=⟨_,List.getElem?_eq_getElem (by omega)⟩
       have rD:At h bL (oL+k * 7) (b0.cells y):=At.elem b0.len hat hy
       have xZ:At h bM (oM+k * 7) (b0.cells y):=At.elem b0.len hbt hy))
 all_goals (first | refine Br.ab ?_ | refine WL.step (ak rfl) rfl rfl rfl ?_)
 all_goals (refine Go ?_;first | refine Br.ab ?_ | refine WC.seq ?_)
 all_goals (first | refine Br.ab ?_ | (refine WC.fo dk (by kernel_rfl) ?_))
 all_goals (first | refine Br.ab ?_ | refine WQ.aK (ak rfl) rfl rfl rfl ?_)
 all_goals (first | refine Br.ab ?_ | refine WQ.aK (ak rfl) rfl rfl rfl ?_)
 all_goals (first | refine Br.ab ?_ | (refine WQ.aK (aF Tryz.underlying137 Tryz.sizeOf212 rfl rfl rfl (by omega) (by first | rfl | assumption)) rfl rfl rfl ?_))
 all_goals (first | refine Br.ab ?_ | (refine WQ.aK (an Tryz.isAgg212 Tryz.sizeOf212 rfl rfl (by assumption)) rfl rfl rfl ?_))
 all_goals (first | refine Br.ab ?_ | refine WQ.aK (ak rfl) rfl rfl rfl ?_)
 all_goals (first | refine Br.ab ?_ | refine WQ.aK (ak rfl) rfl rfl rfl ?_)
 all_goals (first | refine Br.ab ?_ | (refine WQ.aK (aF Tryz.underlying137 Tryz.sizeOf212 rfl rfl rfl (by omega) (by first | rfl | assumption)) rfl rfl rfl ?_))
 all_goals (first | refine Br.ab ?_ | (refine WQ.aK (an Tryz.isAgg212 Tryz.sizeOf212 rfl rfl (by assumption)) rfl rfl rfl ?_))
 all_goals (first | refine Br.ab ?_ | (refine WQ.aK (bK.hG rfl (jm (us:=y.oh) (vs:=y.oh) ([.s,.i .i64,.i .i64,.i .i64,.i .i64,.i .i64,.i .i64]) (by kernel_rfl) rfl rfl rfl rfl)) rfl rfl rfl ?_))
 all_goals (first | refine Br.ab ?_ | refine WQ.nil ?_)
 all_goals (refine Gn ?_;first | refine Br.ab ?_ | refine Gs [(0,_),(1,_),(12,_),(13,_),(24,_)] ?_)
 all_goals (first | refine Br.ab ?_ | refine aJ 5 6 ?_ TT.mk)
 all_goals try (
 refine ax 6 ?_
 refine WC.skip ?_
 skip)
 all_goals (refine Gn ?_;first | refine Br.ab ?_ | refine WC.region ?_)
 all_goals (refine Go ?_;first | refine Br.ab ?_ | (exact ⟨k+1,⟨rfl,rfl,rfl,rfl,trivial⟩,(by exact ⟨rfl,by omega⟩),(by omega)⟩))
 try (refine Br.mk (i:=1000) ?_)
 refine Gn ?_;refine Gs [] ?_;refine G2 ?_;refine Gt ?_
 exact ⟨rfl,rfl⟩
theorem wQ {h:ah} {v w:Value} (l:List aY) (hr:Rd h v 2 l.length (l.flatMap aY.cells)) (hs:Rd h w 2 l.length (l.flatMap aY.cells)) (hm:l.length≤maxLen) :
   ag Tryz.prog 240 ⟨[v,w]⟩ h fun u h'=>u=.bool true∧h'=h:=by
 obtain ⟨A,c,rfl,_⟩:=id hr
 obtain ⟨B,d,rfl,_⟩:=id hs
 unfold maxLen at hm
 refine calls [(0,_),(1,_)] Tryz.func240 rfl Tryz.ntmps240 rfl ⟨rfl,rfl,trivial⟩ ?_
 refine G2 ?_;refine G3 ?_;refine Gs [(0,_),(1,_),(10,_)] ?_
 refine aJ 1 2 ?_ TT.mk
 all_goals (refine ax 2 ?_)
 refine WC.skip ?_;refine Gn ?_;refine G3 ?_;refine WC.block ?_;refine WC.bC (X:=Nat) (fun x=>([(13,In (x:Int))]:Fr)) [(0,_),(1,_),(12,_)] (fun k h'=>h'=h∧k≤l.length) (fun k=>l.length - k) (0) ⟨rfl,rfl,rfl,rfl,trivial⟩ (by exact ⟨rfl,Nat.zero_le _⟩) ?_
 rintro k h9 ⟨hz,hk⟩
 subst h9
 refine WC.sub [(13,_),(0,_),(1,_),(12,_)] ⟨rfl,rfl,rfl,rfl,trivial⟩ ?_;refine G2 ?_;refine WC.seq ?_
 refine aJ 3 4 (Hb.mk fun hb=>?_) (Hb.mk fun hb=>?_)
 all_goals try (
 refine ax 3 ?_
 refine WC.skip ?_
 skip)
 all_goals try (
 refine ax 4 ?_
 refine WC.exit ?_
 repeat' (with_reducible first | refine aU ?_ | refine aG rfl ?_ | refine aI ?_ | refine aL ?_ | refine aS ?_)
 refine Br.out (i:=1000) ?_
 skip)
 all_goals (refine Gn ?_;first | refine Br.ab ?_ | refine WC.seq ?_)
 all_goals (first | refine Br.ab ?_ | refine WC.block ?_)
 all_goals (first | refine Br.ab ?_ | refine WC.sr ?_)
 all_goals (
  first
    | (refine Br.ab ?_)
    | (obtain ⟨bL,oL,hA,hbL,hat⟩:=Rd.at_ hr (by omega)
       obtain ⟨bM,oM,hB,hbM,hbt⟩:=Rd.at_ hs (by omega)
       obtain ⟨y,hy⟩:∃ y,l[k]?=some y:=⟨_,List.getElem?_eq_getElem (by omega)⟩
       have rD:At h bL (oL+k * 2) (aY.cells y):=At.elem aY.len hat hy
       have xZ:At h bM (oM+k * 2) (aY.cells y):=At.elem aY.len hbt hy))
 all_goals (first | refine Br.ab ?_ | refine WL.step (ak rfl) rfl rfl rfl ?_)
 all_goals (refine Go ?_;first | refine Br.ab ?_ | refine WC.seq ?_)
 all_goals (first | refine Br.ab ?_ | (refine WC.fo dk (by kernel_rfl) ?_))
 all_goals (first | refine Br.ab ?_ | refine WQ.aK (ak rfl) rfl rfl rfl ?_)
 all_goals (first | refine Br.ab ?_ | refine WQ.aK (ak rfl) rfl rfl rfl ?_)
 all_goals (first | refine Br.ab ?_ | (refine WQ.aK (aF Tryz.underlying138 Tryz.sizeOf194 rfl rfl rfl (by omega) (by first | rfl | assumption)) rfl rfl rfl ?_))
 all_goals (first | refine Br.ab ?_ | (refine WQ.aK (an Tryz.isAgg194 Tryz.sizeOf194 rfl rfl (by assumption)) rfl rfl rfl ?_))
 all_goals (first | refine Br.ab ?_ | refine WQ.aK (ak rfl) rfl rfl rfl ?_)
 all_goals (first | refine Br.ab ?_ | refine WQ.aK (ak rfl) rfl rfl rfl ?_)
 all_goals (first | refine Br.ab ?_ | (refine WQ.aK (aF Tryz.underlying138 Tryz.sizeOf194 rfl rfl rfl (by omega) (by first | rfl | assumption)) rfl rfl rfl ?_))
 all_goals (first | refine Br.ab ?_ | (refine WQ.aK (an Tryz.isAgg194 Tryz.sizeOf194 rfl rfl (by assumption)) rfl rfl rfl ?_))
 all_goals (first | refine Br.ab ?_ | (refine WQ.aK (bK.hG rfl (jm (us:=y.oh) (vs:=y.oh) ([.i .u8,.s]) (by kernel_rfl) rfl rfl rfl rfl)) rfl rfl rfl ?_))
 all_goals (first | refine Br.ab ?_ | refine WQ.nil ?_)
 all_goals (refine Gn ?_;first | refine Br.ab ?_ | refine Gs [(0,_),(1,_),(12,_),(13,_),(24,_)] ?_)
 all_goals (first | refine Br.ab ?_ | refine aJ 5 6 ?_ TT.mk)
 all_goals try (
 refine ax 6 ?_
 refine WC.skip ?_
 skip)
 all_goals (refine Gn ?_;first | refine Br.ab ?_ | refine WC.region ?_)
 all_goals (refine Go ?_;first | refine Br.ab ?_ | (exact ⟨k+1,⟨rfl,rfl,rfl,rfl,trivial⟩,(by exact ⟨rfl,by omega⟩),(by omega)⟩))
 try (refine Br.mk (i:=1000) ?_)
 refine Gn ?_;refine Gs [] ?_;refine G2 ?_;refine Gt ?_
 exact ⟨rfl,rfl⟩
theorem CF {h:ah} (b:eg) (hb:b.ok):ag Tryz.prog 271 ⟨[.agg ⟨b.cells⟩]⟩ h fun u h'=>u=.bool false∧Ext No h h':=by
 obtain ⟨n,lo,hi⟩:=b
 obtain ⟨h1,h2⟩:=hb
 simp only at h1 h2
 dsimp only [eg.cells]
 refine calls [(0,_)] Tryz.func271 rfl Tryz.ntmps271 rfl ⟨rfl,trivial⟩ ?_
 refine WC.sr ?_;refine WL.ai (aB rfl) rfl rfl rfl ?_
 rintro _ h3 ⟨b3,rfl,gb,bn,aP⟩
 refine Go ?_;refine G2 ?_;refine Ld ?_;refine Go ?_;refine Ld ?_;refine Go ?_
 refine bG 8 ?_ TT.mk
 refine Gg ?_;refine Ld ?_;refine Gg ?_;refine Ld ?_;refine Gg ?_;refine Go ?_;refine Gs [(2,_)] ?_;refine Gt ?_
 exact ⟨rfl,aP⟩
theorem Fo {h:ah} {v:Value} (l:List eg) (hr:Rd h v 3 l.length (l.flatMap eg.cells)) (hm:l.length≤maxLen) (hl:∀ b∈l,b.ok):ag Tryz.prog 234 ⟨[v]⟩ h fun u h'=>u=.bool true∧Ext No h h':=by
 have hcon:ag Tryz.prog 270 ⟨[v,.func (.func 271) ⟨[]⟩ ⟨[]⟩]⟩ h fun u h'=>u=.bool false∧Ext No h h':=by
   refine calls [(0,_),(1,_)] Tryz.func270 rfl Tryz.ntmps270 rfl ⟨rfl,rfl,trivial⟩ ?_
   refine G2 ?_;refine G2 ?_;refine WL.call (vs:=[_,_]) rfl Tryz.call300 rfl (jI l (fun _=>false) Tryz.call271 (fs:=[]) (us:=[]) hr hm (fun x hx h' hx'=>CF x (hl x hx))) rfl rfl rfl ?_
   rintro _ h1 ⟨rfl,ay⟩
   rw [cD (fun _ _=>rfl)]
   refine Go ?_;refine Gs [(4,_)] ?_;refine Gt ?_
   exact ⟨rfl,ay⟩
 refine calls [(0,_)] Tryz.func234 rfl Tryz.ntmps234 rfl ⟨rfl,trivial⟩ ?_
 refine G2 ?_;refine G2 ?_;refine WL.call (vs:=[_,_]) rfl Tryz.call270 rfl (hcon) rfl rfl rfl ?_
 rintro _ h1 ⟨rfl,ay⟩
 refine Go ?_;refine Gs [(2,_)] ?_;refine Gt ?_
 exact ⟨rfl,ay⟩
def b0.okB (c:b0):Prop:=aZ c.nm=true∧(0≤c.t∧c.t≤4294967295)∧(0≤c.a∧c.a≤65535)∧(0≤c.o∧c.o≤4294967295)∧(-32768≤c.s∧c.s≤32767)∧(-2147483648≤c.m∧c.m≤2147483647)∧(0≤c.f∧c.f≤65535)
theorem wR {h:ah} (c:b0) (hc:c.okB):ag Tryz.prog 193 ⟨[.agg ⟨c.cells⟩]⟩ h fun u h'=>u=.bool true∧Ext No h h':=by
 obtain ⟨nm,t,a,o,s,m,f⟩:=c
 obtain ⟨h1,h2,h3,h4,h5,h6,h7⟩:=hc
 simp only at h1 h2 h3 h4 h5 h6 h7
 dsimp only [b0.cells]
 refine calls [(0,_)] Tryz.func193 rfl Tryz.ntmps193 rfl ⟨rfl,trivial⟩ ?_
 refine WC.sr ?_;refine WL.ai (aB rfl) rfl rfl rfl ?_
 rintro _ g1 ⟨b1,rfl,bO,aQ,ay⟩
 refine Go ?_;refine G2 ?_;refine Ld ?_;refine WL.call (vs:=[_]) rfl Tryz.call187 rfl ((cW nm).as (congrArg Value.bool h1)) rfl rfl rfl ?_
 rintro _ hz ⟨rfl,_⟩
 subst hz
 refine Go ?_
 refine bG 6 ?_ TT.mk
 refine Gg ?_;refine Ld ?_;refine WL.step (aD (vs:=[_,_,_]) (cs:=[_,_,_]) (fun | [a0,a1,a2]=>[a0,a1,a2] | _=>[]) rfl rfl (by kernel_rfl)) rfl rfl rfl ?_
 refine Gg ?_;refine Ld ?_;refine WL.step (aD (vs:=[_,_,_]) (cs:=[_,_,_]) (fun | [a0,a1,a2]=>[a0,a1,a2] | _=>[]) rfl rfl (by kernel_rfl)) rfl rfl rfl ?_
 refine Gg ?_;refine Ld ?_;refine WL.step (aD (vs:=[_,_,_]) (cs:=[_,_,_]) (fun | [a0,a1,a2]=>[a0,a1,a2] | _=>[]) rfl rfl (by kernel_rfl)) rfl rfl rfl ?_
 refine Gg ?_;refine Ld ?_;refine WL.step (aD (vs:=[_,_,_]) (cs:=[_,_,_]) (fun | [a0,a1,a2]=>[a0,a1,a2] | _=>[]) rfl rfl (by kernel_rfl)) rfl rfl rfl ?_
 refine Gg ?_;refine Ld ?_;refine WL.step (aD (vs:=[_,_,_]) (cs:=[_,_,_]) (fun | [a0,a1,a2]=>[a0,a1,a2] | _=>[]) rfl rfl (by kernel_rfl)) rfl rfl rfl ?_
 refine Gg ?_;refine Ld ?_;refine WL.step (aD (vs:=[_,_,_]) (cs:=[_,_,_]) (fun | [a0,a1,a2]=>[a0,a1,a2] | _=>[]) rfl rfl (by kernel_rfl)) rfl rfl rfl ?_
 refine WL.ai (aw (vs:=[_,_,_,_,_,_]) (cs:=[_,_,_,_,_,_,_,_,_,_,_,_,_,_,_,_,_,_]) (fun | [.agg ⟨[a0,a1,a2]⟩,.agg ⟨[a3,a4,a5]⟩,.agg ⟨[a6,a7,a8]⟩,.agg ⟨[a9,gd,rE]⟩,.agg ⟨[a12,wS,wT]⟩,.agg ⟨[yN,Fp,Fq]⟩]=>[a0,a1,a2,a3,a4,a5,a6,a7,a8,a9,gd,rE,a12,wS,wT,yN,Fp,Fq] | _=>[]) Tryz.underlying337 rfl rfl (by kernel_rfl)) rfl rfl rfl ?_
 rintro _ g2 ⟨b2,rfl,eS,bH,aH⟩
 refine WL.call (vs:=[_]) rfl Tryz.call234 rfl (Fo [⟨t,0,4294967295⟩,⟨a,0,65535⟩,⟨o,0,4294967295⟩,⟨s,-32768,32767⟩,⟨m,-2147483648,2147483647⟩,⟨f,0,65535⟩] (bz bH rfl) (by simp [maxLen]) (by intro b hb;simp only [List.mem_cons,List.not_mem_nil,or_false] at hb;rcases hb with rfl | rfl | rfl | rfl | rfl | rfl <;> assumption)) rfl rfl rfl ?_
 rintro _ g3 ⟨rfl,aP⟩
 refine Go ?_;refine Gs [(2,_)] ?_;refine Gt ?_
 exact ⟨rfl,(ay.trans aH).trans aP⟩
def aY.okB (c:aY):Prop:=c.k ≠ 0∧aZ c.t=true
theorem yO {h:ah} (c:aY) (hc:c.okB):ag Tryz.prog 195 ⟨[.agg ⟨c.cells⟩]⟩ h fun u h'=>u=.bool true∧Ext No h h':=by
 obtain ⟨k,t⟩:=c
 obtain ⟨h1,h2⟩:=hc
 simp only at h1 h2
 dsimp only [aY.cells]
 refine calls [(0,_)] Tryz.func195 rfl Tryz.ntmps195 rfl ⟨rfl,trivial⟩ ?_
 refine WC.sr ?_;refine WL.ai (aB rfl) rfl rfl rfl ?_
 rintro _ g1 ⟨b1,rfl,bO,aQ,ay⟩
 refine Go ?_;refine G2 ?_;refine Ld ?_;refine Go ?_
 refine bG 6 ?_ TT.mk
 refine Gg ?_;refine Ld ?_;refine WL.call (vs:=[_]) rfl Tryz.call187 rfl ((cW t).as (congrArg Value.bool h2)) rfl rfl rfl ?_
 rintro _ hz ⟨rfl,_⟩
 subst hz
 refine Go ?_;refine Gs [(2,_)] ?_;refine Gt ?_
 exact ⟨rfl,ay⟩
def aX.okB (c:aX):Prop:=(c.null=true→c.bytes.length=0)∧c.bytes.length≤1048576
theorem CG {h h0:ah} (c:aX) (hk:c.ok h0) (hc:c.okB):ag Tryz.prog 197 ⟨[.agg ⟨c.cells⟩]⟩ h fun u h'=>u=.bool true∧Ext No h h':=by
 obtain ⟨nl,v,bs⟩:=c
 obtain ⟨h1,h2⟩:=hc
 simp only at h1 h2
 obtain ⟨A,cc,e,_⟩:=hk.1
 simp only at e
 subst e
 dsimp only [aX.cells]
 cases nl
 all_goals try have h3:=h1 rfl
 all_goals
   refine calls [(0,_)] Tryz.func197 rfl Tryz.ntmps197 rfl ⟨rfl,trivial⟩ ?_
   all_goals (refine WC.sr ?_;refine WL.ai (aB rfl) rfl rfl rfl ?_;rintro _ g1 ⟨b1,rfl,bO,aQ,ay⟩;refine Go ?_;refine G2 ?_;refine Ld ?_;refine Go ?_;refine bG 5 ?_ TT.mk;refine Gg ?_;first | refine WL.pass rfl rfl rfl ?_ | refine Ld ?_)
   all_goals (refine Gg ?_;refine Go ?_;refine bG 12 ?_ TT.mk;refine Gg ?_;refine Ld ?_;refine Gg ?_;refine Go ?_;refine Gs [(2,_)] ?_;refine Gt ?_;exact ⟨rfl,ay⟩)
theorem tD {h:ah} (n:Int) (h0:0≤n) (h1:n≤4294967295):ag Tryz.prog 199 ⟨[In n]⟩ h fun u h'=>u=.bool true∧h'=h:=by
 refine calls [(0,_)] Tryz.func199 rfl Tryz.ntmps199 rfl ⟨rfl,trivial⟩ ?_
 refine G2 ?_;refine G2 ?_
 refine bG 5 ?_ TT.mk
 refine Gg ?_;refine Go ?_;refine Gs [(2,_)] ?_;refine Gt ?_
 exact ⟨rfl,rfl⟩
theorem wU {h:ah} {v:Value} (l:List Int) (hr:Rd h v 1 l.length (ints l)) (hl:l.length≤65535) (hp:∀ n∈l,0≤n∧n≤4294967295) :
   ag Tryz.prog 198 ⟨[v,.func (.func 199) ⟨[]⟩ ⟨[]⟩]⟩ h fun u h'=>u=.bool true∧Ext No h h':=by
 have hf:∀ {h:ah} {b:Nat} {t:TypeId} (x:Int),x∈l→h[b]?=some (.cells ⟨[.func (.func 199) ⟨[]⟩ ⟨[]⟩]⟩ t (0,0))→ag Tryz.prog 238 ⟨[In x,.pointer (some ⟨b,0,none⟩)]⟩ h fun u h'=>u=.bool false∧h'=h:=by
   intro h b t x hx hb
   refine calls [(0,_),(1,_)] Tryz.func238 rfl Tryz.ntmps238 rfl ⟨rfl,rfl,trivial⟩ ?_
   refine G2 ?_;refine WC.sr ?_;refine Ld ?_;refine Go ?_;refine WL.dT (vs:=[_]) rfl rfl Tryz.call199 rfl (tD x (hp x hx).1 (hp x hx).2) rfl rfl rfl ?_
   rintro _ hz ⟨rfl,_⟩
   subst hz
   refine Go ?_;refine Gs [(3,_)] ?_;refine Gt ?_
   exact ⟨rfl,rfl⟩
 obtain ⟨A,c,rfl,_⟩:=id hr
 have hcon:∀ {h':ah} {b:Nat} {t:TypeId},Ext No h h'→h'[b]?=some (.cells ⟨[.func (.func 199) ⟨[]⟩ ⟨[]⟩]⟩ t (0,0))→ag Tryz.prog 182 ⟨[.slice A l.length c,.func (.func 238) ⟨[]⟩ ⟨[.pointer (some ⟨b,0,none⟩)]⟩]⟩ h' fun u h''=>u=.bool false∧h''=h':=by
   intro h' b t hx hb
   refine calls [(0,_),(1,_)] Tryz.func182 rfl Tryz.ntmps182 rfl ⟨rfl,rfl,trivial⟩ ?_
   refine G2 ?_;refine G2 ?_;refine WL.call (vs:=[_,_]) rfl Tryz.call229 rfl (gz l (fun _=>false) Tryz.call238 (fs:=[]) (us:=[.pointer (some ⟨b,0,none⟩)]) (hr.aq hx) (by unfold maxLen;omega) (fun x hxl=>hf x hxl hb)) rfl rfl rfl ?_
   rintro _ hz ⟨rfl,_⟩
   subst hz
   rw [cD (fun _ _=>rfl)]
   refine Go ?_;refine Gs [(4,_)] ?_;refine Gt ?_
   exact ⟨rfl,rfl⟩
 refine calls [(0,_),(1,_)] Tryz.func198 rfl Tryz.ntmps198 rfl ⟨rfl,rfl,trivial⟩ ?_
 refine WC.sr ?_;refine WL.ai (aB rfl) rfl rfl rfl ?_
 rintro _ h1 ⟨b1,rfl,bO,aQ,ay⟩
 refine Go ?_;refine G2 ?_
 refine bG 8 ?_ TT.mk
 refine Gg ?_;refine WL.step (cO (vs:=[]) (us:=[_]) rfl rfl) rfl rfl rfl ?_;refine WL.call (vs:=[_,_]) rfl Tryz.call182 rfl (hcon ay aQ) rfl rfl rfl ?_
 rintro _ hz ⟨rfl,_⟩
 subst hz
 refine Gg ?_;refine Go ?_;refine Gs [(4,_)] ?_;refine Gt ?_
 exact ⟨rfl,ay⟩
theorem iW {h:ah} {v w:Value} (l m:List UInt8) (hr:Rd h v 1 l.length (bu l)) (hs:Rd h w 1 m.length (bu m)) :
   ag Tryz.prog 12 ⟨[v,w]⟩ h fun u h'=>u=.bool (decide (l=m))∧h'=h:=by
 obtain ⟨A,c,rfl,_⟩:=id hr
 obtain ⟨B,d,rfl,_⟩:=id hs
 by_cases e:l=m
 all_goals
   refine calls [(0,_),(1,_)] Tryz.func12 rfl Tryz.ntmps12 rfl ⟨rfl,rfl,trivial⟩ ?_
   all_goals (refine G2 ?_;refine G2 ?_;refine WL.step (dS Tryz.underlying23 Tryz.underlying5 Tryz.underlying9 rfl hr) rfl rfl rfl (Go ?_);refine WL.step (dS Tryz.underlying23 Tryz.underlying5 Tryz.underlying9 rfl hs) rfl rfl rfl (Go ?_);refine Gs [(4,_)] ?_;refine Gt ?_;exact ⟨by simp [e],rfl⟩)
theorem tF {h:ah} (a b:aX) (ha:a.ok h) (hb:b.ok h) (e:a.pl=b.pl) :
   ag Tryz.prog 241 ⟨[.agg ⟨a.cells⟩,.agg ⟨b.cells⟩]⟩ h fun u h'=>u=.bool true∧Ext No h h':=by
 obtain ⟨n1,v1,l1⟩:=a
 obtain ⟨n2,v2,l2⟩:=b
 simp only [aX.pl,Prod.mk.injEq] at e
 obtain ⟨rfl,rfl⟩:=e
 obtain ⟨ha,_⟩:=ha
 obtain ⟨hb,_⟩:=hb
 simp only at ha hb
 obtain ⟨A,c,rfl,_⟩:=id ha
 obtain ⟨B,d,rfl,_⟩:=id hb
 dsimp only [aX.cells]
 cases n1
 all_goals
   refine calls [(0,_),(1,_)] Tryz.func241 rfl Tryz.ntmps241 rfl ⟨rfl,rfl,trivial⟩ ?_
   all_goals (refine WC.sr ?_;refine WL.ai (aB rfl) rfl rfl rfl ?_;rintro _ h1 ⟨b1,rfl,bO,aQ,ay⟩;refine WL.ai (aB rfl) rfl rfl rfl ?_;rintro _ h2 ⟨b2,rfl,eS,bH,aH⟩;have og:=aH.obj aQ aO;have hx:=ay.trans aH;refine Go ?_;refine G2 ?_;refine Ld ?_;refine Go ?_;refine Ld ?_;refine WL.step (bK.dL (by rfl) (kj Tryz.underlying4 rfl rfl)) rfl rfl rfl (Go ?_);refine bG 10 ?_ TT.mk;refine Gg ?_;refine Ld ?_;refine Gg ?_;refine Ld ?_;refine WL.call (vs:=[_,_]) rfl Tryz.call12 rfl ((iW l1 l1 (ha.aq hx) (hb.aq hx)).as (congrArg Value.bool (decide_eq_true rfl))) rfl rfl rfl ?_;rintro _ hz ⟨rfl,_⟩;subst hz;refine Go ?_;refine Gs [(4,_)] ?_;refine Gt ?_;exact ⟨rfl,hx⟩)
theorem Fs {α β:Type} {F:α→β} {l m:List α} {k:Nat} {a b:α} (e:l.map F=m.map F) (ha:l[k]?=some a) (hb:m[k]?=some b):F a=F b:=by
 have:=congrArg (·[k]?) e
 simpa [ha,hb] using this
theorem tG {h:ah} {v w:Value} (l m:List aX) (hl:cF h v l) (hm:cF h w m) (e:l.map aX.pl=m.map aX.pl) :
   ag Tryz.prog 189 ⟨[v,w,.func (.func 241) ⟨[]⟩ ⟨[]⟩]⟩ h fun u h'=>u=.bool true∧Ext No h h':=by
 obtain ⟨hr,⟨hlm,A,c,rfl,_⟩,ho⟩:=hl
 obtain ⟨hs,⟨hmm,B,d,rfl,_⟩,hp⟩:=hm
 have hlen:m.length=l.length:=by simpa using (congrArg List.length e).symm
 unfold reachBytes at hlm
 refine calls [(0,_),(1,_),(2,_)] Tryz.func189 rfl Tryz.ntmps189 rfl ⟨rfl,rfl,rfl,trivial⟩ ?_
 refine G2 ?_;refine G3 ?_;refine Gs [(0,_),(1,_),(2,_),(14,_)] ?_
 refine aJ 1 2 ?_ TT.mk
 all_goals (refine ax 2 ?_)
 refine WC.skip ?_;refine Gn ?_;refine G3 ?_;refine WC.block ?_;refine WC.bC (X:=Nat) (fun x=>([(17,In (x:Int))]:Fr)) [(1,_),(2,_),(15,_),(16,_)] (fun k h'=>Ext No h h'∧k≤l.length) (fun k=>l.length - k) (0) ⟨rfl,rfl,rfl,rfl,rfl,trivial⟩ (by exact ⟨.refl _ _,Nat.zero_le _⟩) ?_
 rintro k h1 ⟨ay,hk⟩
 refine WC.sub [(17,_),(1,_),(2,_),(15,_),(16,_)] ⟨rfl,rfl,rfl,rfl,rfl,trivial⟩ ?_;refine G2 ?_;refine WC.seq ?_
 refine aJ 3 4 (Hb.mk fun hb=>?_) (Hb.mk fun hb=>?_)
 all_goals try (
 refine ax 3 ?_
 refine WC.skip ?_
 skip)
 all_goals try (
 refine ax 4 ?_
 refine WC.exit ?_
 repeat' (with_reducible first | refine aU ?_ | refine aG rfl ?_ | refine aI ?_ | refine aL ?_ | refine aS ?_)
 refine Br.out (i:=1000) ?_
 skip)
 all_goals (refine Gn ?_;first | refine Br.ab ?_ | refine WC.seq ?_)
 all_goals (first | refine Br.ab ?_ | refine WC.block ?_)
 all_goals (first | refine Br.ab ?_ | refine WC.sr ?_)
 all_goals (
  first
    | (refine Br.ab ?_)
    | (obtain ⟨bL,oL,hA,hbL,hat⟩:=Rd.at_ (hr.aq ay) (by omega)
       obtain ⟨bM,oM,hB,hbM,hbt⟩:=Rd.at_ (hs.aq ay) (by omega)
       obtain ⟨y,hy⟩:∃ y,l[k]?=some y:=⟨_,List.getElem?_eq_getElem (by omega)⟩
       obtain ⟨z,hz⟩:∃ y,m[k]?=some y:=⟨_,List.getElem?_eq_getElem (by omega)⟩
       have hyo:=ho y (List.mem_of_getElem? hy)
       have hzo:=hp z (List.mem_of_getElem? hz)
       have rD:At h1 bL (oL+k * 2) y.cells:=At.elem aX.len hat hy
       have xZ:At h1 bM (oM+k * 2) z.cells:=At.elem aX.len hbt hz
       have yP:∀ v∈y.cells,v.oneCell'=true:=by obtain ⟨A1,c1,e1,_⟩:=hyo.1;simp [aX.cells,Value.oneCell',e1]
       have mr:∀ v∈z.cells,v.oneCell'=true:=by obtain ⟨A1,c1,e1,_⟩:=hzo.1;simp [aX.cells,Value.oneCell',e1]))
 all_goals (first | refine Br.ab ?_ | refine WL.step (ak rfl) rfl rfl rfl ?_)
 all_goals (first | refine Br.ab ?_ | (refine WL.step (aF Tryz.underlying40 Tryz.sizeOf85 rfl rfl rfl (by omega) (by first | rfl | assumption)) rfl rfl rfl ?_))
 all_goals (first | refine Br.ab ?_ | (refine WL.step (an Tryz.isAgg85 Tryz.sizeOf85 rfl rfl (by assumption)) rfl rfl rfl ?_))
 all_goals (
  first
    | (refine Br.ab ?_)
    | (refine WL.ai (av (fun w=>Tryz.zeroValue85 w)) rfl rfl rfl ?_
       rintro _ h2 ⟨b2,rfl,eS,bH,aH⟩))
 all_goals (refine Go ?_)
 all_goals (
  first
    | (refine Br.ab ?_)
    | (refine WL.az (al Tryz.sizeOf85 rfl rfl rfl (by assumption) rfl yP) rfl rfl ?_
       rintro _ h3 ⟨bn,aP⟩))
 all_goals (first | refine Br.ab ?_ | (have il:Ext No h1 h3:=aH.trans' aP (fun q hq e=>by omega)))
 all_goals (refine Gn ?_;first | refine Br.ab ?_ | refine Gs [(1,_),(2,_),(7,_),(8,_),(15,_),(16,_),(17,_)] ?_)
 all_goals (first | refine Br.ab ?_ | refine WC.sr ?_)
 all_goals (refine Go ?_;first | refine Br.ab ?_ | (refine WL.step (aF Tryz.underlying40 Tryz.sizeOf85 rfl rfl rfl (by omega) (by first | rfl | assumption)) rfl rfl rfl ?_))
 all_goals (first | refine Br.ab ?_ | (refine WL.step (an Tryz.isAgg85 Tryz.sizeOf85 rfl rfl (by exact xZ.ext il aO)) rfl rfl rfl ?_))
 all_goals (
  first
    | (refine Br.ab ?_)
    | (refine WL.ai (av (fun w=>Tryz.zeroValue85 w)) rfl rfl rfl ?_
       rintro _ h4 ⟨b4,rfl,oF,bx,aW⟩))
 all_goals (
  first
    | (refine Br.ab ?_)
    | (refine WL.az (al Tryz.sizeOf85 rfl rfl rfl (by assumption) rfl mr) rfl rfl ?_
       rintro _ h5 ⟨bT,aN⟩))
 all_goals (
  first
    | (refine Br.ab ?_)
    | (have rF:Ext No h3 h5:=aW.trans' aN (fun q hq e=>by omega)
       have pP:=rF.obj bn aO
       have kM:=ay.trans (il.trans rF)))
 all_goals (refine Gn ?_;first | refine Br.ab ?_ | refine Gs [(1,_),(2,_),(8,_),(9,_),(15,_),(16,_),(17,_)] ?_)
 all_goals (first | refine Br.ab ?_ | refine WC.sr ?_)
 all_goals (refine Go ?_;first | refine Br.ab ?_ | (refine WL.step (an Tryz.isAgg85 Tryz.sizeOf85 rfl rfl (by exact At.au pP)) rfl rfl rfl ?_))
 all_goals (first | refine Br.ab ?_ | (refine WL.step (an Tryz.isAgg85 Tryz.sizeOf85 rfl rfl (by exact At.au bT)) rfl rfl rfl ?_))
 all_goals (
  first
    | (refine Br.ab ?_)
    | (refine WL.dT (vs:=[_,_]) rfl rfl Tryz.call241 rfl (tF y z (hyo.aq kM) (hzo.aq kM) (Fs e hy hz)) rfl rfl rfl ?_
       rintro _ h6 ⟨rfl,aM⟩))
 all_goals (refine Go ?_;first | refine Br.ab ?_ | refine Gs [(1,_),(2,_),(15,_),(16,_),(17,_),(30,_)] ?_)
 all_goals (first | refine Br.ab ?_ | refine aJ 5 6 ?_ TT.mk)
 all_goals try (
 refine ax 6 ?_
 refine WC.skip ?_
 skip)
 all_goals (refine Gn ?_;first | refine Br.ab ?_ | refine WC.region ?_)
 all_goals (refine Go ?_;first | refine Br.ab ?_ | (exact ⟨k+1,⟨rfl,rfl,rfl,rfl,rfl,trivial⟩,(by exact ⟨kM.trans aM,by omega⟩),(by omega)⟩))
 try (refine Br.mk (i:=1000) ?_)
 refine Gn ?_;refine Gs [] ?_;refine G2 ?_;refine Gt ?_
 exact ⟨rfl,ay⟩
theorem wV {h:ah} (a b:Bk) (ha:a.ok h) (hb:b.ok h) (e:a.pl=b.pl) :
   ag Tryz.prog 201 ⟨[.agg ⟨a.cells⟩,.agg ⟨b.cells⟩]⟩ h fun u h'=>u=.bool true∧Ext No h h':=by
 obtain ⟨k1,s1,t1,n1,v1,x1,y1,JU,l1,MI,c1,MJ,r1,JV,f1⟩:=a
 obtain ⟨k2,s2,t2,n2,v2,x2,y2,JW,l2,MK,c2,ML,r2,JX,f2⟩:=b
 simp only [Bk.pl,Prod.mk.injEq] at e
 obtain ⟨rfl,rfl,rfl,rfl,rfl,rfl,rfl,rfl,rfl,er,rfl⟩:=e
 obtain ⟨⟨ao,hlo⟩,⟨ac,hlc⟩,ar,af,hlf⟩:=ha
 obtain ⟨⟨bo,_⟩,⟨bc,_⟩,br,bf,_⟩:=hb
 simp only at ao ac ar af bo bc br bf hlo hlc hlf
 obtain ⟨Ao,co,rfl,_⟩:=id ao
 obtain ⟨Bo,do_,rfl,_⟩:=id bo
 dsimp only [Bk.cells]
 refine calls [(0,_),(1,_)] Tryz.func201 rfl Tryz.ntmps201 rfl ⟨rfl,rfl,trivial⟩ ?_
 refine WC.sr ?_;refine WL.ai (aB rfl) rfl rfl rfl ?_
 rintro _ h1 ⟨b1,rfl,bO,aQ,ay⟩
 refine WL.ai (aB rfl) rfl rfl rfl ?_
 rintro _ h2 ⟨b2,rfl,eS,bH,aH⟩
 have og:=aH.obj aQ aO
 have hx:=ay.trans aH
 refine Go ?_;refine G2 ?_;refine Ld ?_;refine Go ?_;refine Ld ?_;refine Go ?_;refine Ld ?_;refine WL.step (aD (vs:=[_,_,_]) (cs:=[_,_,_]) (fun | [a0,a1,a2]=>[a0,a1,a2] | _=>[]) rfl rfl (by kernel_rfl)) rfl rfl rfl (Go ?_)
 refine Ld ?_;refine Go ?_;refine Ld ?_;refine Go ?_;refine Ld ?_;refine WL.step (aD (vs:=[_,_,_]) (cs:=[_,_,_]) (fun | [a0,a1,a2]=>[a0,a1,a2] | _=>[]) rfl rfl (by kernel_rfl)) rfl rfl rfl ?_
 refine WL.step (bK.dL rfl (mM (us:=[t1,n1,v1]) (vs:=[t1,n1,v1]) Tryz.underlying251 (show Tryz.prog.info? 9=some Tryz.t9 by kernel_rfl) Tryz.underlying9 (by kernel_rfl) (by kernel_rfl) (by kernel_rfl) rfl rfl rfl rfl)) rfl rfl rfl (Go ?_)
 refine Gs [(2,_),(3,_),(5,_)] ?_;refine G2 ?_;refine Ld ?_;refine Go ?_;refine Ld ?_;refine Go ?_
 refine bG 28 ?_ TT.mk
 refine Gg ?_;refine Ld ?_;refine Gg ?_;refine Ld ?_;refine Gg ?_;refine Go ?_
 refine bG 35 ?_ TT.mk
 refine Gg ?_;refine Ld ?_;refine Gg ?_;refine Ld ?_;refine Gg ?_;refine Go ?_
 refine bG 42 ?_ TT.mk
 refine Gg ?_;refine Ld ?_;refine Gg ?_;refine Ld ?_;refine Gg ?_;refine Go ?_;refine Gs [(2,_),(3,_),(5,_),(6,_)] ?_;refine G2 ?_;refine Ld ?_;refine Go ?_;refine Ld ?_;refine WL.call (vs:=[_,_]) rfl Tryz.call188 rfl ((gJ _ _ (ao.aq hx) (bo.aq hx) hlo).as (congrArg Value.bool (decide_eq_true rfl))) rfl rfl rfl ?_
 rintro _ hz ⟨rfl,_⟩
 subst hz
 refine Go ?_
 refine bG 54 ?_ TT.mk
 refine Gg ?_;refine Ld ?_;refine Gg ?_;refine Ld ?_;refine WL.call (vs:=[_,_]) rfl Tryz.call239 rfl (wP _ (ac.aq hx) (bc.aq hx) hlc) rfl rfl rfl ?_
 rintro _ hz ⟨rfl,_⟩
 subst hz
 refine Go ?_
 refine bG 61 ?_ TT.mk
 refine Gg ?_;refine Ld ?_;refine Gg ?_;refine Ld ?_;refine WL.call (vs:=[_,_]) rfl Tryz.call240 rfl (wQ _ (af.aq hx) (bf.aq hx) hlf) rfl rfl rfl ?_
 rintro _ hz ⟨rfl,_⟩
 subst hz
 refine Go ?_;refine Gs [(2,_),(3,_),(5,_),(6,_),(7,_)] ?_;refine G2 ?_
 refine bG 69 ?_ TT.mk
 refine Gg ?_;refine Go ?_
 refine bG 72 ?_ TT.mk
 refine Gg ?_;refine Go ?_
 refine bG 75 ?_ TT.mk
 refine Gg ?_;refine Ld ?_;refine Gg ?_;refine Ld ?_;refine WL.call (vs:=[_,_,_]) rfl Tryz.call189 rfl (tG _ _ (ar.aq hx) (br.aq hx) er) rfl rfl rfl ?_
 rintro _ h3 ⟨rfl,aP⟩
 refine Go ?_;refine Gs [(4,_)] ?_;refine Gt ?_
 exact ⟨rfl,hx.trans aP⟩
def zB (k : Int) : Bk := ⟨k, 0, [], [], [], 0, 0, .slice none 0 0, [], .slice none 0 0, [], .slice none 0 0, [], .slice none 0 0, []⟩
def qU (b : Bk) : Bk :=
 if b.kind = 83 then { zB b.kind with name := b.name, value := b.value }
 else if b.kind = 75 then { zB b.kind with n := b.n, m := b.m }
 else if b.kind = 90 then { zB b.kind with status := b.status }
 else if b.kind = 67 then { zB b.kind with tag := b.tag }
 else if b.kind = 68 then { zB b.kind with vr := b.vr, row := b.row }
 else if b.kind = 84 then { zB b.kind with vc := b.vc, cols := b.cols }
 else if b.kind = 116 then { zB b.kind with vo := b.vo, oids := b.oids }
 else if b.kind = 69 ∨ b.kind = 78 then { zB b.kind with vf := b.vf, fields := b.fields }
 else zB b.kind
theorem gr (h : ah) : cF h (.slice none 0 0) [] := ⟨Rd.nil _ _, ⟨by simp, _, _, rfl, by decide⟩, by simp⟩
theorem HK (h : ah) (k : Int) : (zB k).ok h := ⟨⟨Rd.nil _ _, by simp [zB]⟩, ⟨Rd.nil _ _, by simp [zB]⟩, gr h, ⟨Rd.nil _ _, by simp [zB]⟩⟩
theorem yQ {h : ah} {b : Bk} (k : b.ok h) : (qU b).ok h := by
 obtain ⟨k1, k2, k3, k4⟩ := k
 obtain ⟨z1, z2, z3, z4⟩ := HK h b.kind
 unfold qU
 repeat' split
 all_goals first | exact ⟨z1, z2, z3, z4⟩ | exact ⟨z1, z2, k3, z4⟩ | exact ⟨z1, k2, z3, z4⟩ | exact ⟨k1, z2, z3, z4⟩ | exact ⟨z1, z2, z3, k4⟩
theorem vw {h : ah} (b : Bk) (hb : b.ok h) : ag Tryz.prog 202 ⟨[.agg ⟨b.cells⟩]⟩ h fun u h' => u = .agg ⟨(qU b).cells⟩ ∧ Ext No h h' := by
 obtain ⟨k, st, t, n, v, x, y, vo, lo, vc, lc, vr, lr, vf, lf⟩ := b
 obtain ⟨⟨ho, _⟩, ⟨hc, _⟩, hr, hf, _⟩ := hb
 simp only at ho hc hr hf
 obtain ⟨A1, c1, rfl, _⟩ := id ho
 obtain ⟨A2, c2, rfl, _⟩ := id hc
 obtain ⟨_, ⟨_, A3, c3, rfl, _⟩, _⟩ := id hr
 obtain ⟨A4, c4, rfl, _⟩ := id hf
 dsimp only [Bk.cells]
 refine calls [(0, _)] Tryz.func202 rfl Tryz.ntmps202 rfl ⟨rfl, trivial⟩ ?_
 refine WC.sr ?_; refine WL.ai (aB rfl) rfl rfl rfl ?_
 rintro _ h1 ⟨b1, rfl, bO, aQ, ay⟩
 refine WL.ai (av (fun w => Tryz.zeroValue140 w)) rfl rfl rfl ?_
 rintro _ h2 ⟨b2, rfl, eS, bH, aH⟩
 have rG := aH.obj aQ aO
 refine Gn ?_; refine G2 ?_; refine Ld ?_; refine WL.step (aD (vs := [_]) (cs := [_, _, _, _, _, _, _, _, _, _, _]) (fun | [a0] => [a0, (.int .u8 0), (St []), (St []), (St []), (.int .i64 0), (.int .i64 0), (.slice none 0 0), (.slice none 0 0), (.slice none 0 0), (.slice none 0 0)] | _ => []) rfl rfl (by kernel_rfl)) rfl rfl rfl ?_
 refine WL.ai (av (fun w => Tryz.zeroValue140 w)) rfl rfl rfl ?_
 rintro _ h3 ⟨b3, rfl, gb, bn, aP⟩
 have yR := aP.obj rG aO
 have yS := aP.obj bH aO
 have gK : ¬ b1 = b3 := by have := aj rG; omega
 have lz : ¬ b2 = b3 := by have := aj bH; omega
 refine WL.az (al Tryz.sizeOf140 rfl rfl rfl (by assumption) rfl (by simp [Value.oneCell'])) rfl rfl ?_
 rintro _ h4 ⟨bx, aW⟩
 have eH := aW.obj yR gK
 have fe := aW.obj yS lz
 have nk : Ext No h h4 := ((ay.trans aH).trans aP).trans' aW (fun q hq e => by have := ay.size; have := aH.size; omega)
 refine Gn ?_; refine Gs [(1, _), (2, _), (3, _)] ?_; refine G3 ?_; refine Ld ?_; refine Gn ?_; refine WC.block ?_; refine G2 ?_
 refine aJ 1 2 (Hb.mk fun hb => ?_) (Hb.mk fun hb => ?_)
 all_goals try (
 refine ax 1 ?_
 refine WC.bW (fun h' => Ext (fun q => q = b3) h4 h') 7 8 rfl dk ?_
 refine WH.tk 0 rfl (fun hq hC => ad rfl Tryz.underlying140 rfl Tryz.sizeOf9) rfl rfl rfl ?_ (hC := (by first | exact Ext.refl _ _ | assumption | exact aN.trans aM))
 refine WH.tk 1 rfl (fun hq hC => aA Tryz.isAgg9 rfl (by first | exact hC.cell (by first | exact aa eH rfl | assumption) gK)) rfl rfl rfl ?_ (hC := (by first | exact Ext.refl _ _ | assumption | exact aN.trans aM))
 refine WH.tk 2 rfl (fun hq hC => ad rfl Tryz.underlying140 rfl Tryz.sizeOf9) rfl rfl rfl ?_ (hC := (by first | exact Ext.refl _ _ | assumption | exact aN.trans aM))
 refine WH.tk 3 rfl (fun hq hC => aA Tryz.isAgg9 rfl (by first | exact hC.cell (by first | exact aa eH rfl | assumption) gK)) rfl rfl rfl ?_ (hC := (by first | exact Ext.refl _ _ | assumption | exact aN.trans aM))
 refine WH.tk 4 rfl (fun hq hC => ad rfl Tryz.underlying140 rfl Tryz.sizeOf9) rfl rfl rfl ?_ (hC := (by first | exact Ext.refl _ _ | assumption | exact aN.trans aM))
 refine WH.one 5 (by kernel_rfl) ?_
 refine aE.cQ rfl (aC Tryz.sizeOf9 rfl rfl (by assumption) (Nat.le_of_ble_eq_true rfl) rfl rfl) rfl rfl ?_ (fun _ => by kernel_rfl)
 rintro _ h5 ⟨bT, aN⟩
 refine ⟨fun _ => aN, ?_⟩
 refine WH.tk 6 rfl (fun hq hC => ad rfl Tryz.underlying140 rfl Tryz.sizeOf9) rfl rfl rfl ?_ (hC := (by first | exact Ext.refl _ _ | assumption | exact aN.trans aM))
 refine WH.one 7 (by kernel_rfl) ?_
 refine aE.cQ rfl (aC Tryz.sizeOf9 rfl rfl (by assumption) (Nat.le_of_ble_eq_true rfl) rfl rfl) rfl rfl ?_ (fun _ => by kernel_rfl)
 rintro _ h6 ⟨bN, aM⟩
 refine ⟨fun _ => aN.trans aM, ?_⟩
 have hE := aN.trans aM
 have gg := hE.obj fe lz
 refine WH.done (by kernel_rfl) ?_
 skip)
 all_goals try (
 refine ax 2 ?_
 refine G2 ?_; refine Gs [(1, _), (2, _), (3, _), (8, _), (17, _)] ?_
 refine aJ 3 4 (Hb.mk fun hb => ?_) (Hb.mk fun hb => ?_)
 all_goals try (
 refine ax 3 ?_
 refine WC.bW (fun h' => Ext (fun q => q = b3) h4 h') 7 8 rfl dk ?_
 refine WH.tk 0 rfl (fun hq hC => ad rfl Tryz.underlying140 rfl Tryz.sizeOf3) rfl rfl rfl ?_ (hC := (by first | exact Ext.refl _ _ | assumption | exact aN.trans aM))
 refine WH.tk 1 rfl (fun hq hC => aA Tryz.isAgg3 rfl (by first | exact hC.cell (by first | exact aa eH rfl | assumption) gK)) rfl rfl rfl ?_ (hC := (by first | exact Ext.refl _ _ | assumption | exact aN.trans aM))
 refine WH.tk 2 rfl (fun hq hC => ad rfl Tryz.underlying140 rfl Tryz.sizeOf3) rfl rfl rfl ?_ (hC := (by first | exact Ext.refl _ _ | assumption | exact aN.trans aM))
 refine WH.tk 3 rfl (fun hq hC => aA Tryz.isAgg3 rfl (by first | exact hC.cell (by first | exact aa eH rfl | assumption) gK)) rfl rfl rfl ?_ (hC := (by first | exact Ext.refl _ _ | assumption | exact aN.trans aM))
 refine WH.tk 4 rfl (fun hq hC => ad rfl Tryz.underlying140 rfl Tryz.sizeOf3) rfl rfl rfl ?_ (hC := (by first | exact Ext.refl _ _ | assumption | exact aN.trans aM))
 refine WH.one 5 (by kernel_rfl) ?_
 refine aE.cQ rfl (aC Tryz.sizeOf3 rfl rfl (by assumption) (Nat.le_of_ble_eq_true rfl) rfl rfl) rfl rfl ?_ (fun _ => by kernel_rfl)
 rintro _ h5 ⟨bT, aN⟩
 refine ⟨fun _ => aN, ?_⟩
 refine WH.tk 6 rfl (fun hq hC => ad rfl Tryz.underlying140 rfl Tryz.sizeOf3) rfl rfl rfl ?_ (hC := (by first | exact Ext.refl _ _ | assumption | exact aN.trans aM))
 refine WH.one 7 (by kernel_rfl) ?_
 refine aE.cQ rfl (aC Tryz.sizeOf3 rfl rfl (by assumption) (Nat.le_of_ble_eq_true rfl) rfl rfl) rfl rfl ?_ (fun _ => by kernel_rfl)
 rintro _ h6 ⟨bN, aM⟩
 refine ⟨fun _ => aN.trans aM, ?_⟩
 have hE := aN.trans aM
 have gg := hE.obj fe lz
 refine WH.done (by kernel_rfl) ?_
 skip)
 all_goals try (
 refine ax 4 ?_
 refine G2 ?_
 refine aJ 5 6 (Hb.mk fun hb => ?_) (Hb.mk fun hb => ?_)
 all_goals try (
 refine ax 5 ?_
 refine WC.region (Go ?_); refine Ld ?_; refine Go ?_; refine WL.az (aC Tryz.sizeOf5 rfl rfl (by assumption) (Nat.le_of_ble_eq_true rfl) rfl rfl) rfl rfl ?_
 rintro _ h5 ⟨bT, hE⟩
 have gg := hE.obj fe lz
 refine Gn ?_
 skip)
 all_goals try (
 refine ax 6 ?_
 refine G2 ?_; refine Gs [(1, _), (2, _), (3, _), (8, _), (30, _)] ?_
 refine aJ 7 8 (Hb.mk fun hb => ?_) (Hb.mk fun hb => ?_)
 all_goals try (
 refine ax 7 ?_
 refine WC.region (Go ?_); refine Ld ?_; refine Go ?_; refine WL.az (aC Tryz.sizeOf9 rfl rfl (by assumption) (Nat.le_of_ble_eq_true rfl) rfl rfl) rfl rfl ?_
 rintro _ h5 ⟨bT, hE⟩
 have gg := hE.obj fe lz
 refine Gn ?_
 skip)
 all_goals try (
 refine ax 8 ?_
 refine G2 ?_
 refine aJ 9 10 (Hb.mk fun hb => ?_) (Hb.mk fun hb => ?_)
 all_goals try (
 refine ax 9 ?_
 refine WC.region (Go ?_); refine Ld ?_; refine Go ?_; refine WL.az (aC Tryz.sizeOf40 rfl rfl (by assumption) (Nat.le_of_ble_eq_true rfl) rfl rfl) rfl rfl ?_
 rintro _ h5 ⟨bT, hE⟩
 have gg := hE.obj fe lz
 refine Gn ?_
 skip)
 all_goals try (
 refine ax 10 ?_
 refine G2 ?_; refine Gs [(1, _), (2, _), (3, _), (8, _), (40, _)] ?_
 refine aJ 11 12 (Hb.mk fun hb => ?_) (Hb.mk fun hb => ?_)
 all_goals try (
 refine ax 11 ?_
 refine WC.region (Go ?_); refine Ld ?_; refine Go ?_; refine WL.az (aC Tryz.sizeOf137 rfl rfl (by assumption) (Nat.le_of_ble_eq_true rfl) rfl rfl) rfl rfl ?_
 rintro _ h5 ⟨bT, hE⟩
 have gg := hE.obj fe lz
 refine Gn ?_
 skip)
 all_goals try (
 refine ax 12 ?_
 refine G2 ?_
 refine aJ 13 14 (Hb.mk fun hb => ?_) (Hb.mk fun hb => ?_)
 all_goals try (
 refine ax 13 ?_
 refine WC.region (Go ?_); refine Ld ?_; refine Go ?_; refine WL.az (aC Tryz.sizeOf39 rfl rfl (by assumption) (Nat.le_of_ble_eq_true rfl) rfl rfl) rfl rfl ?_
 rintro _ h5 ⟨bT, hE⟩
 have gg := hE.obj fe lz
 refine Gn ?_
 skip)
 all_goals try (
 refine ax 14 ?_
 refine G3 ?_; refine Gs [(1, _), (2, _), (3, _), (8, _), (50, _)] ?_
 refine aJ 15 16 (Hb.mk fun hb => ?_) (Hb.mk fun hb => ?_)
 all_goals try (
 refine ax 15 ?_
 refine WC.skip ?_
 skip)
 all_goals try (
 refine ax 16 ?_
 refine WC.region (Go ?_)
 skip)
 all_goals (refine Gn ?_; refine aJ 17 18 (Hb.mk fun hb => ?_) (Hb.mk fun hb => ?_))
 all_goals try (
 refine ax 17 ?_
 all_goals (refine WC.region (Go ?_); refine Ld ?_; refine Go ?_; refine WL.az (aC Tryz.sizeOf138 rfl rfl (by assumption) (Nat.le_of_ble_eq_true rfl) rfl rfl) rfl rfl ?_; rintro _ h5 ⟨bT, hE⟩; have gg := hE.obj fe lz; refine Gn ?_)
 skip)
 all_goals try (
 refine ax 18 ?_
 all_goals (refine WC.skip ?_)
 skip)
 skip)
 skip)
 skip)
 skip)
 skip)
 skip)
 skip)
 all_goals (refine Gn ?_; refine WC.sr ?_; refine WL.step (an Tryz.isAgg140 Tryz.sizeOf140 rfl rfl (by exact (by first | exact At.au bN | exact At.au bT | exact At.au bx))) rfl rfl rfl ?_; refine WL.az (al Tryz.sizeOf140 rfl rfl rfl (by first | exact gg | exact fe) rfl (by simp [Value.oneCell'])) rfl rfl ?_; rintro _ h9 ⟨bQ, cg⟩; refine Gn ?_; refine Gs [(2, _)] ?_; refine WC.ret ?_; repeat' (with_reducible first | refine ba ?_ | refine aV ?_))
 all_goals (refine bY _ ⟨⟨_, rfl, bB Tryz.isAgg140 Tryz.sizeOf140 (by assumption) rfl⟩, trivial⟩ ?_)
 all_goals (
  have qX := ay.size
  have xY := aH.size
  refine ⟨?_, by first | exact (nk.trans' hE (fun q hq e => by omega)).trans' cg (fun q hq e => by omega) | exact nk.trans' cg (fun q hq e => by omega)⟩
  first
   | (exfalso; omega)
   | (simp only [qU, if_pos, *]; rfl)
   | (simp [qU, zB, Bk.cells, *]; done))
def nn : List UInt8 := [82, 83, 75, 90, 49, 50, 51, 110, 115, 73, 67, 68, 84, 116, 69, 78]
theorem tH {h : ah} (k : UInt8) (hk : nn.contains k = true) : ag Tryz.prog 191 ⟨[By k]⟩ h fun u h' => u = .bool true ∧ Ext No h h' := by
 have e1 := Lib.contains_iff_indexByte [82, 83, 75, 90, 49, 50, 51, 110, 115, 73, 67, 68, 84, 116, 69, 78] k
 rw [show ([82, 83, 75, 90, 49, 50, 51, 110, 115, 73, 67, 68, 84, 116, 69, 78] : List UInt8).contains k = true from hk] at e1
 refine calls [(0, _)] Tryz.func191 rfl Tryz.ntmps191 rfl ⟨rfl, trivial⟩ ?_
 refine G2 ?_; refine WC.sr ?_; refine WL.ai (aw (vs := [_, _, _, _, _, _, _, _, _, _, _, _, _, _, _, _]) (cs := [_, _, _, _, _, _, _, _, _, _, _, _, _, _, _, _]) (fun | [a0, a1, a2, a3, a4, a5, a6, a7, a8, a9, gd, rE, a12, wS, wT, yN] => [a0, a1, a2, a3, a4, a5, a6, a7, a8, a9, gd, rE, a12, wS, wT, yN] | _ => []) Tryz.underlying23 rfl rfl (by kernel_rfl)) rfl rfl rfl ?_
 rintro _ h1 ⟨b1, rfl, bO, aQ, ay⟩
 refine WL.ai (fK Tryz.underlying23 Tryz.underlying5 rfl (by assumption)) rfl rfl rfl ?_
 rintro _ h2 ⟨rfl, ⟨z2, bH⟩, aH⟩
 refine Go ?_; refine WL.call (vs := [_, _]) rfl Tryz.call126 rfl (dh [82, 83, 75, 90, 49, 50, 51, 110, 115, 73, 67, 68, 84, 116, 69, 78] k (bz bH rfl) (by simp)) rfl rfl rfl ?_
 rintro _ hz ⟨rfl, _⟩
 subst hz
 refine WL.step (bK.dL (of_decide_eq_true e1.symm) (dm rfl rfl)) rfl rfl rfl (Go ?_); refine Gs [(2, _)] ?_; refine Gt ?_
 exact ⟨rfl, ay.trans' aH (fun q hq e => by omega)⟩
def Bk.kN (b : Bk) : Prop := b.kind ≠ 90 ∨ b.status = 73 ∨ b.status = 84 ∨ b.status = 69
theorem wW {h : ah} (b : Bk) (hb : b.ok h) (hs : b.kN) : ag Tryz.prog 200 ⟨[.agg ⟨b.cells⟩]⟩ h fun u h' => u = .bool true ∧ Ext No h h' := by
 obtain ⟨k, st, t, n, v, x, y, vo, lo, vc, lc, vr, lr, vf, lf⟩ := b
 simp only [Bk.kN] at hs
 dsimp only [Bk.cells]
 by_cases hk : k = 90
 · subst hk
   simp only [ne_eq, not_true_eq_false, false_or] at hs
   rcases hs with rfl | rfl | rfl
   all_goals
     refine calls [(0, _)] Tryz.func200 rfl Tryz.ntmps200 rfl ⟨rfl, trivial⟩ ?_
     all_goals (refine WC.sr ?_; refine WL.ai (aB rfl) rfl rfl rfl ?_; rintro _ h1 ⟨b1, rfl, bO, aQ, ay⟩; refine Go ?_; refine G2 ?_; refine Ld ?_; refine Go ?_; refine bG 6 ?_ TT.mk; refine Gg ?_; refine Ld ?_; refine Gg ?_; refine Go ?_; refine bG 11 ?_ TT.mk; refine Gg ?_; first | refine WL.pass rfl rfl rfl ?_ | refine Ld ?_)
     all_goals (refine Gg ?_; refine Go ?_; refine bG 16 ?_ TT.mk; refine Gg ?_; first | refine WL.pass rfl rfl rfl ?_ | refine Ld ?_)
     all_goals (refine Gg ?_; refine Go ?_; refine Gs [(2, _)] ?_; refine Gt ?_; exact ⟨rfl, ay⟩)
 ·
   refine calls [(0, _)] Tryz.func200 rfl Tryz.ntmps200 rfl ⟨rfl, trivial⟩ ?_
   refine WC.sr ?_; refine WL.ai (aB rfl) rfl rfl rfl ?_
   rintro _ h1 ⟨b1, rfl, bO, aQ, ay⟩
   refine Go ?_; refine G2 ?_; refine Ld ?_; refine Go ?_
   refine bG 6 ?_ TT.mk
   refine Gg ?_; refine WL.pass rfl rfl rfl ?_; refine Gg ?_; refine Go ?_
   refine bG 11 ?_ TT.mk
   refine Gg ?_; refine WL.pass rfl rfl rfl ?_; refine Gg ?_; refine Go ?_
   refine bG 16 ?_ TT.mk
   refine Gg ?_; refine WL.pass rfl rfl rfl ?_; refine Gg ?_; refine Go ?_; refine Gs [(2, _)] ?_; refine Gt ?_
   exact ⟨rfl, ay⟩
structure Bk.may (b : Bk) : Prop where
 kind : ∃ k : UInt8, Value.int .u8 b.kind = By k ∧ nn.contains k = true
 tag : aZ b.tag = true
 name : aZ b.name = true
 value : aZ b.value = true
 cols : b.cols.length ≤ 65535 ∧ ∀ c ∈ b.cols, c.okB
 fields : b.fields.length ≤ 65535 ∧ ∀ f ∈ b.fields, f.okB
 row : b.row.length ≤ 65535 ∧ ∀ c ∈ b.row, c.okB
 oids : b.oids.length ≤ 65535 ∧ ∀ n ∈ b.oids, 0 ≤ n ∧ n ≤ 4294967295
 n : 0 ≤ b.n ∧ b.n ≤ 4294967295
 m : 0 ≤ b.m ∧ b.m ≤ 4294967295
 st : b.kN
 own : (qU b).pl = b.pl
theorem tI {h : ah} (b : Bk) (hb : b.ok h) (hm : b.may) : ag Tryz.prog 139 ⟨[.agg ⟨b.cells⟩]⟩ h fun u h' => u = In 0 ∧ Ext No h h' := by
 have hof := fun {h' : ah} (hx : Ext No h h') => vw (h := h') b (hb.aq hx)
 have hst := fun {h' : ah} (hx : Ext No h h') => wW (h := h') b (hb.aq hx) hm.st
 have hsa := fun {h' : ah} (hx : Ext No h h') => wV (h := h') b (qU b) (hb.aq hx) (yQ (hb.aq hx)) hm.own.symm
 obtain ⟨⟨k8, Js, hkc⟩, h1, h2, h3, h4, h5, h6, h7, h8, h9, _, _⟩ := hm
 generalize qU b = ob at hof hsa
 obtain ⟨ho, hc, hr, hf⟩ := hb
 obtain ⟨k, st, t, n, v, x, y, vo, lo, vc, lc, vr, lr, vf, lf⟩ := b
 simp only at Js h1 h2 h3 h4 h5 h6 h7 h8 h9 ho hc hr hf
 dsimp only [Bk.cells] at hof hst hsa ⊢
 have hkn : ∀ {h : ah}, ag Tryz.prog 191 ⟨[.int .u8 k]⟩ h fun u h' => u = .bool true ∧ Ext No h h' := by rw [Js]; exact tH k8 hkc
 refine calls [(0, _)] Tryz.func139 rfl Tryz.ntmps139 rfl ⟨rfl, trivial⟩ ?_
 refine WC.sr ?_; refine WL.ai (aB rfl) rfl rfl rfl ?_
 rintro _ g1 ⟨b1, rfl, bO, aQ, ay⟩
 refine Go ?_; refine G3 ?_; refine Ld ?_; refine WL.call (vs := [_]) rfl Tryz.call191 rfl (hkn) rfl rfl rfl ?_
 rintro _ g2 ⟨rfl, aH⟩
 have bH := aH.obj aQ aO
 have gm := ay.trans aH
 refine Go ?_; refine Gs [(1, _), (8, _)] ?_
 refine aJ 1 2 ?_ TT.mk
 all_goals (refine ax 2 ?_)
 refine WC.skip ?_; refine Gn ?_; refine G2 ?_; refine Ld ?_; refine WL.call (vs := [_]) rfl Tryz.call187 rfl ((cW t).as (congrArg Value.bool h1)) rfl rfl rfl ?_
 rintro _ hz ⟨rfl, _⟩
 subst hz
 refine Go ?_
 refine bG 12 ?_ TT.mk
 refine Gg ?_; refine Ld ?_; refine WL.call (vs := [_]) rfl Tryz.call187 rfl ((cW n).as (congrArg Value.bool h2)) rfl rfl rfl ?_
 rintro _ hz ⟨rfl, _⟩
 subst hz
 refine Go ?_
 refine bG 17 ?_ TT.mk
 refine Gg ?_; refine Ld ?_; refine WL.call (vs := [_]) rfl Tryz.call187 rfl ((cW v).as (congrArg Value.bool h3)) rfl rfl rfl ?_
 rintro _ hz ⟨rfl, _⟩
 subst hz
 refine Go ?_; refine Gs [(1, _), (3, _)] ?_; refine G2 ?_; refine Ld ?_; refine WL.call (vs := [_, _]) rfl Tryz.call192 rfl (wM lc (hc.1.aq gm) h4.1 Tryz.call193 (fun c hc _ _ => wR c (h4.2 c hc))) rfl rfl rfl ?_
 rintro _ g3 ⟨rfl, aP⟩
 have bn := aP.obj bH aO
 have jT := gm.trans aP
 refine Go ?_
 refine bG 25 ?_ TT.mk
 refine Gg ?_; refine Ld ?_; refine WL.call (vs := [_, _]) rfl Tryz.call194 rfl (wN lf (hf.1.aq jT) h5.1 Tryz.call195 (fun c hc _ _ => yO c (h5.2 c hc))) rfl rfl rfl ?_
 rintro _ g4 ⟨rfl, aW⟩
 have bx := aW.obj bn aO
 have nk := jT.trans aW
 refine Go ?_
 refine bG 30 ?_ TT.mk
 refine Gg ?_; refine Ld ?_; refine WL.call (vs := [_, _]) rfl Tryz.call196 rfl (wO lr (hr.1.aq nk) h6.1 Tryz.call197 (fun c hc _ _ => CG c (hr.2.2 c hc) (h6.2 c hc))) rfl rfl rfl ?_
 rintro _ g5 ⟨rfl, aN⟩
 have bT := aN.obj bx aO
 have kM := nk.trans aN
 refine Go ?_
 refine bG 35 ?_ TT.mk
 refine Gg ?_; refine Ld ?_; refine WL.call (vs := [_, _]) rfl Tryz.call198 rfl (wU lo (ho.1.aq kM) h7.1 h7.2) rfl rfl rfl ?_
 rintro _ g6 ⟨rfl, aM⟩
 have bN := aM.obj bT aO
 have Ft := kM.trans aM
 refine Go ?_; refine Gs [(1, _), (3, _), (4, _)] ?_; refine WC.seq ?_; refine WC.seq ?_; refine WC.bW (fun h' => h'[b1]? = some (.cells ⟨[.int .u8 k, .int .u8 st, St t, St n, St v, In x, In y, vo, vc, vr, vf]⟩ 140 (0, 0))) 30 30 rfl dk ?_
 refine WH.tk 0 rfl (fun hq hC => ak rfl) rfl rfl rfl ?_ (hC := (by first | exact bN | exact bZ | exact bE | exact bQ))
 refine WH.tk 1 rfl (fun hq hC => cL rfl) rfl rfl rfl ?_ (hC := (by first | exact bN | exact bZ | exact bE | exact bQ))
 refine WH.tk 2 rfl (fun hq hC => ak rfl) rfl rfl rfl ?_ (hC := (by first | exact bN | exact bZ | exact bE | exact bQ))
 try ((fail_if_success (refine WH.part 42 (b := true) rfl (fun _ => ?_) (fun _ => ?_))); (fail_if_success (refine WH.part 42 (b := false) rfl (fun _ => ?_) (fun _ => ?_))); (refine WH.part 42 rfl (fun hb => ?_) (fun hb => ?_)))
 refine WH.tk 3 rfl (fun hq hC => ak rfl) rfl rfl rfl ?_ (hC := (by first | exact bN | exact bZ | exact bE | exact bQ))
 refine WH.tk 4 rfl (fun hq hC => cL rfl) rfl rfl rfl ?_ (hC := (by first | exact bN | exact bZ | exact bE | exact bQ))
 refine WH.tk 5 rfl (fun hq hC => cd rfl rfl) rfl rfl rfl ?_ (hC := (by first | exact bN | exact bZ | exact bE | exact bQ))
 refine WH.tk 6 rfl (fun hq hC => ak rfl) rfl rfl rfl ?_ (hC := (by first | exact bN | exact bZ | exact bE | exact bQ))
 try ((fail_if_success (refine WH.part 46 (b := true) rfl (fun _ => ?_) (fun _ => ?_))); (fail_if_success (refine WH.part 46 (b := false) rfl (fun _ => ?_) (fun _ => ?_))); (refine WH.part 46 rfl (fun hb => ?_) (fun hb => ?_)))
 refine WH.tk 7 rfl (fun hq hC => ad rfl Tryz.underlying140 rfl Tryz.sizeOf3) rfl rfl rfl ?_ (hC := (by first | exact bN | exact bZ | exact bE | exact bQ))
 refine WH.tk 8 rfl (fun hq hC => aA Tryz.isAgg3 rfl (aa hC rfl)) rfl rfl rfl ?_ (hC := (by first | exact bN | exact bZ | exact bE | exact bQ))
 refine WH.one 9 (by kernel_rfl) ?_
 refine aE.call (vs := [_]) rfl rfl Tryz.call199 rfl (tD x h8.1 h8.2) rfl rfl rfl ?_ (fun _ => by kernel_rfl)
 rintro _ hz ⟨rfl, _⟩
 subst hz
 refine ⟨fun _ => by first | assumption | trivial, ?_⟩
 refine WH.tk 10 rfl (fun hq hC => cL rfl) rfl rfl rfl ?_ (hC := (by first | exact bN | exact bZ | exact bE | exact bQ))
 refine WH.tk 11 rfl (fun hq hC => cd rfl rfl) rfl rfl rfl ?_ (hC := (by first | exact bN | exact bZ | exact bE | exact bQ))
 refine WH.tk 12 rfl (fun hq hC => ak rfl) rfl rfl rfl ?_ (hC := (by first | exact bN | exact bZ | exact bE | exact bQ))
 try ((fail_if_success (refine WH.part 52 (b := true) rfl (fun _ => ?_) (fun _ => ?_))); (fail_if_success (refine WH.part 52 (b := false) rfl (fun _ => ?_) (fun _ => ?_))); (refine WH.part 52 rfl (fun hb => ?_) (fun hb => ?_)))
 refine WH.tk 13 rfl (fun hq hC => ad rfl Tryz.underlying140 rfl Tryz.sizeOf3) rfl rfl rfl ?_ (hC := (by first | exact bN | exact bZ | exact bE | exact bQ))
 refine WH.tk 14 rfl (fun hq hC => aA Tryz.isAgg3 rfl (aa hC rfl)) rfl rfl rfl ?_ (hC := (by first | exact bN | exact bZ | exact bE | exact bQ))
 refine WH.one 15 (by kernel_rfl) ?_
 refine aE.call (vs := [_]) rfl rfl Tryz.call199 rfl (tD y h9.1 h9.2) rfl rfl rfl ?_ (fun _ => by kernel_rfl)
 rintro _ hz ⟨rfl, _⟩
 subst hz
 refine ⟨fun _ => by first | assumption | trivial, ?_⟩
 refine WH.tk 16 rfl (fun hq hC => cL rfl) rfl rfl rfl ?_ (hC := (by first | exact bN | exact bZ | exact bE | exact bQ))
 refine WH.tk 17 rfl (fun hq hC => cd rfl rfl) rfl rfl rfl ?_ (hC := (by first | exact bN | exact bZ | exact bE | exact bQ))
 refine WH.tk 18 rfl (fun hq hC => ak rfl) rfl rfl rfl ?_ (hC := (by first | exact bN | exact bZ | exact bE | exact bQ))
 try ((fail_if_success (refine WH.part 58 (b := true) rfl (fun _ => ?_) (fun _ => ?_))); (fail_if_success (refine WH.part 58 (b := false) rfl (fun _ => ?_) (fun _ => ?_))); (refine WH.part 58 rfl (fun hb => ?_) (fun hb => ?_)))
 refine WH.tk 19 rfl (fun hq hC => an Tryz.isAgg140 Tryz.sizeOf140 rfl rfl (by exact At.au hC)) rfl rfl rfl ?_ (hC := (by first | exact bN | exact bZ | exact bE | exact bQ))
 refine WH.one 20 (by kernel_rfl) ?_
 refine aE.call (vs := [_]) rfl rfl Tryz.call200 rfl (hst Ft) rfl rfl rfl ?_ (fun _ => by kernel_rfl)
 rintro _ g7 ⟨rfl, bh⟩
 refine ⟨fun _ => bh.obj bN aO, ?_⟩
 have bZ := bh.obj bN aO
 have yT := Ft.trans bh
 refine WH.tk 21 rfl (fun hq hC => cL rfl) rfl rfl rfl ?_ (hC := (by first | exact bN | exact bZ | exact bE | exact bQ))
 refine WH.tk 22 rfl (fun hq hC => cd rfl rfl) rfl rfl rfl ?_ (hC := (by first | exact bN | exact bZ | exact bE | exact bQ))
 refine WH.tk 23 rfl (fun hq hC => ak rfl) rfl rfl rfl ?_ (hC := (by first | exact bN | exact bZ | exact bE | exact bQ))
 try ((fail_if_success (refine WH.part 63 (b := true) rfl (fun _ => ?_) (fun _ => ?_))); (fail_if_success (refine WH.part 63 (b := false) rfl (fun _ => ?_) (fun _ => ?_))); (refine WH.part 63 rfl (fun hb => ?_) (fun hb => ?_)))
 refine WH.tk 24 rfl (fun hq hC => an Tryz.isAgg140 Tryz.sizeOf140 rfl rfl (by exact At.au hC)) rfl rfl rfl ?_ (hC := (by first | exact bN | exact bZ | exact bE | exact bQ))
 refine WH.tk 25 rfl (fun hq hC => an Tryz.isAgg140 Tryz.sizeOf140 rfl rfl (by exact At.au hC)) rfl rfl rfl ?_ (hC := (by first | exact bN | exact bZ | exact bE | exact bQ))
 refine WH.one 26 (by kernel_rfl) ?_
 refine aE.call (vs := [_]) rfl rfl Tryz.call202 rfl (hof yT) rfl rfl rfl ?_ (fun _ => by kernel_rfl)
 rintro _ g8 ⟨rfl, bD⟩
 refine ⟨fun _ => bD.obj bZ aO, ?_⟩
 have bE := bD.obj bZ aO
 have kJ := yT.trans bD
 refine WH.one 27 (by kernel_rfl) ?_
 refine aE.call (vs := [_, _]) rfl rfl Tryz.call201 rfl (hsa kJ) rfl rfl rfl ?_ (fun _ => by kernel_rfl)
 rintro _ g9 ⟨rfl, cg⟩
 refine ⟨fun _ => cg.obj bE aO, ?_⟩
 have bQ := cg.obj bE aO
 refine WH.tk 28 rfl (fun hq hC => cL rfl) rfl rfl rfl ?_ (hC := (by first | exact bN | exact bZ | exact bE | exact bQ))
 refine WH.tk 29 rfl (fun hq hC => cd rfl rfl) rfl rfl rfl ?_ (hC := (by first | exact bN | exact bZ | exact bE | exact bQ))
 refine WH.done (by kernel_rfl) ?_
 refine Gn ?_; refine Gs [(69, _)] ?_
 refine aJ 3 4 ?_ TT.mk
 all_goals (refine ax 4 ?_)
 refine WC.skip ?_; refine Gn ?_; refine G2 ?_; refine Gt ?_
 exact ⟨rfl, kJ.trans cg⟩
theorem HL {h:ah} {b:Nat} {v:Value} {l:List UInt8} (hb:h[b]?=some (.cells ⟨[v]⟩ 207 (0,0))) (ho:Own h v 5 1 l.length (bu l)) (hl:l.length≤1000) (n:Int) (hr:Rt n 4) :
   ag Tryz.prog 140 ⟨[.pointer (some ⟨b,0,none⟩),In n,In 4]⟩ h fun _ h'=>∃ v',h'[b]?=some (.cells ⟨[v']⟩ 207 (0,0))∧Own h' v' 5 1 (l++be n 4).length (bu (l++be n 4))∧Ext (fun q=>q=b) h h'∧∀ q,v'.ownBlock=some q→h.size≤q:=by
 refine calls [(0,_),(1,_),(2,_)] Tryz.func140 rfl Tryz.ntmps140 rfl ⟨rfl,rfl,rfl,trivial⟩ ?_
 refine WC.region (Go ?_);refine WL.step (ae rfl) rfl rfl rfl (Go ?_);refine WL.ld rfl (by first | exact aa hb rfl | assumption) rfl rfl rfl (Go ?_)
 refine WL.call (vs:=[_,_,_]) rfl Tryz.call164 rfl (yG l n 4 (.inr (.inr rfl)) hr ho.rd (by omega)) rfl rfl rfl ?_
 rintro v1 h1 ⟨fE,ay,fM⟩
 have aQ:=ay.obj hb aO
 obtain ⟨A1,c1,rfl,_⟩:=id fE.slice
 refine WL.step (ae rfl) rfl rfl rfl (Go ?_);refine WL.az (aC Tryz.sizeOf23 rfl rfl aQ (Nat.le_of_ble_eq_true rfl) rfl rfl) rfl rfl ?_
 rintro _ h2 ⟨bH,aH⟩
 refine Gn ?_
 refine fa [] trivial ?_
 exact ⟨_,bH,fE.ext aH (fun q hq e=>bV fE aQ (by decide) (e▸hq)),(ay.mono fun _ _ e=>e.elim).trans aH,fM⟩
def gB (k st n m:Int):Bk:=⟨k,st,[],[],[],n,m,.slice none 0 0,[],.slice none 0 0,[],.slice none 0 0,[],.slice none 0 0,[]⟩
theorem HM (k st n m:Int) (h:ah):(gB k st n m).ok h:=⟨⟨Rd.nil _ _,by simp [gB,maxLen]⟩,⟨Rd.nil _ _,by simp [gB,maxLen]⟩,⟨Rd.nil _ _,⟨by simp [gB],_,_,rfl,by decide⟩,by simp [gB]⟩,⟨Rd.nil _ _,by simp [gB,maxLen]⟩⟩
theorem Fu:(gB 82 0 0 0).may:=⟨⟨82,rfl,by decide⟩,by decide,by decide,by decide,⟨by simp [gB],by simp [gB]⟩,⟨by simp [gB],by simp [gB]⟩,⟨by simp [gB],by simp [gB]⟩,⟨by simp [gB],by simp [gB]⟩,by decide,by decide,.inl (by decide),by simp [qU,gB,zB]⟩
theorem Fv:(gB 75 0 1 7919).may:=⟨⟨75,rfl,by decide⟩,by decide,by decide,by decide,⟨by simp [gB],by simp [gB]⟩,⟨by simp [gB],by simp [gB]⟩,⟨by simp [gB],by simp [gB]⟩,⟨by simp [gB],by simp [gB]⟩,by decide,by decide,.inl (by decide),by simp [qU,gB,zB]⟩
theorem yU:(gB 90 73 0 0).may:=⟨⟨90,rfl,by decide⟩,by decide,by decide,by decide,⟨by simp [gB],by simp [gB]⟩,⟨by simp [gB],by simp [gB]⟩,⟨by simp [gB],by simp [gB]⟩,⟨by simp [gB],by simp [gB]⟩,by decide,by decide,.inr (by decide),by simp [qU,gB,zB]⟩
def yV (k st n m:Int) (L:List UInt8):Prop:=(k=82∧st=0∧n=0∧m=0∧L=be 0 4)∨(k=75∧st=0∧n=1∧m=7919∧L=be 1 4++be 7919 4)∨(k=90∧st=73∧n=0∧m=0∧L=[73])
theorem HN {h:ah} {k st n m:Int} {L:List UInt8} (hc:yV k st n m L):ag Tryz.prog 98 ⟨[.agg ⟨(gB k st n m).cells⟩]⟩ h fun u h'=>∃ v',u=.tuple ⟨[.agg ⟨[.int .u8 k,v']⟩,In 0]⟩∧Own h' v' 5 1 L.length (bu L)∧Ext No h h'∧∀ q,v'.ownBlock=some q→h.size≤q:=by
 have kc:∀ h':ah,ag Tryz.prog 139 ⟨[.agg ⟨(gB k st n m).cells⟩]⟩ h' fun u h''=>u=In 0∧Ext No h' h'':=fun h'=>tI _ (HM _ _ _ _ _) (by rcases hc with ⟨rfl,rfl,rfl,rfl,_⟩ | ⟨rfl,rfl,rfl,rfl,_⟩ | ⟨rfl,rfl,rfl,rfl,_⟩;exact Fu;exact Fv;exact yU)
 have kw:=fun (h':ah) (b:Nat) (hb:h'[b]?=some (.cells ⟨[.slice none 0 0]⟩ 207 (0,0))) (n:Int) (hr:Rt n 4)=>HL (l:=[]) hb (Own.nil _ _ _) (by decide) n hr
 have MM:=fun (h':ah) (b:Nat) (v:Value) (hb:h'[b]?=some (.cells ⟨[v]⟩ 207 (0,0))) (ho:Own h' v 5 1 (be 1 4).length (bu (be 1 4)))=>HL (l:=be 1 4) hb ho (by rw [bm];omega) 7919 (by unfold Rt;decide)
 dsimp only [Bk.cells,gB,List.nil_append] at kc kw ⊢
 rcases hc with ⟨rfl,rfl,rfl,rfl,rfl⟩ | ⟨rfl,rfl,rfl,rfl,rfl⟩ | ⟨rfl,rfl,rfl,rfl,rfl⟩
 all_goals
   refine calls [(0,_)] Tryz.func98 rfl Tryz.ntmps98 rfl ⟨rfl,trivial⟩ ?_
   all_goals (refine WC.sr ?_;refine WL.ai (aB rfl) rfl rfl rfl ?_;rintro _ h1 ⟨b1,rfl,bO,aQ,ay⟩;refine WL.ai (av (fun w=>Tryz.zeroValue53 w)) rfl rfl rfl ?_;rintro _ h2 ⟨b2,rfl,eS,bH,aH⟩;have gm:=ay.trans aH;have bX:=aH.obj aQ aO;refine Go ?_;refine WC.seq ?_;refine WC.sr ?_;refine WL.step (an Tryz.isAgg140 Tryz.sizeOf140 rfl rfl (by exact At.au bX)) rfl rfl rfl ?_;refine WL.call (vs:=[_]) rfl Tryz.call139 rfl (kc _) rfl rfl rfl ?_;rintro _ h3 ⟨rfl,aP⟩;have cm:=aP.obj bX aO;have gL:=aP.obj bH aO;have jT:=gm.trans aP;refine Go ?_;refine Gs [(1,_),(2,_),(4,_)] ?_;refine G2 ?_;refine aJ 1 2 ?_ TT.mk;refine ax 2 ?_;refine WC.skip ?_;refine Gn ?_;refine WC.sr ?_;refine WL.step (aD (vs:=[]) (cs:=[_]) (fun | []=>[(.slice none 0 0)] | _=>[]) rfl rfl (by kernel_rfl)) rfl rfl rfl ?_;refine WL.ai (aB rfl) rfl rfl rfl ?_;rintro _ h4 ⟨b5,rfl,pQ,bT,aW⟩;have bP:=aW.obj cm aO;have iJ:=aW.obj gL aO;have bT:h4[b5]?=some (.cells ⟨[.slice none 0 0]⟩ 207 (0,0)):=bT;have l1:=aj cm;have l2:=aj gL;have X:=jT.trans aW;have l0:=ay.size;clear aQ bX cm bH gL ay aH aP aW gm jT;refine Go ?_;refine Gs [(1,_),(2,_),(5,_)] ?_;refine G3 ?_;refine WL.ld rfl (by first | exact aa bP rfl | assumption) rfl rfl rfl ?_;refine Gn ?_;refine WC.block ?_;refine G2 ?_;refine aJ 3 4 ?_ TT.mk)
   all_goals try (
   refine ax 3 ?_
   all_goals (refine WC.region (Go ?_);refine WL.call (vs:=[_,_,_]) rfl Tryz.call140 rfl (kw _ _ bT 0 (by unfold Rt;decide)) rfl rfl rfl ?_;rintro _ h6 ⟨v6,pR,fN,aM,im⟩;obtain ⟨A6,c6,rfl,_⟩:=id fN.slice;replace bP:=aM.obj bP (fun e=>by omega);replace iJ:=aM.obj iJ (fun e=>by omega);have l4:=X.size;(have im:∀ q,(Value.slice A6 _ c6).ownBlock=some q→h.size≤q:=fun q hq=>by have:=im q hq;omega);have X:=X.trans' aM (fun q hq e=>by omega);refine Gn ?_)
   skip)
   all_goals try (
   refine ax 4 ?_
   all_goals (refine G2 ?_;refine Gs [(1,_),(2,_),(5,_),(19,_),(24,_)] ?_;refine aJ 5 6 ?_ TT.mk;refine ax 6 ?_;refine G2 ?_;refine aJ 7 8 ?_ TT.mk)
   all_goals try (
   refine ax 7 ?_
   all_goals (refine G2 ?_;refine WL.ld rfl (by first | exact aa bP rfl | assumption) rfl rfl rfl ?_;refine WL.call (vs:=[_,_,_]) rfl Tryz.call140 rfl (kw _ _ bT 1 (by unfold Rt;decide)) rfl rfl rfl ?_;rintro _ h6 ⟨v6,pR,fN,aM,im⟩;replace bP:=aM.obj bP (fun e=>by omega);replace iJ:=aM.obj iJ (fun e=>by omega);have l4:=X.size;have X:=X.trans' aM (fun q hq e=>by omega);refine Gn ?_;refine Gs [(1,_),(2,_),(5,_)] ?_;refine WC.region (Go ?_);refine WL.ld rfl (by first | exact aa bP rfl | assumption) rfl rfl rfl ?_;refine WL.call (vs:=[_,_,_]) rfl Tryz.call140 rfl (MM _ _ _ pR fN) rfl rfl rfl ?_;rintro _ h6 ⟨v7,yW,gM,bh,Hk⟩;obtain ⟨A6,c6,rfl,_⟩:=id gM.slice;replace bP:=bh.obj bP (fun e=>by omega);replace iJ:=bh.obj iJ (fun e=>by omega);have l5:=X.size;(replace im:∀ q,(Value.slice A6 _ c6).ownBlock=some q→h.size≤q:=fun q hq=>by have:=Hk q hq;omega);replace fN:=gM;replace pR:=yW;have X:=X.trans' bh (fun q hq e=>by omega);refine Gn ?_)
   skip)
   all_goals try (
   refine ax 8 ?_
   all_goals (refine G2 ?_;refine Gs [(1,_),(2,_),(5,_),(19,_),(44,_)] ?_;refine aJ 9 10 ?_ TT.mk;refine ax 9 ?_;refine WC.region (Go ?_);refine WL.ld rfl (by first | exact aa bP rfl | assumption) rfl rfl rfl ?_;refine WL.ai (aw (vs:=[_]) (cs:=[_]) (fun | [a0]=>[a0] | _=>[]) Tryz.underlying23 rfl rfl (by kernel_rfl)) rfl rfl rfl ?_;rintro _ h5 ⟨b6,rfl,oG,bN,aN⟩;have l5:=aN.size;have MN:=aj bT;replace bT:=aN.obj bT aO;refine WL.step (ae rfl) rfl rfl rfl (Go ?_);refine WL.az (aC Tryz.sizeOf23 rfl rfl bT (Nat.le_of_ble_eq_true rfl) rfl rfl) rfl rfl ?_;rintro _ h6 ⟨pR,aM⟩;replace bP:=aM.obj (aN.obj bP aO) (fun e=>by omega);replace iJ:=aM.obj (aN.obj iJ aO) (fun e=>by omega);have l4:=X.size;have X:=(X.trans aN).trans' aM (fun q hq e=>by omega);(have im:∀ q,(Value.slice (some ⟨b6,0,none⟩) 1 1).ownBlock=some q→h.size≤q:=fun q hq=>by simp only [Value.ownBlock,Option.some.injEq] at hq;omega);have tJ:=aM.obj bN (fun e=>by omega);have fN:Own h6 (Value.slice (some ⟨b6,0,none⟩) 1 1) 5 1 ([73]:List UInt8).length (bu [73]):=Own.au tJ (by decide) (by decide) rfl rfl;refine Gn ?_)
   skip)
   skip)
   all_goals (refine Gn ?_;refine WC.seq ?_;refine WC.bW (fun h'=>Ext No h6 h') 7 9 rfl dk ?_;refine WH.tk 0 rfl (fun hq hC=>ad rfl Tryz.underlying140 rfl Tryz.sizeOf5) rfl rfl rfl ?_;refine WH.tk 1 rfl (fun hq hC=>aA Tryz.isAgg5 rfl (by first | exact hC.cell (by first | exact aa bP rfl | assumption) aO)) rfl rfl rfl ?_;refine WH.tk 2 rfl (fun hq hC=>ak rfl) rfl rfl rfl ?_;refine WH.tk 3 rfl (fun hq hC=>ae rfl) rfl rfl rfl ?_;refine WH.tk 4 rfl (fun hq hC=>ad rfl Tryz.underlying207 rfl Tryz.sizeOf23) rfl rfl rfl ?_;refine WH.tk 5 rfl (fun hq hC=>aA Tryz.isAgg23 rfl (by first | exact hC.cell (by first | exact aa pR rfl | assumption) aO)) rfl rfl rfl ?_;refine WH.tk 6 rfl (fun hq hC=>aD (vs:=[_,_]) (cs:=[_,_]) (fun | [a0,a1]=>[a0,a1] | _=>[]) rfl rfl (by kernel_rfl)) rfl rfl rfl ?_;refine WH.one 7 (by kernel_rfl) ?_;refine aE.cQ rfl (al Tryz.sizeOf53 rfl rfl rfl iJ rfl (by simp [Value.oneCell'])) rfl rfl ?_ (fun _=>by kernel_rfl);rintro _ h8 ⟨bE,bD⟩;refine ⟨fun e=>(by cases e),?_⟩;refine WH.one 8 (by kernel_rfl) ?_;refine aE.run rfl (bK.r (aR rfl)) rfl rfl rfl ?_ (fun _=>by kernel_rfl);rintro _ hz ⟨rfl,_⟩;subst hz;refine ⟨fun e=>(by cases e),?_⟩;refine WH.done (by kernel_rfl) ?_;refine Gn ?_;refine Gs [(2,_),(3,_)] ?_;refine WC.ret ?_;repeat' (with_reducible first | refine ba ?_ | refine aV ?_))
   all_goals (refine dY _ _ ⟨⟨_,rfl,bB Tryz.isAgg53 Tryz.sizeOf53 bE rfl⟩,rfl,trivial⟩ ?_;exact ⟨_,rfl,fN.ext bD (fun q hq e=>bV fN iJ (by decide) (e▸hq)),X.trans' bD (fun q hq e=>by omega),im⟩)
end Go.Proofs.YtopgddfgefnmbaaGreatDoor
namespace Go.RK
open Go Go.MapKept Go.ChangeMaps
section
variable {P:Program} {f:Fr} {h:ah} {d:Option Tmp} {ty:TypeId} {pos:String} {af:Array Edge} {g:Option (Nat × Bool)}
variable {t t2:TypeId} {x y:Operand} {a b:Int} {k:IntKind}
def HO (k:IntKind) (a b:Int):Int:=k.wrap ((BitVec.ofInt k.bits a &&& BitVec.ofInt k.bits b).toNat:Int)
def Jt (k:IntKind) (a b:Int):Int:=k.wrap ((BitVec.ofInt k.bits a ||| BitVec.ofInt k.bits b).toNat:Int)
theorem yX (hx:f.ev x=some (.int k a)) (hy:f.ev y=some (.int k b)):bK P f ⟨d,.binOp .and t x y t2,ty,pos,af,g⟩ h (.int k (HO k a b)) :=
 fun ρ w ha _=>by simp [execOp,ha _ _ hx,ha _ _ hy,eqGuard_and,binOp_and,Op.intBits,HO]
theorem Et (hx:f.ev x=some (.int k a)) (hy:f.ev y=some (.int k b)):bK P f ⟨d,.binOp .or t x y t2,ty,pos,af,g⟩ h (.int k (Jt k a b)) :=
 fun ρ w ha _=>by simp [execOp,ha _ _ hx,ha _ _ hy,eqGuard_or,binOp_or,Op.intBits,Jt]
theorem vx (hx:f.ev x=some (In a)) (hy:f.ev y=some (.int k b)) (hb:0≤b∧b≤64) (hr : -9223372036854775808≤a * 2 ^ b.toNat∧a * 2 ^ b.toNat≤9223372036854775807):bK P f ⟨d,.binOp .shl t x y t2,ty,pos,af,g⟩ h (In (a * 2 ^ b.toNat)) :=
 fun ρ w ha _=>by
   have h1:¬ b < 0:=by omega
   have h2:min b.toNat 64=b.toNat:=by omega
   have h3:(IntKind.i64).bits=64:=rfl
   have h4:=wrap_i64 _ hr.1 hr.2
   simp [execOp,ha _ _ hx,ha _ _ hy,eqGuard_shl,binOp_shl,Op.shift,h1,h3,h2,h4]
theorem vy {n c:Int} (hn:0≤n∧n≤1099511627776) (hc:0≤c∧c≤255):Jt .i64 (n * 256) c=n * 256+c:=by
 obtain ⟨m,rfl⟩:=Int.eq_ofNat_of_zero_le hn.1
 obtain ⟨b,rfl⟩:=Int.eq_ofNat_of_zero_le hc.1
 have MO:(IntKind.i64).bits=64:=rfl
 unfold Jt
 rw [MO,BitVec.toNat_or,BitVec.toNat_ofInt,BitVec.toNat_ofInt]
 have e1:((m:Int) * 256 % ((2 ^ 64:Nat):Int)).toNat=m <<< 8:=by rw [Nat.shiftLeft_eq];omega
 have e2:((b:Int) % ((2 ^ 64:Nat):Int)).toNat=b:=by omega
 rw [e1,e2,← Nat.shiftLeft_add_eq_or_of_lt (by omega:b < 2 ^ 8),Nat.shiftLeft_eq]
 rw [wrap_i64 _ (by omega) (by omega)]
 omega
end
end Go.RK
namespace Go.Proofs.YtopgddfgefnmbaaGreatDoor
open Go Go.RK
theorem HP {h:ah}:ag Tryz.prog 124 ⟨[In 0]⟩ h fun u h'=>u=.tuple ⟨[In 1,In 7919]⟩∧h'=h:=by
 refine calls [(0,_)] Tryz.func124 rfl Tryz.ntmps124 rfl ⟨rfl,trivial⟩ ?_
 refine G2 ?_;refine G2 ?_;refine WL.step (pE rfl rfl) rfl rfl rfl ?_;refine WL.step (kE rfl rfl) rfl rfl rfl (Go ?_);refine Gs [(4,_)] ?_;refine G2 ?_;refine WL.step (yX rfl rfl) rfl rfl rfl (Go ?_);refine WL.step (j9 rfl rfl (by omega)) rfl rfl rfl ?_
 refine WL.step (yX rfl rfl) rfl rfl rfl (Go ?_);refine Gs [(2,_),(3,_)] ?_;refine Gt ?_
 exact ⟨by rfl,rfl⟩
theorem wX {h:ah}:ag Tryz.prog 125 ⟨[.slice none 0 0]⟩ h fun u h'=>u=.slice none 0 0∧h'=h:=by
 refine calls [(0,_)] Tryz.func125 rfl Tryz.ntmps125 rfl ⟨rfl,trivial⟩ ?_
 refine G2 ?_;refine G2 ?_;refine G3 ?_;refine WC.block ?_;refine WC.bC (X:=Unit) (fun x=>([(8,In 0),(3,.slice none 0 0)]:Fr)) [(6,_),(7,_)] (fun _ h'=>h'=h) (fun _=>0) (()) ⟨rfl,rfl,rfl,rfl,trivial⟩ (by exact rfl) ?_
 rintro _ h1 hz
 subst hz
 refine WC.sub [(3,_),(8,_),(6,_),(7,_)] ⟨rfl,rfl,rfl,rfl,trivial⟩ ?_;refine G2 ?_;refine WC.seq ?_
 refine aJ 1 2 ?_ TT.mk
 all_goals (refine ax 2 ?_)
 refine WC.exit ?_
 repeat' (with_reducible first | refine aU ?_ | refine aG rfl ?_ | refine aI ?_ | refine aL ?_ | refine aS ?_)
 refine Br.out (i:=1000) ?_;refine Gn ?_;refine Br.ab ?_;refine Br.ab ?_;refine Br.ab ?_;refine Br.ab ?_;refine Br.ab ?_;refine Br.ab ?_;refine Br.ab ?_;refine Gn ?_;refine Br.ab ?_;refine Go ?_;refine Br.ab ?_;refine Go ?_;refine Br.ab ?_;refine Br.ab ?_;refine Br.ab ?_;refine Br.ab ?_;refine Go ?_;refine Br.ab ?_;refine Br.ab ?_;refine Go ?_;refine Br.ab ?_
 try (refine Br.mk (i:=1000) ?_)
 refine Gn ?_;refine Gs [(3,_)] ?_;refine G2 ?_;refine Gt ?_
 exact ⟨rfl,rfl⟩
abbrev pS:List Value:=(gB 82 0 0 0).cells++(gB 75 0 1 7919).cells++(gB 90 73 0 0).cells
theorem Fx {h:ah}:ag Tryz.prog 91 ⟨[.slice none 0 0,In 0]⟩ h fun u h'=>Own h' u 140 11 3 pS∧Ext No h h'∧∀ q,u.ownBlock=some q→h.size≤q:=by
 refine calls [(0,_),(1,_)] Tryz.func91 rfl Tryz.ntmps91 rfl ⟨rfl,rfl,trivial⟩ ?_
 refine G2 ?_;refine G2 ?_;refine WL.call (vs:=[_]) rfl Tryz.call124 rfl (HP) rfl rfl rfl ?_
 rintro _ hz ⟨rfl,_⟩
 subst hz
 refine Go ?_;refine Gs [(0,_),(5,_),(6,_)] ?_;refine WC.sr ?_;refine WL.step (aD (vs:=[_]) (cs:=[_,_,_,_,_,_,_,_,_,_,_]) (fun | [a0]=>[a0,(.int .u8 0),(St []),(St []),(St []),(.int .i64 0),(.int .i64 0),(.slice none 0 0),(.slice none 0 0),(.slice none 0 0),(.slice none 0 0)] | _=>[]) rfl rfl (by kernel_rfl)) rfl rfl rfl ?_
 refine WL.ai (aw (vs:=[_]) (cs:=[_,_,_,_,_,_,_,_,_,_,_]) (fun | [.agg ⟨[a0,a1,a2,a3,a4,a5,a6,a7,a8,a9,gd]⟩]=>[a0,a1,a2,a3,a4,a5,a6,a7,a8,a9,gd] | _=>[]) Tryz.underlying80 rfl rfl (by kernel_rfl)) rfl rfl rfl ?_
 rintro _ h1 ⟨b1,rfl,bO,aQ,ay⟩
 refine Go ?_;refine WL.call (vs:=[_]) rfl Tryz.call125 rfl (wX) rfl rfl rfl ?_
 rintro _ hz ⟨rfl,_⟩
 subst hz
 refine WL.ai (aT (sz:=11) (bytes:=168) rfl Tryz.underlying80 (show Tryz.prog.info? 140=some Tryz.t140 by kernel_rfl) rfl rfl rfl rfl (by decide) rfl rfl (dJ aQ rfl (by simp [maxLen])) (Rd.nil _ _) (by simp [Value.oneCell']) (by simp only [maxLen];omega) (by omega)) rfl rfl rfl ?_
 rintro v2 h2 ⟨dC,aH,lu⟩
 have dC:Own h2 v2 140 11 1 (gB 82 0 0 0).cells:=dC
 have eN:=bR lu (fun k hk=>by simp only [Value.ownBlock,Option.some.injEq] at hk;exact hk▸bO) ay.size
 have X2:Ext No h h2:=ay.trans' aH (fun q hq e=>by simp only [Value.ownBlock,Option.some.injEq] at e;omega)
 refine Go ?_;refine Gs [(5,_),(6,_),(7,_)] ?_;refine G2 ?_;refine WL.step (aD (vs:=[_,_,_]) (cs:=[_,_,_,_,_,_,_,_,_,_,_]) (fun | [a0,a5,a6]=>[a0,(.int .u8 0),(St []),(St []),(St []),a5,a6,(.slice none 0 0),(.slice none 0 0),(.slice none 0 0),(.slice none 0 0)] | _=>[]) rfl rfl (by kernel_rfl)) rfl rfl rfl ?_
 refine WL.step (aD (vs:=[_,_]) (cs:=[_,_,_,_,_,_,_,_,_,_,_]) (fun | [a0,a1]=>[a0,a1,(St []),(St []),(St []),(.int .i64 0),(.int .i64 0),(.slice none 0 0),(.slice none 0 0),(.slice none 0 0),(.slice none 0 0)] | _=>[]) rfl rfl (by kernel_rfl)) rfl rfl rfl ?_
 refine WL.ai (aw (vs:=[_,_]) (cs:=[_,_,_,_,_,_,_,_,_,_,_,_,_,_,_,_,_,_,_,_,_,_]) (fun | [.agg ⟨[a0,a1,a2,a3,a4,a5,a6,a7,a8,a9,gd]⟩,.agg ⟨[rE,a12,wS,wT,yN,Fp,Fq,JY,JZ,a20,a21]⟩]=>[a0,a1,a2,a3,a4,a5,a6,a7,a8,a9,gd,rE,a12,wS,wT,yN,Fp,Fq,JY,JZ,a20,a21] | _=>[]) Tryz.underlying80 rfl rfl (by kernel_rfl)) rfl rfl rfl ?_
 rintro _ h3 ⟨b3,rfl,gb,bn,aP⟩
 refine WL.ai (aT (sz:=11) (bytes:=168) rfl Tryz.underlying80 (show Tryz.prog.info? 140=some Tryz.t140 by kernel_rfl) rfl rfl rfl rfl (by decide) rfl rfl (dC.ext aP (fun _ _=>aO)) (bz (len:=2) (sz:=11) (cs:=(gB 75 0 1 7919).cells++(gB 90 73 0 0).cells) bn rfl) (by simp [gB,Bk.cells,Value.oneCell']) (by simp only [maxLen];omega) (by omega)) rfl rfl rfl ?_
 rintro v4 h4 ⟨fF,aW,pT⟩
 have fF:Own h4 v4 140 11 3 pS:=fF
 refine Go ?_;refine Gs [(4,_)] ?_;refine Gt ?_
 exact ⟨fF,(X2.trans aP).trans' aW (fun q hq e=>by have:=eN q e;omega),bR pT eN (by have:=X2.size;have:=aP.size;omega)⟩
theorem rH {h:ah} (s:List UInt8) (hm:s.length≤1000000):ag Tryz.prog 104 ⟨[St s]⟩ h fun u h'=>u=.bool (aZ s)∧h'=h:=by
 have hci:aZ s=true ↔ ∀ c∈s,c ≠ 0:=by
   unfold aZ
   rw [Bool.not_eq_true',← Bool.not_eq_true,List.contains_iff_mem]
   exact ⟨fun z c hc e=>z (e▸hc),fun z hc=>z 0 hc rfl⟩
 refine calls [(0,_)] Tryz.func104 rfl Tryz.ntmps104 rfl ⟨rfl,trivial⟩ ?_
 refine G2 ?_;refine G3 ?_;refine WC.block ?_;refine WC.bC (X:=Nat) (fun x=>([(3,In (x:Int))]:Fr)) [(0,_)] (fun k h'=>h=h'∧k≤s.length∧∀ c∈s.take k,c ≠ 0) (fun k=>s.length - k) (0) ⟨rfl,rfl,trivial⟩ (by exact ⟨rfl,Nat.zero_le _,fun c hc=>by cases hc⟩) ?_
 rintro k h2 ⟨e,hk,hn⟩
 subst e
 refine WC.sub [(3,_),(0,_)] ⟨rfl,rfl,trivial⟩ ?_;refine G3 ?_
 refine aJ 1 2 (Hb.mk fun hb=>?_) (Hb.mk fun hb=>?_)
 all_goals try (
 refine ax 1 ?_
 refine WC.skip ?_
 skip)
 all_goals try (
 refine ax 2 ?_
 refine WC.exit ?_
 repeat' (with_reducible first | refine aU ?_ | refine aG rfl ?_ | refine aI ?_ | refine aL ?_ | refine aS ?_)
 refine Br.out (i:=1000) ?_
 skip)
 all_goals (refine Gn ?_;first | refine Br.ab ?_ | refine Gs [(0,_),(3,_)] ?_)
 all_goals (first | refine Br.ab ?_ | refine WC.seq ?_)
 all_goals (first | refine Br.ab ?_ | refine WC.block ?_)
 all_goals (first | refine Br.ab ?_ | refine WC.seq ?_)
 all_goals (first | refine Br.ab ?_ | (obtain ⟨y,hy⟩:∃ y,s[k]?=some y:=⟨_,List.getElem?_eq_getElem (by omega)⟩))
 all_goals (first | refine Br.ab ?_ | refine WC.region ?_)
 all_goals (refine Go ?_;first | refine Br.ab ?_ | (refine WL.step (cT Tryz.underlying9 rfl rfl (by omega) (by assumption)) rfl rfl rfl ?_))
 all_goals (refine Go ?_;first | refine Br.ab ?_ | (refine aJ 3 4 (Hb.mk fun hb=>?_) (Hb.mk fun hb=>?_)))
 all_goals try (
 refine ax 3 ?_
 refine G2 ?_;refine Gs [(2,_)] ?_;refine Gt ?_
 first
  | (refine ⟨congrArg Value.bool ?_,rfl⟩;symm;rw [hci];rw [List.take_of_length_le (by omega)] at hn;exact hn)
  | (refine ⟨congrArg Value.bool ?_,rfl⟩;cases hq:aZ s;rfl;exact absurd (UInt8.toNat_inj.1 (by simpa using hb)) (hci.1 hq _ (List.mem_of_getElem? hy)))
 skip)
 all_goals try (
 refine ax 4 ?_
 refine WC.skip ?_
 skip)
 all_goals (refine Gn ?_;first | refine Br.ab ?_ | refine Gs [(0,_),(3,_)] ?_)
 all_goals (first | refine Br.ab ?_ | refine WC.region ?_)
 all_goals (refine Go ?_;first | refine Br.ab ?_ | (exact ⟨k+1,⟨rfl,rfl,trivial⟩,(by exact ⟨rfl,by omega,fun c hc=>by rw [List.take_add_one,hy] at hc;simp only [Option.toList_some,List.mem_append,List.mem_singleton] at hc;rcases hc with hc | rfl;exact hn c hc;exact (fun e=>by subst e;simp at *)⟩),(by omega)⟩))
 try (refine Br.mk (i:=1000) ?_)
 refine Gn ?_;refine Gs [] ?_;refine G2 ?_;refine Gt ?_
 first
  | (refine ⟨congrArg Value.bool ?_,rfl⟩;symm;rw [hci];rw [List.take_of_length_le (by omega)] at hn;exact hn)
  | (refine ⟨congrArg Value.bool ?_,rfl⟩;cases hq:aZ s;rfl;exact absurd (UInt8.toNat_inj.1 (by simpa using hb)) (hci.1 hq _ (List.mem_of_getElem? hy)))
abbrev iX:List UInt8:=([117,115,101,114]:List UInt8)
abbrev uL:List UInt8:=([117]:List UInt8)
theorem HQ {h:ah} {p:Nat} (hp:h[p]?=some (.cells ⟨[St iX,St uL]⟩ 59 (0,0))):ag Tryz.prog 61 ⟨[.agg ⟨[In 196608,In 0,In 0,.slice (some ⟨p,0,none⟩) 1 1]⟩]⟩ h fun u h'=>u=.bool true∧Ext No h h':=by
 have c1:=fun h'=>rH (h:=h') iX (by decide)
 have c2:=fun h'=>rH (h:=h') uL (by decide)
 rw [show aZ iX=true from rfl] at c1
 rw [show aZ uL=true from rfl] at c2
 refine calls [(0,_)] Tryz.func61 rfl Tryz.ntmps61 rfl ⟨rfl,trivial⟩ ?_
 refine WC.sr ?_;refine WL.ai (aB rfl) rfl rfl rfl ?_
 rintro _ h1 ⟨b1,rfl,bO,aQ,ay⟩
 have J0:=ay.obj hp aO
 refine Go ?_;refine G3 ?_;refine WC.block ?_;refine WC.bC (X:=Nat) (fun x=>([(3,In (x:Int))]:Fr)) [(1,_)] (fun k h'=>h'=h1∧k≤1) (fun k=>1 - k) (0) ⟨rfl,rfl,trivial⟩ (by exact ⟨rfl,Nat.zero_le _⟩) ?_
 rintro k h2 ⟨hz,hk⟩
 subst hz
 refine WC.sub [(3,_),(1,_)] ⟨rfl,rfl,trivial⟩ ?_;refine G3 ?_;refine WL.ld rfl (by first | exact aa aQ rfl | assumption) rfl rfl rfl (Go ?_)
 refine Gs [(1,_),(3,_),(9,_)] ?_
 refine aJ 1 2 (Hb.mk fun hb=>?_) (Hb.mk fun hb=>?_)
 all_goals try (
 refine ax 1 ?_
 refine WC.skip ?_
 skip)
 all_goals try (
 refine ax 2 ?_
 refine WC.exit ?_
 repeat' (with_reducible first | refine aU ?_ | refine aG rfl ?_ | refine aI ?_ | refine aL ?_ | refine aS ?_)
 refine Br.out (i:=1000) ?_
 skip)
 all_goals (refine Gn ?_;first | refine Br.ab ?_ | refine WC.seq ?_)
 all_goals (first | refine Br.ab ?_ | refine WC.block ?_)
 all_goals (first | refine Br.ab ?_ | refine WC.sr ?_)
 all_goals (first | refine Br.ab ?_ | (obtain rfl:k=0:=by omega))
 all_goals (first | refine Br.ab ?_ | refine WL.step (ad rfl Tryz.underlying62 rfl Tryz.sizeOf60) rfl rfl rfl ?_)
 all_goals (first | refine Br.ab ?_ | (refine WL.ld rfl (by first | exact aa aQ rfl | assumption) rfl rfl rfl ?_))
 all_goals (refine Go ?_;first | refine Br.ab ?_ | (refine WL.step (aF Tryz.underlying60 Tryz.sizeOf59 rfl rfl rfl (by omega) (by first | rfl | assumption)) rfl rfl rfl ?_))
 all_goals (refine Go ?_;first | refine Br.ab ?_ | (refine WL.ld rfl (by first | exact aa J0 rfl | assumption) rfl rfl rfl ?_))
 all_goals (refine Go ?_;first | refine Br.ab ?_ | refine bG 19 ?_ TT.mk)
 all_goals (refine Gg ?_;first | refine Br.ab ?_ | (refine WL.ld rfl (by first | exact aa aQ rfl | assumption) rfl rfl rfl ?_))
 all_goals (refine Gg ?_;first | refine Br.ab ?_ | (refine WL.step (aF Tryz.underlying60 Tryz.sizeOf59 rfl rfl rfl (by omega) (by first | rfl | assumption)) rfl rfl rfl ?_))
 all_goals (refine Gg ?_;first | refine Br.ab ?_ | (refine WL.ld rfl (by first | exact aa J0 rfl | assumption) rfl rfl rfl ?_))
 all_goals (
  first
    | (refine Br.ab ?_)
    | (refine WL.call (vs:=[_]) rfl Tryz.call104 rfl (c1 _) rfl rfl rfl ?_
       rintro _ hq ⟨rfl,jo⟩
       subst jo))
 all_goals (refine Gg ?_;refine Go ?_;first | refine Br.ab ?_ | refine bG 29 ?_ TT.mk)
 all_goals (refine Gg ?_;first | refine Br.ab ?_ | (refine WL.ld rfl (by first | exact aa aQ rfl | assumption) rfl rfl rfl ?_))
 all_goals (refine Gg ?_;first | refine Br.ab ?_ | (refine WL.step (aF Tryz.underlying60 Tryz.sizeOf59 rfl rfl rfl (by omega) (by first | rfl | assumption)) rfl rfl rfl ?_))
 all_goals (refine Gg ?_;first | refine Br.ab ?_ | (refine WL.ld rfl (by first | exact aa J0 rfl | assumption) rfl rfl rfl ?_))
 all_goals (
  first
    | (refine Br.ab ?_)
    | (refine WL.call (vs:=[_]) rfl Tryz.call104 rfl (c2 _) rfl rfl rfl ?_
       rintro _ hq ⟨rfl,jo⟩
       subst jo))
 all_goals (refine Gg ?_;refine Go ?_;first | refine Br.ab ?_ | refine Gs [(1,_),(3,_),(38,_)] ?_)
 all_goals (first | refine Br.ab ?_ | refine aJ 3 4 ?_ TT.mk)
 all_goals try (
 refine ax 4 ?_
 refine WC.skip ?_
 skip)
 all_goals (refine Gn ?_;first | refine Br.ab ?_ | refine WC.region ?_)
 all_goals (refine Go ?_;first | refine Br.ab ?_ | (exact ⟨0+1,⟨rfl,rfl,trivial⟩,(by exact ⟨rfl,by omega⟩),(by omega)⟩))
 try (refine Br.mk (i:=1000) ?_)
 refine Gn ?_;refine G2 ?_;refine WL.ld rfl (by first | exact aa aQ rfl | assumption) rfl rfl rfl (Go ?_)
 refine bG 42 ?_ TT.mk
 refine Gg ?_;refine WL.ld rfl (by first | exact aa aQ rfl | assumption) rfl rfl rfl ?_
 refine Gg ?_;refine Go ?_;refine Gs [(1,_),(4,_)] ?_;refine G3 ?_;refine WL.ld rfl (by first | exact aa aQ rfl | assumption) rfl rfl rfl ?_
 refine Gn ?_;refine WC.block ?_;refine G2 ?_
 refine aJ 5 6 ?_ TT.mk
 all_goals (refine ax 5 ?_)
 refine G2 ?_;refine Gs [(2,_)] ?_;refine Gt ?_
 first | exact ⟨rfl,ay⟩ | (exfalso;simp_all)
abbrev iC:List UInt8:=[0,3,0,0,117,115,101,114,0,117,0,0]
theorem CH {h:ah} {p:Nat} (hp:h[p]?=some (.cells ⟨[St iX,St uL]⟩ 59 (0,0))):ag Tryz.prog 29 ⟨[.agg ⟨[In 196608,In 0,In 0,.slice (some ⟨p,0,none⟩) 1 1]⟩]⟩ h fun u h'=>∃ v,u=.tuple ⟨[v,In 0]⟩∧Own h' v 5 1 12 (bu iC)∧Ext No h h':=by
 have Ov:iX.length=4:=rfl
 have Ow:uL.length=1:=rfl
 have km:=fun (g:ah) (x:Ext No h g)=>HQ (x.obj hp aO)
 refine calls [(0,_)] Tryz.func29 rfl Tryz.ntmps29 rfl ⟨rfl,trivial⟩ ?_
 refine WC.sr ?_;refine WL.ai (aB rfl) rfl rfl rfl ?_
 rintro _ h1 ⟨b1,rfl,bO,aQ,ay⟩
 refine Go ?_;refine WC.seq ?_;refine WC.sr ?_;refine WL.step (an Tryz.isAgg62 Tryz.sizeOf62 rfl rfl (by exact At.au aQ)) rfl rfl rfl ?_
 refine WL.call (vs:=[_]) rfl Tryz.call61 rfl (km _ ay) rfl rfl rfl ?_
 rintro _ h2 ⟨rfl,aH⟩
 have bX:=aH.obj aQ aO
 have X2:=ay.trans aH
 refine Go ?_;refine Gs [(1,_),(8,_)] ?_
 refine aJ 1 2 ?_ TT.mk
 all_goals (refine ax 2 ?_)
 refine WC.skip ?_;refine Gn ?_;refine G2 ?_;refine WL.ld rfl (by first | exact aa bX rfl | assumption) rfl rfl rfl ?_
 refine WL.call (vs:=[_,_,_]) rfl Tryz.call62 rfl (kI [] 196608 4 (.inr (.inr rfl)) (by unfold Rt;decide) (Rd.nil _ _) (by decide)) rfl rfl rfl ?_
 rintro v3 h3 ⟨dE,aP,gG⟩
 have dE:Own h3 v3 5 1 4 (bu [0,3,0,0]):=dE
 have cm:=aP.obj bX aO
 have X3:=X2.trans aP
 refine Go ?_;refine Gs [(1,_),(4,_)] ?_;refine G3 ?_;refine WL.ld rfl (by first | exact aa cm rfl | assumption) rfl rfl rfl ?_
 refine Gn ?_;refine WC.block ?_;refine G2 ?_
 refine aJ 3 4 ?_ TT.mk
 all_goals (refine ax 3 ?_)
 refine G3 ?_;refine Gs [(1,_),(4,_),(5,_)] ?_;refine WC.block ?_;refine WC.bC (X:=Nat × Value) (fun x=>([(5,In (x.1:Int)),(4,x.2)]:Fr)) [(1,_)] (fun x h'=>(x.1=0∧x.2=v3∧h'=h3)∨(x.1=1∧Own h' x.2 5 1 11 (bu [0,3,0,0,117,115,101,114,0,117,0])∧Ext No h2 h'∧∀ q,x.2.ownBlock=some q→h2.size≤q)) (fun x=>1 - x.1) ((0,v3)) ⟨rfl,rfl,rfl,trivial⟩ (by exact .inl ⟨rfl,rfl,rfl⟩) ?_
 rintro ⟨k,w⟩ h4 hI
 dsimp only at hI
 have X4:Ext No h2 h4:=by rcases hI with ⟨_,_,rfl⟩ | ⟨_,_,x,_⟩;exact aP;exact x
 have bP:=X4.obj bX aO
 have MP:=(X2.trans X4).obj hp aO
 refine WC.sub [(4,_),(5,_),(1,_)] ⟨rfl,rfl,rfl,trivial⟩ ?_
 dsimp only
 refine G3 ?_;refine WL.ld rfl (by first | exact aa bP rfl | assumption) rfl rfl rfl (Go ?_)
 refine Gs [(1,_),(4,_),(5,_),(20,_)] ?_
 refine aJ 5 6 (Hb.mk fun hb=>?_) (Hb.mk fun hb=>?_)
 all_goals try (
 refine ax 5 ?_
 refine WC.skip ?_
 skip)
 all_goals try (
 refine ax 6 ?_
 refine WC.exit ?_
 repeat' (with_reducible first | refine aU ?_ | refine aG rfl ?_ | refine aI ?_ | refine aL ?_ | refine aS ?_)
 refine Br.out (i:=1001) ?_
 skip)
 all_goals (refine Gn ?_;first | refine Br.ab ?_ | refine WC.seq ?_)
 all_goals (first | refine Br.ab ?_ | refine WC.block ?_)
 all_goals (first | refine Br.ab ?_ | refine WC.sr ?_)
 all_goals (first | refine Br.ab ?_ | (obtain ⟨rfl,rfl,rfl⟩:k=0∧w=v3∧h4=h3:=by rcases hI with e | ⟨e,_⟩;exact e;exfalso;omega))
 all_goals (first | refine Br.ab ?_ | refine WL.step (ak rfl) rfl rfl rfl ?_)
 all_goals (refine Go ?_;first | refine Br.ab ?_ | (refine WL.ld rfl (by first | exact aa bP rfl | assumption) rfl rfl rfl ?_))
 all_goals (refine Go ?_;first | refine Br.ab ?_ | (refine WL.step (aF Tryz.underlying60 Tryz.sizeOf59 rfl rfl rfl (by omega) (by first | rfl | assumption)) rfl rfl rfl ?_))
 all_goals (refine Go ?_;first | refine Br.ab ?_ | (refine WL.ld rfl (by first | exact aa MP rfl | assumption) rfl rfl rfl ?_))
 all_goals (
  first
    | (refine Br.ab ?_)
    | (refine WL.ai (gl rfl Tryz.underlying23 Tryz.underlying9 (show Tryz.prog.info? 5=some Tryz.t5 by kernel_rfl) rfl rfl rfl rfl rfl dE (by omega)) rfl rfl rfl ?_
       rintro v5 h5 ⟨eG,aN,gZ,_⟩
       have eG:Own h5 v5 5 1 8 (bu [0,3,0,0,117,115,101,114]):=eG
       have X5:Ext No h2 h5:=aP.trans' aN (fun q hq e=>by have:=gG q e;omega)
       have f5:∀ q,v5.ownBlock=some q→h2.size≤q:=fun q hq=>(gZ q hq).elim (gG q) (fun e=>by have:=aP.size;omega)))
 all_goals (
  first
    | (refine Br.ab ?_)
    | (refine WL.ai (aw (vs:=[_]) (cs:=[_]) (fun | [a0]=>[a0] | _=>[]) Tryz.underlying23 rfl rfl (by kernel_rfl)) rfl rfl rfl ?_
       rintro _ h6 ⟨b6,rfl,oG,bN,aM⟩))
 all_goals (
  first
    | (refine Br.ab ?_)
    | (refine WL.ai (aT (sz:=1) (bytes:=1) rfl Tryz.underlying23 (show Tryz.prog.info? 5=some Tryz.t5 by kernel_rfl) rfl rfl rfl rfl (by decide) rfl rfl (eG.ext aM (fun _ _=>aO)) (bz (len:=1) (sz:=1) (cs:=[.int .u8 0]) bN rfl) (by simp [Value.oneCell']) (by simp only [maxLen];omega) (by omega)) rfl rfl rfl ?_
       rintro v7 h7 ⟨gM,bh,Eu⟩
       have gM:Own h7 v7 5 1 9 (bu [0,3,0,0,117,115,101,114,0]):=gM
       have X7:Ext No h2 h7:=(X5.trans aM).trans' bh (fun q hq e=>by have:=f5 q e;omega)
       have f7:=bR Eu f5 (X5.trans aM).size))
 all_goals (refine Go ?_;first | refine Br.ab ?_ | refine Gs [(1,_),(4,_),(5,_)] ?_)
 all_goals (first | refine Br.ab ?_ | refine WC.region ?_)
 all_goals (refine Go ?_;first | refine Br.ab ?_ | (refine WL.ld rfl (by first | exact aa (X7.obj bX aO) rfl | assumption) rfl rfl rfl ?_))
 all_goals (refine Go ?_;first | refine Br.ab ?_ | (refine WL.step (aF Tryz.underlying60 Tryz.sizeOf59 rfl rfl rfl (by omega) (by first | rfl | assumption)) rfl rfl rfl ?_))
 all_goals (refine Go ?_;first | refine Br.ab ?_ | (refine WL.ld rfl (by first | exact aa ((X2.trans X7).obj hp aO) rfl | assumption) rfl rfl rfl ?_))
 all_goals (
  first
    | (refine Br.ab ?_)
    | (refine WL.ai (gl rfl Tryz.underlying23 Tryz.underlying9 (show Tryz.prog.info? 5=some Tryz.t5 by kernel_rfl) rfl rfl rfl rfl rfl gM (by omega)) rfl rfl rfl ?_
       rintro v8 h8 ⟨iI,bD,Ev,_⟩
       have iI:Own h8 v8 5 1 10 (bu [0,3,0,0,117,115,101,114,0,117]):=iI
       have X8:Ext No h2 h8:=X7.trans' bD (fun q hq e=>by have:=f7 q e;omega)
       have f8:∀ q,v8.ownBlock=some q→h2.size≤q:=fun q hq=>(Ev q hq).elim (f7 q) (fun e=>by have:=X7.size;omega)))
 all_goals (
  first
    | (refine Br.ab ?_)
    | (refine WL.ai (aw (vs:=[_]) (cs:=[_]) (fun | [a0]=>[a0] | _=>[]) Tryz.underlying23 rfl rfl (by kernel_rfl)) rfl rfl rfl ?_
       rintro _ h9 ⟨b9,rfl,Ox,bQ,cg⟩))
 all_goals (
  first
    | (refine Br.ab ?_)
    | (refine WL.ai (aT (sz:=1) (bytes:=1) rfl Tryz.underlying23 (show Tryz.prog.info? 5=some Tryz.t5 by kernel_rfl) rfl rfl rfl rfl (by decide) rfl rfl (iI.ext cg (fun _ _=>aO)) (bz (len:=1) (sz:=1) (cs:=[.int .u8 0]) bQ rfl) (by simp [Value.oneCell']) (by simp only [maxLen];omega) (by omega)) rfl rfl rfl ?_
       rintro v10 iD ⟨iY,cG,J1⟩
       have iY:Own iD v10 5 1 11 (bu [0,3,0,0,117,115,101,114,0,117,0]):=iY
       have wY:Ext No h2 iD:=(X8.trans cg).trans' cG (fun q hq e=>by have:=f8 q e;omega)
       have f10:=bR J1 f8 (X8.trans cg).size))
 all_goals (refine Go ?_;first | refine Br.ab ?_ | refine Gs [(1,_),(4,_),(5,_)] ?_)
 all_goals (first | refine Br.ab ?_ | refine WC.region ?_)
 all_goals (refine Go ?_;first | refine Br.ab ?_ | (exact ⟨(0+1,_),⟨rfl,rfl,rfl,trivial⟩,(by exact .inr ⟨rfl,iY,wY,f10⟩),(by first | omega | (dsimp only;omega) | simp)⟩))
 try (refine Br.mk (i:=1001) ?_)
 refine Gn ?_;refine WC.region (Go ?_);refine WL.ai (aw (vs:=[_]) (cs:=[_]) (fun | [a0]=>[a0] | _=>[]) Tryz.underlying23 rfl rfl (by kernel_rfl)) rfl rfl rfl ?_
 rintro _ h6 ⟨b6,rfl,oG,bN,aM⟩
 obtain ⟨ek,fF,f4⟩:k=1∧Own h4 w 5 1 11 (bu [0,3,0,0,117,115,101,114,0,117,0])∧∀ q,w.ownBlock=some q→h2.size≤q:=by rcases hI with ⟨e,_⟩ | ⟨e,o,_,f⟩;exfalso;omega;exact ⟨e,o,f⟩
 refine WL.ai (aT (sz:=1) (bytes:=1) rfl Tryz.underlying23 (show Tryz.prog.info? 5=some Tryz.t5 by kernel_rfl) rfl rfl rfl rfl (by decide) rfl rfl (fF.ext aM (fun _ _=>aO)) (bz (len:=1) (sz:=1) (cs:=[.int .u8 0]) bN rfl) (by simp [Value.oneCell']) (by simp only [maxLen];omega) (by omega)) rfl rfl rfl ?_
 rintro v7 h7 ⟨gM,bh,Eu⟩
 have gM:Own h7 v7 5 1 12 (bu iC):=gM
 refine Go ?_;refine Gn ?_;refine G2 ?_;refine Gt ?_
 exact ⟨v7,rfl,gM,(X2.trans (X4.trans aM)).trans' bh (fun q hq e=>by have:=f4 q e;have:=X2.size;omega)⟩
abbrev dr:List UInt8:=[0,0,0,16,0,3,0,0,117,115,101,114,0,117,0,0]
theorem wZ {h:ah} {v:Value} (hv:Rd h v 1 12 (bu iC)):ag Tryz.prog 30 ⟨[.agg ⟨[.int .u8 0,v]⟩]⟩ h fun u h'=>Own h' u 5 1 16 (bu dr)∧Ext No h h'∧∀ q,u.ownBlock=some q→h.size≤q:=by
 obtain ⟨A,c,rfl,_⟩:=id hv
 refine calls [(0,_)] Tryz.func30 rfl Tryz.ntmps30 rfl ⟨rfl,trivial⟩ ?_
 refine WC.sr ?_;refine WL.ai (aB rfl) rfl rfl rfl ?_
 rintro _ h1 ⟨b1,rfl,bO,aQ,ay⟩
 refine Go ?_;refine G2 ?_;refine G3 ?_;refine WL.ld rfl (by first | exact aa aQ rfl | assumption) rfl rfl rfl (Go ?_)
 refine Gs [(1,_),(3,_),(6,_)] ?_
 refine aJ 1 2 ?_ TT.mk
 all_goals (refine ax 2 ?_)
 refine WC.skip ?_;refine Gn ?_;refine WC.seq ?_;refine WC.bW (fun h'=>Ext No h1 h') 9 10 rfl dk ?_
 refine WH.tk 0 rfl (fun hq hC=>ak rfl) rfl rfl rfl ?_
 refine WH.tk 1 rfl (fun hq hC=>ad rfl Tryz.underlying53 rfl Tryz.sizeOf23) rfl rfl rfl ?_
 refine WH.tk 2 rfl (fun hq hC=>aA Tryz.isAgg23 rfl (by first | exact hC.cell (by first | exact aa aQ rfl | assumption) aO)) rfl rfl rfl ?_
 refine WH.tk 3 rfl (fun hq hC=>cu rfl Tryz.underlying23 rfl) rfl rfl rfl ?_
 refine WH.tk 4 rfl (fun hq hC=>ft rfl rfl (by omega)) rfl rfl rfl ?_
 refine WH.tk 6 rfl (fun hq hC=>ad rfl Tryz.underlying53 rfl Tryz.sizeOf23) rfl rfl rfl ?_
 refine WH.tk 7 rfl (fun hq hC=>aA Tryz.isAgg23 rfl (by first | exact hC.cell (by first | exact aa aQ rfl | assumption) aO)) rfl rfl rfl ?_
 refine WH.one 5 (by kernel_rfl) ?_
 refine aE.call (vs:=[_,_,_]) rfl rfl Tryz.call62 rfl (kI [] 16 4 (.inr (.inr rfl)) (by unfold Rt;decide) (Rd.nil _ _) (by decide)) rfl rfl rfl ?_ (fun _=>by kernel_rfl)
 rintro v5 h5 ⟨eG,aN,gZ⟩
 have eG:Own h5 v5 5 1 4 (bu [0,0,0,16]):=eG
 refine ⟨fun _=>aN,?_⟩
 refine WH.one 8 (by kernel_rfl) ?_
 refine aE.run rfl (aT (sz:=1) (bytes:=1) rfl Tryz.underlying23 (show Tryz.prog.info? 5=some Tryz.t5 by kernel_rfl) rfl rfl rfl rfl (by decide) rfl rfl eG (hv.aq (ay.trans aN)) (by intro c hc;obtain ⟨b,_,rfl⟩:=List.mem_map.1 hc;rfl) (by simp only [maxLen];omega) (by omega)) rfl rfl rfl ?_ (fun _=>by kernel_rfl)
 rintro v8 h8 ⟨iI,bD,pM⟩
 have iI:Own h8 v8 5 1 16 (bu dr):=iI
 refine ⟨fun _=>aN.trans' bD (fun q hq e=>by have:=gZ q e;omega),?_⟩
 have kJ:=aN.trans' bD (fun q hq e=>by have:=gZ q e;omega)
 refine WH.one 9 (by kernel_rfl) ?_
 refine aE.run rfl (bK.r (aR rfl)) rfl rfl rfl ?_ (fun _=>by kernel_rfl)
 rintro _ hz ⟨rfl,_⟩
 subst hz
 refine ⟨fun _=>kJ,?_⟩
 refine WH.done (by kernel_rfl) ?_
 refine Gn ?_;refine Gs [(2,_)] ?_;refine Gt ?_
 exact ⟨iI,ay.trans kJ,bR pM (fun q hq=>by have:=gZ q hq;have:=ay.size;omega) (by have:=ay.size;have:=aN.size;omega)⟩
theorem oH {h:ah}:ag Tryz.prog 8 ⟨[]⟩ h fun u h'=>Own h' u 5 1 16 (bu dr)∧Ext No h h'∧∀ q,u.ownBlock=some q→h.size≤q:=by
 have kb:=fun (g:ah) (p:Nat) (hp:g[p]?=some (.cells ⟨[St iX,St uL]⟩ 59 (0,0)))=>CH hp
 refine calls [] Tryz.func8 rfl Tryz.ntmps8 rfl trivial ?_
 refine G2 ?_;refine WC.sr ?_;refine WL.step (aD (vs:=[_,_]) (cs:=[_,_]) (fun | [a0,a1]=>[a0,a1] | _=>[]) rfl rfl (by kernel_rfl)) rfl rfl rfl ?_
 refine WL.ai (aw (vs:=[_]) (cs:=[_,_]) (fun | [.agg ⟨[a0,a1]⟩]=>[a0,a1] | _=>[]) Tryz.underlying60 rfl rfl (by kernel_rfl)) rfl rfl rfl ?_
 rintro _ h1 ⟨b1,rfl,bO,aQ,ay⟩
 refine WL.step (aD (vs:=[_,_]) (cs:=[_,_,_,_]) (fun | [a0,a3]=>[a0,(.int .i64 0),(.int .i64 0),a3] | _=>[]) rfl rfl (by kernel_rfl)) rfl rfl rfl ?_
 refine WL.call (vs:=[_]) rfl Tryz.call29 rfl (kb _ _ aQ) rfl rfl rfl ?_
 rintro _ h2 ⟨v2,rfl,dC,aH⟩
 obtain ⟨A2,c2,rfl,_⟩:=id dC.slice
 refine Go ?_;refine Gs [(1,_)] ?_;refine G2 ?_;refine WL.step (aD (vs:=[_]) (cs:=[_,_]) (fun | [a1]=>[(.int .u8 0),a1] | _=>[]) rfl rfl (by kernel_rfl)) rfl rfl rfl ?_
 refine WL.call (vs:=[_]) rfl Tryz.call30 rfl (wZ dC.rd) rfl rfl rfl ?_
 rintro v3 h3 ⟨dE,aP,gG⟩
 refine Go ?_;refine Gs [(0,_)] ?_;refine Gt ?_
 exact ⟨dE,(ay.trans aH).trans aP,fun q hq=>by have:=gG q hq;have:=ay.size;have:=aH.size;omega⟩
theorem jq {h:ah} {A:Option Addr} {c:Nat} (l:List UInt8) (hr:Rd h (.slice A l.length c) 1 l.length (bu l)) (hm:l.length≤140737488355328) :
   ag Tryz.prog 74 ⟨[.slice A l.length c]⟩ h fun u h'=>Own h' u 5 1 l.length (bu l)∧Ext No h h'∧(∀ k,u.ownBlock=some k→h.size≤k):=by
 cases A with
 | none =>
   have h0:l=[]:=by
     cases l with
     | nil=>rfl
     | cons a l=>obtain ⟨b,o,e,_⟩:=Rd.at_ hr (by simp);cases e
   subst h0
   refine calls [(0,_)] Tryz.func74 rfl Tryz.ntmps74 rfl ⟨rfl,trivial⟩ ?_
   refine G2 ?_;refine G3 ?_;refine WL.step (cV Tryz.underlying23 rfl rfl) rfl rfl rfl ?_;refine Gn ?_
   refine aJ 1 2 ?_ TT.mk
   all_goals (refine ax 1 ?_)
   refine G2 ?_;refine Gt ?_
   exact ⟨Own.nil _ _ _,.refl _ _,by simp [Value.ownBlock]⟩
 | some a =>
   refine calls [(0,_)] Tryz.func74 rfl Tryz.ntmps74 rfl ⟨rfl,trivial⟩ ?_
   refine G2 ?_;refine G3 ?_;refine WL.step (cV Tryz.underlying23 rfl rfl) rfl rfl rfl ?_;refine Gn ?_
   refine aJ 1 2 ?_ TT.mk
   all_goals (refine ax 2 ?_)
   refine WC.skip ?_;refine Gn ?_;refine WC.sr ?_;refine WL.ai (aw (vs:=[]) (cs:=[]) (fun _=>[]) Tryz.underlying23 rfl rfl (by kernel_rfl)) rfl rfl rfl ?_
   rintro _ h1 ⟨b1,rfl,bO,aQ,ay⟩
   refine Go ?_
   have qT:=hr.aq ay
   refine WL.ai (aT (sz:=1) (bytes:=1) rfl Tryz.underlying23 (show Tryz.prog.info? 5=some Tryz.t5 by kernel_rfl) rfl rfl rfl rfl (by decide) rfl rfl (dJ aQ rfl (by simp [maxLen])) qT (by intro c hc;obtain ⟨b,_,rfl⟩:=List.mem_map.1 hc;rfl) (by simp only [maxLen];omega) (by omega)) rfl rfl rfl ?_
   rintro v2 h2 ⟨dC,aH,lu⟩
   refine Go ?_;refine Gs [(2,_)] ?_;refine Gt ?_
   exact ⟨by simpa using dC,ay.trans' aH (fun k hk e=>by simp [Value.ownBlock] at e;omega),bR lu (fun k hk=>by simp [Value.ownBlock] at hk;omega) ay.size⟩
def iK (l:List UInt8):Int:=l.foldl (fun n x=>n * 256+(x.toNat:Int)) 0
theorem lA (l:List UInt8) (x:UInt8):iK (l++[x])=iK l * 256+(x.toNat:Int):=by simp [iK]
theorem vz {h:ah}:ag Tryz.prog 180 ⟨[In 4]⟩ h fun u h'=>u=.bool true∧h'=h:=by
 refine calls [(0,_)] Tryz.func180 rfl Tryz.ntmps180 rfl ⟨rfl,trivial⟩ ?_
 refine G2 ?_;refine G3 ?_;refine WC.block ?_;refine G3 ?_
 refine aJ 1 2 ?_ TT.mk
 all_goals (refine ax 2 ?_)
 refine G2 ?_;refine Gs [(3,_),(4,_)] ?_
 refine aJ 3 4 ?_ TT.mk
 all_goals (refine ax 4 ?_)
 refine WC.region (Go ?_);refine Gn ?_
 refine aJ 5 6 ?_ TT.mk
 all_goals (refine ax 5 ?_)
 refine G2 ?_;refine Gt ?_
 exact ⟨rfl,rfl⟩
theorem Ew {h:ah} {A:Option Addr} {c:Nat} (l:List UInt8) (hr:Rd h (.slice A l.length c) 1 l.length (bu l)) (k:Nat) (hl:k+4≤l.length) (hm:l.length≤1000000) :
   ag Tryz.prog 176 ⟨[.slice A l.length c,In (k:Int),In 4]⟩ h fun u h'=>u=.tuple ⟨[In (iK ((l.drop k).take 4)),In 0]⟩∧h'=h:=by
 have hcap:l.length≤c:=by
   obtain ⟨A1,c1,hv,hcap,_⟩:=id hr
   simp only [Value.slice.injEq] at hv
   obtain ⟨_,_,rfl⟩:=hv
   exact hcap
 have hs:=(hr.drop (l:=k) (by omega)).take (k:=4) (by omega)
 have hml:((l.drop k).take 4).length=4:=by simp;omega
 have hmb:((bu l).drop (k * 1)).take (4 * 1)=bu ((l.drop k).take 4):=by simp [bu]
 rw [hmb] at hs
 generalize (l.drop k).take 4=m at *
 refine calls [(0,_),(1,_),(2,_)] Tryz.func176 rfl Tryz.ntmps176 rfl ⟨rfl,rfl,rfl,trivial⟩ ?_
 refine G2 ?_;refine WC.seq ?_;refine WC.block ?_;refine G3 ?_;refine WL.call (vs:=[_]) rfl Tryz.call180 rfl (vz) rfl rfl rfl ?_
 rintro _ hz ⟨rfl,_⟩
 subst hz
 refine Go ?_;refine Gs [(0,_),(1,_),(2,_),(11,_)] ?_
 refine aJ 1 2 ?_ TT.mk
 all_goals (refine ax 2 ?_)
 refine WC.region (Go ?_);refine Gn ?_
 refine aJ 3 4 ?_ TT.mk
 all_goals (refine ax 4 ?_)
 refine G3 ?_;refine Gs [(0,_),(1,_),(2,_),(17,_)] ?_
 refine aJ 5 6 ?_ TT.mk
 all_goals (refine ax 6 ?_)
 refine WC.region (Go ?_);refine Gn ?_
 refine aJ 7 8 ?_ TT.mk
 all_goals (refine ax 8 ?_)
 refine WC.skip ?_;refine Gn ?_;refine G2 ?_;refine G3 ?_;refine WL.step (dv (l:=k) (k:=k+4) Tryz.underlying23 Tryz.sizeOf5 rfl rfl rfl (by omega)) rfl rfl rfl ?_
 rw [show k+4 - k=4 by omega]
 generalize (if c=k then A else A.map (·.add (k * 1)))=S at *
 refine Go ?_;refine Gs [(8,_),(33,_),(34,_),(35,_)] ?_;refine WC.block ?_;refine WC.bC (X:=Nat × Int) (fun x=>([(35,In (x.1:Int)),(8,In x.2)]:Fr)) [(33,_),(34,_)] (fun x h'=>h'=h∧x.1≤4∧x.2=iK (m.take x.1)∧0≤x.2∧x.2+1≤256 ^ x.1) (fun x=>4 - x.1) ((0,0)) ⟨rfl,rfl,rfl,rfl,trivial⟩ (by exact ⟨rfl,by simp,rfl,by simp,by simp⟩) ?_
 rintro ⟨j,n⟩ h1 ⟨hz,hj,hn,Fk,CI⟩
 dsimp only at hj hn Fk CI
 subst hz
 refine WC.sub [(8,_),(35,_),(33,_),(34,_)] ⟨rfl,rfl,rfl,rfl,trivial⟩ ?_
 dsimp only
 refine G2 ?_;refine WC.seq ?_
 refine aJ 9 10 (Hb.mk fun hb=>?_) (Hb.mk fun hb=>?_)
 all_goals try (
 refine ax 9 ?_
 refine WC.skip ?_
 skip)
 all_goals try (
 refine ax 10 ?_
 refine WC.exit ?_
 repeat' (with_reducible first | refine aU ?_ | refine aG rfl ?_ | refine aI ?_ | refine aL ?_ | refine aS ?_)
 refine Br.out (i:=1001) ?_
 skip)
 all_goals (refine Gn ?_;first | refine Br.ab ?_ | refine WC.seq ?_)
 all_goals (first | refine Br.ab ?_ | refine WC.block ?_)
 all_goals (first | refine Br.ab ?_ | refine WC.sr ?_)
 all_goals (
  first
    | (refine Br.ab ?_)
    | (obtain ⟨bL,oL,hA,hbL,hat⟩:=Rd.at_ hs (by omega)
       obtain ⟨y,hy⟩:∃ y,m[j]?=some y:=⟨_,List.getElem?_eq_getElem (by omega)⟩
       have ga:=hat.get (p:=oL+j * 1) j (show (bu m)[j]?=some (By y) by simp [bu,hy]) (by omega)
       have hpl:=pJ (show j≤3 by omega)
       have hyl:=y.toNat_lt))
 all_goals (first | refine Br.ab ?_ | (refine WL.step (aF Tryz.underlying23 Tryz.sizeOf5 rfl rfl rfl (by omega) (by first | rfl | assumption)) rfl rfl rfl ?_))
 all_goals (first | refine Br.ab ?_ | (refine WL.ld rfl (by first | exact ga | assumption) rfl rfl rfl ?_))
 all_goals (refine Go ?_;first | refine Br.ab ?_ | refine WC.region ?_)
 all_goals (refine Go ?_;first | refine Br.ab ?_ | (refine WL.step (vx rfl rfl (by decide) (by rw [show (2:Int) ^ ((8:Int)).toNat=256 from rfl];constructor <;> omega)) rfl rfl rfl ?_))
 all_goals (first | refine Br.ab ?_ | rw [show (2:Int) ^ ((8:Int)).toNat=256 from rfl])
 all_goals (refine Go ?_;first | refine Br.ab ?_ | (refine WL.step (kG Tryz.underlying5 Tryz.underlying3 rfl (by omega)) rfl rfl rfl ?_))
 all_goals (first | refine Br.ab ?_ | refine WL.step (Et rfl rfl) rfl rfl rfl ?_)
 all_goals (first | refine Br.ab ?_ | (rw [vy ⟨by omega,by omega⟩ ⟨by omega,by omega⟩]))
 all_goals (refine Go ?_;first | refine Br.ab ?_ | refine Gs [(8,_),(33,_),(34,_),(35,_)] ?_)
 all_goals (first | refine Br.ab ?_ | refine WC.region ?_)
 all_goals (refine Go ?_;first | refine Br.ab ?_ | (exact ⟨(j+1,_),⟨rfl,rfl,rfl,rfl,trivial⟩,(by exact ⟨rfl,by omega,by rw [List.take_add_one,hy,Option.toList_some,lA,← hn],by omega,by rw [Int.pow_succ];omega⟩),(by simp;omega)⟩))
 try (refine Br.mk (i:=1001) ?_)
 refine Gn ?_;refine Gs [(8,_)] ?_;refine G2 ?_;refine Gt ?_
 first | exact ⟨by rw [hn,List.take_of_length_le (by omega)],rfl⟩ | (exfalso;omega)
structure Fw (h:ah) (b:Nat) (ty:Bool) (v:Value) (l:List UInt8):Prop where
 bq:h[b]?=some (.cells ⟨[.bool ty,v,In 65536,In 262144,In 0]⟩ 147 (0,0))
 own:Own h v 5 1 l.length (bu l)
section
variable {h h':ah} {b:Nat} {ty:Bool} {v:Value} {l:List UInt8} {S:Nat→Prop}
theorem Fw.ext (k:Fw h b ty v l) (x:Ext S h h') (h1:¬ S b) (h2:∀ q,v.ownBlock=some q→¬ S q):Fw h' b ty v l:=⟨x.obj k.bq h1,k.own.ext x h2⟩
theorem Fw.aq (k:Fw h b ty v l) (x:Ext No h h'):Fw h' b ty v l:=k.ext x aO (fun _ _=>aO)
theorem Fw.ne (k:Fw h b ty v l):∀ q,v.ownBlock=some q→q ≠ b:=fun q hq e=>by
 have:=bV k.own k.bq (by decide)
 exact this (e▸hq)
theorem Fy {h:ah}:ag Tryz.prog 48 ⟨[In 65536,In 262144,.bool true]⟩ h fun u h'=>∃ b,u=.tuple ⟨[.pointer (some ⟨b,0,none⟩),In 0]⟩∧Fw h' b false (.slice none 0 0) []∧h.size≤b∧Ext No h h':=by
 refine calls [(0,_),(1,_),(2,_)] Tryz.func48 rfl Tryz.ntmps48 rfl ⟨rfl,rfl,rfl,trivial⟩ ?_
 refine G2 ?_;refine G3 ?_
 refine bG 10 ?_ TT.mk
 refine Gg ?_;refine Go ?_
 refine bG 14 ?_ TT.mk
 refine Gg ?_;refine Go ?_
 refine bG 19 ?_ TT.mk
 refine Gg ?_;refine Go ?_;refine Gs [(0,_),(1,_),(2,_),(22,_)] ?_
 refine aJ 1 2 ?_ TT.mk
 all_goals (refine ax 2 ?_)
 refine WC.skip ?_;refine Gn ?_;refine G2 ?_;refine WL.step (aD (vs:=[_]) (cs:=[_]) (fun | [a0]=>[a0] | _=>[]) rfl rfl (by kernel_rfl)) rfl rfl rfl (Go ?_)
 refine WL.step (aD (vs:=[_,_,_]) (cs:=[_,_,_,_,_]) (fun | [.agg ⟨[a0]⟩,a2,a3]=>[a0,(.slice none 0 0),a2,a3,(.int .i64 0)] | _=>[]) rfl rfl (by kernel_rfl)) rfl rfl rfl ?_
 refine WL.ai (aB rfl) rfl rfl rfl ?_
 rintro _ h1 ⟨b1,rfl,bO,aQ,ay⟩
 refine Go ?_;refine Gs [(6,_),(7,_)] ?_;refine Gt ?_
 exact ⟨b1,rfl,⟨aQ,Own.nil _ _ _⟩,bO,ay⟩
theorem kO (k:Fw h b ty v l):ag Tryz.prog 85 ⟨[.pointer (some ⟨b,0,none⟩)]⟩ h fun u h'=>u=.bool true∧h'=h:=by
 have hb:=k.bq
 refine calls [(0,_)] Tryz.func85 rfl Tryz.ntmps85 rfl ⟨rfl,trivial⟩ ?_
 refine G2 ?_;refine G2 ?_;refine WL.step (dD Tryz.underlying87 rfl rfl) rfl rfl rfl (Go ?_)
 refine bG 5 ?_ TT.mk
 refine Gg ?_;refine WL.step (ae rfl) rfl rfl rfl ?_;refine Gg ?_;refine Ld ?_;refine Gg ?_;refine Go ?_;refine Gs [(2,_)] ?_;refine Gt ?_
 exact ⟨rfl,rfl⟩
theorem jr (ty:Bool):ag Tryz.prog 88 ⟨[.agg ⟨[.bool ty]⟩]⟩ h fun u h'=>u=In ((if ty=true then 1 else 0:Nat):Int)∧Ext No h h':=by
 cases ty
 all_goals
   refine calls [(0,_)] Tryz.func88 rfl Tryz.ntmps88 rfl ⟨rfl,trivial⟩ ?_
   all_goals (refine WC.sr ?_;refine WL.ai (aB rfl) rfl rfl rfl ?_;rintro _ h1 ⟨b1,rfl,bO,aQ,ay⟩;refine Go ?_;refine G3 ?_;refine WL.ld rfl (by first | exact aa aQ rfl | assumption) rfl rfl rfl ?_;refine Gn ?_;refine Gs [(4,_)] ?_;refine aJ 1 2 ?_ TT.mk)
   all_goals try (
   refine ax 1 ?_
   all_goals (refine G2 ?_;refine Gt ?_;exact ⟨rfl,ay⟩)
   skip)
   all_goals (refine ax 2 ?_;refine WC.skip ?_;refine Gn ?_;refine G2 ?_;refine Gt ?_;exact ⟨rfl,ay⟩)
theorem CJ {w:Value} (k:Fw h b ty v l) (m:List UInt8) (hr:Rd h w 1 m.length (bu m)) (hl:l.length+m.length≤262144) :
   ag Tryz.prog 52 ⟨[.pointer (some ⟨b,0,none⟩),w]⟩ h fun u h'=>u=In 0∧∃ v',Fw h' b ty v' (l++m)∧Ext (fun q=>q=b∨v.ownBlock=some q) h h'∧∀ q,v'.ownBlock=some q→v.ownBlock=some q∨h.size≤q:=by
 have kr:=kO k
 have hb:=k.bq
 have ho:=k.own
 have hne:=k.ne
 obtain ⟨A,c,rfl,_⟩:=id hr
 obtain ⟨B,d,rfl,_⟩:=id ho.slice
 refine calls [(0,_),(1,_)] Tryz.func52 rfl Tryz.ntmps52 rfl ⟨rfl,rfl,trivial⟩ ?_
 refine G2 ?_;refine WC.seq ?_;refine WC.block ?_;refine G2 ?_;refine WL.call (vs:=[_]) rfl Tryz.call85 rfl (kr) rfl rfl rfl ?_
 rintro _ hz ⟨rfl,_⟩
 subst hz
 refine Go ?_;refine Gs [(0,_),(1,_),(5,_)] ?_
 refine aJ 1 2 ?_ TT.mk
 all_goals (refine ax 2 ?_)
 refine WC.seq ?_;refine WC.fo dk (by kernel_rfl) ?_
 refine WQ.aK (ak rfl) rfl rfl rfl ?_;refine WQ.aK (cu rfl Tryz.underlying23 rfl) rfl rfl rfl ?_;refine WQ.aK (ak rfl) rfl rfl rfl ?_;refine WQ.aK (ae rfl) rfl rfl rfl ?_;refine WQ.aK (ad rfl Tryz.underlying147 rfl Tryz.sizeOf3) rfl rfl rfl ?_;refine WQ.aK (aA Tryz.isAgg3 rfl (by first | exact aa hb rfl | assumption)) rfl rfl rfl ?_
 refine WQ.aK (ak rfl) rfl rfl rfl ?_;refine WQ.aK (ae rfl) rfl rfl rfl ?_;refine WQ.aK (ad rfl Tryz.underlying147 rfl Tryz.sizeOf23) rfl rfl rfl ?_;refine WQ.aK (aA Tryz.isAgg23 rfl (by first | exact aa hb rfl | assumption)) rfl rfl rfl ?_
 refine WQ.aK (cu rfl Tryz.underlying23 rfl) rfl rfl rfl ?_;refine WQ.aK (fu rfl rfl (by omega)) rfl rfl rfl ?_
 refine WQ.aK (bK.eX (by omega) (iQ rfl rfl)) rfl rfl rfl ?_
 refine WQ.aK (aR rfl) rfl rfl rfl ?_;refine WQ.nil ?_;refine Gn ?_;refine Gs [(0,_),(1,_),(9,_)] ?_
 refine aJ 3 4 ?_ TT.mk
 all_goals (refine ax 4 ?_)
 refine WC.skip ?_;refine Gn ?_;refine G2 ?_;refine WL.step (ae rfl) rfl rfl rfl (Go ?_);refine WL.ld rfl (by first | exact aa hb rfl | assumption) rfl rfl rfl (Go ?_)
 refine WL.ai (aT (sz:=1) (bytes:=1) rfl Tryz.underlying23 (show Tryz.prog.info? 5=some Tryz.t5 by kernel_rfl) rfl rfl rfl rfl (by decide) rfl rfl ho hr (by intro c hc;obtain ⟨b,_,rfl⟩:=List.mem_map.1 hc;rfl) (by simp only [maxLen];omega) (by omega)) rfl rfl rfl ?_
 rintro v2 h2 ⟨dC,aH,lu⟩
 obtain ⟨B2,d2,rfl,_⟩:=id dC.slice
 have bH:=aH.obj hb (fun e=>hne _ e rfl)
 have lb:=aj hb
 refine WL.step (ae rfl) rfl rfl rfl (Go ?_);refine WL.az (aC Tryz.sizeOf23 rfl rfl bH (Nat.le_of_ble_eq_true rfl) rfl rfl) rfl rfl ?_
 rintro _ h3 ⟨bn,aP⟩
 refine Gn ?_;refine Gs [] ?_;refine G2 ?_;refine Gt ?_
 refine ⟨rfl,_,⟨bn,?_⟩,(aH.mono fun _ _ e=>.inr e).trans (aP.mono fun _ _ e=>.inl e),fun q hq=>lu.elim (fun e=>.inl (e▸hq)) (fun e=>.inr (by rw [e] at hq;injection hq with hq;omega))⟩
 have:=dC.ext aP (fun q hq e=>by subst e;exact lu.elim (fun e=>hne _ (e▸hq) rfl) (fun e=>by rw [e] at hq;injection hq with hq;omega))
 rw [List.length_append,show bu (l++m)=bu l++bu m from List.map_append ..]
 exact this
theorem vA (k:Fw h b ty v l) (hd:Nat) (he:(if ty=true then 1 else 0)=hd) (hl:hd+4≤l.length) (hm:l.length≤1000000):ag Tryz.prog 171 ⟨[.pointer (some ⟨b,0,none⟩)]⟩ h fun u h'=>u=.tuple ⟨[In (iK ((l.drop hd).take 4)),.bool true]⟩∧Ext No h h':=by
 have hb:=k.bq
 have ho:=k.own
 obtain ⟨B,d,rfl,_⟩:=id ho.slice
 have kh:=fun h'=>jr (h:=h') ty
 rw [he] at kh
 have kg:=fun h' (x:Ext No h h')=>Ew l (ho.rd.aq x) hd hl hm
 refine calls [(0,_)] Tryz.func171 rfl Tryz.ntmps171 rfl ⟨rfl,trivial⟩ ?_
 refine G2 ?_;refine WC.seq ?_;refine WC.bW (fun h'=>Ext No h h') 15 15 rfl dk ?_
 refine WH.tk 0 rfl (fun hq hC=>ak rfl) rfl rfl rfl ?_
 refine WH.tk 1 rfl (fun hq hC=>ae rfl) rfl rfl rfl ?_
 refine WH.tk 2 rfl (fun hq hC=>ad rfl Tryz.underlying147 rfl Tryz.sizeOf23) rfl rfl rfl ?_
 refine WH.tk 3 rfl (fun hq hC=>aA Tryz.isAgg23 rfl (by first | exact hC.cell (by first | exact aa hb rfl | assumption) aO)) rfl rfl rfl ?_
 refine WH.tk 4 rfl (fun hq hC=>ak rfl) rfl rfl rfl ?_
 refine WH.tk 5 rfl (fun hq hC=>ae rfl) rfl rfl rfl ?_
 refine WH.tk 6 rfl (fun hq hC=>ad rfl Tryz.underlying147 rfl Tryz.sizeOf145) rfl rfl rfl ?_
 refine WH.tk 7 rfl (fun hq hC=>an Tryz.isAgg145 Tryz.sizeOf145 rfl rfl (by exact At.pre (xs:=[_]) (ys:=[_,_,_,_]) ((At.au hb).ext hC aO))) rfl rfl rfl ?_
 refine WH.one 8 (by kernel_rfl) ?_
 refine aE.call (vs:=[_]) rfl rfl Tryz.call88 rfl (kh _) rfl rfl rfl ?_ (fun _=>by kernel_rfl)
 rintro _ h1 ⟨rfl,ay⟩
 refine ⟨fun _=>ay,?_⟩
 refine WH.one 9 (by kernel_rfl) ?_
 refine aE.call (vs:=[_,_,_]) rfl rfl Tryz.call176 rfl (kg _ ay) rfl rfl rfl ?_ (fun _=>by kernel_rfl)
 rintro _ hq ⟨rfl,hz⟩
 replace hz:=hz.symm
 subst hz
 refine ⟨fun _=>ay,?_⟩
 refine WH.tk 10 rfl (fun hq hC=>ak rfl) rfl rfl rfl ?_
 refine WH.tk 11 rfl (fun hq hC=>bU rfl rfl) rfl rfl rfl ?_
 refine WH.tk 12 rfl (fun hq hC=>bU rfl rfl) rfl rfl rfl ?_
 refine WH.tk 13 rfl (fun hq hC=>aR rfl) rfl rfl rfl ?_
 refine WH.tk 14 rfl (fun hq hC=>aR rfl) rfl rfl rfl ?_
 refine WH.done (by kernel_rfl) ?_
 refine Gn ?_;refine Gs [(4,_),(5,_)] ?_;refine G2 ?_;refine Gs [(2,_),(3,_)] ?_;refine Gt ?_
 exact ⟨rfl,by first | exact ay | exact hC⟩
theorem rI (k:Fw h b ty v l) (n:Nat) (hn:4≤n∧n≤65536):ag Tryz.prog 172 ⟨[.pointer (some ⟨b,0,none⟩),In (n:Int)]⟩ h fun u h'=>u=In 0∧h'=h:=by
 have hb:=k.bq
 refine calls [(0,_),(1,_)] Tryz.func172 rfl Tryz.ntmps172 rfl ⟨rfl,rfl,trivial⟩ ?_
 refine G2 ?_;refine WC.seq ?_;refine WC.block ?_;refine G2 ?_
 refine aJ 1 2 ?_ TT.mk
 all_goals (refine ax 2 ?_)
 refine G2 ?_;refine WL.step (ae rfl) rfl rfl rfl (Go ?_);refine WL.ld rfl (by first | exact aa hb rfl | assumption) rfl rfl rfl (Go ?_)
 refine Gs [(8,_)] ?_
 refine aJ 3 4 ?_ TT.mk
 all_goals (refine ax 4 ?_)
 refine WC.skip ?_;refine Gn ?_;refine G2 ?_;refine Gt ?_
 first | exact ⟨rfl,rfl⟩ | (exfalso;omega)
theorem yY (k:Fw h b ty v l) (hd n:Nat) (he:(if ty=true then 1 else 0)=hd) (hn:iK ((l.drop hd).take 4)=(n:Int)) (h4:4≤n∧n≤65536) (hl:hd+n≤l.length) (hm:l.length≤1000000) :
   ag Tryz.prog 121 ⟨[.pointer (some ⟨b,0,none⟩)]⟩ h fun u h'=>u=.tuple ⟨[In ((hd+n:Nat):Int),.bool true,In 0]⟩∧Fw h' b ty v l∧Ext (fun q=>q=b) h h':=by
 have hb:=k.bq
 have lb:=aj hb
 have ks:=vA k hd he (by omega) hm
 rw [hn] at ks
 have kc:=fun (g:ah) (x:Ext No h g)=>rI (k.aq x) n h4
 have kh:=fun h'=>jr (h:=h') ty
 rw [he] at kh
 obtain ⟨B,d,rfl,_⟩:=id k.own.slice
 refine calls [(0,_)] Tryz.func121 rfl Tryz.ntmps121 rfl ⟨rfl,trivial⟩ ?_
 refine G2 ?_;refine G3 ?_;refine WL.step (ae rfl) rfl rfl rfl (Go ?_);refine WL.ld rfl (by first | exact aa hb rfl | assumption) rfl rfl rfl (Go ?_)
 refine Gs [(0,_),(12,_)] ?_
 refine aJ 1 2 ?_ TT.mk
 all_goals (refine ax 2 ?_)
 refine WC.skip ?_;refine Gn ?_;refine G2 ?_;refine WL.call (vs:=[_]) rfl Tryz.call171 rfl (ks) rfl rfl rfl ?_
 rintro _ h1 ⟨rfl,ay⟩
 have aQ:=ay.obj hb aO
 refine Go ?_;refine Gs [(0,_),(5,_),(6,_)] ?_;refine G3 ?_
 refine aJ 3 4 ?_ TT.mk
 all_goals (refine ax 4 ?_)
 refine WC.skip ?_;refine Gn ?_;refine G3 ?_;refine WL.call (vs:=[_,_]) rfl Tryz.call172 rfl (kc _ ay) rfl rfl rfl ?_
 rintro _ hq ⟨rfl,hz⟩
 replace hz:=hz.symm
 subst hz
 refine WL.step (ae rfl) rfl rfl rfl (Go ?_);refine WL.az (aC Tryz.sizeOf48 rfl rfl aQ (Nat.le_of_ble_eq_true rfl) rfl rfl) rfl rfl ?_
 rintro _ h2 ⟨bH,aH⟩
 have k2:Fw h2 b ty (.slice B l.length d) l:=⟨bH,(k.aq ay).own.ext aH (k.aq ay).ne⟩
 refine Gn ?_;refine Gs [(0,_),(5,_)] ?_;refine G2 ?_;refine WL.step (ae rfl) rfl rfl rfl (Go ?_);refine WL.ld rfl (by first | exact aa bH rfl | assumption) rfl rfl rfl (Go ?_)
 refine Gs [(0,_),(5,_),(34,_)] ?_
 refine aJ 5 6 ?_ TT.mk
 all_goals (refine ax 6 ?_)
 refine WC.skip ?_;refine Gn ?_;refine G2 ?_;refine WL.step (ae rfl) rfl rfl rfl (Go ?_);refine WL.step (an Tryz.isAgg145 Tryz.sizeOf145 rfl rfl (by exact At.pre (xs:=[_]) (ys:=[_,_,_,_]) (At.au bH))) rfl rfl rfl ?_
 refine WL.call (vs:=[_]) rfl Tryz.call88 rfl (kh _) rfl rfl rfl ?_
 rintro _ h3 ⟨rfl,aP⟩
 have k3:=k2.aq aP
 have bn:=k3.bq
 have X3:Ext (fun q=>q=b) h h3:=(ay.mono fun _ _ e=>e.elim).trans (aH.trans (aP.mono fun _ _ e=>e.elim))
 refine Go ?_;refine Gs [(0,_),(7,_)] ?_;refine WC.seq ?_;refine WC.fo dk (by kernel_rfl) ?_
 refine WQ.aK (ak rfl) rfl rfl rfl ?_;refine WQ.aK (ak rfl) rfl rfl rfl ?_;refine WQ.aK (ak rfl) rfl rfl rfl ?_;refine WQ.aK (ae rfl) rfl rfl rfl ?_;refine WQ.aK (ad rfl Tryz.underlying147 rfl Tryz.sizeOf23) rfl rfl rfl ?_;refine WQ.aK (aA Tryz.isAgg23 rfl (by first | exact aa bn rfl | assumption)) rfl rfl rfl ?_
 refine WQ.aK (cu rfl Tryz.underlying23 rfl) rfl rfl rfl ?_
 first | (refine WQ.aK (bK.dL (by omega) (mW rfl rfl)) rfl rfl rfl ?_)
 refine WQ.aK (aR rfl) rfl rfl rfl ?_;refine WQ.aK (aR rfl) rfl rfl rfl ?_;refine WQ.aK (aR rfl) rfl rfl rfl ?_;refine WQ.nil ?_;refine Gn ?_;refine Gs [(2,_),(3,_),(4,_)] ?_;refine Gt ?_
 exact ⟨rfl,k3,X3⟩
theorem yZ (k:Fw h b ty v l):ag Tryz.prog 92 ⟨[.pointer (some ⟨b,0,none⟩)]⟩ h fun u h'=>u=.tuple ⟨[]⟩∧Fw h' b true v l∧Ext (fun q=>q=b) h h':=by
 have kr:=kO k
 have hb:=k.bq
 have ho:=k.own
 have hne:=k.ne
 obtain ⟨B,d,rfl,_⟩:=id ho.slice
 refine calls [(0,_)] Tryz.func92 rfl Tryz.ntmps92 rfl ⟨rfl,trivial⟩ ?_
 refine G2 ?_;refine WL.call (vs:=[_]) rfl Tryz.call85 rfl (kr) rfl rfl rfl ?_
 rintro _ hz ⟨rfl,_⟩
 subst hz
 refine Gn ?_
 refine aJ 1 2 ?_ TT.mk
 all_goals (refine ax 1 ?_)
 refine WC.region (Go ?_);refine WL.step (ae rfl) rfl rfl rfl (Go ?_);refine WL.az (aC Tryz.sizeOf4 rfl rfl hb (Nat.le_of_ble_eq_true rfl) rfl rfl) rfl rfl ?_
 rintro _ h3 ⟨bn,aP⟩
 refine Gn ?_;refine Gn ?_
 refine fa [] trivial ?_
 exact ⟨rfl,⟨bn,ho.ext aP hne⟩,aP⟩
end
theorem J2 (l:List UInt8):∀ c∈bu l,c.oneCell'=true:=fun c hc=>by obtain ⟨b,_,rfl⟩:=List.mem_map.1 hc;rfl
theorem tK {h:ah} {A:Option Addr} {c k:Nat} (l:List UInt8) (ho:Own h (.slice A l.length c) 5 1 l.length (bu l)) (hk:0 < k∧k≤l.length) (hm:l.length≤1000000) :
   ag Tryz.prog 87 ⟨[.slice A l.length c,In 0,In (k:Int)]⟩ h fun u h'=>Own h' u 5 1 (l.drop k).length (bu (l.drop k))∧Ext (fun b=>(Value.slice A l.length c).ownBlock=some b) h h'∧u.ownBlock=(Value.slice A l.length c).ownBlock:=by
 obtain ⟨b,c',cs,hv,hb,hnc,hcm,hcl,hct⟩:=ho.block (by omega)
 simp only [Value.slice.injEq] at hv
 obtain ⟨rfl,_,rfl⟩:=hv
 simp only [Nat.mul_one] at hcl hct
 unfold maxLen at hcm
 have e3:(l.drop k).length=l.length - k:=List.length_drop ..
 have hrd:=ho.rd.drop (l:=k) (by omega)
 refine calls [(0,_),(1,_),(2,_)] Tryz.func87 rfl Tryz.ntmps87 rfl ⟨rfl,rfl,rfl,trivial⟩ ?_
 refine G2 ?_;refine G2 ?_;refine WL.step (pD Tryz.underlying23 Tryz.sizeOf5 rfl rfl rfl rfl (by omega)) rfl rfl rfl ?_
 refine Gn ?_;refine Gs [(0,_),(1,_),(2,_)] ?_;refine G3 ?_
 refine aJ 1 2 ?_ TT.mk
 all_goals (refine ax 2 ?_)
 refine WC.skip ?_;refine Gn ?_;refine G2 ?_;refine Gs [(0,_),(1,_),(2,_),(7,_)] ?_;refine WC.seq ?_;refine WC.kD 6 dk (by kernel_rfl) ?_
 show WS _ _ _ [_,_,_,_,_,_] _ _ _
 refine WS.step (ak rfl) rfl rfl rfl ?_;refine WS.step (ak rfl) rfl rfl rfl ?_;refine WS.step (na Tryz.underlying23 Tryz.sizeOf5 rfl rfl (by omega)) rfl rfl rfl ?_
 refine WS.step (ak rfl) rfl rfl rfl ?_;refine WS.step (ak rfl) rfl rfl rfl ?_;refine WS.step (eQ Tryz.underlying23 Tryz.sizeOf5 rfl rfl (by omega)) rfl rfl rfl ?_
 refine WS.nil ?_
 show WL _ _ _ [_,_] _ _ _
 refine WL.ai (rf (sz:=1) rfl Tryz.underlying23 (show Tryz.prog.info? 5=some Tryz.t5 by kernel_rfl) rfl rfl rfl hb (by omega) hrd (fun v hv=>J2 l v (List.mem_of_mem_drop hv)) (by omega)) rfl rfl rfl ?_
 rintro _ h2 ⟨rfl,bH,aH⟩
 simp only [Int.toNat_zero,List.take_zero,List.nil_append,Nat.zero_add,Nat.zero_mul,Nat.mul_one] at bH
 have e4:List.drop k (bu l)=bu (l.drop k):=by simp [bu]
 rw [e4] at bH
 have e5:(bu (l.drop k)).length=l.length - k:=by simp [bu]
 have e6:(bu (l.drop k)++List.drop (l.length - k) cs).length=c:=by rw [List.length_append,e5,List.length_drop,hcl];omega
 refine WL.step (aR rfl) rfl rfl rfl ?_;refine WL.nil ?_;refine Gn ?_;refine Gs [(0,_),(7,_)] ?_;refine G2 ?_;refine WL.step (dv Tryz.underlying23 Tryz.sizeOf5 rfl rfl rfl (by omega)) rfl rfl rfl ?_
 refine WL.az (wG rfl Tryz.underlying23 (fun w=>Tryz.zeroValue5 w) rfl (by first | rfl | assumption | exact (if_neg (by omega)).trans (congrArg some (Addr.add_lit _ _ _))) (by omega) bH (by show 0+_ * 1+_ * 1≤_;simp [e3];omega) (by simp [Value.cells,Value.oneCell'])) rfl rfl ?_
 rintro _ h3 ⟨Oy,bn,Cl,LA,aP⟩
 refine Gn ?_;refine Gs [(0,_)] ?_;refine G2 ?_;refine Gt ?_
 rw [e6] at Cl
 refine ⟨?_,(aH.trans aP).mono (fun q _ e=>by simp [e,Value.ownBlock]),rfl⟩
 rw [e3]
 simp only [Int.toNat_zero,Nat.zero_add,Nat.mul_one] at LA ⊢
 exact Own.au (c:=c) bn (by omega) (by unfold maxLen;omega) (by rw [Cl,Nat.mul_one]) (by rw [Nat.mul_one,LA _ (by omega),List.take_append_of_le_length (by omega),List.take_of_length_le (by omega)])
def np (ty : Bool) (l : List UInt8) : UInt8 := if ty = true then l.headD 0 else 0
section
variable {h h' : ah} {b : Nat} {ty : Bool} {v : Value} {l : List UInt8} {S : Nat → Prop}
set_option maxHeartbeats 2000000 in
set_option maxRecDepth 100000 in
theorem pU (k : Fw h b ty v l) (hd n : Nat) (he : (if ty = true then 1 else 0) = hd) (hn : iK ((l.drop hd).take 4) = (n : Int)) (h4 : 4 ≤ n ∧ n ≤ 65536) (hl : hd + n ≤ l.length) (hm : l.length ≤ 1000000) :
    ag Tryz.prog 86 ⟨[.pointer (some ⟨b, 0, none⟩)]⟩ h fun u h' => ∃ w, u = .tuple ⟨[.agg ⟨[By (np ty l), w]⟩, .bool true, In 0]⟩ ∧ Own h' w 5 1 (n - 4) (bu ((l.drop (hd + 4)).take (n - 4))) ∧ Fw h' b ty v l ∧ Ext (fun q => q = b) h h' ∧ ∀ q, w.ownBlock = some q → h.size ≤ q := by
  have kr := fun (h' : ah) (k : Fw h' b ty v l) => kO k
  have kw := fun (h' : ah) (k : Fw h' b ty v l) => yY k hd n he hn h4 hl hm
  have kh := fun h' => jr (h := h') ty
  rw [he] at kh
  obtain ⟨B, d, rfl, _⟩ := id k.own.slice
  have hln : ((l.drop (hd + 4)).take (n - 4)).length = n - 4 := by simp; omega
  have hcap : l.length ≤ d := by
    obtain ⟨A1, c1, hv, hcap, _⟩ := id k.own.rd
    simp only [Value.slice.injEq] at hv
    obtain ⟨_, _, rfl⟩ := hv
    exact hcap
  obtain ⟨m, hme⟩ : ∃ m, m = (l.drop (hd + 4)).take (n - 4) := ⟨_, rfl⟩
  rw [← hme] at hln ⊢
  have cap := fun (g : ah) (k : Fw g b ty (.slice B l.length d) l) (e : ty = true) => (show ∃ bb o, B = some ⟨bb, o, none⟩ ∧ At g bb o [By (np ty l)] by
    obtain ⟨bb, o, eA, _, hat⟩ := Rd.at_ k.own.rd (by omega)
    subst e
    cases l with
    | nil => simp at hl; omega
    | cons x l => exact ⟨bb, o, eA, At.pre (xs := [By x]) hat⟩)
  cases ty
  all_goals
    refine calls [(0, _)] Tryz.func86 rfl Tryz.ntmps86 rfl ⟨rfl, trivial⟩ ?_
    all_goals (refine WC.sr ?_; refine WL.ai (av (fun w => Tryz.zeroValue53 w)) rfl rfl rfl ?_; rintro _ h1 ⟨b1, rfl, bO, aQ, ay⟩; have k1 := k.aq ay; have lb := aj k.bq; refine Go ?_; refine WC.seq ?_; refine WC.sr ?_; refine Go ?_; refine WL.call (vs := [_]) rfl (fun a w => Tryz.call85 a w) rfl (kr _ k1) rfl rfl rfl ?_; rintro _ hq ⟨rfl, hz⟩; replace hz := hz.symm; subst hz; refine Go ?_; refine Gs [(0, _), (2, _), (11, _)] ?_; refine aJ 1 2 ?_ TT.mk; refine ax 2 ?_; refine WC.skip ?_; refine Gn ?_; refine WC.sr ?_; refine Go ?_; refine WL.call (vs := [_]) rfl (fun a w => Tryz.call121 a w) rfl (kw _ k1) rfl rfl rfl ?_; rintro _ h2 ⟨rfl, k2, aH⟩)
    all_goals (have bH := k2.bq
               have bX := aH.obj aQ (fun e => by omega)
               have xY := (k2.own.rd.drop (l := hd + 4) (by omega)).take (k := n - 4) (by omega)
               have hmb : ((bu l).drop ((hd + 4) * 1)).take ((n - 4) * 1) = bu ((l.drop (hd + 4)).take (n - 4)) := by simp [bu]
               rw [hmb, ← hme, ← hln] at xY
               have Oz := aj bH
               have MQ := aj bX
               have X : Ext No h2 h2 := .refl _ _)
    all_goals (refine Go ?_; refine Gs [(0, _), (2, _), (5, _), (6, _), (7, _)] ?_; refine WC.seq ?_; refine WC.sr ?_; refine Go ?_; refine aJ 3 4 ?_ TT.mk; refine ax 4 ?_; refine WC.skip ?_; refine Gn ?_; refine Gs [(0, _), (2, _), (5, _)] ?_; refine WC.seq ?_; refine WC.bW (fun h' => Ext No h2 h') 15 16 rfl dk ?_; refine WH.tk 0 rfl (fun hq hC => ak rfl) rfl rfl rfl ?_; refine WH.tk 1 rfl (fun hq hC => ae rfl) rfl rfl rfl ?_; refine WH.tk 2 rfl (fun hq hC => ad rfl Tryz.underlying147 rfl (fun w => Tryz.sizeOf23 w)) rfl rfl rfl ?_; refine WH.tk 3 rfl (fun hq hC => aA (fun w => Tryz.isAgg23 w) rfl (by first | exact hC.cell (by first | exact At.pre (xs := [_]) (ys := [_, _, _]) (At.tl ((At.au bH).ext hC aO)) | assumption | exact aa (by assumption) rfl) aO)) rfl rfl rfl ?_; refine WH.tk 4 rfl (fun hq hC => ak rfl) rfl rfl rfl ?_; refine WH.tk 5 rfl (fun hq hC => ae rfl) rfl rfl rfl ?_; refine WH.tk 6 rfl (fun hq hC => ad rfl Tryz.underlying147 rfl (fun w => Tryz.sizeOf145 w)) rfl rfl rfl ?_; refine WH.tk 7 rfl (fun hq hC => an (fun w => Tryz.isAgg145 w) (fun w => Tryz.sizeOf145 w) rfl rfl (by exact At.pre (xs := [_]) (ys := [_, _, _, _]) ((At.au bH).ext hC aO))) rfl rfl rfl ?_; refine WH.tk 10 rfl (fun hq hC => ak rfl) rfl rfl rfl ?_; refine WH.two 8 14 (by kernel_rfl) (Br.out (i := 5006) ?_) (Br.out (i := 5007) ?_))
    all_goals (first | (fail_if_success refine ax 5006 ?_) | (
    refine ax 5006 ?_
    all_goals (refine aE.call (vs := [_]) rfl rfl (fun a w => Tryz.call88 a w) rfl (kh _) rfl rfl rfl ?_ (fun _ => by kernel_rfl); rintro _ h3 ⟨rfl, aP⟩; replace X := X.trans aP; try (replace bE := aP.obj bE aO))
    all_goals (refine ⟨fun _ => X, ?_⟩; refine WH.tk 9 rfl (fun hq hC => ft rfl rfl (by omega)) rfl rfl rfl ?_; refine WH.tk 11 rfl (fun hq hC => dv (l := hd + 4) (k := hd + n) Tryz.underlying23 (fun w => Tryz.sizeOf5 w) rfl rfl rfl (by omega)) rfl rfl rfl ?_; rw [show hd + n - (hd + 4) = m.length by omega])
    all_goals (refine WH.two 12 14 (by kernel_rfl) (Br.out (i := 5006) ?_) (Br.out (i := 5007) ?_))
    all_goals (first | (fail_if_success refine ax 5006 ?_) | (
    refine ax 5006 ?_
    all_goals (refine aE.call (vs := [_]) rfl rfl (fun a w => Tryz.call74 a w) rfl (jq m (xY.aq X) (by omega)) rfl rfl rfl ?_ (fun _ => by kernel_rfl); rintro w3 h4 ⟨how, aW, hfw⟩; (have hfw : ∀ q, w3.ownBlock = some q → h2.size ≤ q := fun q hq => by have := hfw q hq; have := X.size; omega); obtain ⟨A3, c3, rfl, _⟩ := id how.slice; replace X := X.trans aW; try (replace bE := aW.obj bE aO))
    all_goals (refine ⟨fun _ => X, ?_⟩; refine WH.tk 13 rfl (fun hq hC => aD (vs := [_]) (cs := [_, _]) (fun | [a1] => [(.int .u8 0), a1] | _ => []) rfl rfl (by kernel_rfl)) rfl rfl rfl ?_; refine WH.one 14 (by kernel_rfl) ?_; refine aE.run rfl (av (fun w => Tryz.zeroValue53 w)) rfl rfl rfl ?_ (fun _ => by kernel_rfl); rintro _ h5 ⟨b8, rfl, Fz, bE, aN⟩; (have Fz : h2.size ≤ b8 := by have := X.size; omega); replace X := X.trans aN; try (replace how := how.ext aN (fun _ _ => aO)))
    all_goals (refine ⟨fun _ => X, ?_⟩; refine WH.one 15 (by kernel_rfl) ?_; refine aE.cQ rfl (al (fun w => Tryz.sizeOf53 w) rfl rfl rfl bE rfl (by simp [Value.oneCell'])) rfl rfl ?_ (fun _ => by kernel_rfl); rintro _ h6 ⟨rJ, aM⟩; have lB := aM.obj (X.obj bH aO) (fun e => by omega); have nq := aM.obj (X.obj bX aO) (fun e => by omega); have mu := how.ext aM (fun q hq e => bV how bE (by decide) (e ▸ hq)); have vB : Fw h6 b _ (.slice B l.length d) l := (k2.aq X).ext aM (fun e => by omega) (fun q hq e => bV (k2.aq X).own bE (by decide) (e ▸ hq)); have X6 : Ext (fun q => q = b) h h6 := (ay.mono fun _ _ e => e.elim).trans (aH.trans ((X.trans' aM (fun q hq e => by omega)).mono fun _ _ e => e.elim)); have Hl := ay.size; have lu := aH.size; replace bE := rJ; clear rJ; refine ⟨fun e => (by cases e), ?_⟩; refine WH.done (by kernel_rfl) ?_)
    skip))
    all_goals (first | (fail_if_success refine ax 5007 ?_) | (
    refine ax 5007 ?_
    all_goals (refine aE.run rfl (av (fun w => Tryz.zeroValue53 w)) rfl rfl rfl ?_ (fun _ => by kernel_rfl); rintro _ h5 ⟨b8, rfl, Fz, bE, aN⟩; (have Fz : h2.size ≤ b8 := by have := X.size; omega); replace X := X.trans aN; try (replace how := how.ext aN (fun _ _ => aO)))
    all_goals (refine ⟨fun _ => X, ?_⟩; refine WH.one 12 (by kernel_rfl) ?_; refine aE.call (vs := [_]) rfl rfl (fun a w => Tryz.call74 a w) rfl (jq m (xY.aq X) (by omega)) rfl rfl rfl ?_ (fun _ => by kernel_rfl); rintro w3 h4 ⟨how, aW, hfw⟩; (have hfw : ∀ q, w3.ownBlock = some q → h2.size ≤ q := fun q hq => by have := hfw q hq; have := X.size; omega); obtain ⟨A3, c3, rfl, _⟩ := id how.slice; replace X := X.trans aW; try (replace bE := aW.obj bE aO))
    all_goals (refine ⟨fun _ => X, ?_⟩; refine WH.tk 13 rfl (fun hq hC => aD (vs := [_]) (cs := [_, _]) (fun | [a1] => [(.int .u8 0), a1] | _ => []) rfl rfl (by kernel_rfl)) rfl rfl rfl ?_; refine WH.one 15 (by kernel_rfl) ?_; refine aE.cQ rfl (al (fun w => Tryz.sizeOf53 w) rfl rfl rfl bE rfl (by simp [Value.oneCell'])) rfl rfl ?_ (fun _ => by kernel_rfl); rintro _ h6 ⟨rJ, aM⟩; have lB := aM.obj (X.obj bH aO) (fun e => by omega); have nq := aM.obj (X.obj bX aO) (fun e => by omega); have mu := how.ext aM (fun q hq e => bV how bE (by decide) (e ▸ hq)); have vB : Fw h6 b _ (.slice B l.length d) l := (k2.aq X).ext aM (fun e => by omega) (fun q hq e => bV (k2.aq X).own bE (by decide) (e ▸ hq)); have X6 : Ext (fun q => q = b) h h6 := (ay.mono fun _ _ e => e.elim).trans (aH.trans ((X.trans' aM (fun q hq e => by omega)).mono fun _ _ e => e.elim)); have Hl := ay.size; have lu := aH.size; replace bE := rJ; clear rJ; refine ⟨fun e => (by cases e), ?_⟩; refine WH.done (by kernel_rfl) ?_)
    skip))
    skip))
    all_goals (first | (fail_if_success refine ax 5007 ?_) | (
    refine ax 5007 ?_
    all_goals (refine aE.run rfl (av (fun w => Tryz.zeroValue53 w)) rfl rfl rfl ?_ (fun _ => by kernel_rfl); rintro _ h5 ⟨b8, rfl, Fz, bE, aN⟩; (have Fz : h2.size ≤ b8 := by have := X.size; omega); replace X := X.trans aN; try (replace how := how.ext aN (fun _ _ => aO)))
    all_goals (refine ⟨fun _ => X, ?_⟩; refine WH.one 8 (by kernel_rfl) ?_; refine aE.call (vs := [_]) rfl rfl (fun a w => Tryz.call88 a w) rfl (kh _) rfl rfl rfl ?_ (fun _ => by kernel_rfl); rintro _ h3 ⟨rfl, aP⟩; replace X := X.trans aP; try (replace bE := aP.obj bE aO))
    all_goals (refine ⟨fun _ => X, ?_⟩; refine WH.tk 9 rfl (fun hq hC => ft rfl rfl (by omega)) rfl rfl rfl ?_; refine WH.tk 11 rfl (fun hq hC => dv (l := hd + 4) (k := hd + n) Tryz.underlying23 (fun w => Tryz.sizeOf5 w) rfl rfl rfl (by omega)) rfl rfl rfl ?_; rw [show hd + n - (hd + 4) = m.length by omega])
    all_goals (refine WH.one 12 (by kernel_rfl) ?_; refine aE.call (vs := [_]) rfl rfl (fun a w => Tryz.call74 a w) rfl (jq m (xY.aq X) (by omega)) rfl rfl rfl ?_ (fun _ => by kernel_rfl); rintro w3 h4 ⟨how, aW, hfw⟩; (have hfw : ∀ q, w3.ownBlock = some q → h2.size ≤ q := fun q hq => by have := hfw q hq; have := X.size; omega); obtain ⟨A3, c3, rfl, _⟩ := id how.slice; replace X := X.trans aW; try (replace bE := aW.obj bE aO))
    all_goals (refine ⟨fun _ => X, ?_⟩; refine WH.tk 13 rfl (fun hq hC => aD (vs := [_]) (cs := [_, _]) (fun | [a1] => [(.int .u8 0), a1] | _ => []) rfl rfl (by kernel_rfl)) rfl rfl rfl ?_; refine WH.one 15 (by kernel_rfl) ?_; refine aE.cQ rfl (al (fun w => Tryz.sizeOf53 w) rfl rfl rfl bE rfl (by simp [Value.oneCell'])) rfl rfl ?_ (fun _ => by kernel_rfl); rintro _ h6 ⟨rJ, aM⟩; have lB := aM.obj (X.obj bH aO) (fun e => by omega); have nq := aM.obj (X.obj bX aO) (fun e => by omega); have mu := how.ext aM (fun q hq e => bV how bE (by decide) (e ▸ hq)); have vB : Fw h6 b _ (.slice B l.length d) l := (k2.aq X).ext aM (fun e => by omega) (fun q hq e => bV (k2.aq X).own bE (by decide) (e ▸ hq)); have X6 : Ext (fun q => q = b) h h6 := (ay.mono fun _ _ e => e.elim).trans (aH.trans ((X.trans' aM (fun q hq e => by omega)).mono fun _ _ e => e.elim)); have Hl := ay.size; have lu := aH.size; replace bE := rJ; clear rJ; refine ⟨fun e => (by cases e), ?_⟩; refine WH.done (by kernel_rfl) ?_)
    skip))
    all_goals (refine Gn ?_; refine Gs [(0, _), (2, _), (8, _)] ?_; refine WC.seq ?_; refine WC.sr ?_; refine Go ?_; refine WL.step (ae rfl) rfl rfl rfl ?_; refine Go ?_; refine WL.ld rfl (by first | exact At.pre (xs := [_]) (ys := [_, _, _, _]) (At.au lB) | assumption | exact aa (by assumption) rfl) rfl rfl rfl ?_; refine Gn ?_; refine Gs [(0, _), (2, _), (8, _), (41, _)] ?_; refine aJ 5 6 ?_ TT.mk)
    all_goals (first | (fail_if_success refine ax 5 ?_) | (
    refine ax 5 ?_
    all_goals (refine WC.region ?_; refine Go ?_; refine WL.step (ae rfl) rfl rfl rfl ?_; refine Go ?_; refine WL.ld rfl (by first | exact At.pre (xs := [_]) (ys := [_, _, _]) (At.tl (At.au lB)) | assumption | exact aa (by assumption) rfl) rfl rfl rfl ?_; obtain ⟨bb, o, rfl, hat⟩ := cap _ vB rfl; have J3 := hat.get (p := o + 0 * 1) 0 rfl (by omega); refine WL.step (aF Tryz.underlying23 (fun w => Tryz.sizeOf5 w) rfl rfl rfl (by first | omega | (simp <;> omega)) (by first | rfl | assumption) (k := 0)) rfl rfl rfl ?_; refine WL.ld rfl (by first | exact J3 | assumption | exact aa (by assumption) rfl) rfl rfl rfl ?_; refine Go ?_; refine WL.az (aC (fun w => Tryz.sizeOf5 w) rfl rfl bE (Nat.le_of_ble_eq_true rfl) rfl rfl) rfl rfl ?_; rintro _ h7 ⟨J4, bh⟩; replace X6 := X6.trans' bh (fun q hq e => by omega); replace mu := mu.ext bh (fun q hq e => bV mu bE (by decide) (e ▸ hq)); replace vB := vB.ext bh (fun e => by omega) (fun q hq e => bV vB.own bE (by decide) (e ▸ hq)); replace nq := bh.obj nq (fun e => by omega); replace bE := J4; refine Gn ?_)
    skip))
    all_goals (first | (fail_if_success refine ax 6 ?_) | (
    refine ax 6 ?_
    all_goals (refine WC.skip ?_)
    skip))
    all_goals (refine Gn ?_; refine WC.sr ?_; refine WL.step (an (fun w => Tryz.isAgg53 w) (fun w => Tryz.sizeOf53 w) rfl rfl (by exact At.au bE)) rfl rfl rfl ?_; refine WL.az (al (fun w => Tryz.sizeOf53 w) rfl rfl rfl nq rfl (by simp [Value.oneCell'])) rfl rfl ?_; rintro _ h9 ⟨bQ, cg⟩; replace X6 := X6.trans' cg (fun q hq e => by omega); replace mu := mu.ext cg (fun q hq e => bV mu nq (by decide) (e ▸ hq)); replace vB := vB.ext cg (fun e => by omega) (fun q hq e => bV vB.own nq (by decide) (e ▸ hq)); refine Go ?_; refine Gs [(2, _), (3, _), (4, _)] ?_; refine WC.ret ?_; repeat' (with_reducible first | refine ba ?_ | refine aV ?_))
    all_goals (refine pz _ _ _ ⟨⟨_, rfl, bB (fun w => Tryz.isAgg53 w) (fun w => Tryz.sizeOf53 w) (by assumption) rfl⟩, rfl, rfl, trivial⟩ ?_; exact ⟨_, rfl, hln ▸ mu, vB, X6, fun q hq => by have := hfw q hq; omega⟩)
end
section
variable {h h' : ah} {b : Nat} {ty : Bool} {v : Value} {l : List UInt8} {S : Nat → Prop}
set_option maxHeartbeats 2000000 in
set_option maxRecDepth 100000 in
theorem vC (k : Fw h b ty v l) (hd n : Nat) (he : (if ty = true then 1 else 0) = hd) (hn : iK ((l.drop hd).take 4) = (n : Int)) (h4 : 4 ≤ n ∧ n ≤ 65536) (hl : hd + n ≤ l.length) (hm : l.length ≤ 1000000) :
    ag Tryz.prog 53 ⟨[.pointer (some ⟨b, 0, none⟩)]⟩ h fun u h' => ∃ w v', u = .tuple ⟨[.agg ⟨[By (np ty l), w]⟩, .bool true, In 0]⟩ ∧ Own h' w 5 1 (n - 4) (bu ((l.drop (hd + 4)).take (n - 4))) ∧ Fw h' b ty v' (l.drop (hd + n)) ∧ Ext (fun q => q = b ∨ v.ownBlock = some q) h h' ∧ (∀ q, w.ownBlock = some q → h.size ≤ q) ∧ v'.ownBlock = v.ownBlock := by
  have kp := fun (h' : ah) (k : Fw h' b ty v l) => pU k hd n he hn h4 hl hm
  have kh := fun h' => jr (h := h') ty
  rw [he] at kh
  have hne := k.ne
  have hbl : ∀ q, v.ownBlock = some q → q < h.size := fun q hq => k.own.lt hq
  obtain ⟨B, d, rfl, _⟩ := id k.own.slice
  obtain ⟨m, hme⟩ : ∃ m, m = (l.drop (hd + 4)).take (n - 4) := ⟨_, rfl⟩
  rw [← hme] at kp ⊢
  have kd := fun (h' : ah) (k : Fw h' b ty (.slice B l.length d) l) => tK (k := hd + n) l k.own (by omega) hm
  refine calls [(0, _)] Tryz.func53 rfl Tryz.ntmps53 rfl ⟨rfl, trivial⟩ ?_
  refine WC.sr ?_
  refine WL.ai (av (fun w => Tryz.zeroValue53 w)) rfl rfl rfl ?_
  rintro _ h1 ⟨b1, rfl, bO, aQ, ay⟩
  have k1 := k.aq ay
  have lb := aj k.bq
  refine Go ?_
  refine WC.sr ?_
  refine Go ?_
  refine WL.call (vs := [_]) rfl (fun a w => Tryz.call86 a w) rfl (kp _ k1) rfl rfl rfl ?_
  rintro _ h2 ⟨w2, rfl, how, k2, aH, hfw⟩
  obtain ⟨A2, c2, rfl, _⟩ := id how.slice
  have bX := aH.obj aQ (fun e => by omega)
  have l1 := ay.size
  have l2 := aH.size
  refine Go ?_
  refine WL.ai (av (fun w => Tryz.zeroValue53 w)) rfl rfl rfl ?_
  rintro _ h3 ⟨b5, rfl, pQ, bT, aP⟩
  refine WL.az (al (fun w => Tryz.sizeOf53 w) rfl rfl rfl bT rfl (by simp [Value.oneCell'])) rfl rfl ?_
  rintro _ h4 ⟨xa, aW⟩
  have X : Ext No h2 h4 := aP.trans' aW (fun q hq e => by omega)
  have k4 := k2.aq X
  have J5 := how.ext X (fun _ _ => aO)
  have bP := X.obj bX aO
  have iJ := k4.bq
  have l4 := X.size
  clear aQ bX bT aP aW
  have nB : (Value.slice B l.length d).ownBlock ≠ some b := fun e => hne b e rfl
  have Ju : (Value.slice B l.length d).ownBlock ≠ some b5 := fun e => by have := hbl b5 e; omega
  refine Go ?_
  refine Gs [(0, _), (2, _), (5, _), (6, _), (7, _)] ?_
  refine WC.seq ?_
  refine WC.sr ?_
  refine Go ?_
  refine aJ 1 2 ?_ TT.mk
  all_goals (refine ax 1 ?_)
  refine WC.bW (fun h' => Ext (fun q => (Value.slice B l.length d).ownBlock = some q) h4 h') 18 19 rfl dk ?_
  refine WH.tk 0 rfl (fun hq hC => ak rfl) rfl rfl rfl ?_
  refine WH.tk 1 rfl (fun hq hC => ak rfl) rfl rfl rfl ?_
  refine WH.tk 2 rfl (fun hq hC => ae rfl) rfl rfl rfl ?_
  refine WH.tk 3 rfl (fun hq hC => ad rfl Tryz.underlying147 rfl (fun w => Tryz.sizeOf23 w)) rfl rfl rfl ?_
  refine WH.tk 4 rfl (fun hq hC => aA (fun w => Tryz.isAgg23 w) rfl (by first | exact hC.cell (by first | exact At.pre (xs := [_]) (ys := [_, _, _]) (At.tl ((At.au iJ).ext hC nB)) | assumption | exact aa (by assumption) rfl) (by first | exact nB | exact Ju))) rfl rfl rfl ?_
  refine WH.tk 5 rfl (fun hq hC => ak rfl) rfl rfl rfl ?_
  refine WH.tk 6 rfl (fun hq hC => ae rfl) rfl rfl rfl ?_
  refine WH.tk 7 rfl (fun hq hC => ad rfl Tryz.underlying147 rfl (fun w => Tryz.sizeOf145 w)) rfl rfl rfl ?_
  refine WH.tk 8 rfl (fun hq hC => an (fun w => Tryz.isAgg145 w) (fun w => Tryz.sizeOf145 w) rfl rfl (by exact At.pre (xs := [_]) (ys := [_, _, _, _]) ((At.au iJ).ext hC nB))) rfl rfl rfl ?_
  refine WH.tk 11 rfl (fun hq hC => ad rfl Tryz.underlying53 rfl (fun w => Tryz.sizeOf23 w)) rfl rfl rfl ?_
  refine WH.tk 12 rfl (fun hq hC => aA (fun w => Tryz.isAgg23 w) rfl (by first | exact hC.cell (by first | exact At.pre (xs := [_]) (ys := []) (At.tl ((At.au xa).ext hC Ju)) | assumption | exact aa (by assumption) rfl) (by first | exact nB | exact Ju))) rfl rfl rfl ?_
  refine WH.tk 13 rfl (fun hq hC => cu rfl Tryz.underlying23 rfl) rfl rfl rfl ?_
  refine WH.one 9 (by kernel_rfl) ?_
  refine aE.call (vs := [_]) rfl rfl (fun a w => Tryz.call88 a w) rfl (kh _) rfl rfl rfl ?_ (fun _ => by kernel_rfl)
  rintro _ h5 ⟨rfl, aN⟩
  have Ex : Ext (fun q => (Value.slice B l.length d).ownBlock = some q) h4 h5 := aN.mono fun _ _ e => e.elim
  refine ⟨fun _ => Ex, ?_⟩
  refine WH.tk 10 rfl (fun hq hC => ft rfl rfl (by omega)) rfl rfl rfl ?_
  refine WH.tk 14 rfl (fun hq hC => ft rfl rfl (by omega)) rfl rfl rfl ?_
  rw [show (hd : Int) + 4 + ((n - 4 : Nat) : Int) = ((hd + n : Nat) : Int) by omega]
  refine WH.one 15 (by kernel_rfl) ?_
  refine aE.call (vs := [_, _, _]) rfl rfl (fun a w => Tryz.call87 a w) rfl (kd _ (k4.aq aN)) rfl rfl rfl ?_ (fun _ => by kernel_rfl)
  rintro v6 h6 ⟨fN, aM, im⟩
  obtain ⟨B6, d6, rfl, _⟩ := id fN.slice
  have lB := aM.obj (k4.aq aN).bq nB
  have CK : Ext (fun q => (Value.slice B l.length d).ownBlock = some q) h4 h6 := (aN.mono fun _ _ e => e.elim).trans aM
  have mu := J5.ext CK (fun q hq e => by have := hfw q hq; have := hbl q e; omega)
  have fB := CK.obj bP (fun e => by have := hbl b1 e; omega)
  have pR := CK.obj xa Ju
  refine ⟨fun _ => by first | assumption | trivial, ?_⟩
  refine WH.one 16 (by kernel_rfl) ?_
  refine aE.run rfl (bK.r (ae rfl)) rfl rfl rfl ?_ (fun _ => by kernel_rfl)
  rintro _ hz ⟨rfl, _⟩
  subst hz
  refine ⟨fun _ => by first | assumption | trivial, ?_⟩
  refine WH.one 17 (by kernel_rfl) ?_
  refine aE.run rfl (bK.r (ad rfl Tryz.underlying147 rfl (fun w => Tryz.sizeOf23 w))) rfl rfl rfl ?_ (fun _ => by kernel_rfl)
  rintro _ hz ⟨rfl, _⟩
  subst hz
  refine ⟨fun _ => by first | assumption | trivial, ?_⟩
  refine WH.one 18 (by kernel_rfl) ?_
  refine aE.cQ rfl (aC (fun w => Tryz.sizeOf23 w) rfl rfl lB (Nat.le_of_ble_eq_true rfl) rfl rfl) rfl rfl ?_ (fun _ => by kernel_rfl)
  rintro _ h7 ⟨FA, bh⟩
  have k7 : Fw h7 b ty (.slice B6 (l.drop (hd + n)).length d6) (l.drop (hd + n)) := ⟨FA, fN.ext bh (fun q hq e => nB (by rw [← im]; exact e ▸ hq))⟩
  have HR := mu.ext bh (fun q hq e => bV mu lB (by decide) (e ▸ hq))
  have mv := bh.obj fB (fun e => by omega)
  have yW := bh.obj pR (fun e => by omega)
  have X7 : Ext (fun q => q = b ∨ (Value.slice B l.length d).ownBlock = some q) h h7 := (ay.mono fun _ _ e => e.elim).trans ((aH.mono fun _ _ e => .inl e).trans ((X.mono fun _ _ e => e.elim).trans ((CK.mono fun _ _ e => .inr e).trans (bh.mono fun _ _ e => .inl e))))
  refine ⟨fun e => (by cases e), ?_⟩
  refine WH.done (by kernel_rfl) ?_
  refine Gn ?_
  refine WC.sr ?_
  refine WL.step (an (fun w => Tryz.isAgg53 w) (fun w => Tryz.sizeOf53 w) rfl rfl (by exact At.au yW)) rfl rfl rfl ?_
  refine Go ?_
  refine WL.az (al (fun w => Tryz.sizeOf53 w) rfl rfl rfl mv rfl (by simp [Value.oneCell'])) rfl rfl ?_
  rintro _ h8 ⟨gh, bD⟩
  refine Go ?_
  refine Gs [(2, _), (3, _), (4, _)] ?_
  refine WC.ret ?_
  repeat' (with_reducible first | refine ba ?_ | refine aV ?_)
  refine pz _ _ _ ⟨⟨_, rfl, bB (fun w => Tryz.isAgg53 w) (fun w => Tryz.sizeOf53 w) (by assumption) rfl⟩, rfl, rfl, trivial⟩ ?_
  exact ⟨_, _, rfl, HR.ext bD (fun q hq e => bV HR mv (by decide) (e ▸ hq)), k7.ext bD (fun e => by omega) (fun q hq e => bV k7.own mv (by decide) (e ▸ hq)), X7.trans' bD (fun q hq e => by omega), fun q hq => by have := hfw q hq; omega, im⟩
end
structure Sc (h:ah) (b:Nat) (v:Value) (l:List UInt8):Prop where
 bq:h[b]?=some (.cells ⟨[v,.bool false,.bool true]⟩ 199 (0,0))
 rd:Rd h v 1 l.length (bu l)
 ne:∀ q,v.ownBlock=some q→q ≠ b
section
variable {h h':ah} {b:Nat} {v:Value} {l:List UInt8} {S:Nat→Prop}
theorem Sc.ext (k:Sc h b v l) (x:Ext S h h') (h1:¬ S b) (h2:∀ q,v.ownBlock=some q→¬ S q):Sc h' b v l:=⟨x.obj k.bq h1,k.rd.ext x h2,k.ne⟩
theorem jW {h:ah} (l:List UInt8) (hr:Rd h v 1 l.length (bu l)) (hm:l.length≤1000000):ag Tryz.prog 127 ⟨[v]⟩ h fun u h'=>Own h' u 5 1 l.length (bu l)∧Ext No h h'∧(∀ k,u.ownBlock=some k→h.size≤k):=by
 obtain ⟨A,c,rfl,_⟩:=id hr
 cases A with
 | none =>
   have h0:l=[]:=by
     cases l with
     | nil=>rfl
     | cons a l=>obtain ⟨b,o,e,_⟩:=Rd.at_ hr (by simp);cases e
   subst h0
   refine calls [(0,_)] Tryz.func127 rfl Tryz.ntmps127 rfl ⟨rfl,trivial⟩ ?_
   refine G2 ?_;refine G3 ?_;refine WL.step (cV Tryz.underlying23 rfl rfl) rfl rfl rfl ?_;refine Gn ?_
   refine aJ 1 2 ?_ TT.mk
   all_goals (refine ax 1 ?_)
   refine G2 ?_;refine Gt ?_
   exact ⟨Own.nil _ _ _,.refl _ _,by simp [Value.ownBlock]⟩
 | some a =>
   refine calls [(0,_)] Tryz.func127 rfl Tryz.ntmps127 rfl ⟨rfl,trivial⟩ ?_
   refine G2 ?_;refine G3 ?_;refine WL.step (cV Tryz.underlying23 rfl rfl) rfl rfl rfl ?_;refine Gn ?_
   refine aJ 1 2 ?_ TT.mk
   all_goals (refine ax 2 ?_)
   refine WC.skip ?_;refine Gn ?_;refine WC.sr ?_;refine WL.ai (aw (vs:=[]) (cs:=[]) (fun _=>[]) Tryz.underlying23 rfl rfl (by kernel_rfl)) rfl rfl rfl ?_
   rintro _ h1 ⟨b1,rfl,bO,aQ,ay⟩
   refine Go ?_
   have qT:=hr.aq ay
   refine WL.ai (aT (sz:=1) (bytes:=1) rfl Tryz.underlying23 (show Tryz.prog.info? 5=some Tryz.t5 by kernel_rfl) rfl rfl rfl rfl (by decide) rfl rfl (dJ aQ rfl (by simp [maxLen])) qT (by intro c hc;obtain ⟨b,_,rfl⟩:=List.mem_map.1 hc;rfl) (by simp only [maxLen];omega) (by omega)) rfl rfl rfl ?_
   rintro v2 h2 ⟨dC,aH,lu⟩
   refine Go ?_;refine Gs [(2,_)] ?_;refine Gt ?_
   exact ⟨by simpa using dC,ay.trans' aH (fun k hk e=>by simp [Value.ownBlock] at e;omega),bR lu (fun k hk=>by simp [Value.ownBlock] at hk;omega) ay.size⟩
theorem y6 {w:Value} (l:List UInt8) (hr:Rd h w 1 l.length (bu l)) (hm:l.length≤1000000):ag Tryz.prog 94 ⟨[w]⟩ h fun u h'=>∃ b v,u=.pointer (some ⟨b,0,none⟩)∧Sc h' b v l∧Ext No h h'∧h.size≤b∧∀ q,v.ownBlock=some q→h.size≤q:=by
 refine calls [(0,_)] Tryz.func94 rfl Tryz.ntmps94 rfl ⟨rfl,trivial⟩ ?_
 refine G2 ?_;refine G2 ?_;refine WL.call (vs:=[_]) rfl Tryz.call127 rfl (jW l hr hm) rfl rfl rfl ?_
 rintro v1 h1 ⟨fE,ay,fM⟩
 obtain ⟨A1,c1,rfl,_⟩:=id fE.slice
 refine WL.step (aD (vs:=[_,_]) (cs:=[_,_,_]) (fun | [a0,a2]=>[a0,(.bool false),a2] | _=>[]) rfl rfl (by kernel_rfl)) rfl rfl rfl ?_
 refine WL.ai (aB rfl) rfl rfl rfl ?_
 rintro _ h2 ⟨b2,rfl,eS,bH,aH⟩
 refine Go ?_;refine Gs [(2,_)] ?_;refine Gt ?_
 exact ⟨b2,_,rfl,⟨bH,(fE.ext aH (fun _ _=>aO)).rd,fun q hq e=>by have:=fE.lt hq;omega⟩,ay.trans aH,by have:=ay.size;omega,fM⟩
theorem js (k:Sc h b v l):ag Tryz.prog 132 ⟨[.pointer (some ⟨b,0,none⟩)]⟩ h fun u h'=>u=.bool true∧h'=h:=by
 have hb:=k.bq
 refine calls [(0,_)] Tryz.func132 rfl Tryz.ntmps132 rfl ⟨rfl,trivial⟩ ?_
 refine G2 ?_;refine G2 ?_;refine WL.step (dD Tryz.underlying158 rfl rfl) rfl rfl rfl (Go ?_)
 refine bG 5 ?_ TT.mk
 refine Gg ?_;refine WL.step (ae rfl) rfl rfl rfl ?_;refine Gg ?_;refine WL.ld rfl (by first | exact aa hb rfl | assumption) rfl rfl rfl (Go ?_)
 refine bG 11 ?_ TT.mk
 refine Gg ?_;refine WL.step (ae rfl) rfl rfl rfl ?_;refine Gg ?_;refine WL.ld rfl (by first | exact aa hb rfl | assumption) rfl rfl rfl ?_
 refine Gg ?_;refine Go ?_;refine Gs [(2,_)] ?_;refine Gt ?_
 exact ⟨rfl,rfl⟩
theorem Rd.y7 {A:Option Addr} {n c sz:Nat} {xs:List Value} (r:Rd h (.slice A n c) sz n xs):Rd h (.slice A n n) sz n xs:=by
 obtain ⟨A1,c1,e,hc,hl,hp⟩:=r
 simp only [Value.slice.injEq] at e
 obtain ⟨rfl,_,rfl⟩:=e
 exact ⟨_,_,rfl,Nat.le_refl _,hl,hp⟩
theorem pV {A:Option Addr} {n m c d k:Nat} {p:Prop} [Decidable p] {q:Nat} (e:(Value.slice (if p then A else A.map (·.add k)) m d).ownBlock=some q):(Value.slice A n c).ownBlock=some q:=by
 cases A with
 | none=>split at e <;> cases e
 | some a=>split at e <;> (simp only [Value.ownBlock,Option.map_some,Option.some.injEq,Addr.add] at e ⊢;first | exact e | (split at e <;> exact e))
theorem y8 {A:Option Addr} {n m c d q:Nat} (e:(Value.slice A m d).ownBlock=some q):(Value.slice A n c).ownBlock=some q:=by cases A <;> exact e
theorem y9 (k:Sc h b v l) (n:Nat) (hn:n≤l.length) (hm:l.length≤1000000):ag Tryz.prog 175 ⟨[.pointer (some ⟨b,0,none⟩),In (n:Int)]⟩ h fun u h'=>∃ A c v',u=.tuple ⟨[.slice A n c,.bool true]⟩∧Rd h' (.slice A n c) 1 n (bu (l.take n))∧Sc h' b v' (l.drop n)∧Ext (fun q=>q=b) h h':=by
 have kg:=fun (h':ah) (k:Sc h' b v l)=>js k
 have hb:=k.bq
 have hr:=k.rd
 have hne:=k.ne
 obtain ⟨A,c,rfl,hcap,_⟩:=id hr
 refine calls [(0,_),(1,_)] Tryz.func175 rfl Tryz.ntmps175 rfl ⟨rfl,rfl,trivial⟩ ?_
 refine G2 ?_;refine G3 ?_;refine WL.call (vs:=[_]) rfl Tryz.call132 rfl (kg _ k) rfl rfl rfl ?_
 rintro _ hq ⟨rfl,hz⟩
 replace hz:=hz.symm
 subst hz
 refine Go ?_
 refine bG 10 ?_ TT.mk
 refine Gg ?_;refine Go ?_
 refine bG 14 ?_ TT.mk
 refine Gg ?_;refine WL.step (ae rfl) rfl rfl rfl ?_;refine Gg ?_;refine WL.ld rfl (by first | exact aa hb rfl | assumption) rfl rfl rfl ?_
 refine Gg ?_;refine Go ?_;refine Gs [(0,_),(1,_),(22,_)] ?_
 refine aJ 1 2 ?_ TT.mk
 all_goals (refine ax 2 ?_)
 refine WC.skip ?_;refine Gn ?_;refine G2 ?_;refine WL.step (ae rfl) rfl rfl rfl (Go ?_);refine WL.ld rfl (by first | exact aa hb rfl | assumption) rfl rfl rfl (Go ?_)
 refine WL.step (fA Tryz.underlying23 Tryz.sizeOf5 rfl rfl rfl (by omega)) rfl rfl rfl (Go ?_)
 refine Gs [(0,_),(1,_),(6,_)] ?_;refine G2 ?_;refine WL.step (ae rfl) rfl rfl rfl (Go ?_);refine WL.ld rfl (by first | exact aa hb rfl | assumption) rfl rfl rfl (Go ?_)
 refine WL.step (eQ Tryz.underlying23 Tryz.sizeOf5 rfl rfl (by omega)) rfl rfl rfl ?_
 refine WL.step (ae rfl) rfl rfl rfl (Go ?_);refine WL.az (aC Tryz.sizeOf23 rfl rfl hb (Nat.le_of_ble_eq_true rfl) rfl rfl) rfl rfl ?_
 rintro _ h2 ⟨bH,aH⟩
 refine Gn ?_;refine Gs [(6,_)] ?_;refine G2 ?_;refine Gt ?_
 have r1:=Rd.y7 (hr.take hn)
 have r2:=hr.drop hn
 rw [show (bu l).take (n * 1)=bu (l.take n) by simp [bu]] at r1
 rw [show (bu l).drop (n * 1)=bu (l.drop n) by simp [bu]] at r2
 have n2:∀ q,(Value.slice (if c=n then A else A.map (fun x=>x.add (n * 1))) (l.length - n) (c - n)).ownBlock=some q→q ≠ b:=fun q hq=>hne q (pV hq)
 exact ⟨A,n,_,rfl,r1.ext aH (fun q hq=>hne q (y8 hq)),⟨bH,by rw [List.length_drop];exact r2.ext aH n2,n2⟩,aH⟩
theorem FB (k:Sc h b v l) (hn:4≤l.length) (hm:l.length≤1000000):ag Tryz.prog 122 ⟨[.pointer (some ⟨b,0,none⟩),In 4]⟩ h fun u h'=>∃ v',u=In (iK (l.take 4))∧Sc h' b v' (l.drop 4)∧Ext (fun q=>q=b) h h':=by
 have kc:=fun (h':ah) (k:Sc h' b v l)=>y9 k 4 hn hm
 have kr:=fun (h':ah)=>pI (h:=h') 0 4 (.inr (.inr rfl)) (by unfold Rt;decide)
 have h4:(l.take 4).length=4:=by simp;omega
 have kn:=fun (h':ah) (A:Option Addr) (c:Nat) (r:Rd h' (.slice A 4 c) 1 4 (bu (l.take 4)))=>Ew (l.take 4) (A:=A) (c:=c) (by rw [h4];exact r) 0 (by omega) (by omega)
 simp only [h4,List.drop_zero,List.take_take,Nat.min_self] at kn
 refine calls [(0,_),(1,_)] Tryz.func122 rfl Tryz.ntmps122 rfl ⟨rfl,rfl,trivial⟩ ?_
 refine G2 ?_;refine G3 ?_;refine WL.call (vs:=[_,_]) rfl Tryz.call173 rfl (kr _) rfl rfl rfl ?_
 rintro _ hq ⟨rfl,hz⟩
 replace hz:=hz.symm
 subst hz
 refine Go ?_
 refine aJ 1 2 ?_ TT.mk
 all_goals (refine ax 2 ?_)
 refine WC.skip ?_;refine Gn ?_;refine Gs [(0,_),(1,_)] ?_;refine G2 ?_;refine WL.call (vs:=[_,_]) rfl Tryz.call175 rfl (kc _ k) rfl rfl rfl ?_
 rintro _ h2 ⟨A2,c2,v2,rfl,r2,k2,aH⟩
 refine Go ?_;refine Gs [(0,_),(1,_),(5,_),(6,_)] ?_;refine G3 ?_
 refine aJ 3 4 ?_ TT.mk
 all_goals (refine ax 4 ?_)
 refine WC.skip ?_;refine Gn ?_;refine G2 ?_;refine WL.call (vs:=[_,_,_]) rfl Tryz.call176 rfl (kn _ _ _ r2) rfl rfl rfl ?_
 rintro _ hq ⟨rfl,hz⟩
 replace hz:=hz.symm
 subst hz
 refine Go ?_;refine Gs [(0,_),(7,_),(8,_)] ?_;refine G3 ?_
 refine aJ 5 6 ?_ TT.mk
 all_goals (refine ax 6 ?_)
 refine WC.skip ?_;refine Gn ?_;refine Gs [(7,_)] ?_;refine G2 ?_;refine Gt ?_
 exact ⟨_,rfl,k2,aH⟩
theorem vD (k:Sc h b v []):ag Tryz.prog 96 ⟨[.pointer (some ⟨b,0,none⟩)]⟩ h fun u h'=>u=.bool true∧h'=h:=by
 have kg:=js k
 have hb:=k.bq
 obtain ⟨A,c,rfl,_⟩:=id k.rd
 refine calls [(0,_)] Tryz.func96 rfl Tryz.ntmps96 rfl ⟨rfl,trivial⟩ ?_
 refine G2 ?_;refine G2 ?_;refine WL.call (vs:=[_]) rfl Tryz.call132 rfl (kg) rfl rfl rfl ?_
 rintro _ hq ⟨rfl,hz⟩
 replace hz:=hz.symm
 subst hz
 refine Go ?_
 refine bG 5 ?_ TT.mk
 refine Gg ?_;refine WL.step (ae rfl) rfl rfl rfl ?_;refine Gg ?_;refine WL.ld rfl (by first | exact aa hb rfl | assumption) rfl rfl rfl ?_
 refine Gg ?_;refine Go ?_;refine Gs [(2,_)] ?_;refine Gt ?_
 exact ⟨rfl,rfl⟩
theorem pW (s r:List UInt8) (hs:Lib.indexByte (s++0 :: r) 0=s.length) (k:Sc h b v (s++0 :: r)) (hm:(s++0 :: r).length≤1000000):ag Tryz.prog 128 ⟨[.pointer (some ⟨b,0,none⟩)]⟩ h fun u h'=>∃ v',u=St s∧Sc h' b v' r∧Ext (fun q=>q=b) h h':=by
 have kg:=fun (h':ah) (k:Sc h' b v (s++0 :: r))=>js k
 have kc:=fun (h':ah) (k:Sc h' b v (s++0 :: r))=>y9 k (s.length+1) (by simp) hm
 have hb:=k.bq
 have ki:=dh _ 0 k.rd (by simp;omega)
 rw [hs] at ki
 have e1:(s++0 :: r).drop (s.length+1)=r:=by rw [List.drop_append];simp
 have e2:(s++0 :: r).take (s.length+1)=s++[0]:=by rw [List.take_append,List.take_of_length_le (by omega)];simp
 rw [e1,e2] at kc
 have hms:s.length+1≤1000000:=by simp at hm;omega
 refine calls [(0,_)] Tryz.func128 rfl Tryz.ntmps128 rfl ⟨rfl,trivial⟩ ?_
 refine G2 ?_;refine G3 ?_;refine WL.call (vs:=[_]) rfl Tryz.call132 rfl (kg _ k) rfl rfl rfl ?_
 rintro _ hq ⟨rfl,hz⟩
 replace hz:=hz.symm
 subst hz
 refine Go ?_
 refine aJ 1 2 ?_ TT.mk
 all_goals (refine ax 2 ?_)
 refine WC.skip ?_;refine Gn ?_;refine Gs [(0,_)] ?_;refine G2 ?_;refine WL.step (ae rfl) rfl rfl rfl (Go ?_);refine WL.ld rfl (by first | exact aa hb rfl | assumption) rfl rfl rfl ?_
 refine WL.call (vs:=[_,_]) rfl Tryz.call126 rfl (ki) rfl rfl rfl ?_
 rintro _ hq ⟨rfl,hz⟩
 replace hz:=hz.symm
 subst hz
 refine Go ?_;refine Gs [(0,_),(3,_)] ?_;refine G3 ?_
 refine aJ 3 4 ?_ TT.mk
 all_goals (refine ax 4 ?_)
 refine WC.skip ?_;refine Gn ?_;refine G2 ?_
 rw [show ((s.length:Int)+1)=((s.length+1:Nat):Int) from rfl]
 refine WL.call (vs:=[_,_]) rfl Tryz.call175 rfl (kc _ k) rfl rfl rfl ?_
 rintro _ h2 ⟨A2,c2,v2,rfl,r2,k2,aH⟩
 have r3:=r2.take (k:=s.length) (by omega)
 rw [show (bu (s++[0])).take (s.length * 1)=bu s by simp [bu]] at r3
 have hcap:s.length+1≤c2:=by obtain ⟨A1,c1,hv,hcap,_⟩:=id r2;simp only [Value.slice.injEq] at hv;obtain ⟨_,_,rfl⟩:=hv;exact hcap
 refine Go ?_;refine Gs [(3,_),(4,_)] ?_;refine G2 ?_;refine WL.step (ma Tryz.underlying23 Tryz.sizeOf5 rfl rfl (by omega)) rfl rfl rfl ?_
 refine WL.step (dS Tryz.underlying23 Tryz.underlying5 Tryz.underlying9 rfl r3) rfl rfl rfl (Go ?_);refine Gs [(2,_)] ?_;refine Gt ?_
 exact ⟨_,rfl,k2,aH⟩
end
end Go.Proofs.YtopgddfgefnmbaaGreatDoor
namespace Go.RK
open Go
variable {H:Type} {enc:TypeId × Value→H}
def pX (Q:eV):eV
 | .goto _,_,_=>False
 | e,f,h=>Q e f h
section
variable {P:Program} {n:Env} {Q:eV} {f:Fr} {h:ah}
theorem WC.scope {c:Code} (hc:WC P n c (pX Q) f h) (hro:n.ro=Option.none:=by rfl):WC P n (.scope c) Q f h:=fun a w ha hw=>by
 obtain ⟨m,ds,ro⟩:=n
 obtain rfl:ro=Option.none:=hro
 exact wpIn_wide.2 (wp_scope_straight (Go.wp_mono (wpIn_wide.1 (hc a w ha hw)) fun e _ _ ⟨hl,hs,g,hg,q⟩=>by
   cases e <;> first | exact ⟨hl,hs,g,hg,q⟩ | exact q.elim))
theorem eh (hq:Q .normal f h):pX Q .normal f h:=hq
theorem za {i:Nat} (hq:Q (.exit i) f h):pX Q (.exit i) f h:=hq
theorem zb (hq:Q .ret f h):pX Q .ret f h:=hq
end
end Go.RK
namespace Go.Proofs.YtopgddfgefnmbaaGreatDoor
open Go Go.RK
abbrev rK:List UInt8:=[117,115,101,114,0,117,0,0]
theorem zc {h:ah} {b:Nat} {v:Value} (k:Sc h b v rK):ag Tryz.prog 123 ⟨[.pointer (some ⟨b,0,none⟩)]⟩ h fun u h'=>∃ v',Own h' u 59 2 1 [St iX,St uL]∧Sc h' b v' []∧Ext (fun q=>q=b) h h'∧∀ q,u.ownBlock=some q→h.size≤q:=by
 have k1:=fun (h':ah) (k:Sc h' b v rK)=>pW iX [117,0,0] (by decide) k (by decide)
 have k2:=fun (h':ah) (v:Value) (k:Sc h' b v [117,0,0])=>pW uL [0] (by decide) k (by decide)
 have k3:=fun (h':ah) (v:Value) (k:Sc h' b v [0])=>pW [] [] (by decide) k (by decide)
 have lb:=aj k.bq
 refine calls [(0,_)] Tryz.func123 rfl Tryz.ntmps123 rfl ⟨rfl,trivial⟩ ?_
 refine G2 ?_;refine WC.scope ?_;refine G2 ?_
 repeat' (with_reducible first | refine aS ?_ | refine aL ?_ | refine eh ?_)
 refine WC.seq ?_;refine WC.label ?_
 repeat' (with_reducible first | refine aS ?_ | refine aL ?_ | refine eh ?_)
 refine WC.seq ?_;refine WC.block ?_;refine WC.bC (X:=Nat × Value) (fun x=>([(3,x.2)]:Fr)) [(0,_)] (fun x h'=>(x.1=0∧x.2=.slice none 0 0∧h'=h)∨(x.1=1∧∃ v',Own h' x.2 59 2 1 [St iX,St uL]∧Sc h' b v' [0]∧Ext (fun q=>q=b) h h'∧∀ q,x.2.ownBlock=some q→h.size≤q)) (fun x=>1 - x.1) ((0,.slice none 0 0)) ⟨rfl,rfl,trivial⟩ (by exact .inl ⟨rfl,rfl,rfl⟩) ?_
 rintro ⟨j,w⟩ h1 hI
 dsimp only at hI
 rcases hI with ⟨rfl,rfl,rfl⟩ | ⟨rfl,v1,fE,MR,ay,fM⟩
 all_goals (refine WC.sub [(3,_),(0,_)] ⟨rfl,rfl,trivial⟩ ?_;dsimp only)
 all_goals (refine WC.block ?_;refine G2 ?_;refine WL.call (vs:=[_]) rfl Tryz.call128 rfl ((by first | exact k1 _ k | exact k3 _ _ MR)) rfl rfl rfl ?_;rintro _ h2 ⟨v2,rfl,LB,aH⟩;refine Go ?_;repeat' (with_reducible first | refine aS ?_ | refine aL ?_ | refine eh ?_))
 all_goals (refine G3 ?_;repeat' (with_reducible first | refine aS ?_ | refine aL ?_ | refine eh ?_))
 all_goals (refine aJ 1 2 ?_ TT.mk)
 all_goals try (
 refine ax 1 ?_
 refine WC.exit ?_
 repeat' (with_reducible first | refine aU ?_ | refine aG rfl ?_ | refine aI ?_ | refine aL ?_ | refine aS ?_ | refine za ?_ | refine eh ?_)
 refine Br.out (i:=1000) ?_
 skip)
 all_goals try (
 refine ax 2 ?_
 refine WC.skip ?_
 skip)
 all_goals (first | refine Br.ab ?_ | repeat' (with_reducible first | refine aS ?_ | refine aL ?_ | refine eh ?_))
 all_goals (first | refine Br.ab ?_ | refine Gs [(0,_),(3,_),(4,_)] ?_)
 all_goals (first | refine Br.ab ?_ | refine WC.region ?_)
 all_goals (refine Go ?_)
 all_goals (
  first
    | (refine Br.ab ?_)
    | (refine WL.call (vs:=[_]) rfl Tryz.call128 rfl (k2 _ _ LB) rfl rfl rfl ?_
       rintro _ h3 ⟨v3,rfl,MS,aP⟩))
 all_goals (first | refine Br.ab ?_ | (refine WL.step (aD (vs:=[_,_]) (cs:=[_,_]) (fun | [a0,a1]=>[a0,a1] | _=>[]) rfl rfl (by kernel_rfl)) rfl rfl rfl ?_))
 all_goals (
  first
    | (refine Br.ab ?_)
    | (refine WL.ai (aw (vs:=[_]) (cs:=[_,_]) (fun | [.agg ⟨[a0,a1]⟩]=>[a0,a1] | _=>[]) Tryz.underlying60 rfl rfl (by kernel_rfl)) rfl rfl rfl ?_
       rintro _ h4 ⟨b4,rfl,oF,bx,aW⟩))
 all_goals (
  first
    | (refine Br.ab ?_)
    | (refine WL.ai (aT (sz:=2) (bytes:=32) rfl Tryz.underlying60 (show Tryz.prog.info? 59=some Tryz.t59 by kernel_rfl) rfl rfl rfl rfl (by decide) rfl rfl (Own.nil _ _ _) (bz (len:=1) (sz:=2) (cs:=[St iX,St uL]) bx rfl) (by simp [Value.oneCell']) (by simp only [maxLen];omega) (by omega)) rfl rfl rfl ?_
       rintro v5 h5 ⟨eG,aN,yI⟩
       have tL:=aH.trans aP
       have X4:=tL.trans (aW.mono fun _ _ e=>e.elim)
       have X5:=X4.trans' aN (fun q hq e=>by cases e)
       have MT:=MS.ext aW aO (fun _ _=>aO)
       have MU:=MT.ext aN (fun e=>by cases e) (fun q hq e=>by cases e)
       have gZ:∀ q,v5.ownBlock=some q→h1.size≤q:=bR yI (fun k hk=>by cases hk) X4.size))
 all_goals (refine Go ?_;first | refine Br.ab ?_ | repeat' (with_reducible first | refine aS ?_ | refine aL ?_ | refine eh ?_))
 all_goals (first | refine Br.ab ?_ | (exact ⟨(0+1,_),⟨rfl,rfl,trivial⟩,(by exact .inr ⟨rfl,v3,eG,MU,X5,gZ⟩),(by first | omega | (dsimp only;omega) | simp)⟩))
 try (refine Br.mk (i:=1000) ?_)
 repeat' (with_reducible first | refine aS ?_ | refine aL ?_ | refine eh ?_)
 refine Gs [(3,_)] ?_;refine G2 ?_
 repeat' (with_reducible first | refine aS ?_ | refine aL ?_ | refine eh ?_)
 refine WC.ret ?_
 repeat' (with_reducible first | refine ba ?_ | refine aV ?_ | refine zb ?_)
 refine bY _ ⟨rfl,trivial⟩ ?_
 exact ⟨v2,fE.ext aH (fun q hq e=>by have:=fM q hq;omega),LB,ay.trans aH,fM⟩
theorem tM {h:ah} {w:Value} (hr:Rd h w 1 12 (bu iC)):ag Tryz.prog 90 ⟨[w]⟩ h fun u h'=>∃ p,u=.tuple ⟨[.agg ⟨[In 196608,In 0,In 0,p]⟩,In 0]⟩∧Own h' p 59 2 1 [St iX,St uL]∧Ext No h h'∧∀ q,p.ownBlock=some q→h.size≤q:=by
 have kn:=fun (h':ah) (b:Nat) (v:Value) (k:Sc h' b v iC)=>FB k (by decide) (by decide)
 rw [show iK (iC.take 4)=196608 by decide] at kn
 have kt:=fun (h':ah) (b:Nat) (v:Value) (k:Sc h' b v rK)=>zc k
 have kd:=fun (h':ah) (b:Nat) (v:Value) (k:Sc h' b v [])=>vD k
 obtain ⟨A,c,rfl,_⟩:=id hr
 refine calls [(0,_)] Tryz.func90 rfl Tryz.ntmps90 rfl ⟨rfl,trivial⟩ ?_
 refine WC.sr ?_;refine WL.ai (av (fun w=>Tryz.zeroValue62 w)) rfl rfl rfl ?_
 rintro _ h1 ⟨b1,rfl,bO,aQ,ay⟩
 refine Go ?_;refine G3 ?_
 refine aJ 1 2 ?_ TT.mk
 all_goals (refine ax 2 ?_)
 refine WC.skip ?_;refine Gn ?_;refine Gs [(0,_),(2,_)] ?_;refine G2 ?_;refine WL.call (vs:=[_]) rfl Tryz.call94 rfl (y6 iC (hr.aq ay) (by decide)) rfl rfl rfl ?_
 rintro _ h2 ⟨b2,v2,rfl,k2,aH,eS,eN⟩
 refine Go ?_;refine G2 ?_;refine WL.call (vs:=[_,_]) rfl Tryz.call122 rfl (kn _ _ _ k2) rfl rfl rfl ?_
 rintro _ h3 ⟨v3,rfl,k3,aP⟩
 have l1:=ay.size
 have l2:=aH.size
 have l3:=aP.size
 have cm:=aP.obj (aH.obj aQ aO) (fun e=>by have:=aj aQ;omega)
 refine WL.step (aD (vs:=[_]) (cs:=[_,_,_,_]) (fun | [a0]=>[a0,(.int .i64 0),(.int .i64 0),(.slice none 0 0)] | _=>[]) rfl rfl (by kernel_rfl)) rfl rfl rfl ?_
 refine WL.ai (av (fun w=>Tryz.zeroValue62 w)) rfl rfl rfl ?_
 rintro _ h4 ⟨b4,rfl,oF,bx,aW⟩
 refine WL.az (al Tryz.sizeOf62 rfl rfl rfl bx rfl (by simp [Value.oneCell'])) rfl rfl ?_
 rintro _ h5 ⟨bT,aN⟩
 have LC:Sc h3 b2 v3 rK:=k3
 have X3:Ext No h h3:=(ay.trans aH).trans' aP (fun q hq e=>by omega)
 have l4:=aW.size
 have X5:=(X3.trans aW).trans' aN (fun q hq e=>by omega)
 have OA:=aj k3.bq
 have k5:Sc h5 b2 v3 rK:=(LC.ext aW aO (fun _ _=>aO)).ext aN (fun e=>by omega) (fun q hq e=>by have:=LC.rd.lt (by decide) hq;omega)
 have eI:=aN.obj (aW.obj cm aO) (fun e=>by have:=aj cm;omega)
 refine Gn ?_;refine Gs [(2,_),(4,_),(5,_)] ?_;refine G3 ?_;refine WL.ld rfl (by first | exact aa bT rfl | assumption) rfl rfl rfl ?_
 refine Gn ?_;refine WC.block ?_;refine G2 ?_
 refine aJ 3 4 ?_ TT.mk
 all_goals (refine ax 3 ?_)
 refine WC.region (Go ?_);refine WL.call (vs:=[_]) rfl Tryz.call123 rfl (kt _ _ _ k5) rfl rfl rfl ?_
 rintro w6 h6 ⟨v6,fN,k6,aM,im⟩
 obtain ⟨A6,c6,rfl,_⟩:=id fN.slice
 have HS:=aM.obj bT (fun e=>by omega)
 have fB:=aM.obj eI (fun e=>by have:=aj aQ;omega)
 have l5:=X5.size
 have OB:=aN.size
 have X6:=X5.trans' aM (fun q hq e=>by omega)
 refine Go ?_;refine WL.az (aC Tryz.sizeOf60 rfl rfl HS (Nat.le_of_ble_eq_true rfl) rfl rfl) rfl rfl ?_
 rintro _ h7 ⟨bZ,bh⟩
 have gM:=fN.ext bh (fun q hq e=>bV fN HS (by decide) (e▸hq))
 have k7:Sc h7 b2 v6 []:=⟨bh.obj k6.bq (fun e=>by omega),Rd.ext' k6.rd bh (fun q hq=>by simp at hq),k6.ne⟩
 have X7:=X6.trans' bh (fun q hq e=>by omega)
 have mv:=bh.obj fB (fun e=>by have:=aj cm;omega)
 refine Gn ?_;refine Gn ?_;refine G3 ?_;refine WL.call (vs:=[_]) rfl Tryz.call96 rfl (kd _ _ _ k7) rfl rfl rfl ?_
 rintro _ hq ⟨rfl,hz⟩
 replace hz:=hz.symm
 subst hz
 refine Go ?_;refine Gs [(2,_),(5,_),(35,_)] ?_
 refine aJ 9 10 ?_ TT.mk
 all_goals (refine ax 10 ?_)
 refine WC.skip ?_;refine Gn ?_;refine WC.sr ?_;refine WL.step (an Tryz.isAgg62 Tryz.sizeOf62 rfl rfl (by exact At.au bZ)) rfl rfl rfl ?_
 refine WL.az (al Tryz.sizeOf62 rfl rfl rfl mv rfl (by simp [Value.oneCell'])) rfl rfl ?_
 rintro _ h8 ⟨bE,bD⟩
 refine Go ?_;refine WC.ret ?_
 repeat' (with_reducible first | refine ba ?_ | refine aV ?_)
 refine dY _ _ ⟨⟨_,rfl,bB Tryz.isAgg62 Tryz.sizeOf62 (by assumption) rfl⟩,rfl,trivial⟩ ?_
 exact ⟨_,rfl,gM.ext bD (fun q hq e=>bV gM mv (by decide) (e▸hq)),X7.trans' bD (fun q hq e=>by omega),fun q hq=>by have:=im q hq;omega⟩
def MV (w f s p i:Value) (bg ov:Bool):List Value:=[w,f,s,p,i,.bool bg,.bool ov]
abbrev tN:List Bk:=[gB 82 0 0 0,gB 75 0 1 7919,gB 90 73 0 0]
theorem gu {h:ah} {A:Option Addr} {n c:Nat} {xs:List Value} (hr:Rd h (.slice A n c) 2 n xs) (h1:∀ v∈xs,v.oneCell'=true) (hm:n * 32≤reachBytes) :
   ag Tryz.prog 294 ⟨[.slice A n c]⟩ h fun u h'=>Own h' u 85 2 n xs∧Ext No h h'∧(∀ k,u.ownBlock=some k→h.size≤k):=by
 unfold reachBytes at hm
 cases A with
 | none =>
   have h0:n=0:=by
     apply Classical.byContradiction
     intro hn
     obtain ⟨b,o,e,_⟩:=Rd.at_ hr (by omega)
     cases e
   subst h0
   have hx:xs=[]:=List.eq_nil_of_length_eq_zero (by obtain ⟨_,_,_,_,hl,_⟩:=hr;simpa using hl)
   subst hx
   refine calls [(0,_)] Tryz.func294 rfl Tryz.ntmps294 rfl ⟨rfl,trivial⟩ ?_
   refine G2 ?_;refine G3 ?_;refine WL.step (cV Tryz.underlying40 rfl rfl) rfl rfl rfl ?_;refine Gn ?_
   refine aJ 1 2 ?_ TT.mk
   all_goals (refine ax 1 ?_)
   refine G2 ?_;refine Gt ?_
   exact ⟨Own.nil _ _ _,.refl _ _,by simp [Value.ownBlock]⟩
 | some a =>
   refine calls [(0,_)] Tryz.func294 rfl Tryz.ntmps294 rfl ⟨rfl,trivial⟩ ?_
   refine G2 ?_;refine G3 ?_;refine WL.step (cV Tryz.underlying40 rfl rfl) rfl rfl rfl ?_;refine Gn ?_
   refine aJ 1 2 ?_ TT.mk
   all_goals (refine ax 2 ?_)
   refine WC.skip ?_;refine Gn ?_;refine WC.sr ?_;refine WL.ai (aw (vs:=[]) (cs:=[]) (fun _=>[]) Tryz.underlying40 rfl rfl (by kernel_rfl)) rfl rfl rfl ?_
   rintro _ h3 ⟨b1,rfl,bO,aQ,ay⟩
   refine Go ?_
   have qT:=hr.aq ay
   refine WL.ai (aT (sz:=2) (bytes:=32) rfl Tryz.underlying40 (show Tryz.prog.info? 85=some Tryz.t85 by kernel_rfl) rfl rfl rfl rfl (by decide) rfl rfl (dJ aQ rfl (by simp [maxLen])) qT h1 (by simp only [maxLen];omega) (by omega)) rfl rfl rfl ?_
   rintro v2 h2 ⟨dC,aH,lu⟩
   refine Go ?_;refine Gs [(2,_)] ?_;refine Gt ?_
   exact ⟨by simpa using dC,ay.trans' aH (fun k hk e=>by simp [Value.ownBlock] at e;omega),bR lu (fun k hk=>by simp [Value.ownBlock] at hk;omega) ay.size⟩
theorem nr {h:ah} {A:Option Addr} {n c:Nat} {xs:List Value} (hr:Rd h (.slice A n c) 1 n xs) (h1:∀ v∈xs,v.oneCell'=true) (hm:n * 24≤reachBytes) :
   ag Tryz.prog 291 ⟨[.slice A n c]⟩ h fun u h'=>Own h' u 40 1 n xs∧Ext No h h'∧(∀ k,u.ownBlock=some k→h.size≤k):=by
 unfold reachBytes at hm
 cases A with
 | none =>
   have h0:n=0:=by
     apply Classical.byContradiction
     intro hn
     obtain ⟨b,o,e,_⟩:=Rd.at_ hr (by omega)
     cases e
   subst h0
   have hx:xs=[]:=List.eq_nil_of_length_eq_zero (by obtain ⟨_,_,_,_,hl,_⟩:=hr;simpa using hl)
   subst hx
   refine calls [(0,_)] Tryz.func291 rfl Tryz.ntmps291 rfl ⟨rfl,trivial⟩ ?_
   refine G2 ?_;refine G3 ?_;refine WL.step (cV Tryz.underlying271 rfl rfl) rfl rfl rfl ?_;refine Gn ?_
   refine aJ 1 2 ?_ TT.mk
   all_goals (refine ax 1 ?_)
   refine G2 ?_;refine Gt ?_
   exact ⟨Own.nil _ _ _,.refl _ _,by simp [Value.ownBlock]⟩
 | some a =>
   refine calls [(0,_)] Tryz.func291 rfl Tryz.ntmps291 rfl ⟨rfl,trivial⟩ ?_
   refine G2 ?_;refine G3 ?_;refine WL.step (cV Tryz.underlying271 rfl rfl) rfl rfl rfl ?_;refine Gn ?_
   refine aJ 1 2 ?_ TT.mk
   all_goals (refine ax 2 ?_)
   refine WC.skip ?_;refine Gn ?_;refine WC.sr ?_;refine WL.ai (aw (vs:=[]) (cs:=[]) (fun _=>[]) Tryz.underlying271 rfl rfl (by kernel_rfl)) rfl rfl rfl ?_
   rintro _ h3 ⟨b1,rfl,bO,aQ,ay⟩
   refine Go ?_
   have qT:=hr.aq ay
   refine WL.ai (aT (sz:=1) (bytes:=24) rfl Tryz.underlying271 (show Tryz.prog.info? 40=some Tryz.t40 by kernel_rfl) rfl rfl rfl rfl (by decide) rfl rfl (dJ aQ rfl (by simp [maxLen])) qT h1 (by simp only [maxLen];omega) (by omega)) rfl rfl rfl ?_
   rintro v2 h2 ⟨dC,aH,lu⟩
   refine Go ?_;refine Gs [(2,_)] ?_;refine Gt ?_
   exact ⟨by simpa using dC,ay.trans' aH (fun k hk e=>by simp [Value.ownBlock] at e;omega),bR lu (fun k hk=>by simp [Value.ownBlock] at hk;omega) ay.size⟩
theorem mi {h:ah} {A:Option Addr} {c:Nat} (l:List UInt8) (hr:Rd h (.slice A l.length c) 1 l.length (bu l)) (hm:l.length≤reachBytes) :
   ag Tryz.prog 74 ⟨[.slice A l.length c]⟩ h fun u h'=>Own h' u 5 1 l.length (bu l)∧Ext No h h'∧(∀ k,u.ownBlock=some k→h.size≤k):=by
 unfold reachBytes at hm
 cases A with
 | none =>
   have h0:l=[]:=by
     cases l with
     | nil=>rfl
     | cons a l=>obtain ⟨b,o,e,_⟩:=Rd.at_ hr (by simp);cases e
   subst h0
   refine calls [(0,_)] Tryz.func74 rfl Tryz.ntmps74 rfl ⟨rfl,trivial⟩ ?_
   refine G2 ?_;refine G3 ?_;refine WL.step (cV Tryz.underlying23 rfl rfl) rfl rfl rfl ?_;refine Gn ?_
   refine aJ 1 2 ?_ TT.mk
   all_goals (refine ax 1 ?_)
   refine G2 ?_;refine Gt ?_
   exact ⟨Own.nil _ _ _,.refl _ _,by simp [Value.ownBlock]⟩
 | some a =>
   refine calls [(0,_)] Tryz.func74 rfl Tryz.ntmps74 rfl ⟨rfl,trivial⟩ ?_
   refine G2 ?_;refine G3 ?_;refine WL.step (cV Tryz.underlying23 rfl rfl) rfl rfl rfl ?_;refine Gn ?_
   refine aJ 1 2 ?_ TT.mk
   all_goals (refine ax 2 ?_)
   refine WC.skip ?_;refine Gn ?_;refine WC.sr ?_;refine WL.ai (aw (vs:=[]) (cs:=[]) (fun _=>[]) Tryz.underlying23 rfl rfl (by kernel_rfl)) rfl rfl rfl ?_
   rintro _ h3 ⟨b1,rfl,bO,aQ,ay⟩
   refine Go ?_
   have qT:=hr.aq ay
   refine WL.ai (aT (sz:=1) (bytes:=1) rfl Tryz.underlying23 (show Tryz.prog.info? 5=some Tryz.t5 by kernel_rfl) rfl rfl rfl rfl (by decide) rfl rfl (dJ aQ rfl (by simp [maxLen])) qT (u6 l) (by simp only [maxLen];omega) (by omega)) rfl rfl rfl ?_
   rintro v2 h2 ⟨dC,aH,lu⟩
   refine Go ?_;refine Gs [(2,_)] ?_;refine Gt ?_
   exact ⟨by simpa using dC,ay.trans' aH (fun k hk e=>by simp [Value.ownBlock] at e;omega),bR lu (fun k hk=>by simp [Value.ownBlock] at hk;omega) ay.size⟩
theorem rM {h:ah} {l:List aX} (hl:∀ c∈l,c.ok h):∀ v∈l.flatMap aX.cells,v.oneCell'=true:=by
 intro v hv
 obtain ⟨c,hc,hv⟩:=List.mem_flatMap.1 hv
 obtain ⟨_,_,e,_⟩:=(hl c hc).1
 simp only [aX.cells,List.mem_cons,List.not_mem_nil,or_false] at hv
 rcases hv with rfl | rfl
 · rfl
 · rw [e];rfl
theorem zd {out rest:List aX} {c:aX} {spare:List Value} {k o:Nat} (v:Value) (hk:out.length=k) (ho:o=0+k * 2+1) :
   ((out++c :: rest).flatMap aX.cells++spare).set o v=(out++[(⟨c.null,v,c.bytes⟩:aX)]++rest).flatMap aX.cells++spare:=by
 have hfl:(out.flatMap aX.cells).length=k * 2:=by rw [cP aX.len,hk]
 subst ho
 simp only [List.flatMap_append,List.flatMap_cons,List.append_assoc,List.flatMap_nil,List.append_nil,aX.cells,List.cons_append,List.nil_append]
 rw [List.set_append_right _ _ (by omega),hfl]
 have:0+k * 2+1 - k * 2=1:=by omega
 rw [this]
 rfl
theorem drop_cons {α:Type} {l:List α} {k:Nat} {x:α} (h:l[k]?=some x):l.drop k=x :: l.drop (k+1):=by
 rw [List.drop_eq_getElem?_toList_append,h]
 rfl
theorem pY {α:Type} {l out:List α} {k:Nat} {x:α} (h:l[k]?=some x) (hk:out.length=k):(out++l.drop k)[k]?=some x:=by
 subst hk
 rw [List.getElem?_append_right (Nat.le_refl _),List.getElem?_drop]
 simpa using h
structure pZ (h2 h:ah) (b1:Nat) (l:List aX) (k:Nat) (out:List aX):Prop where
 le:k≤l.length
 len:out.length=k
 pl:out.map aX.pl=(l.take k).map aX.pl
 bq:∃ spare,h[b1]?=some (.cells ⟨(out++l.drop k).flatMap aX.cells++spare⟩ 85 (0,0))
 own:∀ q∈out,q.ok h∧∀ b,q.v.ownBlock=some b→h2.size≤b
 ext:Ext (fun b=>b=b1) h2 h
theorem pZ.next {h2 h h3 h4:ah} {b1 k:Nat} {l out:List aX} {c:aX} {v:Value} {cs:List Value} (r:pZ h2 h b1 l k out) (hc:l[k]?=some c) (x3:Ext No h h3) (o3:Own h3 v 5 1 c.bytes.length (bu c.bytes)) (f3:∀ b,v.ownBlock=some b→h.size≤b)
   (hcs:∀ spare,h3[b1]?=some (.cells ⟨(out++l.drop k).flatMap aX.cells++spare⟩ 85 (0,0))→cs=((out++l.drop k).flatMap aX.cells++spare).set (0+k * 2+1) v) (bx:h4[b1]?=some (.cells ⟨cs⟩ 85 (0,0))) (x4:Ext (fun b=>b=b1) h3 h4) (hb:b1 < h2.size) (hz:c.bytes.length≤reachBytes) :
   pZ h2 h4 b1 l (k+1) (out++[⟨c.null,v,c.bytes⟩]):=by
 have s0:=r.ext.size
 have s3:=x3.size
 have hkl:k < l.length:=(List.getElem?_eq_some_iff.1 hc).1
 obtain ⟨spare,hblk⟩:=r.bq
 refine ⟨hkl,by simp [r.len],?_,⟨spare,?_⟩,fun q hq=>?_,(r.ext.trans' x3 fun _ _ e=>e.elim).trans x4⟩
 · rw [List.map_append,r.pl,List.take_add_one,hc,List.map_append]
   rfl
 · rw [bx,hcs spare (x3.obj hblk aO),drop_cons hc,zd v r.len rfl]
 · rcases List.mem_append.1 hq with hq | hq
   · obtain ⟨q1,q2⟩:=r.own q hq
     exact ⟨⟨(q1.1.aq x3).ext' x4 fun b _ e eb=>by have:=q2 b e;omega,q1.2⟩,q2⟩
   · simp only [List.mem_singleton] at hq
     subst hq
     exact ⟨⟨o3.rd.ext' x4 fun b _ e eb=>by have:=f3 b e;omega,hz⟩,fun b e=>by have:=f3 b e;omega⟩
theorem pZ.done {h0 h2 h:ah} {b1 c1:Nat} {l out:List aX} (r:pZ h2 h b1 l l.length out) (x2:Ext No h0 h2) (hg:h0.size≤b1) (hlt:b1 < h2.size) (hn:l.length≤c1) (hc:c1≤maxLen) (hl:l.length * 32≤reachBytes) :
   ∃ l',cF h (.slice (some ⟨b1,0,none⟩) l.length c1) l'∧l'.map aX.pl=l.map aX.pl∧Ext No h0 h∧∀ b,dy (.slice (some ⟨b1,0,none⟩) l.length c1) l' b→h0.size≤b:=by
 obtain ⟨spare,hb⟩:=r.bq
 rw [List.drop_length,List.append_nil] at hb
 have s2:=x2.size
 have e:=r.len
 refine ⟨out,?_,by rw [r.pl,List.take_length],x2.trans' r.ext fun b hb e=>by omega,?_⟩
 · rw [← e]
   exact ⟨⟨_,_,rfl,by omega,cP aX.len out,fun _=>⟨b1,0,rfl,aj hb,(At.au hb).pre⟩⟩,⟨by omega,_,_,rfl,hc⟩,fun q hq=>(r.own q hq).1⟩
 · rintro b (⟨_,e⟩ | ⟨q,hq,_,e⟩)
   · simp only [Value.ownBlock,Option.some.injEq] at e;omega
   · have:=(r.own q hq).2 b e;omega
theorem rN {h:ah} {v:Value} (l:List aX) (hc:cF h v l) :
   ag Tryz.prog 279 ⟨[v]⟩ h fun u h'=>∃ l',cF h' u l'∧l'.map aX.pl=l.map aX.pl∧Ext No h h'∧∀ b,dy u l' b→h.size≤b:=by
 obtain ⟨hr,⟨hlm,A,c,rfl,hcap⟩,hok⟩:=hc
 have hlm':=hlm
 unfold reachBytes at hlm'
 have h1:=rM hok
 by_cases h0:l=[]
 · subst h0
   refine calls [(0,_)] Tryz.func279 rfl Tryz.ntmps279 rfl ⟨rfl,trivial⟩ ?_
   refine G2 ?_;refine G2 ?_;refine WL.call (vs:=[_]) rfl Tryz.call294 rfl (gu hr h1 hlm) rfl rfl rfl ?_
   rintro v2 h2 ⟨dC,aH,eN⟩
   obtain ⟨A2,c2,rfl,mJ⟩:=dC.Fh
   refine Go ?_;refine Gs [(3,_)] ?_;refine G3 ?_;refine WC.block ?_;refine WC.bC (X:=Unit) (fun x=>([(9,In (0:Int))]:Fr)) [(3,_),(8,_)] (fun _ h'=>h'=h2) (fun _=>0) (()) ⟨rfl,rfl,rfl,trivial⟩ (by exact rfl) ?_
   rintro _ h9 hz
   subst h9
   refine WC.sub [(9,_),(3,_),(8,_)] ⟨rfl,rfl,rfl,trivial⟩ ?_;refine G2 ?_;refine WC.seq ?_
   refine aJ 1 2 ?_ TT.mk
   all_goals (refine ax 2 ?_)
   refine WC.exit ?_
   repeat' (with_reducible first | refine aU ?_ | refine aG rfl ?_ | refine aI ?_ | refine aL ?_ | refine aS ?_)
   refine Br.out (i:=1000) ?_;refine Gn ?_;refine Br.ab ?_;refine Br.ab ?_;refine Br.ab ?_;refine Go ?_;refine Br.ab ?_;refine Go ?_;refine Br.ab ?_;refine Go ?_;refine Br.ab ?_;refine Br.ab ?_;refine Br.ab ?_;refine Go ?_;refine Br.ab ?_;refine Gn ?_;refine Br.ab ?_;refine Br.ab ?_;refine Go ?_;refine Br.ab ?_
   try (refine Br.mk (i:=1000) ?_)
   refine Gn ?_;refine G2 ?_;refine Gs [(2,_)] ?_;refine Gt ?_
   exact ⟨[],⟨dC.rd,⟨by simp,_,_,rfl,mJ⟩,by simp⟩,rfl,aH,by rintro b (⟨e,_⟩ | ⟨_,e,_⟩);(simp at e);(simp at e)⟩
 · have hpos:0 < l.length:=List.length_pos_iff.2 h0
   refine calls [(0,_)] Tryz.func279 rfl Tryz.ntmps279 rfl ⟨rfl,trivial⟩ ?_
   refine G2 ?_;refine G2 ?_;refine WL.call (vs:=[_]) rfl Tryz.call294 rfl (gu hr h1 hlm) rfl rfl rfl ?_
   rintro v2 h2 ⟨dC,aH,eN⟩
   obtain ⟨b1,c1,cs,rfl,aQ,hnc,hcm,hcl,hct⟩:=dC.block hpos
   have mw:=aj aQ
   have bO:=eN b1 rfl
   have HT:pZ h2 h2 b1 l 0 []:=⟨Nat.zero_le _,rfl,rfl,⟨cs.drop (l.length * 2),by rw [List.nil_append,List.drop_zero,← hct,List.take_append_drop];exact aQ⟩,by simp,.refl _ _⟩
   refine Go ?_;refine Gs [(3,_)] ?_;refine G3 ?_;refine WC.block ?_;refine WC.bC (X:=Nat × List aX) (fun x=>([(9,In (x.1:Int))]:Fr)) [(3,_),(8,_)] (fun x h'=>pZ h2 h' b1 l x.1 x.2) (fun x=>l.length - x.1) ((0,[])) ⟨rfl,rfl,rfl,trivial⟩ (by exact HT) ?_
   rintro ⟨k,out⟩ h3 ri
   simp only at ri
   have hk:=ri.le
   refine WC.sub [(9,_),(3,_),(8,_)] ⟨rfl,rfl,rfl,trivial⟩ ?_
   dsimp only
   refine G2 ?_;refine WC.seq ?_
   refine aJ 1 2 (Hb.mk fun hb=>?_) (Hb.mk fun hb=>?_)
   all_goals try (
   refine ax 1 ?_
   refine WC.skip ?_
   skip)
   all_goals try (
   refine ax 2 ?_
   refine WC.exit ?_
   repeat' (with_reducible first | refine aU ?_ | refine aG rfl ?_ | refine aI ?_ | refine aL ?_ | refine aS ?_)
   refine Br.out (i:=1000) ?_
   skip)
   all_goals (refine Gn ?_;first | refine Br.ab ?_ | refine WC.seq ?_)
   all_goals (first | refine Br.ab ?_ | refine WC.block ?_)
   all_goals (first | refine Br.ab ?_ | refine WC.sr ?_)
   all_goals (refine Go ?_)
   all_goals (
    first
      | (refine Br.ab ?_)
      | (obtain ⟨⟨n1,v1,s1⟩,ga⟩:∃ y,l[k]?=some y:=⟨_,List.getElem?_eq_getElem (by omega)⟩
         have tL:=ri.ext
         obtain ⟨spare,hblk⟩:=ri.bq
         obtain ⟨rC,hsl⟩:=hok _ (List.mem_of_getElem? ga)
         simp only at rC hsl
         obtain ⟨A1,k1,rfl,_⟩:=id rC
         have E3:Ext No h h3:=aH.trans' tL (fun b hb e=>by omega)
         have atb:At h3 b1 (0+k * 2) [.bool n1,.slice A1 s1.length k1]:=At.elem (xs:=out++l.drop k) aX.len ((At.au hblk).pre) (pY ga ri.len)))
   all_goals (first | refine Br.ab ?_ | refine WC.region ?_)
   all_goals (refine Go ?_;first | refine Br.ab ?_ | (refine WL.step (aF Tryz.underlying40 Tryz.sizeOf85 rfl rfl rfl (by omega) (by first | rfl | assumption)) rfl rfl rfl ?_))
   all_goals (refine Go ?_;first | refine Br.ab ?_ | (refine WL.ld rfl (by first | exact atb.get 1 rfl rfl | assumption) rfl rfl rfl ?_))
   all_goals (
    first
      | (refine Br.ab ?_)
      | (refine WL.call (vs:=[_]) rfl Tryz.call74 rfl (mi s1 (rC.aq E3) hsl) rfl rfl rfl ?_
         rintro v6 h6 ⟨fN,aM,im⟩))
   all_goals (first | refine Br.ab ?_ | obtain ⟨A6,c6,rfl,_⟩:=fN.slice)
   all_goals (first | refine Br.ab ?_ | (refine WL.step (aF Tryz.underlying40 Tryz.sizeOf85 rfl rfl rfl (by omega) (by first | rfl | assumption)) rfl rfl rfl ?_))
   all_goals (refine Go ?_)
   all_goals (
    first
      | (refine Br.ab ?_)
      | (refine WL.az (aC Tryz.sizeOf23 rfl rfl (aM.obj hblk aO) (by simp [cP aX.len,ri.len];omega) rfl rfl) rfl rfl ?_
         rintro _ h7 ⟨bZ,bh⟩))
   all_goals (refine Gn ?_;first | refine Br.ab ?_ | refine Gs [(3,_),(8,_),(9,_)] ?_)
   all_goals (first | refine Br.ab ?_ | refine WC.region ?_)
   all_goals (refine Go ?_;first | refine Br.ab ?_ | (exact ⟨(k+1,out++[_]),⟨rfl,rfl,rfl,trivial⟩,(by exact ri.next ga aM fN im (fun sp e=>by rw [aM.obj hblk aO] at e;simp only [Option.some.injEq,Obj.cells.injEq,Array.mk.injEq] at e;obtain rfl:=List.append_cancel_left e.1;rfl) bZ bh mw hsl),(by simp;omega)⟩))
   try (refine Br.mk (i:=1000) ?_)
   refine Gn ?_;refine G2 ?_;refine Gs [(2,_)] ?_;refine Gt ?_
   obtain rfl:k=l.length:=by omega
   exact ri.done aH bO mw hnc hcm hlm
theorem FC {out rest:List Rw} {r:Rw} {spare:List Value} {k o:Nat} (u:Rw) (hk:out.length=k) (ho:o=0+k * 1) :
   ((out++r :: rest).map Rw.v++spare).set o u.v=(out++[u]++rest).map Rw.v++spare:=by
 have hfl:(out.map Rw.v).length=k:=by simp [hk]
 subst ho
 simp only [List.map_append,List.map_cons,List.append_assoc,List.map_nil,List.cons_append,List.nil_append]
 rw [List.set_append_right _ _ (by omega),hfl]
 have:0+k * 1 - k=0:=by omega
 rw [this]
 rfl
structure tP (h2 h:ah) (b1:Nat) (L:List Rw) (k:Nat) (out:List Rw):Prop where
 le:k≤L.length
 len:out.length=k
 pl:out.map Rw.pl=(L.take k).map Rw.pl
 bq:∃ spare,h[b1]?=some (.cells ⟨(out++L.drop k).map Rw.v++spare⟩ 40 (0,0))
 own:∀ r∈out,cF h r.v r.l∧∀ b,dy r.v r.l b→h2.size≤b
 ext:Ext (fun b=>b=b1) h2 h
theorem tP.next {h2 h h3 h4:ah} {b1 k:Nat} {L out:List Rw} {r:Rw} {v:Value} {l':List aX} {cs:List Value} (i:tP h2 h b1 L k out) (hc:L[k]?=some r) (x3:Ext No h h3) (c3:cF h3 v l') (p3:l'.map aX.pl=r.l.map aX.pl) (f3:∀ b,dy v l' b→h.size≤b)
   (hcs:∀ spare,h3[b1]?=some (.cells ⟨(out++L.drop k).map Rw.v++spare⟩ 40 (0,0))→cs=((out++L.drop k).map Rw.v++spare).set (0+k * 1) v) (bx:h4[b1]?=some (.cells ⟨cs⟩ 40 (0,0))) (x4:Ext (fun b=>b=b1) h3 h4) (hb:b1 < h2.size) :
   tP h2 h4 b1 L (k+1) (out++[⟨v,l'⟩]):=by
 have s0:=i.ext.size
 have s3:=x3.size
 have hkl:k < L.length:=(List.getElem?_eq_some_iff.1 hc).1
 obtain ⟨spare,hblk⟩:=i.bq
 refine ⟨hkl,by simp [i.len],?_,⟨spare,?_⟩,fun q hq=>?_,(i.ext.trans' x3 fun _ _ e=>e.elim).trans x4⟩
 · rw [List.map_append,i.pl,List.take_add_one,hc,List.map_append]
   simp [Rw.pl,p3]
 · rw [bx,hcs spare (x3.obj hblk aO),drop_cons hc,FC (⟨v,l'⟩:Rw) i.len rfl]
 · rcases List.mem_append.1 hq with hq | hq
   · obtain ⟨q1,q2⟩:=i.own q hq
     exact ⟨(q1.aq x3).ext x4 fun b e eb=>by have:=q2 b e;omega,q2⟩
   · simp only [List.mem_singleton] at hq
     subst hq
     exact ⟨c3.ext x4 fun b e eb=>by have:=f3 b e;omega,fun b e=>by have:=f3 b e;omega⟩
theorem tP.done {h0 h2 h:ah} {b1 c1:Nat} {L out:List Rw} (r:tP h2 h b1 L L.length out) (x2:Ext No h0 h2) (hg:h0.size≤b1) (hlt:b1 < h2.size) (hn:L.length≤c1) (hc:c1≤maxLen) (hl:L.length * 24≤reachBytes) :
   ∃ L',j4 h (.slice (some ⟨b1,0,none⟩) L.length c1) L'∧L'.map Rw.pl=L.map Rw.pl∧Ext No h0 h∧∀ b,dN (.slice (some ⟨b1,0,none⟩) L.length c1) L' b→h0.size≤b:=by
 obtain ⟨spare,hb⟩:=r.bq
 rw [List.drop_length,List.append_nil] at hb
 have s2:=x2.size
 have e:=r.len
 refine ⟨out,?_,by rw [r.pl,List.take_length],x2.trans' r.ext fun b hb e=>by omega,?_⟩
 · rw [← e]
   exact ⟨⟨_,_,rfl,by omega,by simp,fun _=>⟨b1,0,rfl,aj hb,(At.au hb).pre⟩⟩,⟨by omega,_,_,rfl,hc⟩,fun q hq=>(r.own q hq).1⟩
 · rintro b (⟨_,e⟩ | ⟨q,hq,e⟩)
   · simp only [Value.ownBlock,Option.some.injEq] at e;omega
   · have:=(r.own q hq).2 b e;omega
theorem CL {h:ah} {L:List Rw} (hl:∀ r∈L,cF h r.v r.l):∀ v∈L.map Rw.v,v.oneCell'=true:=by
 intro v hv
 obtain ⟨r,hr,rfl⟩:=List.mem_map.1 hv
 obtain ⟨_,⟨_,_,_,e,_⟩,_⟩:=hl r hr
 rw [e];rfl
theorem ns {h:ah} {v:Value} (L:List Rw) (hc:j4 h v L) :
   ag Tryz.prog 257 ⟨[v]⟩ h fun u h'=>∃ L',j4 h' u L'∧L'.map Rw.pl=L.map Rw.pl∧Ext No h h'∧∀ b,dN u L' b→h.size≤b:=by
 obtain ⟨hr,⟨hlm,A,c,rfl,hcap⟩,hok⟩:=hc
 have hlm':=hlm
 unfold reachBytes at hlm'
 have h1:=CL hok
 by_cases h0:L=[]
 · subst h0
   refine calls [(0,_)] Tryz.func257 rfl Tryz.ntmps257 rfl ⟨rfl,trivial⟩ ?_
   refine G2 ?_;refine G2 ?_;refine WL.call (vs:=[_]) rfl Tryz.call291 rfl (nr hr h1 hlm) rfl rfl rfl ?_
   rintro v2 h2 ⟨dC,aH,eN⟩
   obtain ⟨A2,c2,rfl,mJ⟩:=dC.Fh
   refine Go ?_;refine Gs [(3,_)] ?_;refine G3 ?_;refine WC.block ?_;refine WC.bC (X:=Unit) (fun x=>([(9,In (0:Int))]:Fr)) [(3,_),(8,_)] (fun _ h'=>h'=h2) (fun _=>0) (()) ⟨rfl,rfl,rfl,trivial⟩ (by exact rfl) ?_
   rintro _ h9 hz
   subst h9
   refine WC.sub [(9,_),(3,_),(8,_)] ⟨rfl,rfl,rfl,trivial⟩ ?_;refine G2 ?_;refine WC.seq ?_
   refine aJ 1 2 ?_ TT.mk
   all_goals (refine ax 2 ?_)
   refine WC.exit ?_
   repeat' (with_reducible first | refine aU ?_ | refine aG rfl ?_ | refine aI ?_ | refine aL ?_ | refine aS ?_)
   refine Br.out (i:=1000) ?_;refine Gn ?_;refine Br.ab ?_;refine Br.ab ?_;refine Br.ab ?_;refine Go ?_;refine Br.ab ?_;refine Go ?_;refine Br.ab ?_;refine Br.ab ?_;refine Br.ab ?_;refine Br.ab ?_;refine Br.ab ?_;refine Gn ?_;refine Br.ab ?_;refine Br.ab ?_;refine Go ?_;refine Br.ab ?_
   try (refine Br.mk (i:=1000) ?_)
   refine Gn ?_;refine G2 ?_;refine Gs [(2,_)] ?_;refine Gt ?_
   exact ⟨[],⟨dC.rd,⟨by simp,_,_,rfl,mJ⟩,by simp⟩,rfl,aH,by rintro b (⟨e,_⟩ | ⟨_,e,_⟩);(simp at e);(simp at e)⟩
 · have hpos:0 < L.length:=List.length_pos_iff.2 h0
   refine calls [(0,_)] Tryz.func257 rfl Tryz.ntmps257 rfl ⟨rfl,trivial⟩ ?_
   refine G2 ?_;refine G2 ?_;refine WL.call (vs:=[_]) rfl Tryz.call291 rfl (nr hr h1 hlm) rfl rfl rfl ?_
   rintro v2 h2 ⟨dC,aH,eN⟩
   obtain ⟨b1,c1,cs,rfl,aQ,hnc,hcm,hcl,hct⟩:=dC.block hpos
   have mw:=aj aQ
   have bO:=eN b1 rfl
   have HT:tP h2 h2 b1 L 0 []:=⟨Nat.zero_le _,rfl,rfl,⟨cs.drop (L.length * 1),by rw [List.nil_append,List.drop_zero,← hct,List.take_append_drop];exact aQ⟩,by simp,.refl _ _⟩
   refine Go ?_;refine Gs [(3,_)] ?_;refine G3 ?_;refine WC.block ?_;refine WC.bC (X:=Nat × List Rw) (fun x=>([(9,In (x.1:Int))]:Fr)) [(3,_),(8,_)] (fun x h'=>tP h2 h' b1 L x.1 x.2) (fun x=>L.length - x.1) ((0,[])) ⟨rfl,rfl,rfl,trivial⟩ (by exact HT) ?_
   rintro ⟨k,out⟩ h3 ri
   simp only at ri
   have hk:=ri.le
   refine WC.sub [(9,_),(3,_),(8,_)] ⟨rfl,rfl,rfl,trivial⟩ ?_
   dsimp only
   refine G2 ?_;refine WC.seq ?_
   refine aJ 1 2 (Hb.mk fun hb=>?_) (Hb.mk fun hb=>?_)
   all_goals try (
   refine ax 1 ?_
   refine WC.skip ?_
   skip)
   all_goals try (
   refine ax 2 ?_
   refine WC.exit ?_
   repeat' (with_reducible first | refine aU ?_ | refine aG rfl ?_ | refine aI ?_ | refine aL ?_ | refine aS ?_)
   refine Br.out (i:=1000) ?_
   skip)
   all_goals (refine Gn ?_;first | refine Br.ab ?_ | refine WC.seq ?_)
   all_goals (first | refine Br.ab ?_ | refine WC.block ?_)
   all_goals (first | refine Br.ab ?_ | refine WC.sr ?_)
   all_goals (refine Go ?_)
   all_goals (
    first
      | (refine Br.ab ?_)
      | (obtain ⟨⟨v1,l1⟩,ga⟩:∃ y,L[k]?=some y:=⟨_,List.getElem?_eq_getElem (by omega)⟩
         have tL:=ri.ext
         obtain ⟨spare,hblk⟩:=ri.bq
         have rC:=hok _ (List.mem_of_getElem? ga)
         simp only at rC
         have E3:Ext No h h3:=aH.trans' tL (fun b hb e=>by omega)
         have atb:cell h3 ⟨b1,0+k * 1,none⟩=some v1:=((At.au hblk).pre).get k (by rw [List.getElem?_map,pY ga ri.len];exact rfl) (by omega)))
   all_goals (first | refine Br.ab ?_ | refine WC.region ?_)
   all_goals (refine Go ?_;first | refine Br.ab ?_ | (refine WL.step (aF Tryz.underlying271 Tryz.sizeOf40 rfl rfl rfl (by omega) (by first | rfl | assumption)) rfl rfl rfl ?_))
   all_goals (first | refine Br.ab ?_ | (refine WL.ld rfl (by first | exact atb | assumption) rfl rfl rfl ?_))
   all_goals (
    first
      | (refine Br.ab ?_)
      | (refine WL.call (vs:=[_]) rfl Tryz.call279 rfl (rN l1 (rC.aq E3)) rfl rfl rfl ?_
         rintro v6 h6 ⟨l6,FD,HU,aM,im⟩))
   all_goals (first | refine Br.ab ?_ | (obtain ⟨A6,c6,rfl⟩:∃ A c,v6=.slice A l6.length c:=(by obtain ⟨_,⟨_,A,c,e,_⟩,_⟩:=FD;exact ⟨A,c,e⟩)))
   all_goals (first | refine Br.ab ?_ | (refine WL.step (aF Tryz.underlying271 Tryz.sizeOf40 rfl rfl rfl (by omega) (by first | rfl | assumption)) rfl rfl rfl ?_))
   all_goals (
    first
      | (refine Br.ab ?_)
      | (refine WL.az (aC Tryz.sizeOf40 rfl rfl (aM.obj hblk aO) (by simp [ri.len];omega) rfl rfl) rfl rfl ?_
         rintro _ h7 ⟨bZ,bh⟩))
   all_goals (refine Gn ?_;first | refine Br.ab ?_ | refine Gs [(3,_),(8,_),(9,_)] ?_)
   all_goals (first | refine Br.ab ?_ | refine WC.region ?_)
   all_goals (refine Go ?_;first | refine Br.ab ?_ | (exact ⟨(k+1,out++[_]),⟨rfl,rfl,rfl,trivial⟩,(by exact ri.next ga aM FD HU im (fun sp e=>by rw [aM.obj hblk aO] at e;simp only [Option.some.injEq,Obj.cells.injEq,Array.mk.injEq] at e;obtain rfl:=List.append_cancel_left e.1;rfl) bZ bh mw),(by simp;omega)⟩))
   try (refine Br.mk (i:=1000) ?_)
   refine Gn ?_;refine G2 ?_;refine Gs [(2,_)] ?_;refine Gt ?_
   obtain rfl:k=L.length:=by omega
   exact ri.done aH bO mw hnc hcm hlm
end Go.Proofs.YtopgddfgefnmbaaGreatDoor
