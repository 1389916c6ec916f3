/-
  SEVERAL TEXTS IN ONE: IxB, Cell, Back, K17, BkChk, BkChk2, Hv9, K28, Hv10, Hv1, Cl, Hv2, Hv3, Hv4, Hv5, Hv6, Hv7, K13, Hv8, Hv11, Hv12, Hv13, Port, Port2, Port3, K15, Port4, Port5, FmB, Sx, Hv14, Hv15, Hv16, K25.
-/
import Derived.Test.YtopgddfgefnmbaaGreatDoorPServePieces1
import Derived.Lib.IndexAny
import Derived.Lib.IndexLaws
import Derived.ChangeKeysEq
import Derived.HandedShaped
import Derived.Handed
import Derived.Scope
import Derived.Sort.Grow
set_option maxHeartbeats 8000000
set_option maxRecDepth 100000
namespace Go.Proofs.YtopgddfgefnmbaaGreatDoor
open Go Go.RK
theorem qM (c:UInt8):((c.toNat:Int)).toNat.toUInt8=c:=by simp
theorem o7 {h:aj} (s:List UInt8) (c:UInt8) :
   ai Tryz.prog 231 ⟨[St s,By c]⟩ h fun u h'=>u=In (Lib.indexByte s c)∧h'=h:=fun w hw =>
 (Tryz.strings_IndexByte ⟨⟨s⟩⟩ c.toNat w).mono fun e w' ⟨he,hb⟩=>⟨⟨by rw [hb],by rw [hb],by rw [hb],trivial⟩,_,he,by rw [qM],by rw [hb,hw]⟩
theorem dM {h:aj} {v:Value} (l:List UInt8) (c:UInt8) (hr:Rd h v 1 l.length (bK l)) (h0:0 < l.length) :
   ai Tryz.prog 126 ⟨[v,By c]⟩ h fun u h'=>u=In (Lib.indexByte l c)∧h'=h:=by
 obtain ⟨A,cap,rfl,_⟩:=id hr
 obtain ⟨b,o,rfl,_,cX⟩:=Rd.at_ hr h0
 intro w hw
 subst hw
 have e:Lib.bytesOf (l.map fun x:UInt8=>(x.toNat:Int))=l:=by
   unfold Lib.bytesOf
   rw [List.map_map]
   conv=>rhs;rw [← List.map_id l]
   exact List.map_congr_left fun x _=>qM x
 refine (Tryz.bytes_IndexByte b o l.length cap (l.map fun x:UInt8=>(x.toNat:Int)) c.toNat w (by simp) fun i hi=>?_).mono fun e' w' ⟨he,hb⟩=>⟨⟨by rw [hb],by rw [hb],by rw [hb],trivial⟩,_,he,by rw [qM,e],by rw [hb]⟩
 rw [ni]
 have:=cX i (By l[i]) (by simp [hi])
 rw [this]
 simp [List.getD,hi]
def bn (s:List UInt8):Bool := !s.contains 0
theorem fI {h:aj} (s:List UInt8):ai Tryz.prog 187 ⟨[St s]⟩ h fun u h'=>u=.bool (bn s)∧h'=h:=by
 refine calls [(0,_)] Tryz.func187 rfl Tryz.ntmps187 rfl ⟨rfl,trivial⟩ ?_
 refine G2 ?_;refine G2 ?_;refine WL.call (vs:=[_,_]) rfl Tryz.call231 rfl (o7 s 0) rfl rfl rfl ?_
 rintro _ hz ⟨rfl,_⟩
 subst hz
 refine WL.step (nF rfl rfl) rfl rfl rfl (Go ?_);refine Gs [(2,_)] ?_;refine Gt ?_
 exact ⟨by unfold bn;rw [Lib.contains_iff_indexByte];exact congrArg Value.bool (by rw [← decide_not];exact decide_eq_decide.2 (by omega)),rfl⟩
theorem o8 {h:aj} {A:Option Addr} {c:Nat} (l:List (List UInt8)) (p:(List UInt8)→Bool) {fk:Nat} {fs us:List Value} (jc:∀ (args:Array Value) (w:World),(callFunc fk args).run Tryz.prog w=.ok (.enter fk args) w) (hr:Rd h (.slice A l.length c) 1 l.length (l.map St)) (hm:l.length≤maxLen)
   (hp:∀ x∈l,ai Tryz.prog fk ⟨fs++[St x]++us⟩ h fun u h'=>u=.bool (p x)∧h'=h) :
   ai Tryz.prog 230 ⟨[.slice A l.length c,.func (.func fk) ⟨fs⟩ ⟨us⟩]⟩ h fun u h'=>u=In (j6 p l)∧h'=h:=by
 unfold maxLen at hm
 refine calls [(0,_),(1,_)] Tryz.func230 rfl Tryz.ntmps230 rfl ⟨rfl,rfl,trivial⟩ ?_
 refine G2 ?_;refine G3 ?_;refine WC.block ?_;refine WC.bO (X:=Nat) (fun x=>([(8,In (x:Int))]:Fr)) [(0,_),(1,_),(7,_)] (fun k h'=>h'=h∧k≤l.length∧∀ x∈l.take k,p x=false) (fun k=>l.length - k) (0) ⟨rfl,rfl,rfl,rfl,trivial⟩ (by exact ⟨rfl,Nat.zero_le _,by simp⟩) ?_
 rintro k _ ⟨rfl,hk,hn⟩
 refine WC.sub [(8,_),(0,_),(1,_),(7,_)] ⟨rfl,rfl,rfl,rfl,trivial⟩ ?_;refine G2 ?_;refine WC.seq ?_
 refine aJ 1 2 (Hb.mk fun hb=>?_) (Hb.mk fun hb=>?_)
 aa try (
 refine ay 1 ?_
 refine WC.skip ?_
 skip)
 aa try (
 refine ay 2 ?_
 refine WC.exit ?_
 repeat' (ae first | refine aZ ?_ | refine aF rfl ?_ | refine aL ?_ | refine aN ?_ | refine aV ?_)
 refine Br.out (i:=1000) ?_
 skip)
 aa (refine Gn ?_;first | refine Br.ad ?_ | refine WC.seq ?_)
 aa (first | refine Br.ad ?_ | refine WC.block ?_)
 aa (first | refine Br.ad ?_ | refine WC.sr ?_)
 aa (refine Go ?_;first | refine Br.ad ?_ | refine WC.sr ?_)
 aa (refine Go ?_)
 aa (
  first
    | (refine Br.ad ?_)
    | (obtain ⟨b,o,hA,gx,cX⟩:=Rd.at_ hr (by omega)
       obtain ⟨y,hy⟩:∃ y,l[k]?=some y:=⟨_,List.getElem?_eq_getElem (by omega)⟩
       have hc:=cX.get (p:=o+k * 1) (v:=St y) k (by rw [List.getElem?_map,hy];exact rfl) (by omega)))
 aa (first | refine Br.ad ?_ | (refine WL.step (aG Tryz.underlying249 Tryz.sizeOf9 rfl rfl rfl (by omega) (by first | rfl | assumption)) rfl rfl rfl ?_))
 aa (first | refine Br.ad ?_ | refine Ld ?_)
 aa (
  first
    | (refine Br.ad ?_)
    | (refine WL.fT (vs:=[_]) rfl rfl jc rfl (hp y (List.mem_of_getElem? hy)) rfl rfl rfl ?_
       rintro _ hz ⟨rfl,_⟩
       subst hz))
 aa (first | refine Br.ad ?_ | cases lO:p y)
 aa (refine Gn ?_;first | refine Br.ad ?_ | refine Gs [(0,_),(1,_),(5,_),(7,_),(8,_),(16,_)] ?_)
 aa (first | refine Br.ad ?_ | refine aJ 3 4 ?_ TT.mk)
 aa try (
 refine ay 3 ?_
 refine G2 ?_;refine Gs [(4,_)] ?_;refine Gt ?_
 first | exact ⟨by rw [dx (by rw [List.take_of_length_le (by omega)] at hn;exact hn)],rfl⟩ | exact ⟨by rw [dw hy lO hn],rfl⟩
 skip)
 aa try (
 refine ay 4 ?_
 refine WC.skip ?_
 skip)
 aa (refine Gn ?_;first | refine Br.ad ?_ | refine WC.region ?_)
 aa (refine Go ?_;first | refine Br.ad ?_ | (exact ⟨k+1,⟨rfl,rfl,rfl,rfl,trivial⟩,(by exact ⟨rfl,by omega,dy hn hy lO⟩),(by omega)⟩))
 try (refine Br.mk (i:=1000) ?_)
 refine Gn ?_;refine Gs [] ?_;refine G2 ?_;refine Gt ?_
 first | exact ⟨by rw [dx (by rw [List.take_of_length_le (by omega)] at hn;exact hn)],rfl⟩ | exact ⟨by rw [dw hy lO hn],rfl⟩
theorem Am {h:aj} (s:List UInt8):ai Tryz.prog 186 ⟨[St s]⟩ h fun u h'=>u=.bool (!bn s)∧h'=h:=by
 refine calls [(0,_)] Tryz.func186 rfl Tryz.ntmps186 rfl ⟨rfl,trivial⟩ ?_
 refine G2 ?_;refine G2 ?_;refine WL.call (vs:=[_]) rfl Tryz.call187 rfl (fI s) rfl rfl rfl ?_
 rintro _ hz ⟨rfl,_⟩
 subst hz
 cases hc:bn s
 aa (refine Go ?_;refine Gs [(2,_)] ?_;refine Gt ?_;exact ⟨rfl,rfl⟩)
theorem qN {h:aj} {A:Option Addr} {c:Nat} (l:List (List UInt8)) (p:List UInt8→Bool) {fk:Nat} {fs us:List Value} (jc:∀ (args:Array Value) (w:World),(callFunc fk args).run Tryz.prog w=.ok (.enter fk args) w) (hr:Rd h (.slice A l.length c) 1 l.length (l.map St)) (hm:l.length≤maxLen)
   (hp:∀ x∈l,ai Tryz.prog fk ⟨fs++[St x]++us⟩ h fun u h'=>u=.bool (p x)∧h'=h) :
   ai Tryz.prog 185 ⟨[.slice A l.length c,.func (.func fk) ⟨fs⟩ ⟨us⟩]⟩ h fun u h'=>u=.bool (l.any p)∧h'=h:=by
 refine calls [(0,_),(1,_)] Tryz.func185 rfl Tryz.ntmps185 rfl ⟨rfl,rfl,trivial⟩ ?_
 refine G2 ?_;refine G2 ?_;refine WL.call (vs:=[_,_]) rfl Tryz.call230 rfl (o8 l p jc hr hm hp) rfl rfl rfl ?_
 rintro _ hz ⟨rfl,_⟩
 subst hz
 refine WL.step (dH rfl rfl) rfl rfl rfl (Go ?_);refine Gs [(4,_)] ?_;refine Gt ?_
 exact ⟨by rw [ey],rfl⟩
theorem o9 {h:aj} {A:Option Addr} {c:Nat} (l:List Int) (p:Int→Bool) {fk:Nat} {fs us:List Value} (jc:∀ (args:Array Value) (w:World),(callFunc fk args).run Tryz.prog w=.ok (.enter fk args) w) (hr:Rd h (.slice A l.length c) 1 l.length (ints l)) (hm:l.length≤maxLen)
   (hp:∀ x∈l,ai Tryz.prog fk ⟨fs++[In x]++us⟩ h fun u h'=>u=.bool (p x)∧h'=h) :
   ai Tryz.prog 182 ⟨[.slice A l.length c,.func (.func fk) ⟨fs⟩ ⟨us⟩]⟩ h fun u h'=>u=.bool (l.any p)∧h'=h:=by
 refine calls [(0,_),(1,_)] Tryz.func182 rfl Tryz.ntmps182 rfl ⟨rfl,rfl,trivial⟩ ?_
 refine G2 ?_;refine G2 ?_;refine WL.call (vs:=[_,_]) rfl Tryz.call229 rfl (jR l p jc hr hm hp) rfl rfl rfl ?_
 rintro _ hz ⟨rfl,_⟩
 subst hz
 refine WL.step (dH rfl rfl) rfl rfl rfl (Go ?_);refine Gs [(4,_)] ?_;refine Gt ?_
 exact ⟨by rw [ey],rfl⟩
theorem sJ {h:aj} {v:Value} (l:List (List UInt8)) (hr:Rd h v 1 l.length (l.map St)) (hm:l.length≤maxLen) :
   ai Tryz.prog 136 ⟨[v]⟩ h fun u h'=>u=.bool (l.all bn)∧h'=h:=by
 obtain ⟨A,c,rfl,_⟩:=id hr
 refine calls [(0,_)] Tryz.func136 rfl Tryz.ntmps136 rfl ⟨rfl,trivial⟩ ?_
 refine G2 ?_;refine G2 ?_;refine WL.call (vs:=[_,_]) rfl Tryz.call185 rfl (qN l (fun s => !bn s) Tryz.call186 (fs:=[]) (us:=[]) hr hm (fun x _=>Am x)) rfl rfl rfl ?_
 rintro _ hz ⟨rfl,_⟩
 subst hz
 rw [show (l.any fun s => !bn s) = !l.all bn by rw [List.not_all_eq_any_not]]
 cases hc:l.all bn
 aa (refine Go ?_;refine Gs [(2,_)] ?_;refine Gt ?_;exact ⟨rfl,rfl⟩)
def nq (l:List Int) (lo hi:Int):Bool:=decide (l.length≤65535) && !l.any fun n=>decide (n < lo) || decide (hi < n)
theorem ya {h:aj} {b1 b2:Nat} {lo hi:Int} {t1 t2:TypeId} (n:Int) (h1:h[b1]?=some (.cells ⟨[In lo]⟩ t1 (0,0))) (h2:h[b2]?=some (.cells ⟨[In hi]⟩ t2 (0,0))) :
   ai Tryz.prog 183 ⟨[In n,.pointer (some ⟨b1,0,none⟩),.pointer (some ⟨b2,0,none⟩)]⟩ h fun u h'=>u=.bool (decide (n < lo) || decide (hi < n))∧h'=h:=by
 refine calls [(0,_),(1,_),(2,_)] Tryz.func183 rfl Tryz.ntmps183 rfl ⟨rfl,rfl,rfl,trivial⟩ ?_
 refine G2 ?_;refine G2 ?_;refine Ld ?_;refine Go ?_
 refine bU 8 (Hb.mk fun hb=>?_) (Hb.mk fun hb=>?_)
 aa (refine Gg ?_;first | refine WL.pass rfl rfl rfl ?_ | refine Ld ?_)
 aa (refine Gg ?_;refine Go ?_;refine Gs [(4,_)] ?_;refine Gt ?_;exact ⟨by first | (rw [decide_eq_true (show n < lo by omega)];done) | (rw [decide_eq_true (show n < lo by omega)];rfl) | (rw [decide_eq_false (show ¬ n < lo by omega)];rfl),rfl⟩)
theorem iw {h:aj} {v:Value} (l:List Int) (lo hi:Int) (hr:Rd h v 1 l.length (ints l)) (hm:l.length≤maxLen) :
   ai Tryz.prog 133 ⟨[v,In lo,In hi]⟩ h fun u h'=>u=.bool (nq l lo hi)∧Ext No h h':=by
 obtain ⟨A,c,rfl,_⟩:=id hr
 refine calls [(0,_),(1,_),(2,_)] Tryz.func133 rfl Tryz.ntmps133 rfl ⟨rfl,rfl,rfl,trivial⟩ ?_
 refine WC.sr ?_;refine WL.al (aI rfl) rfl rfl rfl ?_
 rintro _ h1 ⟨b1,rfl,b0,aT,aB⟩
 refine WL.al (aI rfl) rfl rfl rfl ?_
 rintro _ h2 ⟨b2,rfl,gI,bR,aK⟩
 have sK:=aK.obj aT aQ
 have hx:=aB.trans aK
 refine Go ?_;refine G2 ?_
 refine bU 10 (Hb.mk fun hb=>?_) (Hb.mk fun hb=>?_)
 aa (refine Gg ?_;first | refine WL.pass rfl rfl rfl ?_ | refine WL.step (fe (vs:=[]) (us:=[_,_]) rfl rfl) rfl rfl rfl ?_)
 aa (
  first
    | (refine WL.pass rfl rfl rfl ?_)
    | (refine WL.call (vs:=[_,_]) rfl Tryz.call182 rfl (o9 l (fun n=>decide (n < lo) || decide (hi < n)) Tryz.call183 (fs:=[]) (us:=[.pointer (some ⟨b1,0,none⟩),.pointer (some ⟨b2,0,none⟩)]) (hr.av hx) hm (fun x _=>ya x sK bR)) rfl rfl rfl ?_
       rintro _ hz ⟨rfl,_⟩
       subst hz))
 aa (refine Gg ?_;refine Go ?_;refine Gs [(6,_)] ?_;refine Gt ?_;exact ⟨by unfold nq;first | (rw [decide_eq_true (by omega)];rfl) | (rw [decide_eq_false (by omega)];rfl),hx⟩)
def jd (k:UInt8):Int:=if ([66,67,68,69,72,80,81,83,88]:List UInt8).contains k then 1 else if ([70,99,100,102,112]:List UInt8).contains k then 2 else 0
theorem sM {h:aj} (k:UInt8):ai Tryz.prog 93 ⟨[By k]⟩ h fun u h'=>u=In (jd k)∧Ext No h h':=by
 have e1:=Lib.contains_iff_indexByte [66,67,68,69,72,80,81,83,88] k
 have e2:=Lib.contains_iff_indexByte [70,99,100,102,112] k
 refine calls [(0,_)] Tryz.func93 rfl Tryz.ntmps93 rfl ⟨rfl,trivial⟩ ?_
 refine G2 ?_;refine WC.seq ?_;refine WC.block ?_;refine WC.sr ?_;refine WL.al (aw (vs:=[_,_,_,_,_,_,_,_,_]) (cs:=[_,_,_,_,_,_,_,_,_]) (fun | [a0,a1,a2,a3,a4,a5,a6,a7,a8]=>[a0,a1,a2,a3,a4,a5,a6,a7,a8] | _=>[]) Tryz.underlying23 rfl rfl (by kernel_rfl)) rfl rfl rfl ?_
 rintro _ h1 ⟨b1,rfl,b0,aT,aB⟩
 refine WL.al (iv Tryz.underlying23 Tryz.underlying5 rfl (by assumption)) rfl rfl rfl ?_
 rintro _ h2 ⟨rfl,⟨z2,bR⟩,aK⟩
 have iI:Ext No h h2:=aB.trans' aK (fun q hq e=>by omega)
 refine Go ?_;refine WL.call (vs:=[_,_]) rfl Tryz.call126 rfl (dM [66,67,68,69,72,80,81,83,88] k (bG bR rfl) (by simp)) rfl rfl rfl ?_
 rintro _ hz ⟨rfl,_⟩
 subst hz
 refine WL.step (dH rfl rfl) rfl rfl rfl ?_
 rw [← e1]
 cases fH:([66,67,68,69,72,80,81,83,88]:List UInt8).contains k
 aa (refine Go ?_;refine Gs [(0,_),(3,_)] ?_;refine aJ 1 2 ?_ TT.mk)
 aa try (
 refine ay 1 ?_
 refine G2 ?_;refine Gt ?_
 first | exact ⟨by unfold jd;rw [fH];rfl,iI⟩ | exact ⟨by unfold jd;rw [fH,lI];rfl,(iI.trans aS).trans' bh (fun q hq e=>by have:=iI.size;omega)⟩
 skip)
 aa (refine ay 2 ?_)
 refine WC.sr ?_;refine WL.al (aw (vs:=[_,_,_,_,_]) (cs:=[_,_,_,_,_]) (fun | [a0,a1,a2,a3,a4]=>[a0,a1,a2,a3,a4] | _=>[]) Tryz.underlying23 rfl rfl (by kernel_rfl)) rfl rfl rfl ?_
 rintro _ h3 ⟨b3,rfl,gN,bC,aS⟩
 refine WL.al (iv Tryz.underlying23 Tryz.underlying5 rfl (by assumption)) rfl rfl rfl ?_
 rintro _ h4 ⟨rfl,⟨z4,bN⟩,bh⟩
 refine Go ?_;refine WL.call (vs:=[_,_]) rfl Tryz.call126 rfl (dM [70,99,100,102,112] k (bG bN rfl) (by simp)) rfl rfl rfl ?_
 rintro _ hz ⟨rfl,_⟩
 subst hz
 refine WL.step (dH rfl rfl) rfl rfl rfl ?_
 rw [← e2]
 cases lI:([70,99,100,102,112]:List UInt8).contains k
 aa (refine Go ?_;refine Gs [(9,_)] ?_;refine aJ 3 4 ?_ TT.mk)
 aa try (
 refine ay 3 ?_
 refine G2 ?_;refine Gt ?_
 first | exact ⟨by unfold jd;rw [fH];rfl,iI⟩ | exact ⟨by unfold jd;rw [fH,lI];rfl,(iI.trans aS).trans' bh (fun q hq e=>by have:=iI.size;omega)⟩
 skip)
 aa (refine ay 4 ?_)
 refine WC.skip ?_;refine Gn ?_;refine G2 ?_;refine Gt ?_
 first | exact ⟨by unfold jd;rw [fH];rfl,iI⟩ | exact ⟨by unfold jd;rw [fH,lI];rfl,(iI.trans aS).trans' bh (fun q hq e=>by have:=iI.size;omega)⟩
structure bj where
 null:Bool
 v:Value
 bytes:List UInt8
def bj.cells (c:bj):List Value:=[.bool c.null,c.v]
theorem bj.len (c:bj):c.cells.length=2:=rfl
def bj.pl (c:bj):Bool × List UInt8:=(c.null,c.bytes)
def bj.ok (h:aj) (c:bj):Prop:=Rd h c.v 1 c.bytes.length (bK c.bytes)∧c.bytes.length≤reachBytes
def cN (h:aj) (v:Value) (l:List bj):Prop:=Rd h v 2 l.length (l.flatMap bj.cells)∧(l.length * 32≤reachBytes∧∃ A c,v=.slice A l.length c∧c≤maxLen)∧∀ c∈l,c.ok h
theorem bj.ok.av {h h':aj} {c:bj} (k:c.ok h) (a:Ext No h h'):c.ok h':=⟨k.1.av a,k.2⟩
theorem cN.av {h h':aj} {v:Value} {l:List bj} (k:cN h v l) (a:Ext No h h'):cN h' v l:=⟨k.1.av a,k.2.1,fun c hc=>(k.2.2 c hc).av a⟩
def dG (v:Value) (l:List bj) (b:Nat):Prop:=(0 < l.length∧v.ownBlock=some b)∨∃ c∈l,0 < c.bytes.length∧c.v.ownBlock=some b
theorem cN.lt {h:aj} {v:Value} {l:List bj} {b:Nat} (k:cN h v l) (hb:dG v l b):b < h.size:=by
 rcases hb with ⟨h1,h2⟩ | ⟨c,hc,h1,h2⟩
 · exact k.1.lt h1 h2
 · exact (k.2.2 c hc).1.lt h1 h2
theorem cN.ext {h h':aj} {S:Nat→Prop} {v:Value} {l:List bj} (k:cN h v l) (a:Ext S h h') (hS:∀ b,dG v l b→¬ S b):cN h' v l :=
 ⟨k.1.ext' a fun b h1 h2=>hS b (.inl ⟨h1,h2⟩),k.2.1,fun c hc=>⟨(k.2.2 c hc).1.ext' a fun b h1 h2=>hS b (.inr ⟨c,hc,h1,h2⟩),(k.2.2 c hc).2⟩⟩
structure Rw where
 v:Value
 l:List bj
def Rw.pl (r:Rw):List (Bool × List UInt8):=r.l.map bj.pl
def kD (h:aj) (v:Value) (L:List Rw):Prop:=Rd h v 1 L.length (L.map Rw.v)∧(L.length * 24≤reachBytes∧∃ A c,v=.slice A L.length c∧c≤maxLen)∧∀ r∈L,cN h r.v r.l
def dU (v:Value) (L:List Rw) (b:Nat):Prop:=(0 < L.length∧v.ownBlock=some b)∨∃ r∈L,dG r.v r.l b
theorem kD.lt {h:aj} {v:Value} {l:List Rw} {b:Nat} (k:kD h v l) (hb:dU v l b):b < h.size:=by
 rcases hb with ⟨h1,h2⟩ | ⟨c,hc,h1⟩
 · exact k.1.lt h1 h2
 · exact (k.2.2 c hc).lt h1
theorem kD.ext {h h':aj} {S:Nat→Prop} {v:Value} {l:List Rw} (k:kD h v l) (a:Ext S h h') (hS:∀ b,dU v l b→¬ S b):kD h' v l :=
 ⟨k.1.ext' a fun b h1 h2=>hS b (.inl ⟨h1,h2⟩),k.2.1,fun c hc=>(k.2.2 c hc).ext a fun b h1=>hS b (.inr ⟨c,hc,h1⟩)⟩
theorem kD.av {h h':aj} {v:Value} {l:List Rw} (k:kD h v l) (a:Ext No h h'):kD h' v l:=k.ext a fun _ _=>aQ
theorem uY (w:World):ew Tryz.prog w 85 bj.cells (fun c=>c.ok w.heap):=by
 have h1:=cw (P:=Tryz.prog) (w:=w) (o:=1) (f:=⟨ "Bytes", 23,1,false, "", "", 8⟩) rfl (mG Tryz.underlying23 (by kernel_rfl) (by kernel_rfl) Tryz.underlying5) (by kernel_rfl) (fun _=>rfl) nO
 have h2:=cw (P:=Tryz.prog) (w:=w) (o:=0) (f:=⟨ "Null", 4,0,false, "", "", 0⟩) rfl (uO Tryz.underlying4) (by kernel_rfl) (fun _=>rfl) h1
 exact (kR Tryz.underlying85 (by kernel_rfl) h2).map (fun p=>(⟨p.1,p.2.1.1,p.2.1.2⟩:bj)) (fun _=>rfl) (fun p q=>q.2.1)
theorem sN (w:World):ew Tryz.prog w 40 (fun p:Value × List bj=>[p.1]) (fun p=>cN w.heap p.1 p.2) :=
 (dX Tryz.underlying40 (by kernel_rfl) (by decide) bj.len (uY w)).map id (fun _=>rfl) fun p q=>⟨q.1,⟨by have:=q.2.2.2.2;nE [show Tryz.prog.bytesOf 85=32 by kernel_rfl] at this,q.2.2.1⟩,q.2.2.2.1⟩
theorem map_take {α β:Type} {F:α→β} {l m:List α} {k:Nat} {a b:α} (h:(l.take k).map F=(m.take k).map F) (ha:l[k]?=some a) (hb:m[k]?=some b) (e:F a=F b):(l.take (k+1)).map F=(m.take (k+1)).map F:=by
 rw [List.take_add_one,List.take_add_one,ha,hb,List.map_append,List.map_append,h]
 simp [e]
theorem ix {α β:Type} {F:α→β} {l m:List α} {k:Nat} {a b:α} (ha:l[k]?=some a) (hb:m[k]?=some b) (e:F a ≠ F b):l.map F ≠ m.map F:=fun h=>e (by
 have:=congrArg (·[k]?) h
 simpa [ha,hb] using this)
theorem yd {h:aj} {v u:Value} (l m:List bj) (hl:cN h v l) (hm:cN h u m) :
   ai Tryz.prog 160 ⟨[v,u]⟩ h fun u h'=>u=.bool (decide (l.map bj.pl=m.map bj.pl))∧h'=h:=by
 obtain ⟨hr,⟨lg,A,c,rfl,_⟩,ho⟩:=hl
 obtain ⟨hs,⟨Df,B,d,rfl,_⟩,hp⟩:=hm
 unfold reachBytes at lg Df
 refine calls [(0,_),(1,_)] Tryz.func160 rfl Tryz.ntmps160 rfl ⟨rfl,rfl,trivial⟩ ?_
 refine G2 ?_;refine G3 ?_;refine Gs [(0,_),(1,_),(10,_)] ?_
 refine aJ 1 2 (Hb.mk fun hb=>?_) (Hb.mk fun hb=>?_)
 aa try (
 refine ay 1 ?_
 refine G2 ?_;refine Gt ?_
 first | exact ⟨by rw [decide_eq_false (fun e=>by have:=congrArg List.length e;simp at this;omega)],rfl⟩ | exact ⟨by rw [decide_eq_false (ix fH lI (by cK [bj.pl]))],rfl⟩ | exact ⟨by rw [decide_eq_true (by rw [List.take_of_length_le (by omega),List.take_of_length_le (by omega)] at hn;exact hn)],rfl⟩
 skip)
 aa (refine ay 2 ?_)
 refine WC.skip ?_;refine Gn ?_;refine G3 ?_;refine WC.block ?_;refine WC.bO (X:=Nat) (fun x=>([(5,In (x:Int))]:Fr)) [(0,_),(1,_)] (fun k h'=>h'=h∧k≤l.length∧(l.take k).map bj.pl=(m.take k).map bj.pl) (fun k=>l.length - k) (0) ⟨rfl,rfl,rfl,trivial⟩ (by exact ⟨rfl,Nat.zero_le _,by simp⟩) ?_
 rintro k _ ⟨rfl,hk,hn⟩
 refine WC.sub [(5,_),(0,_),(1,_)] ⟨rfl,rfl,rfl,trivial⟩ ?_;refine G3 ?_
 refine aJ 3 4 (Hb.mk fun hb=>?_) (Hb.mk fun hb=>?_)
 aa try (
 refine ay 3 ?_
 refine WC.skip ?_
 skip)
 aa try (
 refine ay 4 ?_
 refine WC.exit ?_
 repeat' (ae first | refine aZ ?_ | refine aF rfl ?_ | refine aL ?_ | refine aN ?_ | refine aV ?_)
 refine Br.out (i:=1000) ?_
 skip)
 aa (refine Gn ?_;first | refine Br.ad ?_ | refine Gs [(0,_),(1,_),(5,_)] ?_)
 aa (first | refine Br.ad ?_ | refine WC.seq ?_)
 aa (first | refine Br.ad ?_ | refine WC.block ?_)
 aa (first | refine Br.ad ?_ | refine WC.seq ?_)
 aa (
  first
    | (refine Br.ad ?_)
    | (obtain ⟨b,o,hA,gx,cX⟩:=Rd.at_ hr (by omega)
       obtain ⟨b2,o2,hB,bR,Al⟩:=Rd.at_ hs (by omega)
       obtain ⟨⟨n1,v1,s1⟩,fH⟩:∃ y,l[k]?=some y:=⟨_,List.getElem?_eq_getElem (by omega)⟩
       obtain ⟨⟨n2,v2,s2⟩,lI⟩:∃ y,m[k]?=some y:=⟨_,List.getElem?_eq_getElem (by omega)⟩
       have sO:=(ho _ (List.mem_of_getElem? fH)).1
       have jv:=(hp _ (List.mem_of_getElem? lI)).1
       simp only at sO jv
       have wL:=At.elem bj.len cX fH
       have FO:=At.elem bj.len Al lI
       obtain ⟨A1,k1,rfl,_⟩:=id sO
       obtain ⟨A2,k2,rfl,_⟩:=id jv))
 aa (first | refine Br.ad ?_ | (refine WC.gu dB (by kernel_rfl) ?_))
 aa (first | refine Br.ad ?_ | refine WQ.aM (an rfl) rfl rfl rfl ?_)
 aa (first | refine Br.ad ?_ | refine WQ.aM (an rfl) rfl rfl rfl ?_)
 aa (first | refine Br.ad ?_ | (refine WQ.aM (aG Tryz.underlying40 Tryz.sizeOf85 rfl rfl rfl (by omega) (by first | rfl | assumption)) rfl rfl rfl ?_))
 aa (first | refine Br.ad ?_ | refine WQ.aM (ag rfl Tryz.underlying85 rfl Tryz.sizeOf4) rfl rfl rfl ?_)
 aa (first | refine Br.ad ?_ | (refine WQ.aM (aC Tryz.isAgg4 rfl (by first | exact wL.get 0 rfl rfl | assumption)) rfl rfl rfl ?_))
 aa (first | refine Br.ad ?_ | refine WQ.aM (an rfl) rfl rfl rfl ?_)
 aa (first | refine Br.ad ?_ | refine WQ.aM (an rfl) rfl rfl rfl ?_)
 aa (first | refine Br.ad ?_ | (refine WQ.aM (aG Tryz.underlying40 Tryz.sizeOf85 rfl rfl rfl (by omega) (by first | rfl | assumption)) rfl rfl rfl ?_))
 aa (first | refine Br.ad ?_ | refine WQ.aM (ag rfl Tryz.underlying85 rfl Tryz.sizeOf4) rfl rfl rfl ?_)
 aa (first | refine Br.ad ?_ | (refine WQ.aM (aC Tryz.isAgg4 rfl (by first | exact FO.get 0 rfl rfl | assumption)) rfl rfl rfl ?_))
 aa (first | refine Br.ad ?_ | refine WQ.aM (Dx Tryz.underlying4 rfl rfl) rfl rfl rfl ?_)
 aa (first | refine Br.ad ?_ | refine WQ.aM (an rfl) rfl rfl rfl ?_)
 aa (first | refine Br.ad ?_ | (try ((aW (refine WQ.part 28 (b:=true) rfl (fun _=>?_) (fun _=>?_)));(aW (refine WQ.part 28 (b:=false) rfl (fun _=>?_) (fun _=>?_)));(refine WQ.part 28 rfl (fun hb=>?_) (fun hb=>?_) <;> (first | replace hb:=of_decide_eq_true hb | replace hb:=of_decide_eq_false hb | replace hb:=of_decide_eq_false (nt hb) | replace hb:=of_decide_eq_true (nf hb) | skip)))))
 aa (first | refine Br.ad ?_ | (first | (refine WQ.pass rfl rfl rfl ?_) | (refine WQ.aM (an rfl) rfl rfl rfl ?_)))
 aa (first | refine Br.ad ?_ | (first | (refine WQ.pass rfl rfl rfl ?_) | (refine WQ.aM (an rfl) rfl rfl rfl ?_)))
 aa (first | refine Br.ad ?_ | (first | (refine WQ.pass rfl rfl rfl ?_) | (refine WQ.aM (aG Tryz.underlying40 Tryz.sizeOf85 rfl rfl rfl (by omega) (by first | rfl | assumption)) rfl rfl rfl ?_)))
 aa (first | refine Br.ad ?_ | (first | (refine WQ.pass rfl rfl rfl ?_) | (refine WQ.aM (ag rfl Tryz.underlying85 rfl Tryz.sizeOf23) rfl rfl rfl ?_)))
 aa (first | refine Br.ad ?_ | (first | (refine WQ.pass rfl rfl rfl ?_) | (refine WQ.aM (aC Tryz.isAgg23 rfl (by first | exact wL.get 1 rfl rfl | assumption)) rfl rfl rfl ?_)))
 aa (first | refine Br.ad ?_ | (first | (refine WQ.pass rfl rfl rfl ?_) | (refine WQ.aM (dZ Tryz.underlying23 Tryz.underlying5 Tryz.underlying9 rfl (by assumption)) rfl rfl rfl ?_)))
 aa (first | refine Br.ad ?_ | (first | (refine WQ.pass rfl rfl rfl ?_) | (refine WQ.aM (an rfl) rfl rfl rfl ?_)))
 aa (first | refine Br.ad ?_ | (first | (refine WQ.pass rfl rfl rfl ?_) | (refine WQ.aM (an rfl) rfl rfl rfl ?_)))
 aa (first | refine Br.ad ?_ | (first | (refine WQ.pass rfl rfl rfl ?_) | (refine WQ.aM (aG Tryz.underlying40 Tryz.sizeOf85 rfl rfl rfl (by omega) (by first | rfl | assumption)) rfl rfl rfl ?_)))
 aa (first | refine Br.ad ?_ | (first | (refine WQ.pass rfl rfl rfl ?_) | (refine WQ.aM (ag rfl Tryz.underlying85 rfl Tryz.sizeOf23) rfl rfl rfl ?_)))
 aa (first | refine Br.ad ?_ | (first | (refine WQ.pass rfl rfl rfl ?_) | (refine WQ.aM (aC Tryz.isAgg23 rfl (by first | exact FO.get 1 rfl rfl | assumption)) rfl rfl rfl ?_)))
 aa (first | refine Br.ad ?_ | (first | (refine WQ.pass rfl rfl rfl ?_) | (refine WQ.aM (dZ Tryz.underlying23 Tryz.underlying5 Tryz.underlying9 rfl (by assumption)) rfl rfl rfl ?_)))
 aa (first | refine Br.ad ?_ | (first | (refine WQ.pass rfl rfl rfl ?_) | (refine WQ.aM (nh rfl rfl) rfl rfl rfl ?_)))
 aa (first | refine Br.ad ?_ | (first | (refine WQ.aM (cP rfl rfl) rfl rfl rfl ?_) | (refine WQ.aM (cQ rfl rfl) rfl rfl rfl ?_)))
 aa (first | refine Br.ad ?_ | refine WQ.nil ?_)
 aa (refine Gn ?_;first | refine Br.ad ?_ | refine Gs [(0,_),(1,_),(5,_),(42,_)] ?_)
 aa (first | refine Br.ad ?_ | (first | (refine aJ 5 6 ?_ TT.mk) | (refine aJ 5 6 (Hb.mk fun hb=>?_) (Hb.mk fun hb=>?_))))
 aa try (
 refine ay 5 ?_
 aa (refine G2 ?_;refine Gs [(4,_)] ?_;refine Gt ?_;first | exact ⟨by rw [decide_eq_false (fun e=>by have:=congrArg List.length e;simp at this;omega)],rfl⟩ | exact ⟨by rw [decide_eq_false (ix fH lI (by cK [bj.pl]))],rfl⟩ | exact ⟨by rw [decide_eq_true (by rw [List.take_of_length_le (by omega),List.take_of_length_le (by omega)] at hn;exact hn)],rfl⟩)
 skip)
 aa try (
 refine ay 6 ?_
 refine WC.skip ?_
 skip)
 aa (refine Gn ?_;first | refine Br.ad ?_ | refine WC.region ?_)
 aa (refine Go ?_;first | refine Br.ad ?_ | (exact ⟨k+1,⟨rfl,rfl,rfl,trivial⟩,(by exact ⟨rfl,by omega,map_take hn fH lI (by cK [bj.pl])⟩),(by omega)⟩))
 try (refine Br.mk (i:=1000) ?_)
 refine Gn ?_;refine Gs [] ?_;refine G2 ?_;refine Gt ?_
 first | exact ⟨by rw [decide_eq_false (fun e=>by have:=congrArg List.length e;simp at this;omega)],rfl⟩ | exact ⟨by rw [decide_eq_false (ix fH lI (by cK [bj.pl]))],rfl⟩ | exact ⟨by rw [decide_eq_true (by rw [List.take_of_length_le (by omega),List.take_of_length_le (by omega)] at hn;exact hn)],rfl⟩
structure cI where
 nm:List UInt8
 t:Int
 a:Int
 o:Int
 s:Int
 m:Int
 f:Int
deriving DecidableEq
def cI.sQ (c:cI):List jP:=[.s c.nm,.i .i64 c.t,.i .i64 c.a,.i .i64 c.o,.i .i64 c.s,.i .i64 c.m,.i .i64 c.f]
def cI.cells (c:cI):List Value:=[St c.nm,In c.t,In c.a,In c.o,In c.s,In c.m,In c.f]
theorem cI.len (c:cI):c.cells.length=7:=rfl
theorem cI.inj (c d:cI):c.sQ=d.sQ ↔ c=d:=by cases c;cases d;simp [cI.sQ]
structure bz where
 k:Int
 t:List UInt8
deriving DecidableEq
def bz.sQ (c:bz):List jP:=[.i .u8 c.k,.s c.t]
def bz.cells (c:bz):List Value:=[.int .u8 c.k,St c.t]
theorem bz.len (c:bz):c.cells.length=2:=rfl
theorem bz.inj (c d:bz):c.sQ=d.sQ ↔ c=d:=by cases c;cases d;simp [bz.sQ]
structure Bk where
 kind:Int
 status:Int
 tag:List UInt8
 name:List UInt8
 value:List UInt8
 n:Int
 m:Int
 vo:Value
 aU:List Int
 vc:Value
 dt:List cI
 vr:Value
 row:List bj
 vf:Value
 fields:List bz
def Bk.cells (b:Bk):List Value:=[.int .u8 b.kind,.int .u8 b.status,St b.tag,St b.name,St b.value,In b.n,In b.m,b.vo,b.vc,b.vr,b.vf]
structure Bk.ok (h:aj) (b:Bk):Prop where
 aU:Rd h b.vo 1 b.aU.length (ints b.aU)∧b.aU.length≤maxLen
 dt:Rd h b.vc 7 b.dt.length (b.dt.flatMap cI.cells)∧b.dt.length≤maxLen
 row:cN h b.vr b.row
 fields:Rd h b.vf 2 b.fields.length (b.fields.flatMap bz.cells)∧b.fields.length≤maxLen
theorem Bk.ok.av {h h':aj} {b:Bk} (k:b.ok h) (a:Ext No h h'):b.ok h':=⟨⟨k.1.1.av a,k.1.2⟩,⟨k.2.1.av a,k.2.2⟩,k.3.av a,⟨k.4.1.av a,k.4.2⟩⟩
def Bk.pl (b:Bk):=(b.kind,b.status,b.tag,b.name,b.value,b.n,b.m,b.aU,b.dt,b.row.map bj.pl,b.fields)
theorem nR {h:aj} {v u:Value} (l m:List Int) (hr:Rd h v 1 l.length (ints l)) (hs:Rd h u 1 m.length (ints m)) (hl:l.length≤maxLen) (hm:m.length≤maxLen) :
   ai Tryz.prog 159 ⟨[v,u]⟩ h fun u h'=>u=.bool (decide (l=m))∧h'=h:=by
 unfold maxLen at hl hm
 obtain ⟨A,c,rfl,_⟩:=id hr
 obtain ⟨B,d,rfl,_⟩:=id hs
 refine calls [(0,_),(1,_)] Tryz.func159 rfl Tryz.ntmps159 rfl ⟨rfl,rfl,trivial⟩ ?_
 refine G2 ?_;refine G3 ?_;refine Gs [(0,_),(1,_),(10,_)] ?_
 refine aJ 1 2 (Hb.mk fun hb=>?_) (Hb.mk fun hb=>?_)
 aa try (
 refine ay 1 ?_
 refine G2 ?_;refine Gt ?_
 first | exact ⟨by rw [decide_eq_false (fun e=>by subst e;omega)],rfl⟩ | exact ⟨by rw [decide_eq_false (fun e=>by subst e;rw [hy] at hz;injection hz with hz;omega)],rfl⟩ | exact ⟨by rw [decide_eq_true (by rw [List.take_of_length_le (by omega),List.take_of_length_le (by omega)] at hn;exact hn)],rfl⟩
 skip)
 aa (refine ay 2 ?_)
 refine WC.skip ?_;refine Gn ?_;refine G3 ?_;refine WC.block ?_;refine WC.bO (X:=Nat) (fun x=>([(5,In (x:Int))]:Fr)) [(0,_),(1,_)] (fun k h'=>h'=h∧k≤l.length∧l.take k=m.take k) (fun k=>l.length - k) (0) ⟨rfl,rfl,rfl,trivial⟩ (by exact ⟨rfl,Nat.zero_le _,by simp⟩) ?_
 rintro k _ ⟨rfl,hk,hn⟩
 refine WC.sub [(5,_),(0,_),(1,_)] ⟨rfl,rfl,rfl,trivial⟩ ?_;refine G3 ?_
 refine aJ 3 4 (Hb.mk fun hb=>?_) (Hb.mk fun hb=>?_)
 aa try (
 refine ay 3 ?_
 refine WC.skip ?_
 skip)
 aa try (
 refine ay 4 ?_
 refine WC.exit ?_
 repeat' (ae first | refine aZ ?_ | refine aF rfl ?_ | refine aL ?_ | refine aN ?_ | refine aV ?_)
 refine Br.out (i:=1000) ?_
 skip)
 aa (refine Gn ?_;first | refine Br.ad ?_ | refine Gs [(0,_),(1,_),(5,_)] ?_)
 aa (first | refine Br.ad ?_ | refine WC.seq ?_)
 aa (first | refine Br.ad ?_ | refine WC.block ?_)
 aa (first | refine Br.ad ?_ | refine WC.seq ?_)
 aa (
  first
    | (refine Br.ad ?_)
    | (obtain ⟨b,o,hA,gx,cX⟩:=Rd.at_ hr (by omega)
       obtain ⟨b2,o2,hB,bR,Al⟩:=Rd.at_ hs (by omega)
       obtain ⟨y,hy⟩:∃ y,l[k]?=some y:=⟨_,List.getElem?_eq_getElem (by omega)⟩
       obtain ⟨z,hz⟩:∃ z,m[k]?=some z:=⟨_,List.getElem?_eq_getElem (by omega)⟩
       have hc:=cX.get (p:=o+k * 1) k (iq hy) (by omega)
       have lI:=Al.get (p:=o2+k * 1) k (iq hz) (by omega)))
 aa (first | refine Br.ad ?_ | (refine WC.gu dB (by kernel_rfl) ?_))
 aa (first | refine Br.ad ?_ | refine WQ.aM (an rfl) rfl rfl rfl ?_)
 aa (first | refine Br.ad ?_ | refine WQ.aM (an rfl) rfl rfl rfl ?_)
 aa (first | refine Br.ad ?_ | (refine WQ.aM (aG Tryz.underlying39 Tryz.sizeOf3 rfl rfl rfl (by omega) (by first | rfl | assumption)) rfl rfl rfl ?_))
 aa (first | refine Br.ad ?_ | (refine WQ.aM (aC Tryz.isAgg3 rfl (by first | assumption | exact ab (by assumption) rfl)) rfl rfl rfl ?_))
 aa (first | refine Br.ad ?_ | refine WQ.aM (an rfl) rfl rfl rfl ?_)
 aa (first | refine Br.ad ?_ | refine WQ.aM (an rfl) rfl rfl rfl ?_)
 aa (first | refine Br.ad ?_ | (refine WQ.aM (aG Tryz.underlying39 Tryz.sizeOf3 rfl rfl rfl (by omega) (by first | rfl | assumption)) rfl rfl rfl ?_))
 aa (first | refine Br.ad ?_ | (refine WQ.aM (aC Tryz.isAgg3 rfl (by first | assumption | exact ab (by assumption) rfl)) rfl rfl rfl ?_))
 aa (first | refine Br.ad ?_ | refine WQ.aM (jZ rfl rfl) rfl rfl rfl ?_)
 aa (first | refine Br.ad ?_ | refine WQ.nil ?_)
 aa (refine Gn ?_;first | refine Br.ad ?_ | refine Gs [(0,_),(1,_),(5,_),(25,_)] ?_)
 aa (first | refine Br.ad ?_ | (refine aJ 5 6 (Hb.mk fun hb=>?_) (Hb.mk fun hb=>?_)))
 aa try (
 refine ay 5 ?_
 refine G2 ?_;refine Gs [(4,_)] ?_;refine Gt ?_
 first | exact ⟨by rw [decide_eq_false (fun e=>by subst e;omega)],rfl⟩ | exact ⟨by rw [decide_eq_false (fun e=>by subst e;rw [hy] at hz;injection hz with hz;omega)],rfl⟩ | exact ⟨by rw [decide_eq_true (by rw [List.take_of_length_le (by omega),List.take_of_length_le (by omega)] at hn;exact hn)],rfl⟩
 skip)
 aa try (
 refine ay 6 ?_
 refine WC.skip ?_
 skip)
 aa (refine Gn ?_;first | refine Br.ad ?_ | refine WC.region ?_)
 aa (refine Go ?_;first | refine Br.ad ?_ | (exact ⟨k+1,⟨rfl,rfl,rfl,trivial⟩,(by exact ⟨rfl,by omega,by rw [List.take_add_one,List.take_add_one,hn,hy,hz,show y=z by omega]⟩),(by omega)⟩))
 try (refine Br.mk (i:=1000) ?_)
 refine Gn ?_;refine Gs [] ?_;refine G2 ?_;refine Gt ?_
 first | exact ⟨by rw [decide_eq_false (fun e=>by subst e;omega)],rfl⟩ | exact ⟨by rw [decide_eq_false (fun e=>by subst e;rw [hy] at hz;injection hz with hz;omega)],rfl⟩ | exact ⟨by rw [decide_eq_true (by rw [List.take_of_length_le (by omega),List.take_of_length_le (by omega)] at hn;exact hn)],rfl⟩
end Go.Proofs.YtopgddfgefnmbaaGreatDoor
namespace Go.RK
open Go
section
variable {P:Program}
theorem iJ (w:World) (d:Nat) {e:TypeId} (he:P.underlying e=some .string) (hp:P.plainKey e=true) (xs ys:Array Value):∀ (us vs:List (List UInt8)) (o:Nat),vs.length=us.length →
   (∀ (j:Nat) (a:List UInt8),us[j]?=some a→xs[o+j]?=some (St a))→(∀ (j:Nat) (a:List UInt8),vs[j]?=some a→ys[o+j]?=some (St a)) →
   (Op.eqItems (d+1) e 1 xs ys (List.range' o us.length)).run P w=.ok (decide (us=vs)) w
 | [],vs,o,hl,_,_=>by
   obtain rfl:vs=[]:=List.eq_nil_of_length_eq_zero hl
   simp [Op.eqItems]
 | a :: us,[],o,hl,_,_=>by simp at hl
 | a :: us,b :: vs,o,hl,hx,hy=>by
   have p1:=hx 0 a rfl
   have p2:=hy 0 b rfl
   rw [Nat.add_zero] at p1 p2
   have r1:=run_part_plain (P:=P) (w:=w) hp p1
   have r2:=run_part_plain (P:=P) (w:=w) hp p2
   have r3:(Op.equalIn (d+1) e (St a) (St b)).run P w=.ok (decide (a=b)) w:=by
     show (Op.equalIn (d+1) e (.string _) (.string _)).run P w=_
     rw [run_equalIn_string w d e _ _ he]
     simp [jr]
   have ih:=iJ w d he hp xs ys us vs (o+1) (by simpa using hl) (fun j c hj=>by
     have:=hx (j+1) c (by simpa using hj)
     nE [show o+(j+1)=o+1+j by omega] at this) (fun j c hj=>by
     have:=hy (j+1) c (by simpa using hj)
     nE [show o+(j+1)=o+1+j by omega] at this)
   rw [List.length_cons,List.range'_succ]
   simp only [Op.eqItems,Nat.mul_one,Sem.run_bind,r1,r2,r3,Result.andThen_ok]
   by_cases h:a=b
   · simp [h,ih]
   · simp [h]
variable {f:Fr} {h:aj} {d:Option Tmp} {ty:TypeId} {pos:String} {af:Array Edge} {g:Option (Nat × Bool)}
theorem qO {t t2 e:TypeId} {x y:Operand} {n:Nat} {i:TypeInfo} {us vs:List (List UInt8)} (hu:P.underlying t=some (.array n e)) (hi:P.info? e=some i) (he:P.underlying e=some .string) (hp:P.plainKey e=true) (h1:P.cellsOf e=1) (hg:P.eqGuardType P.depth t=false)
   (hl:us.length=n) (lL:vs.length=n) (hx:f.ev x=some (.agg ⟨us.map St⟩)) (hy:f.ev y=some (.agg ⟨vs.map St⟩)) :
   bW P f ⟨d,.binOp .eql t x y t2,ty,pos,af,g⟩ h (.bool (decide (us=vs))):=fun ρ w JN _=>by
 have r1:=run_eqGuard_agg (P:=P) w .eql t x y ⟨us.map St⟩ ⟨vs.map St⟩ hg
 have r2:=run_eql_struct (P:=P) w t ⟨us.map St⟩ ⟨vs.map St⟩
 rw [show (10000:Nat)=9999+1 from rfl,run_equalIn_array w 9999 _ _ hu hi,h1,List.range_eq_range',← hl] at r2
 rw [iJ w 9998 he hp _ _ us vs 0 (by omega) (fun j a hj=>by simp [hj]) (fun j a hj=>by simp [hj])] at r2
 simp only [execOp,JN _ _ hx,JN _ _ hy,Sem.run_bind,r1,r2,Result.andThen_ok,Sem.run_pure]
end
end Go.RK
namespace Go.Proofs.YtopgddfgefnmbaaGreatDoor
open Go Go.RK
structure fU where
 n:Int
 lo:Int
 hi:Int
def fU.cells (b:fU):List Value:=[In b.n,In b.lo,In b.hi]
theorem fU.len (b:fU):b.cells.length=3:=rfl
theorem pa {h:aj} {v:Value} (l:List fU) (p:fU→Bool) {fk:Nat} {fs us:List Value} (jc:∀ (args:Array Value) (w:World),(callFunc fk args).run Tryz.prog w=.ok (.enter fk args) w) (hr:Rd h v 3 l.length (l.flatMap fU.cells)) (hm:l.length≤maxLen)
   (hp:∀ x∈l,∀ h',Ext No h h'→ai Tryz.prog fk ⟨fs++[.agg ⟨fU.cells x⟩]++us⟩ h' fun u gg=>u=.bool (p x)∧Ext No h' gg) :
   ai Tryz.prog 300 ⟨[v,.func (.func fk) ⟨fs⟩ ⟨us⟩]⟩ h fun u h'=>u=In (j6 p l)∧Ext No h h':=by
 obtain ⟨A,c,rfl,_⟩:=id hr
 unfold maxLen at hm
 refine calls [(0,_),(1,_)] Tryz.func300 rfl Tryz.ntmps300 rfl ⟨rfl,rfl,trivial⟩ ?_
 refine G2 ?_;refine G3 ?_;refine WC.block ?_;refine WC.bO (X:=Nat) (fun x=>([(8,In (x:Int))]:Fr)) [(0,_),(1,_),(7,_)] (fun k h'=>Ext No h h'∧k≤l.length∧∀ x∈l.take k,p x=false) (fun k=>l.length - k) (0) ⟨rfl,rfl,rfl,rfl,trivial⟩ (by exact ⟨.refl _ _,Nat.zero_le _,by simp⟩) ?_
 rintro k h1 ⟨aB,hk,hn⟩
 refine WC.sub [(8,_),(0,_),(1,_),(7,_)] ⟨rfl,rfl,rfl,rfl,trivial⟩ ?_;refine G2 ?_;refine WC.seq ?_
 refine aJ 1 2 (Hb.mk fun hb=>?_) (Hb.mk fun hb=>?_)
 aa try (
 refine ay 1 ?_
 refine WC.skip ?_
 skip)
 aa try (
 refine ay 2 ?_
 refine WC.exit ?_
 repeat' (ae first | refine aZ ?_ | refine aF rfl ?_ | refine aL ?_ | refine aN ?_ | refine aV ?_)
 refine Br.out (i:=1000) ?_
 skip)
 aa (refine Gn ?_;first | refine Br.ad ?_ | refine WC.seq ?_)
 aa (first | refine Br.ad ?_ | refine WC.block ?_)
 aa (first | refine Br.ad ?_ | refine WC.sr ?_)
 aa (refine Go ?_;first | refine Br.ad ?_ | refine WC.sr ?_)
 aa (first | refine Br.ad ?_ | refine WL.step (an rfl) rfl rfl rfl ?_)
 aa (first | refine Br.ad ?_ | refine WL.step (an rfl) rfl rfl rfl ?_)
 aa (
  first
    | (refine Br.ad ?_)
    | (obtain ⟨b,o,hA,gx,cX⟩:=Rd.at_ (hr.av aB) (by omega)
       obtain ⟨y,hy⟩:∃ y,l[k]?=some y:=⟨_,List.getElem?_eq_getElem (by omega)⟩
       have hc:At h1 b (o+k * 3) (fU.cells y):=At.elem fU.len cX hy))
 aa (first | refine Br.ad ?_ | refine WL.step (an rfl) rfl rfl rfl ?_)
 aa (first | refine Br.ad ?_ | (refine WL.step (aG Tryz.underlying337 Tryz.sizeOf310 rfl rfl rfl (by omega) (by first | rfl | assumption)) rfl rfl rfl ?_))
 aa (first | refine Br.ad ?_ | (refine WL.step (aA Tryz.isAgg310 Tryz.sizeOf310 rfl rfl (by assumption)) rfl rfl rfl ?_))
 aa (
  first
    | (refine Br.ad ?_)
    | (refine WL.fT (vs:=[_]) rfl rfl jc rfl (hp y (List.mem_of_getElem? hy) h1 aB) rfl rfl rfl ?_
       rintro _ h2 ⟨rfl,aK⟩))
 aa (first | refine Br.ad ?_ | cases lO:p y)
 aa (refine Gn ?_;first | refine Br.ad ?_ | refine Gs [(0,_),(1,_),(5,_),(7,_),(8,_),(16,_)] ?_)
 aa (first | refine Br.ad ?_ | refine aJ 3 4 ?_ TT.mk)
 aa try (
 refine ay 3 ?_
 refine G2 ?_;refine Gs [(4,_)] ?_;refine Gt ?_
 first | exact ⟨by rw [dx (by rw [List.take_of_length_le (by omega)] at hn;exact hn)],aB⟩ | exact ⟨by rw [dw hy lO hn],aB.trans aK⟩
 skip)
 aa try (
 refine ay 4 ?_
 refine WC.skip ?_
 skip)
 aa (refine Gn ?_;first | refine Br.ad ?_ | refine WC.region ?_)
 aa (refine Go ?_;first | refine Br.ad ?_ | (exact ⟨k+1,⟨rfl,rfl,rfl,rfl,trivial⟩,(by exact ⟨aB.trans aK,by omega,dy hn hy lO⟩),(by omega)⟩))
 try (refine Br.mk (i:=1000) ?_)
 refine Gn ?_;refine Gs [] ?_;refine G2 ?_;refine Gt ?_
 first | exact ⟨by rw [dx (by rw [List.take_of_length_le (by omega)] at hn;exact hn)],aB⟩ | exact ⟨by rw [dw hy lO hn],aB.trans aK⟩
theorem pc {h:aj} {v:Value} (l:List cI) (p:cI→Bool) {fk:Nat} {fs us:List Value} (jc:∀ (args:Array Value) (w:World),(callFunc fk args).run Tryz.prog w=.ok (.enter fk args) w) (hr:Rd h v 7 l.length (l.flatMap cI.cells)) (hm:l.length≤maxLen)
   (hp:∀ x∈l,∀ h',Ext No h h'→ai Tryz.prog fk ⟨fs++[.agg ⟨cI.cells x⟩]++us⟩ h' fun u gg=>u=.bool (p x)∧Ext No h' gg) :
   ai Tryz.prog 269 ⟨[v,.func (.func fk) ⟨fs⟩ ⟨us⟩]⟩ h fun u h'=>u=In (j6 p l)∧Ext No h h':=by
 obtain ⟨A,c,rfl,_⟩:=id hr
 unfold maxLen at hm
 refine calls [(0,_),(1,_)] Tryz.func269 rfl Tryz.ntmps269 rfl ⟨rfl,rfl,trivial⟩ ?_
 refine G2 ?_;refine G3 ?_;refine WC.block ?_;refine WC.bO (X:=Nat) (fun x=>([(8,In (x:Int))]:Fr)) [(0,_),(1,_),(7,_)] (fun k h'=>Ext No h h'∧k≤l.length∧∀ x∈l.take k,p x=false) (fun k=>l.length - k) (0) ⟨rfl,rfl,rfl,rfl,trivial⟩ (by exact ⟨.refl _ _,Nat.zero_le _,by simp⟩) ?_
 rintro k h1 ⟨aB,hk,hn⟩
 refine WC.sub [(8,_),(0,_),(1,_),(7,_)] ⟨rfl,rfl,rfl,rfl,trivial⟩ ?_;refine G2 ?_;refine WC.seq ?_
 refine aJ 1 2 (Hb.mk fun hb=>?_) (Hb.mk fun hb=>?_)
 aa try (
 refine ay 1 ?_
 refine WC.skip ?_
 skip)
 aa try (
 refine ay 2 ?_
 refine WC.exit ?_
 repeat' (ae first | refine aZ ?_ | refine aF rfl ?_ | refine aL ?_ | refine aN ?_ | refine aV ?_)
 refine Br.out (i:=1000) ?_
 skip)
 aa (refine Gn ?_;first | refine Br.ad ?_ | refine WC.seq ?_)
 aa (first | refine Br.ad ?_ | refine WC.block ?_)
 aa (first | refine Br.ad ?_ | refine WC.sr ?_)
 aa (refine Go ?_;first | refine Br.ad ?_ | refine WC.sr ?_)
 aa (first | refine Br.ad ?_ | refine WL.step (an rfl) rfl rfl rfl ?_)
 aa (first | refine Br.ad ?_ | refine WL.step (an rfl) rfl rfl rfl ?_)
 aa (
  first
    | (refine Br.ad ?_)
    | (obtain ⟨b,o,hA,gx,cX⟩:=Rd.at_ (hr.av aB) (by omega)
       obtain ⟨y,hy⟩:∃ y,l[k]?=some y:=⟨_,List.getElem?_eq_getElem (by omega)⟩
       have hc:At h1 b (o+k * 7) (cI.cells y):=At.elem cI.len cX hy))
 aa (first | refine Br.ad ?_ | refine WL.step (an rfl) rfl rfl rfl ?_)
 aa (first | refine Br.ad ?_ | (refine WL.step (aG Tryz.underlying137 Tryz.sizeOf212 rfl rfl rfl (by omega) (by first | rfl | assumption)) rfl rfl rfl ?_))
 aa (first | refine Br.ad ?_ | (refine WL.step (aA Tryz.isAgg212 Tryz.sizeOf212 rfl rfl (by assumption)) rfl rfl rfl ?_))
 aa (
  first
    | (refine Br.ad ?_)
    | (refine WL.fT (vs:=[_]) rfl rfl jc rfl (hp y (List.mem_of_getElem? hy) h1 aB) rfl rfl rfl ?_
       rintro _ h2 ⟨rfl,aK⟩))
 aa (first | refine Br.ad ?_ | cases lO:p y)
 aa (refine Gn ?_;first | refine Br.ad ?_ | refine Gs [(0,_),(1,_),(5,_),(7,_),(8,_),(16,_)] ?_)
 aa (first | refine Br.ad ?_ | refine aJ 3 4 ?_ TT.mk)
 aa try (
 refine ay 3 ?_
 refine G2 ?_;refine Gs [(4,_)] ?_;refine Gt ?_
 first | exact ⟨by rw [dx (by rw [List.take_of_length_le (by omega)] at hn;exact hn)],aB⟩ | exact ⟨by rw [dw hy lO hn],aB.trans aK⟩
 skip)
 aa try (
 refine ay 4 ?_
 refine WC.skip ?_
 skip)
 aa (refine Gn ?_;first | refine Br.ad ?_ | refine WC.region ?_)
 aa (refine Go ?_;first | refine Br.ad ?_ | (exact ⟨k+1,⟨rfl,rfl,rfl,rfl,trivial⟩,(by exact ⟨aB.trans aK,by omega,dy hn hy lO⟩),(by omega)⟩))
 try (refine Br.mk (i:=1000) ?_)
 refine Gn ?_;refine Gs [] ?_;refine G2 ?_;refine Gt ?_
 first | exact ⟨by rw [dx (by rw [List.take_of_length_le (by omega)] at hn;exact hn)],aB⟩ | exact ⟨by rw [dw hy lO hn],aB.trans aK⟩
theorem pd {h:aj} {v:Value} (l:List bz) (p:bz→Bool) {fk:Nat} {fs us:List Value} (jc:∀ (args:Array Value) (w:World),(callFunc fk args).run Tryz.prog w=.ok (.enter fk args) w) (hr:Rd h v 2 l.length (l.flatMap bz.cells)) (hm:l.length≤maxLen)
   (hp:∀ x∈l,∀ h',Ext No h h'→ai Tryz.prog fk ⟨fs++[.agg ⟨bz.cells x⟩]++us⟩ h' fun u gg=>u=.bool (p x)∧Ext No h' gg) :
   ai Tryz.prog 272 ⟨[v,.func (.func fk) ⟨fs⟩ ⟨us⟩]⟩ h fun u h'=>u=In (j6 p l)∧Ext No h h':=by
 obtain ⟨A,c,rfl,_⟩:=id hr
 unfold maxLen at hm
 refine calls [(0,_),(1,_)] Tryz.func272 rfl Tryz.ntmps272 rfl ⟨rfl,rfl,trivial⟩ ?_
 refine G2 ?_;refine G3 ?_;refine WC.block ?_;refine WC.bO (X:=Nat) (fun x=>([(8,In (x:Int))]:Fr)) [(0,_),(1,_),(7,_)] (fun k h'=>Ext No h h'∧k≤l.length∧∀ x∈l.take k,p x=false) (fun k=>l.length - k) (0) ⟨rfl,rfl,rfl,rfl,trivial⟩ (by exact ⟨.refl _ _,Nat.zero_le _,by simp⟩) ?_
 rintro k h1 ⟨aB,hk,hn⟩
 refine WC.sub [(8,_),(0,_),(1,_),(7,_)] ⟨rfl,rfl,rfl,rfl,trivial⟩ ?_;refine G2 ?_;refine WC.seq ?_
 refine aJ 1 2 (Hb.mk fun hb=>?_) (Hb.mk fun hb=>?_)
 aa try (
 refine ay 1 ?_
 refine WC.skip ?_
 skip)
 aa try (
 refine ay 2 ?_
 refine WC.exit ?_
 repeat' (ae first | refine aZ ?_ | refine aF rfl ?_ | refine aL ?_ | refine aN ?_ | refine aV ?_)
 refine Br.out (i:=1000) ?_
 skip)
 aa (refine Gn ?_;first | refine Br.ad ?_ | refine WC.seq ?_)
 aa (first | refine Br.ad ?_ | refine WC.block ?_)
 aa (first | refine Br.ad ?_ | refine WC.sr ?_)
 aa (refine Go ?_;first | refine Br.ad ?_ | refine WC.sr ?_)
 aa (first | refine Br.ad ?_ | refine WL.step (an rfl) rfl rfl rfl ?_)
 aa (first | refine Br.ad ?_ | refine WL.step (an rfl) rfl rfl rfl ?_)
 aa (
  first
    | (refine Br.ad ?_)
    | (obtain ⟨b,o,hA,gx,cX⟩:=Rd.at_ (hr.av aB) (by omega)
       obtain ⟨y,hy⟩:∃ y,l[k]?=some y:=⟨_,List.getElem?_eq_getElem (by omega)⟩
       have hc:At h1 b (o+k * 2) (bz.cells y):=At.elem bz.len cX hy))
 aa (first | refine Br.ad ?_ | refine WL.step (an rfl) rfl rfl rfl ?_)
 aa (first | refine Br.ad ?_ | (refine WL.step (aG Tryz.underlying138 Tryz.sizeOf194 rfl rfl rfl (by omega) (by first | rfl | assumption)) rfl rfl rfl ?_))
 aa (first | refine Br.ad ?_ | (refine WL.step (aA Tryz.isAgg194 Tryz.sizeOf194 rfl rfl (by assumption)) rfl rfl rfl ?_))
 aa (
  first
    | (refine Br.ad ?_)
    | (refine WL.fT (vs:=[_]) rfl rfl jc rfl (hp y (List.mem_of_getElem? hy) h1 aB) rfl rfl rfl ?_
       rintro _ h2 ⟨rfl,aK⟩))
 aa (first | refine Br.ad ?_ | cases lO:p y)
 aa (refine Gn ?_;first | refine Br.ad ?_ | refine Gs [(0,_),(1,_),(5,_),(7,_),(8,_),(16,_)] ?_)
 aa (first | refine Br.ad ?_ | refine aJ 3 4 ?_ TT.mk)
 aa try (
 refine ay 3 ?_
 refine G2 ?_;refine Gs [(4,_)] ?_;refine Gt ?_
 first | exact ⟨by rw [dx (by rw [List.take_of_length_le (by omega)] at hn;exact hn)],aB⟩ | exact ⟨by rw [dw hy lO hn],aB.trans aK⟩
 skip)
 aa try (
 refine ay 4 ?_
 refine WC.skip ?_
 skip)
 aa (refine Gn ?_;first | refine Br.ad ?_ | refine WC.region ?_)
 aa (refine Go ?_;first | refine Br.ad ?_ | (exact ⟨k+1,⟨rfl,rfl,rfl,rfl,trivial⟩,(by exact ⟨aB.trans aK,by omega,dy hn hy lO⟩),(by omega)⟩))
 try (refine Br.mk (i:=1000) ?_)
 refine Gn ?_;refine Gs [] ?_;refine G2 ?_;refine Gt ?_
 first | exact ⟨by rw [dx (by rw [List.take_of_length_le (by omega)] at hn;exact hn)],aB⟩ | exact ⟨by rw [dw hy lO hn],aB.trans aK⟩
theorem jS {h:aj} {v:Value} (l:List bj) (p:bj→Bool) {fk:Nat} {fs us:List Value} (jc:∀ (args:Array Value) (w:World),(callFunc fk args).run Tryz.prog w=.ok (.enter fk args) w) (hr:Rd h v 2 l.length (l.flatMap bj.cells)) (hm:l.length≤maxLen)
   (hp:∀ x∈l,∀ h',Ext No h h'→ai Tryz.prog fk ⟨fs++[.agg ⟨bj.cells x⟩]++us⟩ h' fun u gg=>u=.bool (p x)∧Ext No h' gg) :
   ai Tryz.prog 83 ⟨[v,.func (.func fk) ⟨fs⟩ ⟨us⟩]⟩ h fun u h'=>u=In (j6 p l)∧Ext No h h':=by
 obtain ⟨A,c,rfl,_⟩:=id hr
 unfold maxLen at hm
 refine calls [(0,_),(1,_)] Tryz.func83 rfl Tryz.ntmps83 rfl ⟨rfl,rfl,trivial⟩ ?_
 refine G2 ?_;refine G3 ?_;refine WC.block ?_;refine WC.bO (X:=Nat) (fun x=>([(8,In (x:Int))]:Fr)) [(0,_),(1,_),(7,_)] (fun k h'=>Ext No h h'∧k≤l.length∧∀ x∈l.take k,p x=false) (fun k=>l.length - k) (0) ⟨rfl,rfl,rfl,rfl,trivial⟩ (by exact ⟨.refl _ _,Nat.zero_le _,by simp⟩) ?_
 rintro k h1 ⟨aB,hk,hn⟩
 refine WC.sub [(8,_),(0,_),(1,_),(7,_)] ⟨rfl,rfl,rfl,rfl,trivial⟩ ?_;refine G2 ?_;refine WC.seq ?_
 refine aJ 1 2 (Hb.mk fun hb=>?_) (Hb.mk fun hb=>?_)
 aa try (
 refine ay 1 ?_
 refine WC.skip ?_
 skip)
 aa try (
 refine ay 2 ?_
 refine WC.exit ?_
 repeat' (ae first | refine aZ ?_ | refine aF rfl ?_ | refine aL ?_ | refine aN ?_ | refine aV ?_)
 refine Br.out (i:=1000) ?_
 skip)
 aa (refine Gn ?_;first | refine Br.ad ?_ | refine WC.seq ?_)
 aa (first | refine Br.ad ?_ | refine WC.block ?_)
 aa (first | refine Br.ad ?_ | refine WC.sr ?_)
 aa (refine Go ?_;first | refine Br.ad ?_ | refine WC.sr ?_)
 aa (first | refine Br.ad ?_ | refine WL.step (an rfl) rfl rfl rfl ?_)
 aa (first | refine Br.ad ?_ | refine WL.step (an rfl) rfl rfl rfl ?_)
 aa (
  first
    | (refine Br.ad ?_)
    | (obtain ⟨b,o,hA,gx,cX⟩:=Rd.at_ (hr.av aB) (by omega)
       obtain ⟨y,hy⟩:∃ y,l[k]?=some y:=⟨_,List.getElem?_eq_getElem (by omega)⟩
       have hc:At h1 b (o+k * 2) (bj.cells y):=At.elem bj.len cX hy))
 aa (first | refine Br.ad ?_ | refine WL.step (an rfl) rfl rfl rfl ?_)
 aa (first | refine Br.ad ?_ | (refine WL.step (aG Tryz.underlying40 Tryz.sizeOf85 rfl rfl rfl (by omega) (by first | rfl | assumption)) rfl rfl rfl ?_))
 aa (first | refine Br.ad ?_ | (refine WL.step (aA Tryz.isAgg85 Tryz.sizeOf85 rfl rfl (by assumption)) rfl rfl rfl ?_))
 aa (
  first
    | (refine Br.ad ?_)
    | (refine WL.fT (vs:=[_]) rfl rfl jc rfl (hp y (List.mem_of_getElem? hy) h1 aB) rfl rfl rfl ?_
       rintro _ h2 ⟨rfl,aK⟩))
 aa (first | refine Br.ad ?_ | cases lO:p y)
 aa (refine Gn ?_;first | refine Br.ad ?_ | refine Gs [(0,_),(1,_),(5,_),(7,_),(8,_),(16,_)] ?_)
 aa (first | refine Br.ad ?_ | refine aJ 3 4 ?_ TT.mk)
 aa try (
 refine ay 3 ?_
 refine G2 ?_;refine Gs [(4,_)] ?_;refine Gt ?_
 first | exact ⟨by rw [dx (by rw [List.take_of_length_le (by omega)] at hn;exact hn)],aB⟩ | exact ⟨by rw [dw hy lO hn],aB.trans aK⟩
 skip)
 aa try (
 refine ay 4 ?_
 refine WC.skip ?_
 skip)
 aa (refine Gn ?_;first | refine Br.ad ?_ | refine WC.region ?_)
 aa (refine Go ?_;first | refine Br.ad ?_ | (exact ⟨k+1,⟨rfl,rfl,rfl,rfl,trivial⟩,(by exact ⟨aB.trans aK,by omega,dy hn hy lO⟩),(by omega)⟩))
 try (refine Br.mk (i:=1000) ?_)
 refine Gn ?_;refine Gs [] ?_;refine G2 ?_;refine Gt ?_
 first | exact ⟨by rw [dx (by rw [List.take_of_length_le (by omega)] at hn;exact hn)],aB⟩ | exact ⟨by rw [dw hy lO hn],aB.trans aK⟩
def cI.okB (c:cI):Prop:=bn c.nm=true∧(0≤c.t∧c.t≤4294967295)∧(0≤c.a∧c.a≤65535)∧(0≤c.o∧c.o≤4294967295)∧(-32768≤c.s∧c.s≤32767)∧(-2147483648≤c.m∧c.m≤2147483647)∧(0≤c.f∧c.f≤65535)
def bz.okB (c:bz):Prop:=c.k ≠ 0∧bn c.t=true
def bj.okB (c:bj):Prop:=(c.null=true→c.bytes.length=0)∧c.bytes.length≤1048576
theorem mM {h:aj} {v w:Value} (l m:List UInt8) (hr:Rd h v 1 l.length (bK l)) (hs:Rd h w 1 m.length (bK m)) :
   ai Tryz.prog 12 ⟨[v,w]⟩ h fun u h'=>u=.bool (decide (l=m))∧h'=h:=by
 obtain ⟨A,c,rfl,_⟩:=id hr
 obtain ⟨B,d,rfl,_⟩:=id hs
 by_cases e:l=m
 aa
   refine calls [(0,_),(1,_)] Tryz.func12 rfl Tryz.ntmps12 rfl ⟨rfl,rfl,trivial⟩ ?_
   aa (refine G2 ?_;refine G2 ?_;refine WL.step (dZ Tryz.underlying23 Tryz.underlying5 Tryz.underlying9 rfl hr) rfl rfl rfl (Go ?_);refine WL.step (dZ Tryz.underlying23 Tryz.underlying5 Tryz.underlying9 rfl hs) rfl rfl rfl (Go ?_);refine Gs [(4,_)] ?_;refine Gt ?_;exact ⟨by simp [e],rfl⟩)
def zB (k : Int) : Bk := ⟨k, 0, [], [], [], 0, 0, .slice none 0 0, [], .slice none 0 0, [], .slice none 0 0, [], .slice none 0 0, []⟩
def uy (b : Bk) : Bk :=
 if b.kind = 83 then { zB b.kind with name := b.name, value := b.value }
 else if b.kind = 75 then { zB b.kind with n := b.n, m := b.m }
 else if b.kind = 90 then { zB b.kind with status := b.status }
 else if b.kind = 67 then { zB b.kind with tag := b.tag }
 else if b.kind = 68 then { zB b.kind with vr := b.vr, row := b.row }
 else if b.kind = 84 then { zB b.kind with vc := b.vc, dt := b.dt }
 else if b.kind = 116 then { zB b.kind with vo := b.vo, aU := b.aU }
 else if b.kind = 69 ∨ b.kind = 78 then { zB b.kind with vf := b.vf, fields := b.fields }
 else zB b.kind
theorem gy (h : aj) : cN h (.slice none 0 0) [] := ⟨Rd.nil _ _, ⟨by simp, _, _, rfl, by decide⟩, by simp⟩
theorem JV (h : aj) (k : Int) : (zB k).ok h := ⟨⟨Rd.nil _ _, by simp [zB]⟩, ⟨Rd.nil _ _, by simp [zB]⟩, gy h, ⟨Rd.nil _ _, by simp [zB]⟩⟩
theorem GY {h : aj} {b : Bk} (k : b.ok h) : (uy b).ok h := by
 obtain ⟨k1, k2, k3, k4⟩ := k
 obtain ⟨z1, z2, z3, z4⟩ := JV h b.kind
 unfold uy
 repeat' split
 aa first | exact ⟨z1, z2, z3, z4⟩ | exact ⟨z1, z2, k3, z4⟩ | exact ⟨z1, k2, z3, z4⟩ | exact ⟨k1, z2, z3, z4⟩ | exact ⟨z1, z2, z3, k4⟩
theorem DP {h : aj} (b : Bk) (hb : b.ok h) : ai Tryz.prog 202 ⟨[.agg ⟨b.cells⟩]⟩ h fun u h' => u = .agg ⟨(uy b).cells⟩ ∧ Ext No h h' := by
 obtain ⟨k, st, t, n, v, x, y, vo, lo, vc, lc, vr, lr, vf, lf⟩ := b
 obtain ⟨⟨ho, _⟩, ⟨hc, _⟩, hr, hf, _⟩ := hb
 simp only at ho hc hr hf
 obtain ⟨A1, c1, rfl, _⟩ := id ho
 obtain ⟨A2, c2, rfl, _⟩ := id hc
 obtain ⟨_, ⟨_, A3, c3, rfl, _⟩, _⟩ := id hr
 obtain ⟨A4, c4, rfl, _⟩ := id hf
 dsimp only [Bk.cells]
 refine calls [(0, _)] Tryz.func202 rfl Tryz.ntmps202 rfl ⟨rfl, trivial⟩ ?_
 refine WC.sr ?_; refine WL.al (aI rfl) rfl rfl rfl ?_
 rintro _ h1 ⟨b1, rfl, b0, aT, aB⟩
 refine WL.al (au (fun w => Tryz.zeroValue140 w)) rfl rfl rfl ?_
 rintro _ h2 ⟨b2, rfl, gI, bR, aK⟩
 have sR := aK.obj aT aQ
 refine Gn ?_; refine G2 ?_; refine Ld ?_; refine WL.step (aH (vs := [_]) (cs := [_, _, _, _, _, _, _, _, _, _, _]) (fun | [a0] => [a0, (.int .u8 0), (St []), (St []), (St []), (.int .i64 0), (.int .i64 0), (.slice none 0 0), (.slice none 0 0), (.slice none 0 0), (.slice none 0 0)] | _ => []) rfl rfl (by kernel_rfl)) rfl rfl rfl ?_
 refine WL.al (au (fun w => Tryz.zeroValue140 w)) rfl rfl rfl ?_
 rintro _ h3 ⟨b3, rfl, gN, bC, aS⟩
 have An := aS.obj sR aQ
 have Aq := aS.obj bR aQ
 have gS : ¬ b1 = b3 := by have := ak sR; omega
 have lP : ¬ b2 = b3 := by have := ak bR; omega
 refine WL.az (aq Tryz.sizeOf140 rfl rfl rfl (by assumption) rfl (by simp [Value.oneCell'])) rfl rfl ?_
 rintro _ h4 ⟨bN, bh⟩
 have eP := bh.obj An gS
 have fo := bh.obj Aq lP
 have pI : Ext No h h4 := ((aB.trans aK).trans aS).trans' bh (fun q hq e => by have := aB.size; have := aK.size; omega)
 refine Gn ?_; refine Gs [(1, _), (2, _), (3, _)] ?_; refine G3 ?_; refine Ld ?_; refine Gn ?_; refine WC.block ?_; refine G2 ?_
 refine aJ 1 2 (Hb.mk fun hb => ?_) (Hb.mk fun hb => ?_)
 aa try (
 refine ay 1 ?_
 refine WC.cg (fun h' => Ext (fun q => q = b3) h4 h') 7 8 rfl dB ?_
 refine WH.tk 0 rfl (fun hq hC => ag rfl Tryz.underlying140 rfl Tryz.sizeOf9) rfl rfl rfl ?_ (hC := (by first | exact Ext.refl _ _ | assumption | exact aO.trans aP))
 refine WH.tk 1 rfl (fun hq hC => aC Tryz.isAgg9 rfl (by first | exact hC.cell (by first | exact ab eP rfl | assumption) gS)) rfl rfl rfl ?_ (hC := (by first | exact Ext.refl _ _ | assumption | exact aO.trans aP))
 refine WH.tk 2 rfl (fun hq hC => ag rfl Tryz.underlying140 rfl Tryz.sizeOf9) rfl rfl rfl ?_ (hC := (by first | exact Ext.refl _ _ | assumption | exact aO.trans aP))
 refine WH.tk 3 rfl (fun hq hC => aC Tryz.isAgg9 rfl (by first | exact hC.cell (by first | exact ab eP rfl | assumption) gS)) rfl rfl rfl ?_ (hC := (by first | exact Ext.refl _ _ | assumption | exact aO.trans aP))
 refine WH.tk 4 rfl (fun hq hC => ag rfl Tryz.underlying140 rfl Tryz.sizeOf9) rfl rfl rfl ?_ (hC := (by first | exact Ext.refl _ _ | assumption | exact aO.trans aP))
 refine WH.one 5 (by kernel_rfl) ?_
 refine aE.cY rfl (aD Tryz.sizeOf9 rfl rfl (by assumption) (Nat.le_of_ble_eq_true rfl) rfl rfl) rfl rfl ?_ (fun _ => by kernel_rfl)
 rintro _ h5 ⟨cd, aO⟩
 refine ⟨fun _ => aO, ?_⟩
 refine WH.tk 6 rfl (fun hq hC => ag rfl Tryz.underlying140 rfl Tryz.sizeOf9) rfl rfl rfl ?_ (hC := (by first | exact Ext.refl _ _ | assumption | exact aO.trans aP))
 refine WH.one 7 (by kernel_rfl) ?_
 refine aE.cY rfl (aD Tryz.sizeOf9 rfl rfl (by assumption) (Nat.le_of_ble_eq_true rfl) rfl rfl) rfl rfl ?_ (fun _ => by kernel_rfl)
 rintro _ h6 ⟨cj, aP⟩
 refine ⟨fun _ => aO.trans aP, ?_⟩
 have hE := aO.trans aP
 have fE := hE.obj fo lP
 refine WH.done (by kernel_rfl) ?_
 skip)
 aa try (
 refine ay 2 ?_
 refine G2 ?_; refine Gs [(1, _), (2, _), (3, _), (8, _), (17, _)] ?_
 refine aJ 3 4 (Hb.mk fun hb => ?_) (Hb.mk fun hb => ?_)
 aa try (
 refine ay 3 ?_
 refine WC.cg (fun h' => Ext (fun q => q = b3) h4 h') 7 8 rfl dB ?_
 refine WH.tk 0 rfl (fun hq hC => ag rfl Tryz.underlying140 rfl Tryz.sizeOf3) rfl rfl rfl ?_ (hC := (by first | exact Ext.refl _ _ | assumption | exact aO.trans aP))
 refine WH.tk 1 rfl (fun hq hC => aC Tryz.isAgg3 rfl (by first | exact hC.cell (by first | exact ab eP rfl | assumption) gS)) rfl rfl rfl ?_ (hC := (by first | exact Ext.refl _ _ | assumption | exact aO.trans aP))
 refine WH.tk 2 rfl (fun hq hC => ag rfl Tryz.underlying140 rfl Tryz.sizeOf3) rfl rfl rfl ?_ (hC := (by first | exact Ext.refl _ _ | assumption | exact aO.trans aP))
 refine WH.tk 3 rfl (fun hq hC => aC Tryz.isAgg3 rfl (by first | exact hC.cell (by first | exact ab eP rfl | assumption) gS)) rfl rfl rfl ?_ (hC := (by first | exact Ext.refl _ _ | assumption | exact aO.trans aP))
 refine WH.tk 4 rfl (fun hq hC => ag rfl Tryz.underlying140 rfl Tryz.sizeOf3) rfl rfl rfl ?_ (hC := (by first | exact Ext.refl _ _ | assumption | exact aO.trans aP))
 refine WH.one 5 (by kernel_rfl) ?_
 refine aE.cY rfl (aD Tryz.sizeOf3 rfl rfl (by assumption) (Nat.le_of_ble_eq_true rfl) rfl rfl) rfl rfl ?_ (fun _ => by kernel_rfl)
 rintro _ h5 ⟨cd, aO⟩
 refine ⟨fun _ => aO, ?_⟩
 refine WH.tk 6 rfl (fun hq hC => ag rfl Tryz.underlying140 rfl Tryz.sizeOf3) rfl rfl rfl ?_ (hC := (by first | exact Ext.refl _ _ | assumption | exact aO.trans aP))
 refine WH.one 7 (by kernel_rfl) ?_
 refine aE.cY rfl (aD Tryz.sizeOf3 rfl rfl (by assumption) (Nat.le_of_ble_eq_true rfl) rfl rfl) rfl rfl ?_ (fun _ => by kernel_rfl)
 rintro _ h6 ⟨cj, aP⟩
 refine ⟨fun _ => aO.trans aP, ?_⟩
 have hE := aO.trans aP
 have fE := hE.obj fo lP
 refine WH.done (by kernel_rfl) ?_
 skip)
 aa try (
 refine ay 4 ?_
 refine G2 ?_
 refine aJ 5 6 (Hb.mk fun hb => ?_) (Hb.mk fun hb => ?_)
 aa try (
 refine ay 5 ?_
 refine WC.region (Go ?_); refine Ld ?_; refine Go ?_; refine WL.az (aD Tryz.sizeOf5 rfl rfl (by assumption) (Nat.le_of_ble_eq_true rfl) rfl rfl) rfl rfl ?_
 rintro _ h5 ⟨cd, hE⟩
 have fE := hE.obj fo lP
 refine Gn ?_
 skip)
 aa try (
 refine ay 6 ?_
 refine G2 ?_; refine Gs [(1, _), (2, _), (3, _), (8, _), (30, _)] ?_
 refine aJ 7 8 (Hb.mk fun hb => ?_) (Hb.mk fun hb => ?_)
 aa try (
 refine ay 7 ?_
 refine WC.region (Go ?_); refine Ld ?_; refine Go ?_; refine WL.az (aD Tryz.sizeOf9 rfl rfl (by assumption) (Nat.le_of_ble_eq_true rfl) rfl rfl) rfl rfl ?_
 rintro _ h5 ⟨cd, hE⟩
 have fE := hE.obj fo lP
 refine Gn ?_
 skip)
 aa try (
 refine ay 8 ?_
 refine G2 ?_
 refine aJ 9 10 (Hb.mk fun hb => ?_) (Hb.mk fun hb => ?_)
 aa try (
 refine ay 9 ?_
 refine WC.region (Go ?_); refine Ld ?_; refine Go ?_; refine WL.az (aD Tryz.sizeOf40 rfl rfl (by assumption) (Nat.le_of_ble_eq_true rfl) rfl rfl) rfl rfl ?_
 rintro _ h5 ⟨cd, hE⟩
 have fE := hE.obj fo lP
 refine Gn ?_
 skip)
 aa try (
 refine ay 10 ?_
 refine G2 ?_; refine Gs [(1, _), (2, _), (3, _), (8, _), (40, _)] ?_
 refine aJ 11 12 (Hb.mk fun hb => ?_) (Hb.mk fun hb => ?_)
 aa try (
 refine ay 11 ?_
 refine WC.region (Go ?_); refine Ld ?_; refine Go ?_; refine WL.az (aD Tryz.sizeOf137 rfl rfl (by assumption) (Nat.le_of_ble_eq_true rfl) rfl rfl) rfl rfl ?_
 rintro _ h5 ⟨cd, hE⟩
 have fE := hE.obj fo lP
 refine Gn ?_
 skip)
 aa try (
 refine ay 12 ?_
 refine G2 ?_
 refine aJ 13 14 (Hb.mk fun hb => ?_) (Hb.mk fun hb => ?_)
 aa try (
 refine ay 13 ?_
 refine WC.region (Go ?_); refine Ld ?_; refine Go ?_; refine WL.az (aD Tryz.sizeOf39 rfl rfl (by assumption) (Nat.le_of_ble_eq_true rfl) rfl rfl) rfl rfl ?_
 rintro _ h5 ⟨cd, hE⟩
 have fE := hE.obj fo lP
 refine Gn ?_
 skip)
 aa try (
 refine ay 14 ?_
 refine G3 ?_; refine Gs [(1, _), (2, _), (3, _), (8, _), (50, _)] ?_
 refine aJ 15 16 (Hb.mk fun hb => ?_) (Hb.mk fun hb => ?_)
 aa try (
 refine ay 15 ?_
 refine WC.skip ?_
 skip)
 aa try (
 refine ay 16 ?_
 refine WC.region (Go ?_)
 skip)
 aa (refine Gn ?_; refine aJ 17 18 (Hb.mk fun hb => ?_) (Hb.mk fun hb => ?_))
 aa try (
 refine ay 17 ?_
 aa (refine WC.region (Go ?_); refine Ld ?_; refine Go ?_; refine WL.az (aD Tryz.sizeOf138 rfl rfl (by assumption) (Nat.le_of_ble_eq_true rfl) rfl rfl) rfl rfl ?_; rintro _ h5 ⟨cd, hE⟩; have fE := hE.obj fo lP; refine Gn ?_)
 skip)
 aa try (
 refine ay 18 ?_
 aa (refine WC.skip ?_)
 skip)
 skip)
 skip)
 skip)
 skip)
 skip)
 skip)
 skip)
 aa (refine Gn ?_; refine WC.sr ?_; refine WL.step (aA Tryz.isAgg140 Tryz.sizeOf140 rfl rfl (by exact (by first | exact At.ax cj | exact At.ax cd | exact At.ax bN))) rfl rfl rfl ?_; refine WL.az (aq Tryz.sizeOf140 rfl rfl rfl (by first | exact fE | exact fo) rfl (by simp [Value.oneCell'])) rfl rfl ?_; rintro _ h9 ⟨ck, cl⟩; refine Gn ?_; refine Gs [(2, _)] ?_; refine WC.ret ?_; repeat' (ae first | refine bq ?_ | refine ba ?_))
 aa (refine cA _ ⟨⟨_, rfl, bJ Tryz.isAgg140 Tryz.sizeOf140 (by assumption) rfl⟩, trivial⟩ ?_)
 aa (
  have gr := aB.size
  have qC := aK.size
  refine ⟨?_, by first | exact (pI.trans' hE (fun q hq e => by omega)).trans' cl (fun q hq e => by omega) | exact pI.trans' cl (fun q hq e => by omega)⟩
  first
   | (exfalso; omega)
   | (simp only [uy, if_pos, *]; rfl)
   | (simp [uy, zB, Bk.cells, *]; done))
def qP : List UInt8 := [82, 83, 75, 90, 49, 50, 51, 110, 115, 73, 67, 68, 84, 116, 69, 78]
def Bk.mW (b : Bk) : Prop := b.kind ≠ 90 ∨ b.status = 73 ∨ b.status = 84 ∨ b.status = 69
structure Bk.may (b : Bk) : Prop where
 kind : ∃ k : UInt8, Value.int .u8 b.kind = By k ∧ qP.contains k = true
 tag : bn b.tag = true
 name : bn b.name = true
 value : bn b.value = true
 dt : b.dt.length ≤ 65535 ∧ ∀ c ∈ b.dt, c.okB
 fields : b.fields.length ≤ 65535 ∧ ∀ f ∈ b.fields, f.okB
 row : b.row.length ≤ 65535 ∧ ∀ c ∈ b.row, c.okB
 aU : b.aU.length ≤ 65535 ∧ ∀ n ∈ b.aU, 0 ≤ n ∧ n ≤ 4294967295
 n : 0 ≤ b.n ∧ b.n ≤ 4294967295
 m : 0 ≤ b.m ∧ b.m ≤ 4294967295
 st : b.mW
 own : (uy b).pl = b.pl
def gB (k st n m:Int):Bk:=⟨k,st,[],[],[],n,m,.slice none 0 0,[],.slice none 0 0,[],.slice none 0 0,[],.slice none 0 0,[]⟩
theorem Au (k st n m:Int) (h:aj):(gB k st n m).ok h:=⟨⟨Rd.nil _ _,by simp [gB,maxLen]⟩,⟨Rd.nil _ _,by simp [gB,maxLen]⟩,⟨Rd.nil _ _,⟨by simp [gB],_,_,rfl,by decide⟩,by simp [gB]⟩,⟨Rd.nil _ _,by simp [gB,maxLen]⟩⟩
theorem GZ:(gB 82 0 0 0).may:=⟨⟨82,rfl,by decide⟩,by decide,by decide,by decide,⟨by simp [gB],by simp [gB]⟩,⟨by simp [gB],by simp [gB]⟩,⟨by simp [gB],by simp [gB]⟩,⟨by simp [gB],by simp [gB]⟩,by decide,by decide,.inl (by decide),by simp [uy,gB,zB]⟩
theorem G0:(gB 75 0 1 7919).may:=⟨⟨75,rfl,by decide⟩,by decide,by decide,by decide,⟨by simp [gB],by simp [gB]⟩,⟨by simp [gB],by simp [gB]⟩,⟨by simp [gB],by simp [gB]⟩,⟨by simp [gB],by simp [gB]⟩,by decide,by decide,.inl (by decide),by simp [uy,gB,zB]⟩
theorem G1:(gB 90 73 0 0).may:=⟨⟨90,rfl,by decide⟩,by decide,by decide,by decide,⟨by simp [gB],by simp [gB]⟩,⟨by simp [gB],by simp [gB]⟩,⟨by simp [gB],by simp [gB]⟩,⟨by simp [gB],by simp [gB]⟩,by decide,by decide,.inr (by decide),by simp [uy,gB,zB]⟩
end Go.Proofs.YtopgddfgefnmbaaGreatDoor
namespace Go.RK
open Go Go.MapKept Go.ChangeMaps
section
variable {P:Program} {f:Fr} {h:aj} {d:Option Tmp} {ty:TypeId} {pos:String} {af:Array Edge} {g:Option (Nat × Bool)}
variable {t t2:TypeId} {x y:Operand} {a b:Int} {k:IntKind}
def JW (k:IntKind) (a b:Int):Int:=k.wrap ((BitVec.ofInt k.bits a &&& BitVec.ofInt k.bits b).toNat:Int)
def Mg (k:IntKind) (a b:Int):Int:=k.wrap ((BitVec.ofInt k.bits a ||| BitVec.ofInt k.bits b).toNat:Int)
theorem Av (hx:f.ev x=some (.int k a)) (hy:f.ev y=some (.int k b)):bW P f ⟨d,.binOp .and t x y t2,ty,pos,af,g⟩ h (.int k (JW k a b)) :=
 fun ρ w ha _=>by simp [execOp,ha _ _ hx,ha _ _ hy,eqGuard_and,binOp_and,Op.intBits,JW]
theorem FP (hx:f.ev x=some (.int k a)) (hy:f.ev y=some (.int k b)):bW P f ⟨d,.binOp .or t x y t2,ty,pos,af,g⟩ h (.int k (Mg k a b)) :=
 fun ρ w ha _=>by simp [execOp,ha _ _ hx,ha _ _ hy,eqGuard_or,binOp_or,Op.intBits,Mg]
theorem wM (hx:f.ev x=some (In a)) (hy:f.ev y=some (.int k b)) (hb:0≤b∧b≤64) (hr : -9223372036854775808≤a * 2 ^ b.toNat∧a * 2 ^ b.toNat≤9223372036854775807):bW P f ⟨d,.binOp .shl t x y t2,ty,pos,af,g⟩ h (In (a * 2 ^ b.toNat)) :=
 fun ρ w ha _=>by
   have h1:¬ b < 0:=by omega
   have h2:min b.toNat 64=b.toNat:=by omega
   have h3:(IntKind.i64).bits=64:=rfl
   have h4:=wrap_i64 _ hr.1 hr.2
   simp [execOp,ha _ _ hx,ha _ _ hy,eqGuard_shl,binOp_shl,Op.shift,h1,h3,h2,h4]
theorem wN {n c:Int} (hn:0≤n∧n≤1099511627776) (hc:0≤c∧c≤255):Mg .i64 (n * 256) c=n * 256+c:=by
 obtain ⟨m,rfl⟩:=Int.eq_ofNat_of_zero_le hn.1
 obtain ⟨b,rfl⟩:=Int.eq_ofNat_of_zero_le hc.1
 have Rs:(IntKind.i64).bits=64:=rfl
 unfold Mg
 rw [Rs,BitVec.toNat_or,BitVec.toNat_ofInt,BitVec.toNat_ofInt]
 have e1:((m:Int) * 256 % ((2 ^ 64:Nat):Int)).toNat=m <<< 8:=by rw [Nat.shiftLeft_eq];omega
 have e2:((b:Int) % ((2 ^ 64:Nat):Int)).toNat=b:=by omega
 rw [e1,e2,← Nat.shiftLeft_add_eq_or_of_lt (by omega:b < 2 ^ 8),Nat.shiftLeft_eq]
 rw [wrap_i64 _ (by omega) (by omega)]
 omega
end
end Go.RK
namespace Go.Proofs.YtopgddfgefnmbaaGreatDoor
open Go Go.RK
theorem JX {h:aj}:ai Tryz.prog 124 ⟨[In 0]⟩ h fun u h'=>u=.tuple ⟨[In 1,In 7919]⟩∧h'=h:=by
 refine calls [(0,_)] Tryz.func124 rfl Tryz.ntmps124 rfl ⟨rfl,trivial⟩ ?_
 refine G2 ?_;refine G2 ?_;refine WL.step (qF rfl rfl) rfl rfl rfl ?_;refine WL.step (kU rfl rfl) rfl rfl rfl (Go ?_);refine Gs [(4,_)] ?_;refine G2 ?_;refine WL.step (Av rfl rfl) rfl rfl rfl (Go ?_);refine WL.step (kJ rfl rfl (by omega)) rfl rfl rfl ?_
 refine WL.step (Av rfl rfl) rfl rfl rfl (Go ?_);refine Gs [(2,_),(3,_)] ?_;refine Gt ?_
 exact ⟨by rfl,rfl⟩
theorem ye {h:aj}:ai Tryz.prog 125 ⟨[.slice none 0 0]⟩ h fun u h'=>u=.slice none 0 0∧h'=h:=by
 refine calls [(0,_)] Tryz.func125 rfl Tryz.ntmps125 rfl ⟨rfl,trivial⟩ ?_
 refine G2 ?_;refine G2 ?_;refine G3 ?_;refine WC.block ?_;refine WC.bO (X:=Unit) (fun x=>([(8,In 0),(3,.slice none 0 0)]:Fr)) [(6,_),(7,_)] (fun _ h'=>h'=h) (fun _=>0) (()) ⟨rfl,rfl,rfl,rfl,trivial⟩ (by exact rfl) ?_
 rintro _ h1 hz
 subst hz
 refine WC.sub [(3,_),(8,_),(6,_),(7,_)] ⟨rfl,rfl,rfl,rfl,trivial⟩ ?_;refine G2 ?_;refine WC.seq ?_
 refine aJ 1 2 ?_ TT.mk
 aa (refine ay 2 ?_)
 refine WC.exit ?_
 repeat' (ae first | refine aZ ?_ | refine aF rfl ?_ | refine aL ?_ | refine aN ?_ | refine aV ?_)
 refine Br.out (i:=1000) ?_;refine Gn ?_;refine Br.ad ?_;refine Br.ad ?_;refine Br.ad ?_;refine Br.ad ?_;refine Br.ad ?_;refine Br.ad ?_;refine Br.ad ?_;refine Gn ?_;refine Br.ad ?_;refine Go ?_;refine Br.ad ?_;refine Go ?_;refine Br.ad ?_;refine Br.ad ?_;refine Br.ad ?_;refine Br.ad ?_;refine Go ?_;refine Br.ad ?_;refine Br.ad ?_;refine Go ?_;refine Br.ad ?_
 try (refine Br.mk (i:=1000) ?_)
 refine Gn ?_;refine Gs [(3,_)] ?_;refine G2 ?_;refine Gt ?_
 exact ⟨rfl,rfl⟩
abbrev qQ:List Value:=(gB 82 0 0 0).cells++(gB 75 0 1 7919).cells++(gB 90 73 0 0).cells
theorem G4 {h:aj}:ai Tryz.prog 91 ⟨[.slice none 0 0,In 0]⟩ h fun u h'=>Own h' u 140 11 3 qQ∧Ext No h h'∧∀ q,u.ownBlock=some q→h.size≤q:=by
 refine calls [(0,_),(1,_)] Tryz.func91 rfl Tryz.ntmps91 rfl ⟨rfl,rfl,trivial⟩ ?_
 refine G2 ?_;refine G2 ?_;refine WL.call (vs:=[_]) rfl Tryz.call124 rfl (JX) rfl rfl rfl ?_
 rintro _ hz ⟨rfl,_⟩
 subst hz
 refine Go ?_;refine Gs [(0,_),(5,_),(6,_)] ?_;refine WC.sr ?_;refine WL.step (aH (vs:=[_]) (cs:=[_,_,_,_,_,_,_,_,_,_,_]) (fun | [a0]=>[a0,(.int .u8 0),(St []),(St []),(St []),(.int .i64 0),(.int .i64 0),(.slice none 0 0),(.slice none 0 0),(.slice none 0 0),(.slice none 0 0)] | _=>[]) rfl rfl (by kernel_rfl)) rfl rfl rfl ?_
 refine WL.al (aw (vs:=[_]) (cs:=[_,_,_,_,_,_,_,_,_,_,_]) (fun | [.agg ⟨[a0,a1,a2,a3,a4,a5,a6,a7,a8,a9,iy]⟩]=>[a0,a1,a2,a3,a4,a5,a6,a7,a8,a9,iy] | _=>[]) Tryz.underlying80 rfl rfl (by kernel_rfl)) rfl rfl rfl ?_
 rintro _ h1 ⟨b1,rfl,b0,aT,aB⟩
 refine Go ?_;refine WL.call (vs:=[_]) rfl Tryz.call125 rfl (ye) rfl rfl rfl ?_
 rintro _ hz ⟨rfl,_⟩
 subst hz
 refine WL.al (aX (sz:=11) (bytes:=168) rfl Tryz.underlying80 (show Tryz.prog.info? 140=some Tryz.t140 by kernel_rfl) rfl rfl rfl rfl (by decide) rfl rfl (dR aT rfl (by simp [maxLen])) (Rd.nil _ _) (by simp [Value.oneCell']) (by simp only [maxLen];omega) (by omega)) rfl rfl rfl ?_
 rintro v2 h2 ⟨dv,aK,lL⟩
 have dv:Own h2 v2 140 11 1 (gB 82 0 0 0).cells:=dv
 have fg:=cb lL (fun k hk=>by simp only [Value.ownBlock,Option.some.injEq] at hk;exact hk▸b0) aB.size
 have X2:Ext No h h2:=aB.trans' aK (fun q hq e=>by simp only [Value.ownBlock,Option.some.injEq] at e;omega)
 refine Go ?_;refine Gs [(5,_),(6,_),(7,_)] ?_;refine G2 ?_;refine WL.step (aH (vs:=[_,_,_]) (cs:=[_,_,_,_,_,_,_,_,_,_,_]) (fun | [a0,a5,a6]=>[a0,(.int .u8 0),(St []),(St []),(St []),a5,a6,(.slice none 0 0),(.slice none 0 0),(.slice none 0 0),(.slice none 0 0)] | _=>[]) rfl rfl (by kernel_rfl)) rfl rfl rfl ?_
 refine WL.step (aH (vs:=[_,_]) (cs:=[_,_,_,_,_,_,_,_,_,_,_]) (fun | [a0,a1]=>[a0,a1,(St []),(St []),(St []),(.int .i64 0),(.int .i64 0),(.slice none 0 0),(.slice none 0 0),(.slice none 0 0),(.slice none 0 0)] | _=>[]) rfl rfl (by kernel_rfl)) rfl rfl rfl ?_
 refine WL.al (aw (vs:=[_,_]) (cs:=[_,_,_,_,_,_,_,_,_,_,_,_,_,_,_,_,_,_,_,_,_,_]) (fun | [.agg ⟨[a0,a1,a2,a3,a4,a5,a6,a7,a8,a9,iy]⟩,.agg ⟨[Aw,a12,G5,G6,G7,JY,JZ,Nf,Ng,a20,a21]⟩]=>[a0,a1,a2,a3,a4,a5,a6,a7,a8,a9,iy,Aw,a12,G5,G6,G7,JY,JZ,Nf,Ng,a20,a21] | _=>[]) Tryz.underlying80 rfl rfl (by kernel_rfl)) rfl rfl rfl ?_
 rintro _ h3 ⟨b3,rfl,gN,bC,aS⟩
 refine WL.al (aX (sz:=11) (bytes:=168) rfl Tryz.underlying80 (show Tryz.prog.info? 140=some Tryz.t140 by kernel_rfl) rfl rfl rfl rfl (by decide) rfl rfl (dv.ext aS (fun _ _=>aQ)) (bG (len:=2) (sz:=11) (cs:=(gB 75 0 1 7919).cells++(gB 90 73 0 0).cells) bC rfl) (by simp [gB,Bk.cells,Value.oneCell']) (by simp only [maxLen];omega) (by omega)) rfl rfl rfl ?_
 rintro v4 h4 ⟨gk,bh,sS⟩
 have gk:Own h4 v4 140 11 3 qQ:=gk
 refine Go ?_;refine Gs [(4,_)] ?_;refine Gt ?_
 exact ⟨gk,(X2.trans aS).trans' bh (fun q hq e=>by have:=fg q e;omega),cb sS fg (by have:=X2.size;have:=aS.size;omega)⟩
theorem sT {h:aj} (s:List UInt8) (hm:s.length≤1000000):ai Tryz.prog 104 ⟨[St s]⟩ h fun u h'=>u=.bool (bn s)∧h'=h:=by
 have DQ:bn s=true ↔ ∀ c∈s,c ≠ 0:=by
   unfold bn
   rw [Bool.not_eq_true',← Bool.not_eq_true,List.contains_iff_mem]
   exact ⟨fun z c hc e=>z (e▸hc),fun z hc=>z 0 hc rfl⟩
 refine calls [(0,_)] Tryz.func104 rfl Tryz.ntmps104 rfl ⟨rfl,trivial⟩ ?_
 refine G2 ?_;refine G3 ?_;refine WC.block ?_;refine WC.bO (X:=Nat) (fun x=>([(3,In (x:Int))]:Fr)) [(0,_)] (fun k h'=>h=h'∧k≤s.length∧∀ c∈s.take k,c ≠ 0) (fun k=>s.length - k) (0) ⟨rfl,rfl,trivial⟩ (by exact ⟨rfl,Nat.zero_le _,fun c hc=>by cases hc⟩) ?_
 rintro k h2 ⟨e,hk,hn⟩
 subst e
 refine WC.sub [(3,_),(0,_)] ⟨rfl,rfl,trivial⟩ ?_;refine G3 ?_
 refine aJ 1 2 (Hb.mk fun hb=>?_) (Hb.mk fun hb=>?_)
 aa try (
 refine ay 1 ?_
 refine WC.skip ?_
 skip)
 aa try (
 refine ay 2 ?_
 refine WC.exit ?_
 repeat' (ae first | refine aZ ?_ | refine aF rfl ?_ | refine aL ?_ | refine aN ?_ | refine aV ?_)
 refine Br.out (i:=1000) ?_
 skip)
 aa (refine Gn ?_;first | refine Br.ad ?_ | refine Gs [(0,_),(3,_)] ?_)
 aa (first | refine Br.ad ?_ | refine WC.seq ?_)
 aa (first | refine Br.ad ?_ | refine WC.block ?_)
 aa (first | refine Br.ad ?_ | refine WC.seq ?_)
 aa (first | refine Br.ad ?_ | (obtain ⟨y,hy⟩:∃ y,s[k]?=some y:=⟨_,List.getElem?_eq_getElem (by omega)⟩))
 aa (first | refine Br.ad ?_ | refine WC.region ?_)
 aa (refine Go ?_;first | refine Br.ad ?_ | (refine WL.step (da Tryz.underlying9 rfl rfl (by omega) (by assumption)) rfl rfl rfl ?_))
 aa (refine Go ?_;first | refine Br.ad ?_ | (refine aJ 3 4 (Hb.mk fun hb=>?_) (Hb.mk fun hb=>?_)))
 aa try (
 refine ay 3 ?_
 refine G2 ?_;refine Gs [(2,_)] ?_;refine Gt ?_
 first
  | (refine ⟨congrArg Value.bool ?_,rfl⟩;symm;rw [DQ];rw [List.take_of_length_le (by omega)] at hn;exact hn)
  | (refine ⟨congrArg Value.bool ?_,rfl⟩;cases hq:bn s;rfl;exact absurd (UInt8.toNat_inj.1 (by simpa using hb)) (DQ.1 hq _ (List.mem_of_getElem? hy)))
 skip)
 aa try (
 refine ay 4 ?_
 refine WC.skip ?_
 skip)
 aa (refine Gn ?_;first | refine Br.ad ?_ | refine Gs [(0,_),(3,_)] ?_)
 aa (first | refine Br.ad ?_ | refine WC.region ?_)
 aa (refine Go ?_;first | refine Br.ad ?_ | (exact ⟨k+1,⟨rfl,rfl,trivial⟩,(by exact ⟨rfl,by omega,fun c hc=>by rw [List.take_add_one,hy] at hc;simp only [Option.toList_some,List.mem_append,List.mem_singleton] at hc;rcases hc with hc | rfl;exact hn c hc;exact (fun e=>by subst e;simp at *)⟩),(by omega)⟩))
 try (refine Br.mk (i:=1000) ?_)
 refine Gn ?_;refine Gs [] ?_;refine G2 ?_;refine Gt ?_
 first
  | (refine ⟨congrArg Value.bool ?_,rfl⟩;symm;rw [DQ];rw [List.take_of_length_le (by omega)] at hn;exact hn)
  | (refine ⟨congrArg Value.bool ?_,rfl⟩;cases hq:bn s;rfl;exact absurd (UInt8.toNat_inj.1 (by simpa using hb)) (DQ.1 hq _ (List.mem_of_getElem? hy)))
abbrev je:List UInt8:=([117,115,101,114]:List UInt8)
abbrev uL:List UInt8:=([117]:List UInt8)
theorem J0 {h:aj} {p:Nat} (hp:h[p]?=some (.cells ⟨[St je,St uL]⟩ 59 (0,0))):ai Tryz.prog 61 ⟨[.agg ⟨[In 196608,In 0,In 0,.slice (some ⟨p,0,none⟩) 1 1]⟩]⟩ h fun u h'=>u=.bool true∧Ext No h h':=by
 have c1:=fun h'=>sT (h:=h') je (by decide)
 have c2:=fun h'=>sT (h:=h') uL (by decide)
 rw [show bn je=true from rfl] at c1
 rw [show bn uL=true from rfl] at c2
 refine calls [(0,_)] Tryz.func61 rfl Tryz.ntmps61 rfl ⟨rfl,trivial⟩ ?_
 refine WC.sr ?_;refine WL.al (aI rfl) rfl rfl rfl ?_
 rintro _ h1 ⟨b1,rfl,b0,aT,aB⟩
 have Nh:=aB.obj hp aQ
 refine Go ?_;refine G3 ?_;refine WC.block ?_;refine WC.bO (X:=Nat) (fun x=>([(3,In (x:Int))]:Fr)) [(1,_)] (fun k h'=>h'=h1∧k≤1) (fun k=>1 - k) (0) ⟨rfl,rfl,trivial⟩ (by exact ⟨rfl,Nat.zero_le _⟩) ?_
 rintro k h2 ⟨hz,hk⟩
 subst hz
 refine WC.sub [(3,_),(1,_)] ⟨rfl,rfl,trivial⟩ ?_;refine G3 ?_;refine WL.ld rfl (by first | exact ab aT rfl | assumption) rfl rfl rfl (Go ?_)
 refine Gs [(1,_),(3,_),(9,_)] ?_
 refine aJ 1 2 (Hb.mk fun hb=>?_) (Hb.mk fun hb=>?_)
 aa try (
 refine ay 1 ?_
 refine WC.skip ?_
 skip)
 aa try (
 refine ay 2 ?_
 refine WC.exit ?_
 repeat' (ae first | refine aZ ?_ | refine aF rfl ?_ | refine aL ?_ | refine aN ?_ | refine aV ?_)
 refine Br.out (i:=1000) ?_
 skip)
 aa (refine Gn ?_;first | refine Br.ad ?_ | refine WC.seq ?_)
 aa (first | refine Br.ad ?_ | refine WC.block ?_)
 aa (first | refine Br.ad ?_ | refine WC.sr ?_)
 aa (first | refine Br.ad ?_ | (obtain rfl:k=0:=by omega))
 aa (first | refine Br.ad ?_ | refine WL.step (ag rfl Tryz.underlying62 rfl Tryz.sizeOf60) rfl rfl rfl ?_)
 aa (first | refine Br.ad ?_ | (refine WL.ld rfl (by first | exact ab aT rfl | assumption) rfl rfl rfl ?_))
 aa (refine Go ?_;first | refine Br.ad ?_ | (refine WL.step (aG Tryz.underlying60 Tryz.sizeOf59 rfl rfl rfl (by omega) (by first | rfl | assumption)) rfl rfl rfl ?_))
 aa (refine Go ?_;first | refine Br.ad ?_ | (refine WL.ld rfl (by first | exact ab Nh rfl | assumption) rfl rfl rfl ?_))
 aa (refine Go ?_;first | refine Br.ad ?_ | refine bU 19 ?_ TT.mk)
 aa (refine Gg ?_;first | refine Br.ad ?_ | (refine WL.ld rfl (by first | exact ab aT rfl | assumption) rfl rfl rfl ?_))
 aa (refine Gg ?_;first | refine Br.ad ?_ | (refine WL.step (aG Tryz.underlying60 Tryz.sizeOf59 rfl rfl rfl (by omega) (by first | rfl | assumption)) rfl rfl rfl ?_))
 aa (refine Gg ?_;first | refine Br.ad ?_ | (refine WL.ld rfl (by first | exact ab Nh rfl | assumption) rfl rfl rfl ?_))
 aa (
  first
    | (refine Br.ad ?_)
    | (refine WL.call (vs:=[_]) rfl Tryz.call104 rfl (c1 _) rfl rfl rfl ?_
       rintro _ hq ⟨rfl,jw⟩
       subst jw))
 aa (refine Gg ?_;refine Go ?_;first | refine Br.ad ?_ | refine bU 29 ?_ TT.mk)
 aa (refine Gg ?_;first | refine Br.ad ?_ | (refine WL.ld rfl (by first | exact ab aT rfl | assumption) rfl rfl rfl ?_))
 aa (refine Gg ?_;first | refine Br.ad ?_ | (refine WL.step (aG Tryz.underlying60 Tryz.sizeOf59 rfl rfl rfl (by omega) (by first | rfl | assumption)) rfl rfl rfl ?_))
 aa (refine Gg ?_;first | refine Br.ad ?_ | (refine WL.ld rfl (by first | exact ab Nh rfl | assumption) rfl rfl rfl ?_))
 aa (
  first
    | (refine Br.ad ?_)
    | (refine WL.call (vs:=[_]) rfl Tryz.call104 rfl (c2 _) rfl rfl rfl ?_
       rintro _ hq ⟨rfl,jw⟩
       subst jw))
 aa (refine Gg ?_;refine Go ?_;first | refine Br.ad ?_ | refine Gs [(1,_),(3,_),(38,_)] ?_)
 aa (first | refine Br.ad ?_ | refine aJ 3 4 ?_ TT.mk)
 aa try (
 refine ay 4 ?_
 refine WC.skip ?_
 skip)
 aa (refine Gn ?_;first | refine Br.ad ?_ | refine WC.region ?_)
 aa (refine Go ?_;first | refine Br.ad ?_ | (exact ⟨0+1,⟨rfl,rfl,trivial⟩,(by exact ⟨rfl,by omega⟩),(by omega)⟩))
 try (refine Br.mk (i:=1000) ?_)
 refine Gn ?_;refine G2 ?_;refine WL.ld rfl (by first | exact ab aT rfl | assumption) rfl rfl rfl (Go ?_)
 refine bU 42 ?_ TT.mk
 refine Gg ?_;refine WL.ld rfl (by first | exact ab aT rfl | assumption) rfl rfl rfl ?_
 refine Gg ?_;refine Go ?_;refine Gs [(1,_),(4,_)] ?_;refine G3 ?_;refine WL.ld rfl (by first | exact ab aT rfl | assumption) rfl rfl rfl ?_
 refine Gn ?_;refine WC.block ?_;refine G2 ?_
 refine aJ 5 6 ?_ TT.mk
 aa (refine ay 5 ?_)
 refine G2 ?_;refine Gs [(2,_)] ?_;refine Gt ?_
 first | exact ⟨rfl,aB⟩ | (exfalso;cK)
abbrev jT:List UInt8:=[0,3,0,0,117,115,101,114,0,117,0,0]
theorem DR {h:aj} {p:Nat} (hp:h[p]?=some (.cells ⟨[St je,St uL]⟩ 59 (0,0))):ai Tryz.prog 29 ⟨[.agg ⟨[In 196608,In 0,In 0,.slice (some ⟨p,0,none⟩) 1 1]⟩]⟩ h fun u h'=>∃ v,u=.tuple ⟨[v,In 0]⟩∧Own h' v 5 1 12 (bK jT)∧Ext No h h':=by
 have Um:je.length=4:=rfl
 have Un:uL.length=1:=rfl
 have km:=fun (g:aj) (x:Ext No h g)=>J0 (x.obj hp aQ)
 refine calls [(0,_)] Tryz.func29 rfl Tryz.ntmps29 rfl ⟨rfl,trivial⟩ ?_
 refine WC.sr ?_;refine WL.al (aI rfl) rfl rfl rfl ?_
 rintro _ h1 ⟨b1,rfl,b0,aT,aB⟩
 refine Go ?_;refine WC.seq ?_;refine WC.sr ?_;refine WL.step (aA Tryz.isAgg62 Tryz.sizeOf62 rfl rfl (by exact At.ax aT)) rfl rfl rfl ?_
 refine WL.call (vs:=[_]) rfl Tryz.call61 rfl (km _ aB) rfl rfl rfl ?_
 rintro _ h2 ⟨rfl,aK⟩
 have ca:=aK.obj aT aQ
 have X2:=aB.trans aK
 refine Go ?_;refine Gs [(1,_),(8,_)] ?_
 refine aJ 1 2 ?_ TT.mk
 aa (refine ay 2 ?_)
 refine WC.skip ?_;refine Gn ?_;refine G2 ?_;refine WL.ld rfl (by first | exact ab ca rfl | assumption) rfl rfl rfl ?_
 refine WL.call (vs:=[_,_,_]) rfl Tryz.call62 rfl (kY [] 196608 4 (.inr (.inr rfl)) (by unfold Rt;decide) (Rd.nil _ _) (by decide)) rfl rfl rfl ?_
 rintro v3 h3 ⟨ee,aS,im⟩
 have ee:Own h3 v3 5 1 4 (bK [0,3,0,0]):=ee
 have cE:=aS.obj ca aQ
 have X3:=X2.trans aS
 refine Go ?_;refine Gs [(1,_),(4,_)] ?_;refine G3 ?_;refine WL.ld rfl (by first | exact ab cE rfl | assumption) rfl rfl rfl ?_
 refine Gn ?_;refine WC.block ?_;refine G2 ?_
 refine aJ 3 4 ?_ TT.mk
 aa (refine ay 3 ?_)
 refine G3 ?_;refine Gs [(1,_),(4,_),(5,_)] ?_;refine WC.block ?_;refine WC.bO (X:=Nat × Value) (fun x=>([(5,In (x.1:Int)),(4,x.2)]:Fr)) [(1,_)] (fun x h'=>(x.1=0∧x.2=v3∧h'=h3)∨(x.1=1∧Own h' x.2 5 1 11 (bK [0,3,0,0,117,115,101,114,0,117,0])∧Ext No h2 h'∧∀ q,x.2.ownBlock=some q→h2.size≤q)) (fun x=>1 - x.1) ((0,v3)) ⟨rfl,rfl,rfl,trivial⟩ (by exact .inl ⟨rfl,rfl,rfl⟩) ?_
 rintro ⟨k,w⟩ h4 hI
 dsimp only at hI
 have X4:Ext No h2 h4:=by rcases hI with ⟨_,_,rfl⟩ | ⟨_,_,x,_⟩;exact aS;exact x
 have bT:=X4.obj ca aQ
 have Ru:=(X2.trans X4).obj hp aQ
 refine WC.sub [(4,_),(5,_),(1,_)] ⟨rfl,rfl,rfl,trivial⟩ ?_
 dsimp only
 refine G3 ?_;refine WL.ld rfl (by first | exact ab bT rfl | assumption) rfl rfl rfl (Go ?_)
 refine Gs [(1,_),(4,_),(5,_),(20,_)] ?_
 refine aJ 5 6 (Hb.mk fun hb=>?_) (Hb.mk fun hb=>?_)
 aa try (
 refine ay 5 ?_
 refine WC.skip ?_
 skip)
 aa try (
 refine ay 6 ?_
 refine WC.exit ?_
 repeat' (ae first | refine aZ ?_ | refine aF rfl ?_ | refine aL ?_ | refine aN ?_ | refine aV ?_)
 refine Br.out (i:=1001) ?_
 skip)
 aa (refine Gn ?_;first | refine Br.ad ?_ | refine WC.seq ?_)
 aa (first | refine Br.ad ?_ | refine WC.block ?_)
 aa (first | refine Br.ad ?_ | refine WC.sr ?_)
 aa (first | refine Br.ad ?_ | (obtain ⟨rfl,rfl,rfl⟩:k=0∧w=v3∧h4=h3:=by rcases hI with e | ⟨e,_⟩;exact e;exfalso;omega))
 aa (first | refine Br.ad ?_ | refine WL.step (an rfl) rfl rfl rfl ?_)
 aa (refine Go ?_;first | refine Br.ad ?_ | (refine WL.ld rfl (by first | exact ab bT rfl | assumption) rfl rfl rfl ?_))
 aa (refine Go ?_;first | refine Br.ad ?_ | (refine WL.step (aG Tryz.underlying60 Tryz.sizeOf59 rfl rfl rfl (by omega) (by first | rfl | assumption)) rfl rfl rfl ?_))
 aa (refine Go ?_;first | refine Br.ad ?_ | (refine WL.ld rfl (by first | exact ab Ru rfl | assumption) rfl rfl rfl ?_))
 aa (
  first
    | (refine Br.ad ?_)
    | (refine WL.al (gw rfl Tryz.underlying23 Tryz.underlying9 (show Tryz.prog.info? 5=some Tryz.t5 by kernel_rfl) rfl rfl rfl rfl rfl ee (by omega)) rfl rfl rfl ?_
       rintro v5 h5 ⟨eX,aO,gj,_⟩
       have eX:Own h5 v5 5 1 8 (bK [0,3,0,0,117,115,101,114]):=eX
       have X5:Ext No h2 h5:=aS.trans' aO (fun q hq e=>by have:=im q e;omega)
       have f5:∀ q,v5.ownBlock=some q→h2.size≤q:=fun q hq=>(gj q hq).elim (im q) (fun e=>by have:=aS.size;omega)))
 aa (
  first
    | (refine Br.ad ?_)
    | (refine WL.al (aw (vs:=[_]) (cs:=[_]) (fun | [a0]=>[a0] | _=>[]) Tryz.underlying23 rfl rfl (by kernel_rfl)) rfl rfl rfl ?_
       rintro _ h6 ⟨b6,rfl,r5,cj,aP⟩))
 aa (
  first
    | (refine Br.ad ?_)
    | (refine WL.al (aX (sz:=1) (bytes:=1) rfl Tryz.underlying23 (show Tryz.prog.info? 5=some Tryz.t5 by kernel_rfl) rfl rfl rfl rfl (by decide) rfl rfl (eX.ext aP (fun _ _=>aQ)) (bG (len:=1) (sz:=1) (cs:=[.int .u8 0]) cj rfl) (by simp [Value.oneCell']) (by simp only [maxLen];omega) (by omega)) rfl rfl rfl ?_
       rintro v7 h7 ⟨nT,bu,FQ⟩
       have nT:Own h7 v7 5 1 9 (bK [0,3,0,0,117,115,101,114,0]):=nT
       have X7:Ext No h2 h7:=(X5.trans aP).trans' bu (fun q hq e=>by have:=f5 q e;omega)
       have f7:=cb FQ f5 (X5.trans aP).size))
 aa (refine Go ?_;first | refine Br.ad ?_ | refine Gs [(1,_),(4,_),(5,_)] ?_)
 aa (first | refine Br.ad ?_ | refine WC.region ?_)
 aa (refine Go ?_;first | refine Br.ad ?_ | (refine WL.ld rfl (by first | exact ab (X7.obj ca aQ) rfl | assumption) rfl rfl rfl ?_))
 aa (refine Go ?_;first | refine Br.ad ?_ | (refine WL.step (aG Tryz.underlying60 Tryz.sizeOf59 rfl rfl rfl (by omega) (by first | rfl | assumption)) rfl rfl rfl ?_))
 aa (refine Go ?_;first | refine Br.ad ?_ | (refine WL.ld rfl (by first | exact ab ((X2.trans X7).obj hp aQ) rfl | assumption) rfl rfl rfl ?_))
 aa (
  first
    | (refine Br.ad ?_)
    | (refine WL.al (gw rfl Tryz.underlying23 Tryz.underlying9 (show Tryz.prog.info? 5=some Tryz.t5 by kernel_rfl) rfl rfl rfl rfl rfl nT (by omega)) rfl rfl rfl ?_
       rintro v8 h8 ⟨kC,bH,G8,_⟩
       have kC:Own h8 v8 5 1 10 (bK [0,3,0,0,117,115,101,114,0,117]):=kC
       have X8:Ext No h2 h8:=X7.trans' bH (fun q hq e=>by have:=f7 q e;omega)
       have f8:∀ q,v8.ownBlock=some q→h2.size≤q:=fun q hq=>(G8 q hq).elim (f7 q) (fun e=>by have:=X7.size;omega)))
 aa (
  first
    | (refine Br.ad ?_)
    | (refine WL.al (aw (vs:=[_]) (cs:=[_]) (fun | [a0]=>[a0] | _=>[]) Tryz.underlying23 rfl rfl (by kernel_rfl)) rfl rfl rfl ?_
       rintro _ h9 ⟨b9,rfl,Uo,ck,cl⟩))
 aa (
  first
    | (refine Br.ad ?_)
    | (refine WL.al (aX (sz:=1) (bytes:=1) rfl Tryz.underlying23 (show Tryz.prog.info? 5=some Tryz.t5 by kernel_rfl) rfl rfl rfl rfl (by decide) rfl rfl (kC.ext cl (fun _ _=>aQ)) (bG (len:=1) (sz:=1) (cs:=[.int .u8 0]) ck rfl) (by simp [Value.oneCell']) (by simp only [maxLen];omega) (by omega)) rfl rfl rfl ?_
       rintro v10 jf ⟨nU,cC,Ni⟩
       have nU:Own jf v10 5 1 11 (bK [0,3,0,0,117,115,101,114,0,117,0]):=nU
       have Ax:Ext No h2 jf:=(X8.trans cl).trans' cC (fun q hq e=>by have:=f8 q e;omega)
       have f10:=cb Ni f8 (X8.trans cl).size))
 aa (refine Go ?_;first | refine Br.ad ?_ | refine Gs [(1,_),(4,_),(5,_)] ?_)
 aa (first | refine Br.ad ?_ | refine WC.region ?_)
 aa (refine Go ?_;first | refine Br.ad ?_ | (exact ⟨(0+1,_),⟨rfl,rfl,rfl,trivial⟩,(by exact .inr ⟨rfl,nU,Ax,f10⟩),(by first | omega | (dsimp only;omega) | simp)⟩))
 try (refine Br.mk (i:=1001) ?_)
 refine Gn ?_;refine WC.region (Go ?_);refine WL.al (aw (vs:=[_]) (cs:=[_]) (fun | [a0]=>[a0] | _=>[]) Tryz.underlying23 rfl rfl (by kernel_rfl)) rfl rfl rfl ?_
 rintro _ h6 ⟨b6,rfl,r5,cj,aP⟩
 obtain ⟨ek,gk,f4⟩:k=1∧Own h4 w 5 1 11 (bK [0,3,0,0,117,115,101,114,0,117,0])∧∀ q,w.ownBlock=some q→h2.size≤q:=by rcases hI with ⟨e,_⟩ | ⟨e,o,_,f⟩;exfalso;omega;exact ⟨e,o,f⟩
 refine WL.al (aX (sz:=1) (bytes:=1) rfl Tryz.underlying23 (show Tryz.prog.info? 5=some Tryz.t5 by kernel_rfl) rfl rfl rfl rfl (by decide) rfl rfl (gk.ext aP (fun _ _=>aQ)) (bG (len:=1) (sz:=1) (cs:=[.int .u8 0]) cj rfl) (by simp [Value.oneCell']) (by simp only [maxLen];omega) (by omega)) rfl rfl rfl ?_
 rintro v7 h7 ⟨nT,bu,FQ⟩
 have nT:Own h7 v7 5 1 12 (bK jT):=nT
 refine Go ?_;refine Gn ?_;refine G2 ?_;refine Gt ?_
 exact ⟨v7,rfl,nT,(X2.trans (X4.trans aP)).trans' bu (fun q hq e=>by have:=f4 q e;have:=X2.size;omega)⟩
abbrev dz:List UInt8:=[0,0,0,16,0,3,0,0,117,115,101,114,0,117,0,0]
theorem yf {h:aj} {v:Value} (hv:Rd h v 1 12 (bK jT)):ai Tryz.prog 30 ⟨[.agg ⟨[.int .u8 0,v]⟩]⟩ h fun u h'=>Own h' u 5 1 16 (bK dz)∧Ext No h h'∧∀ q,u.ownBlock=some q→h.size≤q:=by
 obtain ⟨A,c,rfl,_⟩:=id hv
 refine calls [(0,_)] Tryz.func30 rfl Tryz.ntmps30 rfl ⟨rfl,trivial⟩ ?_
 refine WC.sr ?_;refine WL.al (aI rfl) rfl rfl rfl ?_
 rintro _ h1 ⟨b1,rfl,b0,aT,aB⟩
 refine Go ?_;refine G2 ?_;refine G3 ?_;refine WL.ld rfl (by first | exact ab aT rfl | assumption) rfl rfl rfl (Go ?_)
 refine Gs [(1,_),(3,_),(6,_)] ?_
 refine aJ 1 2 ?_ TT.mk
 aa (refine ay 2 ?_)
 refine WC.skip ?_;refine Gn ?_;refine WC.seq ?_;refine WC.cg (fun h'=>Ext No h1 h') 9 10 rfl dB ?_
 refine WH.tk 0 rfl (fun hq hC=>an rfl) rfl rfl rfl ?_
 refine WH.tk 1 rfl (fun hq hC=>ag rfl Tryz.underlying53 rfl Tryz.sizeOf23) rfl rfl rfl ?_
 refine WH.tk 2 rfl (fun hq hC=>aC Tryz.isAgg23 rfl (by first | exact hC.cell (by first | exact ab aT rfl | assumption) aQ)) rfl rfl rfl ?_
 refine WH.tk 3 rfl (fun hq hC=>cB rfl Tryz.underlying23 rfl) rfl rfl rfl ?_
 refine WH.tk 4 rfl (fun hq hC=>fy rfl rfl (by omega)) rfl rfl rfl ?_
 refine WH.tk 6 rfl (fun hq hC=>ag rfl Tryz.underlying53 rfl Tryz.sizeOf23) rfl rfl rfl ?_
 refine WH.tk 7 rfl (fun hq hC=>aC Tryz.isAgg23 rfl (by first | exact hC.cell (by first | exact ab aT rfl | assumption) aQ)) rfl rfl rfl ?_
 refine WH.one 5 (by kernel_rfl) ?_
 refine aE.call (vs:=[_,_,_]) rfl rfl Tryz.call62 rfl (kY [] 16 4 (.inr (.inr rfl)) (by unfold Rt;decide) (Rd.nil _ _) (by decide)) rfl rfl rfl ?_ (fun _=>by kernel_rfl)
 rintro v5 h5 ⟨eX,aO,gj⟩
 have eX:Own h5 v5 5 1 4 (bK [0,0,0,16]):=eX
 refine ⟨fun _=>aO,?_⟩
 refine WH.one 8 (by kernel_rfl) ?_
 refine aE.run rfl (aX (sz:=1) (bytes:=1) rfl Tryz.underlying23 (show Tryz.prog.info? 5=some Tryz.t5 by kernel_rfl) rfl rfl rfl rfl (by decide) rfl rfl eX (hv.av (aB.trans aO)) (by intro c hc;obtain ⟨b,_,rfl⟩:=List.mem_map.1 hc;rfl) (by simp only [maxLen];omega) (by omega)) rfl rfl rfl ?_ (fun _=>by kernel_rfl)
 rintro v8 h8 ⟨kC,bH,uX⟩
 have kC:Own h8 v8 5 1 16 (bK dz):=kC
 refine ⟨fun _=>aO.trans' bH (fun q hq e=>by have:=gj q e;omega),?_⟩
 have mJ:=aO.trans' bH (fun q hq e=>by have:=gj q e;omega)
 refine WH.one 9 (by kernel_rfl) ?_
 refine aE.run rfl (bW.r (aR rfl)) rfl rfl rfl ?_ (fun _=>by kernel_rfl)
 rintro _ hz ⟨rfl,_⟩
 subst hz
 refine ⟨fun _=>mJ,?_⟩
 refine WH.done (by kernel_rfl) ?_
 refine Gn ?_;refine Gs [(2,_)] ?_;refine Gt ?_
 exact ⟨kC,aB.trans mJ,cb uX (fun q hq=>by have:=gj q hq;have:=aB.size;omega) (by have:=aB.size;have:=aO.size;omega)⟩
theorem pJ {h:aj}:ai Tryz.prog 8 ⟨[]⟩ h fun u h'=>Own h' u 5 1 16 (bK dz)∧Ext No h h'∧∀ q,u.ownBlock=some q→h.size≤q:=by
 have kb:=fun (g:aj) (p:Nat) (hp:g[p]?=some (.cells ⟨[St je,St uL]⟩ 59 (0,0)))=>DR hp
 refine calls [] Tryz.func8 rfl Tryz.ntmps8 rfl trivial ?_
 refine G2 ?_;refine WC.sr ?_;refine WL.step (aH (vs:=[_,_]) (cs:=[_,_]) (fun | [a0,a1]=>[a0,a1] | _=>[]) rfl rfl (by kernel_rfl)) rfl rfl rfl ?_
 refine WL.al (aw (vs:=[_]) (cs:=[_,_]) (fun | [.agg ⟨[a0,a1]⟩]=>[a0,a1] | _=>[]) Tryz.underlying60 rfl rfl (by kernel_rfl)) rfl rfl rfl ?_
 rintro _ h1 ⟨b1,rfl,b0,aT,aB⟩
 refine WL.step (aH (vs:=[_,_]) (cs:=[_,_,_,_]) (fun | [a0,a3]=>[a0,(.int .i64 0),(.int .i64 0),a3] | _=>[]) rfl rfl (by kernel_rfl)) rfl rfl rfl ?_
 refine WL.call (vs:=[_]) rfl Tryz.call29 rfl (kb _ _ aT) rfl rfl rfl ?_
 rintro _ h2 ⟨v2,rfl,dv,aK⟩
 obtain ⟨A2,c2,rfl,_⟩:=id dv.slice
 refine Go ?_;refine Gs [(1,_)] ?_;refine G2 ?_;refine WL.step (aH (vs:=[_]) (cs:=[_,_]) (fun | [a1]=>[(.int .u8 0),a1] | _=>[]) rfl rfl (by kernel_rfl)) rfl rfl rfl ?_
 refine WL.call (vs:=[_]) rfl Tryz.call30 rfl (yf dv.rd) rfl rfl rfl ?_
 rintro v3 h3 ⟨ee,aS,im⟩
 refine Go ?_;refine Gs [(0,_)] ?_;refine Gt ?_
 exact ⟨ee,(aB.trans aK).trans aS,fun q hq=>by have:=im q hq;have:=aB.size;have:=aK.size;omega⟩
theorem lQ {h:aj} {A:Option Addr} {c:Nat} (l:List UInt8) (hr:Rd h (.slice A l.length c) 1 l.length (bK l)) (hm:l.length≤140737488355328) :
   ai Tryz.prog 74 ⟨[.slice A l.length c]⟩ h fun u h'=>Own h' u 5 1 l.length (bK l)∧Ext No h h'∧(∀ k,u.ownBlock=some k→h.size≤k):=by
 cases A with
 | none =>
   have h0:l=[]:=by
     cases l with
     | nil=>rfl
     | cons a l=>obtain ⟨b,o,e,_⟩:=Rd.at_ hr (by simp);cases e
   subst h0
   refine calls [(0,_)] Tryz.func74 rfl Tryz.ntmps74 rfl ⟨rfl,trivial⟩ ?_
   refine G2 ?_;refine G3 ?_;refine WL.step (dc Tryz.underlying23 rfl rfl) rfl rfl rfl ?_;refine Gn ?_
   refine aJ 1 2 ?_ TT.mk
   aa (refine ay 1 ?_)
   refine G2 ?_;refine Gt ?_
   exact ⟨Own.nil _ _ _,.refl _ _,by simp [Value.ownBlock]⟩
 | some a =>
   refine calls [(0,_)] Tryz.func74 rfl Tryz.ntmps74 rfl ⟨rfl,trivial⟩ ?_
   refine G2 ?_;refine G3 ?_;refine WL.step (dc Tryz.underlying23 rfl rfl) rfl rfl rfl ?_;refine Gn ?_
   refine aJ 1 2 ?_ TT.mk
   aa (refine ay 2 ?_)
   refine WC.skip ?_;refine Gn ?_;refine WC.sr ?_;refine WL.al (aw (vs:=[]) (cs:=[]) (fun _=>[]) Tryz.underlying23 rfl rfl (by kernel_rfl)) rfl rfl rfl ?_
   rintro _ h1 ⟨b1,rfl,b0,aT,aB⟩
   refine Go ?_
   have rY:=hr.av aB
   refine WL.al (aX (sz:=1) (bytes:=1) rfl Tryz.underlying23 (show Tryz.prog.info? 5=some Tryz.t5 by kernel_rfl) rfl rfl rfl rfl (by decide) rfl rfl (dR aT rfl (by simp [maxLen])) rY (by intro c hc;obtain ⟨b,_,rfl⟩:=List.mem_map.1 hc;rfl) (by simp only [maxLen];omega) (by omega)) rfl rfl rfl ?_
   rintro v2 h2 ⟨dv,aK,lL⟩
   refine Go ?_;refine Gs [(2,_)] ?_;refine Gt ?_
   exact ⟨by simpa using dv,aB.trans' aK (fun k hk e=>by simp [Value.ownBlock] at e;omega),cb lL (fun k hk=>by simp [Value.ownBlock] at hk;omega) aB.size⟩
def iN (l:List UInt8):Int:=l.foldl (fun n x=>n * 256+(x.toNat:Int)) 0
theorem lR (l:List UInt8) (x:UInt8):iN (l++[x])=iN l * 256+(x.toNat:Int):=by simp [iN]
theorem wO {h:aj}:ai Tryz.prog 180 ⟨[In 4]⟩ h fun u h'=>u=.bool true∧h'=h:=by
 refine calls [(0,_)] Tryz.func180 rfl Tryz.ntmps180 rfl ⟨rfl,trivial⟩ ?_
 refine G2 ?_;refine G3 ?_;refine WC.block ?_;refine G3 ?_
 refine aJ 1 2 ?_ TT.mk
 aa (refine ay 2 ?_)
 refine G2 ?_;refine Gs [(3,_),(4,_)] ?_
 refine aJ 3 4 ?_ TT.mk
 aa (refine ay 4 ?_)
 refine WC.region (Go ?_);refine Gn ?_
 refine aJ 5 6 ?_ TT.mk
 aa (refine ay 5 ?_)
 refine G2 ?_;refine Gt ?_
 exact ⟨rfl,rfl⟩
theorem FR {h:aj} {A:Option Addr} {c:Nat} (l:List UInt8) (hr:Rd h (.slice A l.length c) 1 l.length (bK l)) (k:Nat) (hl:k+4≤l.length) (hm:l.length≤1000000) :
   ai Tryz.prog 176 ⟨[.slice A l.length c,In (k:Int),In 4]⟩ h fun u h'=>u=.tuple ⟨[In (iN ((l.drop k).take 4)),In 0]⟩∧h'=h:=by
 have fS:l.length≤c:=by
   obtain ⟨A1,c1,hv,fS,_⟩:=id hr
   simp only [Value.slice.injEq] at hv
   obtain ⟨_,_,rfl⟩:=hv
   exact fS
 have hs:=(hr.drop (l:=k) (by omega)).take (k:=4) (by omega)
 have uP:((l.drop k).take 4).length=4:=by simp;omega
 have DJ:((bK l).drop (k * 1)).take (4 * 1)=bK ((l.drop k).take 4):=by simp [bK]
 rw [DJ] at hs
 generalize (l.drop k).take 4=m at *
 refine calls [(0,_),(1,_),(2,_)] Tryz.func176 rfl Tryz.ntmps176 rfl ⟨rfl,rfl,rfl,trivial⟩ ?_
 refine G2 ?_;refine WC.seq ?_;refine WC.block ?_;refine G3 ?_;refine WL.call (vs:=[_]) rfl Tryz.call180 rfl (wO) rfl rfl rfl ?_
 rintro _ hz ⟨rfl,_⟩
 subst hz
 refine Go ?_;refine Gs [(0,_),(1,_),(2,_),(11,_)] ?_
 refine aJ 1 2 ?_ TT.mk
 aa (refine ay 2 ?_)
 refine WC.region (Go ?_);refine Gn ?_
 refine aJ 3 4 ?_ TT.mk
 aa (refine ay 4 ?_)
 refine G3 ?_;refine Gs [(0,_),(1,_),(2,_),(17,_)] ?_
 refine aJ 5 6 ?_ TT.mk
 aa (refine ay 6 ?_)
 refine WC.region (Go ?_);refine Gn ?_
 refine aJ 7 8 ?_ TT.mk
 aa (refine ay 8 ?_)
 refine WC.skip ?_;refine Gn ?_;refine G2 ?_;refine G3 ?_;refine WL.step (dk (l:=k) (k:=k+4) Tryz.underlying23 Tryz.sizeOf5 rfl rfl rfl (by omega)) rfl rfl rfl ?_
 rw [show k+4 - k=4 by omega]
 generalize (if c=k then A else A.map (·.add (k * 1)))=S at *
 refine Go ?_;refine Gs [(8,_),(33,_),(34,_),(35,_)] ?_;refine WC.block ?_;refine WC.bO (X:=Nat × Int) (fun x=>([(35,In (x.1:Int)),(8,In x.2)]:Fr)) [(33,_),(34,_)] (fun x h'=>h'=h∧x.1≤4∧x.2=iN (m.take x.1)∧0≤x.2∧x.2+1≤256 ^ x.1) (fun x=>4 - x.1) ((0,0)) ⟨rfl,rfl,rfl,rfl,trivial⟩ (by exact ⟨rfl,by simp,rfl,by simp,by simp⟩) ?_
 rintro ⟨j,n⟩ h1 ⟨hz,hj,hn,GW,DS⟩
 dsimp only at hj hn GW DS
 subst hz
 refine WC.sub [(8,_),(35,_),(33,_),(34,_)] ⟨rfl,rfl,rfl,rfl,trivial⟩ ?_
 dsimp only
 refine G2 ?_;refine WC.seq ?_
 refine aJ 9 10 (Hb.mk fun hb=>?_) (Hb.mk fun hb=>?_)
 aa try (
 refine ay 9 ?_
 refine WC.skip ?_
 skip)
 aa try (
 refine ay 10 ?_
 refine WC.exit ?_
 repeat' (ae first | refine aZ ?_ | refine aF rfl ?_ | refine aL ?_ | refine aN ?_ | refine aV ?_)
 refine Br.out (i:=1001) ?_
 skip)
 aa (refine Gn ?_;first | refine Br.ad ?_ | refine WC.seq ?_)
 aa (first | refine Br.ad ?_ | refine WC.block ?_)
 aa (first | refine Br.ad ?_ | refine WC.sr ?_)
 aa (
  first
    | (refine Br.ad ?_)
    | (obtain ⟨bL,oL,hA,gx,cX⟩:=Rd.at_ hs (by omega)
       obtain ⟨y,hy⟩:∃ y,m[j]?=some y:=⟨_,List.getElem?_eq_getElem (by omega)⟩
       have fH:=cX.get (p:=oL+j * 1) j (show (bK m)[j]?=some (By y) by simp [bK,hy]) (by omega)
       have GX:=qK (show j≤3 by omega)
       have FT:=y.toNat_lt))
 aa (first | refine Br.ad ?_ | (refine WL.step (aG Tryz.underlying23 Tryz.sizeOf5 rfl rfl rfl (by omega) (by first | rfl | assumption)) rfl rfl rfl ?_))
 aa (first | refine Br.ad ?_ | (refine WL.ld rfl (by first | exact fH | assumption) rfl rfl rfl ?_))
 aa (refine Go ?_;first | refine Br.ad ?_ | refine WC.region ?_)
 aa (refine Go ?_;first | refine Br.ad ?_ | (refine WL.step (wM rfl rfl (by decide) (by rw [show (2:Int) ^ ((8:Int)).toNat=256 from rfl];constructor <;> omega)) rfl rfl rfl ?_))
 aa (first | refine Br.ad ?_ | rw [show (2:Int) ^ ((8:Int)).toNat=256 from rfl])
 aa (refine Go ?_;first | refine Br.ad ?_ | (refine WL.step (kW Tryz.underlying5 Tryz.underlying3 rfl (by omega)) rfl rfl rfl ?_))
 aa (first | refine Br.ad ?_ | refine WL.step (FP rfl rfl) rfl rfl rfl ?_)
 aa (first | refine Br.ad ?_ | (rw [wN ⟨by omega,by omega⟩ ⟨by omega,by omega⟩]))
 aa (refine Go ?_;first | refine Br.ad ?_ | refine Gs [(8,_),(33,_),(34,_),(35,_)] ?_)
 aa (first | refine Br.ad ?_ | refine WC.region ?_)
 aa (refine Go ?_;first | refine Br.ad ?_ | (exact ⟨(j+1,_),⟨rfl,rfl,rfl,rfl,trivial⟩,(by exact ⟨rfl,by omega,by rw [List.take_add_one,hy,Option.toList_some,lR,← hn],by omega,by rw [Int.pow_succ];omega⟩),(by simp;omega)⟩))
 try (refine Br.mk (i:=1001) ?_)
 refine Gn ?_;refine Gs [(8,_)] ?_;refine G2 ?_;refine Gt ?_
 first | exact ⟨by rw [hn,List.take_of_length_le (by omega)],rfl⟩ | (exfalso;omega)
structure Fw (h:aj) (b:Nat) (ty:Bool) (v:Value) (l:List UInt8):Prop where
 bB:h[b]?=some (.cells ⟨[.bool ty,v,In 65536,In 262144,In 0]⟩ 147 (0,0))
 own:Own h v 5 1 l.length (bK l)
section
variable {h h':aj} {b:Nat} {ty:Bool} {v:Value} {l:List UInt8} {S:Nat→Prop}
theorem Fw.ext (k:Fw h b ty v l) (x:Ext S h h') (h1:¬ S b) (h2:∀ q,v.ownBlock=some q→¬ S q):Fw h' b ty v l:=⟨x.obj k.bB h1,k.own.ext x h2⟩
theorem Fw.av (k:Fw h b ty v l) (x:Ext No h h'):Fw h' b ty v l:=k.ext x aQ (fun _ _=>aQ)
theorem Fw.ne (k:Fw h b ty v l):∀ q,v.ownBlock=some q→q ≠ b:=fun q hq e=>by
 have:=bZ k.own k.bB (by decide)
 exact this (e▸hq)
theorem Ay {h:aj}:ai Tryz.prog 48 ⟨[In 65536,In 262144,.bool true]⟩ h fun u h'=>∃ b,u=.tuple ⟨[.pointer (some ⟨b,0,none⟩),In 0]⟩∧Fw h' b false (.slice none 0 0) []∧h.size≤b∧Ext No h h':=by
 refine calls [(0,_),(1,_),(2,_)] Tryz.func48 rfl Tryz.ntmps48 rfl ⟨rfl,rfl,rfl,trivial⟩ ?_
 refine G2 ?_;refine G3 ?_
 refine bU 10 ?_ TT.mk
 refine Gg ?_;refine Go ?_
 refine bU 14 ?_ TT.mk
 refine Gg ?_;refine Go ?_
 refine bU 19 ?_ TT.mk
 refine Gg ?_;refine Go ?_;refine Gs [(0,_),(1,_),(2,_),(22,_)] ?_
 refine aJ 1 2 ?_ TT.mk
 aa (refine ay 2 ?_)
 refine WC.skip ?_;refine Gn ?_;refine G2 ?_;refine WL.step (aH (vs:=[_]) (cs:=[_]) (fun | [a0]=>[a0] | _=>[]) rfl rfl (by kernel_rfl)) rfl rfl rfl (Go ?_)
 refine WL.step (aH (vs:=[_,_,_]) (cs:=[_,_,_,_,_]) (fun | [.agg ⟨[a0]⟩,a2,a3]=>[a0,(.slice none 0 0),a2,a3,(.int .i64 0)] | _=>[]) rfl rfl (by kernel_rfl)) rfl rfl rfl ?_
 refine WL.al (aI rfl) rfl rfl rfl ?_
 rintro _ h1 ⟨b1,rfl,b0,aT,aB⟩
 refine Go ?_;refine Gs [(6,_),(7,_)] ?_;refine Gt ?_
 exact ⟨b1,rfl,⟨aT,Own.nil _ _ _⟩,b0,aB⟩
theorem lh (k:Fw h b ty v l):ai Tryz.prog 85 ⟨[.pointer (some ⟨b,0,none⟩)]⟩ h fun u h'=>u=.bool true∧h'=h:=by
 have hb:=k.bB
 refine calls [(0,_)] Tryz.func85 rfl Tryz.ntmps85 rfl ⟨rfl,trivial⟩ ?_
 refine G2 ?_;refine G2 ?_;refine WL.step (ej Tryz.underlying87 rfl rfl) rfl rfl rfl (Go ?_)
 refine bU 5 ?_ TT.mk
 refine Gg ?_;refine WL.step (ah rfl) rfl rfl rfl ?_;refine Gg ?_;refine Ld ?_;refine Gg ?_;refine Go ?_;refine Gs [(2,_)] ?_;refine Gt ?_
 exact ⟨rfl,rfl⟩
theorem jx (ty:Bool):ai Tryz.prog 88 ⟨[.agg ⟨[.bool ty]⟩]⟩ h fun u h'=>u=In ((if ty=true then 1 else 0:Nat):Int)∧Ext No h h':=by
 cases ty
 aa
   refine calls [(0,_)] Tryz.func88 rfl Tryz.ntmps88 rfl ⟨rfl,trivial⟩ ?_
   aa (refine WC.sr ?_;refine WL.al (aI rfl) rfl rfl rfl ?_;rintro _ h1 ⟨b1,rfl,b0,aT,aB⟩;refine Go ?_;refine G3 ?_;refine WL.ld rfl (by first | exact ab aT rfl | assumption) rfl rfl rfl ?_;refine Gn ?_;refine Gs [(4,_)] ?_;refine aJ 1 2 ?_ TT.mk)
   aa try (
   refine ay 1 ?_
   aa (refine G2 ?_;refine Gt ?_;exact ⟨rfl,aB⟩)
   skip)
   aa (refine ay 2 ?_;refine WC.skip ?_;refine Gn ?_;refine G2 ?_;refine Gt ?_;exact ⟨rfl,aB⟩)
theorem DT {w:Value} (k:Fw h b ty v l) (m:List UInt8) (hr:Rd h w 1 m.length (bK m)) (hl:l.length+m.length≤262144) :
   ai Tryz.prog 52 ⟨[.pointer (some ⟨b,0,none⟩),w]⟩ h fun u h'=>u=In 0∧∃ v',Fw h' b ty v' (l++m)∧Ext (fun q=>q=b∨v.ownBlock=some q) h h'∧∀ q,v'.ownBlock=some q→v.ownBlock=some q∨h.size≤q:=by
 have kr:=lh k
 have hb:=k.bB
 have ho:=k.own
 have ep:=k.ne
 obtain ⟨A,c,rfl,_⟩:=id hr
 obtain ⟨B,d,rfl,_⟩:=id ho.slice
 refine calls [(0,_),(1,_)] Tryz.func52 rfl Tryz.ntmps52 rfl ⟨rfl,rfl,trivial⟩ ?_
 refine G2 ?_;refine WC.seq ?_;refine WC.block ?_;refine G2 ?_;refine WL.call (vs:=[_]) rfl Tryz.call85 rfl (kr) rfl rfl rfl ?_
 rintro _ hz ⟨rfl,_⟩
 subst hz
 refine Go ?_;refine Gs [(0,_),(1,_),(5,_)] ?_
 refine aJ 1 2 ?_ TT.mk
 aa (refine ay 2 ?_)
 refine WC.seq ?_;refine WC.gu dB (by kernel_rfl) ?_
 refine WQ.aM (an rfl) rfl rfl rfl ?_;refine WQ.aM (cB rfl Tryz.underlying23 rfl) rfl rfl rfl ?_;refine WQ.aM (an rfl) rfl rfl rfl ?_;refine WQ.aM (ah rfl) rfl rfl rfl ?_;refine WQ.aM (ag rfl Tryz.underlying147 rfl Tryz.sizeOf3) rfl rfl rfl ?_;refine WQ.aM (aC Tryz.isAgg3 rfl (by first | exact ab hb rfl | assumption)) rfl rfl rfl ?_
 refine WQ.aM (an rfl) rfl rfl rfl ?_;refine WQ.aM (ah rfl) rfl rfl rfl ?_;refine WQ.aM (ag rfl Tryz.underlying147 rfl Tryz.sizeOf23) rfl rfl rfl ?_;refine WQ.aM (aC Tryz.isAgg23 rfl (by first | exact ab hb rfl | assumption)) rfl rfl rfl ?_
 refine WQ.aM (cB rfl Tryz.underlying23 rfl) rfl rfl rfl ?_;refine WQ.aM (fz rfl rfl (by omega)) rfl rfl rfl ?_
 refine WQ.aM (bW.fO (by omega) (nH rfl rfl)) rfl rfl rfl ?_
 refine WQ.aM (aR rfl) rfl rfl rfl ?_;refine WQ.nil ?_;refine Gn ?_;refine Gs [(0,_),(1,_),(9,_)] ?_
 refine aJ 3 4 ?_ TT.mk
 aa (refine ay 4 ?_)
 refine WC.skip ?_;refine Gn ?_;refine G2 ?_;refine WL.step (ah rfl) rfl rfl rfl (Go ?_);refine WL.ld rfl (by first | exact ab hb rfl | assumption) rfl rfl rfl (Go ?_)
 refine WL.al (aX (sz:=1) (bytes:=1) rfl Tryz.underlying23 (show Tryz.prog.info? 5=some Tryz.t5 by kernel_rfl) rfl rfl rfl rfl (by decide) rfl rfl ho hr (by intro c hc;obtain ⟨b,_,rfl⟩:=List.mem_map.1 hc;rfl) (by simp only [maxLen];omega) (by omega)) rfl rfl rfl ?_
 rintro v2 h2 ⟨dv,aK,lL⟩
 obtain ⟨B2,d2,rfl,_⟩:=id dv.slice
 have bR:=aK.obj hb (fun e=>ep _ e rfl)
 have lb:=ak hb
 refine WL.step (ah rfl) rfl rfl rfl (Go ?_);refine WL.az (aD Tryz.sizeOf23 rfl rfl bR (Nat.le_of_ble_eq_true rfl) rfl rfl) rfl rfl ?_
 rintro _ h3 ⟨bC,aS⟩
 refine Gn ?_;refine Gs [] ?_;refine G2 ?_;refine Gt ?_
 refine ⟨rfl,_,⟨bC,?_⟩,(aK.mono fun _ _ e=>.inr e).trans (aS.mono fun _ _ e=>.inl e),fun q hq=>lL.elim (fun e=>.inl (e▸hq)) (fun e=>.inr (by rw [e] at hq;injection hq with hq;omega))⟩
 have:=dv.ext aS (fun q hq e=>by subst e;exact lL.elim (fun e=>ep _ (e▸hq) rfl) (fun e=>by rw [e] at hq;injection hq with hq;omega))
 rw [List.length_append,show bK (l++m)=bK l++bK m from List.map_append ..]
 exact this
theorem wP (k:Fw h b ty v l) (hd:Nat) (he:(if ty=true then 1 else 0)=hd) (hl:hd+4≤l.length) (hm:l.length≤1000000):ai Tryz.prog 171 ⟨[.pointer (some ⟨b,0,none⟩)]⟩ h fun u h'=>u=.tuple ⟨[In (iN ((l.drop hd).take 4)),.bool true]⟩∧Ext No h h':=by
 have hb:=k.bB
 have ho:=k.own
 obtain ⟨B,d,rfl,_⟩:=id ho.slice
 have kh:=fun h'=>jx (h:=h') ty
 rw [he] at kh
 have kg:=fun h' (x:Ext No h h')=>FR l (ho.rd.av x) hd hl hm
 refine calls [(0,_)] Tryz.func171 rfl Tryz.ntmps171 rfl ⟨rfl,trivial⟩ ?_
 refine G2 ?_;refine WC.seq ?_;refine WC.cg (fun h'=>Ext No h h') 15 15 rfl dB ?_
 refine WH.tk 0 rfl (fun hq hC=>an rfl) rfl rfl rfl ?_
 refine WH.tk 1 rfl (fun hq hC=>ah rfl) rfl rfl rfl ?_
 refine WH.tk 2 rfl (fun hq hC=>ag rfl Tryz.underlying147 rfl Tryz.sizeOf23) rfl rfl rfl ?_
 refine WH.tk 3 rfl (fun hq hC=>aC Tryz.isAgg23 rfl (by first | exact hC.cell (by first | exact ab hb rfl | assumption) aQ)) rfl rfl rfl ?_
 refine WH.tk 4 rfl (fun hq hC=>an rfl) rfl rfl rfl ?_
 refine WH.tk 5 rfl (fun hq hC=>ah rfl) rfl rfl rfl ?_
 refine WH.tk 6 rfl (fun hq hC=>ag rfl Tryz.underlying147 rfl Tryz.sizeOf145) rfl rfl rfl ?_
 refine WH.tk 7 rfl (fun hq hC=>aA Tryz.isAgg145 Tryz.sizeOf145 rfl rfl (by exact At.pre (xs:=[_]) (ys:=[_,_,_,_]) ((At.ax hb).ext hC aQ))) rfl rfl rfl ?_
 refine WH.one 8 (by kernel_rfl) ?_
 refine aE.call (vs:=[_]) rfl rfl Tryz.call88 rfl (kh _) rfl rfl rfl ?_ (fun _=>by kernel_rfl)
 rintro _ h1 ⟨rfl,aB⟩
 refine ⟨fun _=>aB,?_⟩
 refine WH.one 9 (by kernel_rfl) ?_
 refine aE.call (vs:=[_,_,_]) rfl rfl Tryz.call176 rfl (kg _ aB) rfl rfl rfl ?_ (fun _=>by kernel_rfl)
 rintro _ hq ⟨rfl,hz⟩
 replace hz:=hz.symm
 subst hz
 refine ⟨fun _=>aB,?_⟩
 refine WH.tk 10 rfl (fun hq hC=>an rfl) rfl rfl rfl ?_
 refine WH.tk 11 rfl (fun hq hC=>bY rfl rfl) rfl rfl rfl ?_
 refine WH.tk 12 rfl (fun hq hC=>bY rfl rfl) rfl rfl rfl ?_
 refine WH.tk 13 rfl (fun hq hC=>aR rfl) rfl rfl rfl ?_
 refine WH.tk 14 rfl (fun hq hC=>aR rfl) rfl rfl rfl ?_
 refine WH.done (by kernel_rfl) ?_
 refine Gn ?_;refine Gs [(4,_),(5,_)] ?_;refine G2 ?_;refine Gs [(2,_),(3,_)] ?_;refine Gt ?_
 exact ⟨rfl,by first | exact aB | exact hC⟩
theorem sU (k:Fw h b ty v l) (n:Nat) (hn:4≤n∧n≤65536):ai Tryz.prog 172 ⟨[.pointer (some ⟨b,0,none⟩),In (n:Int)]⟩ h fun u h'=>u=In 0∧h'=h:=by
 have hb:=k.bB
 refine calls [(0,_),(1,_)] Tryz.func172 rfl Tryz.ntmps172 rfl ⟨rfl,rfl,trivial⟩ ?_
 refine G2 ?_;refine WC.seq ?_;refine WC.block ?_;refine G2 ?_
 refine aJ 1 2 ?_ TT.mk
 aa (refine ay 2 ?_)
 refine G2 ?_;refine WL.step (ah rfl) rfl rfl rfl (Go ?_);refine WL.ld rfl (by first | exact ab hb rfl | assumption) rfl rfl rfl (Go ?_)
 refine Gs [(8,_)] ?_
 refine aJ 3 4 ?_ TT.mk
 aa (refine ay 4 ?_)
 refine WC.skip ?_;refine Gn ?_;refine G2 ?_;refine Gt ?_
 first | exact ⟨rfl,rfl⟩ | (exfalso;omega)
theorem Az (k:Fw h b ty v l) (hd n:Nat) (he:(if ty=true then 1 else 0)=hd) (hn:iN ((l.drop hd).take 4)=(n:Int)) (h4:4≤n∧n≤65536) (hl:hd+n≤l.length) (hm:l.length≤1000000) :
   ai Tryz.prog 121 ⟨[.pointer (some ⟨b,0,none⟩)]⟩ h fun u h'=>u=.tuple ⟨[In ((hd+n:Nat):Int),.bool true,In 0]⟩∧Fw h' b ty v l∧Ext (fun q=>q=b) h h':=by
 have hb:=k.bB
 have lb:=ak hb
 have ks:=wP k hd he (by omega) hm
 rw [hn] at ks
 have kc:=fun (g:aj) (x:Ext No h g)=>sU (k.av x) n h4
 have kh:=fun h'=>jx (h:=h') ty
 rw [he] at kh
 obtain ⟨B,d,rfl,_⟩:=id k.own.slice
 refine calls [(0,_)] Tryz.func121 rfl Tryz.ntmps121 rfl ⟨rfl,trivial⟩ ?_
 refine G2 ?_;refine G3 ?_;refine WL.step (ah rfl) rfl rfl rfl (Go ?_);refine WL.ld rfl (by first | exact ab hb rfl | assumption) rfl rfl rfl (Go ?_)
 refine Gs [(0,_),(12,_)] ?_
 refine aJ 1 2 ?_ TT.mk
 aa (refine ay 2 ?_)
 refine WC.skip ?_;refine Gn ?_;refine G2 ?_;refine WL.call (vs:=[_]) rfl Tryz.call171 rfl (ks) rfl rfl rfl ?_
 rintro _ h1 ⟨rfl,aB⟩
 have aT:=aB.obj hb aQ
 refine Go ?_;refine Gs [(0,_),(5,_),(6,_)] ?_;refine G3 ?_
 refine aJ 3 4 ?_ TT.mk
 aa (refine ay 4 ?_)
 refine WC.skip ?_;refine Gn ?_;refine G3 ?_;refine WL.call (vs:=[_,_]) rfl Tryz.call172 rfl (kc _ aB) rfl rfl rfl ?_
 rintro _ hq ⟨rfl,hz⟩
 replace hz:=hz.symm
 subst hz
 refine WL.step (ah rfl) rfl rfl rfl (Go ?_);refine WL.az (aD Tryz.sizeOf48 rfl rfl aT (Nat.le_of_ble_eq_true rfl) rfl rfl) rfl rfl ?_
 rintro _ h2 ⟨bR,aK⟩
 have k2:Fw h2 b ty (.slice B l.length d) l:=⟨bR,(k.av aB).own.ext aK (k.av aB).ne⟩
 refine Gn ?_;refine Gs [(0,_),(5,_)] ?_;refine G2 ?_;refine WL.step (ah rfl) rfl rfl rfl (Go ?_);refine WL.ld rfl (by first | exact ab bR rfl | assumption) rfl rfl rfl (Go ?_)
 refine Gs [(0,_),(5,_),(34,_)] ?_
 refine aJ 5 6 ?_ TT.mk
 aa (refine ay 6 ?_)
 refine WC.skip ?_;refine Gn ?_;refine G2 ?_;refine WL.step (ah rfl) rfl rfl rfl (Go ?_);refine WL.step (aA Tryz.isAgg145 Tryz.sizeOf145 rfl rfl (by exact At.pre (xs:=[_]) (ys:=[_,_,_,_]) (At.ax bR))) rfl rfl rfl ?_
 refine WL.call (vs:=[_]) rfl Tryz.call88 rfl (kh _) rfl rfl rfl ?_
 rintro _ h3 ⟨rfl,aS⟩
 have k3:=k2.av aS
 have bC:=k3.bB
 have X3:Ext (fun q=>q=b) h h3:=(aB.mono fun _ _ e=>e.elim).trans (aK.trans (aS.mono fun _ _ e=>e.elim))
 refine Go ?_;refine Gs [(0,_),(7,_)] ?_;refine WC.seq ?_;refine WC.gu dB (by kernel_rfl) ?_
 refine WQ.aM (an rfl) rfl rfl rfl ?_;refine WQ.aM (an rfl) rfl rfl rfl ?_;refine WQ.aM (an rfl) rfl rfl rfl ?_;refine WQ.aM (ah rfl) rfl rfl rfl ?_;refine WQ.aM (ag rfl Tryz.underlying147 rfl Tryz.sizeOf23) rfl rfl rfl ?_;refine WQ.aM (aC Tryz.isAgg23 rfl (by first | exact ab bC rfl | assumption)) rfl rfl rfl ?_
 refine WQ.aM (cB rfl Tryz.underlying23 rfl) rfl rfl rfl ?_
 first | (refine WQ.aM (bW.fN (by omega) (nG rfl rfl)) rfl rfl rfl ?_)
 refine WQ.aM (aR rfl) rfl rfl rfl ?_;refine WQ.aM (aR rfl) rfl rfl rfl ?_;refine WQ.aM (aR rfl) rfl rfl rfl ?_;refine WQ.nil ?_;refine Gn ?_;refine Gs [(2,_),(3,_),(4,_)] ?_;refine Gt ?_
 exact ⟨rfl,k3,X3⟩
theorem AA (k:Fw h b ty v l):ai Tryz.prog 92 ⟨[.pointer (some ⟨b,0,none⟩)]⟩ h fun u h'=>u=.tuple ⟨[]⟩∧Fw h' b true v l∧Ext (fun q=>q=b) h h':=by
 have kr:=lh k
 have hb:=k.bB
 have ho:=k.own
 have ep:=k.ne
 obtain ⟨B,d,rfl,_⟩:=id ho.slice
 refine calls [(0,_)] Tryz.func92 rfl Tryz.ntmps92 rfl ⟨rfl,trivial⟩ ?_
 refine G2 ?_;refine WL.call (vs:=[_]) rfl Tryz.call85 rfl (kr) rfl rfl rfl ?_
 rintro _ hz ⟨rfl,_⟩
 subst hz
 refine Gn ?_
 refine aJ 1 2 ?_ TT.mk
 aa (refine ay 1 ?_)
 refine WC.region (Go ?_);refine WL.step (ah rfl) rfl rfl rfl (Go ?_);refine WL.az (aD Tryz.sizeOf4 rfl rfl hb (Nat.le_of_ble_eq_true rfl) rfl rfl) rfl rfl ?_
 rintro _ h3 ⟨bC,aS⟩
 refine Gn ?_;refine Gn ?_
 refine fQ [] trivial ?_
 exact ⟨rfl,⟨bC,ho.ext aS ep⟩,aS⟩
end
theorem Nj (l:List UInt8):∀ c∈bK l,c.oneCell'=true:=fun c hc=>by obtain ⟨b,_,rfl⟩:=List.mem_map.1 hc;rfl
theorem uZ {h:aj} {A:Option Addr} {c k:Nat} (l:List UInt8) (ho:Own h (.slice A l.length c) 5 1 l.length (bK l)) (hk:0 < k∧k≤l.length) (hm:l.length≤1000000) :
   ai Tryz.prog 87 ⟨[.slice A l.length c,In 0,In (k:Int)]⟩ h fun u h'=>Own h' u 5 1 (l.drop k).length (bK (l.drop k))∧Ext (fun b=>(Value.slice A l.length c).ownBlock=some b) h h'∧u.ownBlock=(Value.slice A l.length c).ownBlock:=by
 obtain ⟨b,c',cs,hv,hb,G9,rZ,pD,Dg⟩:=ho.block (by omega)
 simp only [Value.slice.injEq] at hv
 obtain ⟨rfl,_,rfl⟩:=hv
 simp only [Nat.mul_one] at pD Dg
 unfold maxLen at rZ
 have e3:(l.drop k).length=l.length - k:=List.length_drop ..
 have xT:=ho.rd.drop (l:=k) (by omega)
 refine calls [(0,_),(1,_),(2,_)] Tryz.func87 rfl Tryz.ntmps87 rfl ⟨rfl,rfl,rfl,trivial⟩ ?_
 refine G2 ?_;refine G2 ?_;refine WL.step (kT Tryz.underlying23 Tryz.sizeOf5 rfl rfl rfl rfl (by omega)) rfl rfl rfl ?_
 refine Gn ?_;refine Gs [(0,_),(1,_),(2,_)] ?_;refine G3 ?_
 refine aJ 1 2 ?_ TT.mk
 aa (refine ay 2 ?_)
 refine WC.skip ?_;refine Gn ?_;refine G2 ?_;refine Gs [(0,_),(1,_),(2,_),(7,_)] ?_;refine WC.seq ?_;refine WC.jO 6 dB (by kernel_rfl) ?_
 show WS _ _ _ [_,_,_,_,_,_] _ _ _
 refine WS.step (an rfl) rfl rfl rfl ?_;refine WS.step (an rfl) rfl rfl rfl ?_;refine WS.step (j1 Tryz.underlying23 Tryz.sizeOf5 rfl rfl (by omega)) rfl rfl rfl ?_
 refine WS.step (an rfl) rfl rfl rfl ?_;refine WS.step (an rfl) rfl rfl rfl ?_;refine WS.step (dY Tryz.underlying23 Tryz.sizeOf5 rfl rfl (by omega)) rfl rfl rfl ?_
 refine WS.nil ?_
 show WL _ _ _ [_,_] _ _ _
 refine WL.al (mC (sz:=1) rfl Tryz.underlying23 (show Tryz.prog.info? 5=some Tryz.t5 by kernel_rfl) rfl rfl rfl hb (by omega) xT (fun v hv=>Nj l v (List.mem_of_mem_drop hv)) (by omega)) rfl rfl rfl ?_
 rintro _ h2 ⟨rfl,bR,aK⟩
 simp only [Int.toNat_zero,List.take_zero,List.nil_append,Nat.zero_add,Nat.zero_mul,Nat.mul_one] at bR
 have e4:List.drop k (bK l)=bK (l.drop k):=by simp [bK]
 rw [e4] at bR
 have e5:(bK (l.drop k)).length=l.length - k:=by simp [bK]
 have e6:(bK (l.drop k)++List.drop (l.length - k) cs).length=c:=by rw [List.length_append,e5,List.length_drop,pD];omega
 refine WL.step (aR rfl) rfl rfl rfl ?_;refine WL.nil ?_;refine Gn ?_;refine Gs [(0,_),(7,_)] ?_;refine G2 ?_;refine WL.step (dk Tryz.underlying23 Tryz.sizeOf5 rfl rfl rfl (by omega)) rfl rfl rfl ?_
 refine WL.az (pF rfl Tryz.underlying23 (fun w=>Tryz.zeroValue5 w) rfl (by first | rfl | assumption | exact (if_neg (by omega)).trans (congrArg some (Addr.add_lit _ _ _))) (by omega) bR (by show 0+_ * 1+_ * 1≤_;simp [e3];omega) (by simp [Value.cells,Value.oneCell'])) rfl rfl ?_
 rintro _ h3 ⟨Rv,bC,x8,J1,aS⟩
 refine Gn ?_;refine Gs [(0,_)] ?_;refine G2 ?_;refine Gt ?_
 rw [e6] at x8
 refine ⟨?_,(aK.trans aS).mono (fun q _ e=>by simp [e,Value.ownBlock]),rfl⟩
 rw [e3]
 simp only [Int.toNat_zero,Nat.zero_add,Nat.mul_one] at J1 ⊢
 exact Own.ax (c:=c) bC (by omega) (by unfold maxLen;omega) (by rw [x8,Nat.mul_one]) (by rw [Nat.mul_one,J1 _ (by omega),List.take_append_of_le_length (by omega),List.take_of_length_le (by omega)])
def sV (ty : Bool) (l : List UInt8) : UInt8 := if ty = true then l.headD 0 else 0
section
variable {h h' : aj} {b : Nat} {ty : Bool} {v : Value} {l : List UInt8} {S : Nat → Prop}
set_option maxHeartbeats 2000000 in
set_option maxRecDepth 100000 in
theorem DU (k : Fw h b ty v l) (hd n : Nat) (he : (if ty = true then 1 else 0) = hd) (hn : iN ((l.drop hd).take 4) = (n : Int)) (h4 : 4 ≤ n ∧ n ≤ 65536) (hl : hd + n ≤ l.length) (hm : l.length ≤ 1000000) :
    ai Tryz.prog 86 ⟨[.pointer (some ⟨b, 0, none⟩)]⟩ h fun u h' => ∃ w, u = .tuple ⟨[.agg ⟨[By (sV ty l), w]⟩, .bool true, In 0]⟩ ∧ Own h' w 5 1 (n - 4) (bK ((l.drop (hd + 4)).take (n - 4))) ∧ Fw h' b ty v l ∧ Ext (fun q => q = b) h h' ∧ ∀ q, w.ownBlock = some q → h.size ≤ q := by
  have kr := fun (h' : aj) (k : Fw h' b ty v l) => lh k
  have kw := fun (h' : aj) (k : Fw h' b ty v l) => Az k hd n he hn h4 hl hm
  have kh := fun h' => jx (h := h') ty
  rw [he] at kh
  obtain ⟨B, d, rfl, _⟩ := id k.own.slice
  have I8 : ((l.drop (hd + 4)).take (n - 4)).length = n - 4 := by simp; omega
  have fS : l.length ≤ d := by
    obtain ⟨A1, c1, hv, fS, _⟩ := id k.own.rd
    simp only [Value.slice.injEq] at hv
    obtain ⟨_, _, rfl⟩ := hv
    exact fS
  obtain ⟨m, zq⟩ : ∃ m, m = (l.drop (hd + 4)).take (n - 4) := ⟨_, rfl⟩
  rw [← zq] at I8 ⊢
  have cap := fun (g : aj) (k : Fw g b ty (.slice B l.length d) l) (e : ty = true) => (show ∃ bb o, B = some ⟨bb, o, none⟩ ∧ At g bb o [By (sV ty l)] by
    obtain ⟨bb, o, eA, _, cX⟩ := Rd.at_ k.own.rd (by omega)
    subst e
    cases l with
    | nil => simp at hl; omega
    | cons x l => exact ⟨bb, o, eA, At.pre (xs := [By x]) cX⟩)
  cases ty
  aa
    refine calls [(0, _)] Tryz.func86 rfl Tryz.ntmps86 rfl ⟨rfl, trivial⟩ ?_
    aa (refine WC.sr ?_; refine WL.al (au (fun w => Tryz.zeroValue53 w)) rfl rfl rfl ?_; rintro _ h1 ⟨b1, rfl, b0, aT, aB⟩; have k1 := k.av aB; have lb := ak k.bB; refine Go ?_; refine WC.seq ?_; refine WC.sr ?_; refine Go ?_; refine WL.call (vs := [_]) rfl (fun a w => Tryz.call85 a w) rfl (kr _ k1) rfl rfl rfl ?_; rintro _ hq ⟨rfl, hz⟩; replace hz := hz.symm; subst hz; refine Go ?_; refine Gs [(0, _), (2, _), (11, _)] ?_; refine aJ 1 2 ?_ TT.mk; refine ay 2 ?_; refine WC.skip ?_; refine Gn ?_; refine WC.sr ?_; refine Go ?_; refine WL.call (vs := [_]) rfl (fun a w => Tryz.call121 a w) rfl (kw _ k1) rfl rfl rfl ?_; rintro _ h2 ⟨rfl, k2, aK⟩)
    aa (have bR := k2.bB
               have ca := aK.obj aT (fun e => by omega)
               have qC := (k2.own.rd.drop (l := hd + 4) (by omega)).take (k := n - 4) (by omega)
               have DJ : ((bK l).drop ((hd + 4) * 1)).take ((n - 4) * 1) = bK ((l.drop (hd + 4)).take (n - 4)) := by simp [bK]
               rw [DJ, ← zq, ← I8] at qC
               have Rx := ak bR
               have Ry := ak ca
               have X : Ext No h2 h2 := .refl _ _)
    aa (refine Go ?_; refine Gs [(0, _), (2, _), (5, _), (6, _), (7, _)] ?_; refine WC.seq ?_; refine WC.sr ?_; refine Go ?_; refine aJ 3 4 ?_ TT.mk; refine ay 4 ?_; refine WC.skip ?_; refine Gn ?_; refine Gs [(0, _), (2, _), (5, _)] ?_; refine WC.seq ?_; refine WC.cg (fun h' => Ext No h2 h') 15 16 rfl dB ?_; refine WH.tk 0 rfl (fun hq hC => an rfl) rfl rfl rfl ?_; refine WH.tk 1 rfl (fun hq hC => ah rfl) rfl rfl rfl ?_; refine WH.tk 2 rfl (fun hq hC => ag rfl Tryz.underlying147 rfl (fun w => Tryz.sizeOf23 w)) rfl rfl rfl ?_; refine WH.tk 3 rfl (fun hq hC => aC (fun w => Tryz.isAgg23 w) rfl (by first | exact hC.cell (by first | exact At.pre (xs := [_]) (ys := [_, _, _]) (At.tl ((At.ax bR).ext hC aQ)) | assumption | exact ab (by assumption) rfl) aQ)) rfl rfl rfl ?_; refine WH.tk 4 rfl (fun hq hC => an rfl) rfl rfl rfl ?_; refine WH.tk 5 rfl (fun hq hC => ah rfl) rfl rfl rfl ?_; refine WH.tk 6 rfl (fun hq hC => ag rfl Tryz.underlying147 rfl (fun w => Tryz.sizeOf145 w)) rfl rfl rfl ?_; refine WH.tk 7 rfl (fun hq hC => aA (fun w => Tryz.isAgg145 w) (fun w => Tryz.sizeOf145 w) rfl rfl (by exact At.pre (xs := [_]) (ys := [_, _, _, _]) ((At.ax bR).ext hC aQ))) rfl rfl rfl ?_; refine WH.tk 10 rfl (fun hq hC => an rfl) rfl rfl rfl ?_; refine WH.two 8 14 (by kernel_rfl) (Br.out (i := 5006) ?_) (Br.out (i := 5007) ?_))
    aa (first | (aW refine ay 5006 ?_) | (
    refine ay 5006 ?_
    aa (refine aE.call (vs := [_]) rfl rfl (fun a w => Tryz.call88 a w) rfl (kh _) rfl rfl rfl ?_ (fun _ => by kernel_rfl); rintro _ h3 ⟨rfl, aS⟩; replace X := X.trans aS; try (replace bP := aS.obj bP aQ))
    aa (refine ⟨fun _ => X, ?_⟩; refine WH.tk 9 rfl (fun hq hC => fy rfl rfl (by omega)) rfl rfl rfl ?_; refine WH.tk 11 rfl (fun hq hC => dk (l := hd + 4) (k := hd + n) Tryz.underlying23 (fun w => Tryz.sizeOf5 w) rfl rfl rfl (by omega)) rfl rfl rfl ?_; rw [show hd + n - (hd + 4) = m.length by omega])
    aa (refine WH.two 12 14 (by kernel_rfl) (Br.out (i := 5006) ?_) (Br.out (i := 5007) ?_))
    aa (first | (aW refine ay 5006 ?_) | (
    refine ay 5006 ?_
    aa (refine aE.call (vs := [_]) rfl rfl (fun a w => Tryz.call74 a w) rfl (lQ m (qC.av X) (by omega)) rfl rfl rfl ?_ (fun _ => by kernel_rfl); rintro w3 h4 ⟨how, bh, wQ⟩; (have wQ : ∀ q, w3.ownBlock = some q → h2.size ≤ q := fun q hq => by have := wQ q hq; have := X.size; omega); obtain ⟨A3, c3, rfl, _⟩ := id how.slice; replace X := X.trans bh; try (replace bP := bh.obj bP aQ))
    aa (refine ⟨fun _ => X, ?_⟩; refine WH.tk 13 rfl (fun hq hC => aH (vs := [_]) (cs := [_, _]) (fun | [a1] => [(.int .u8 0), a1] | _ => []) rfl rfl (by kernel_rfl)) rfl rfl rfl ?_; refine WH.one 14 (by kernel_rfl) ?_; refine aE.run rfl (au (fun w => Tryz.zeroValue53 w)) rfl rfl rfl ?_ (fun _ => by kernel_rfl); rintro _ h5 ⟨b8, rfl, Ha, bP, aO⟩; (have Ha : h2.size ≤ b8 := by have := X.size; omega); replace X := X.trans aO; try (replace how := how.ext aO (fun _ _ => aQ)))
    aa (refine ⟨fun _ => X, ?_⟩; refine WH.one 15 (by kernel_rfl) ?_; refine aE.cY rfl (aq (fun w => Tryz.sizeOf53 w) rfl rfl rfl bP rfl (by simp [Value.oneCell'])) rfl rfl ?_ (fun _ => by kernel_rfl); rintro _ h6 ⟨sW, aP⟩; have lS := aP.obj (X.obj bR aQ) (fun e => by omega); have nV := aP.obj (X.obj ca aQ) (fun e => by omega); have mX := how.ext aP (fun q hq e => bZ how bP (by decide) (e ▸ hq)); have Dh : Fw h6 b _ (.slice B l.length d) l := (k2.av X).ext aP (fun e => by omega) (fun q hq e => bZ (k2.av X).own bP (by decide) (e ▸ hq)); have X6 : Ext (fun q => q = b) h h6 := (aB.mono fun _ _ e => e.elim).trans (aK.trans ((X.trans' aP (fun q hq e => by omega)).mono fun _ _ e => e.elim)); have I9 := aB.size; have lL := aK.size; replace bP := sW; clear sW; refine ⟨fun e => (by cases e), ?_⟩; refine WH.done (by kernel_rfl) ?_)
    skip))
    aa (first | (aW refine ay 5007 ?_) | (
    refine ay 5007 ?_
    aa (refine aE.run rfl (au (fun w => Tryz.zeroValue53 w)) rfl rfl rfl ?_ (fun _ => by kernel_rfl); rintro _ h5 ⟨b8, rfl, Ha, bP, aO⟩; (have Ha : h2.size ≤ b8 := by have := X.size; omega); replace X := X.trans aO; try (replace how := how.ext aO (fun _ _ => aQ)))
    aa (refine ⟨fun _ => X, ?_⟩; refine WH.one 12 (by kernel_rfl) ?_; refine aE.call (vs := [_]) rfl rfl (fun a w => Tryz.call74 a w) rfl (lQ m (qC.av X) (by omega)) rfl rfl rfl ?_ (fun _ => by kernel_rfl); rintro w3 h4 ⟨how, bh, wQ⟩; (have wQ : ∀ q, w3.ownBlock = some q → h2.size ≤ q := fun q hq => by have := wQ q hq; have := X.size; omega); obtain ⟨A3, c3, rfl, _⟩ := id how.slice; replace X := X.trans bh; try (replace bP := bh.obj bP aQ))
    aa (refine ⟨fun _ => X, ?_⟩; refine WH.tk 13 rfl (fun hq hC => aH (vs := [_]) (cs := [_, _]) (fun | [a1] => [(.int .u8 0), a1] | _ => []) rfl rfl (by kernel_rfl)) rfl rfl rfl ?_; refine WH.one 15 (by kernel_rfl) ?_; refine aE.cY rfl (aq (fun w => Tryz.sizeOf53 w) rfl rfl rfl bP rfl (by simp [Value.oneCell'])) rfl rfl ?_ (fun _ => by kernel_rfl); rintro _ h6 ⟨sW, aP⟩; have lS := aP.obj (X.obj bR aQ) (fun e => by omega); have nV := aP.obj (X.obj ca aQ) (fun e => by omega); have mX := how.ext aP (fun q hq e => bZ how bP (by decide) (e ▸ hq)); have Dh : Fw h6 b _ (.slice B l.length d) l := (k2.av X).ext aP (fun e => by omega) (fun q hq e => bZ (k2.av X).own bP (by decide) (e ▸ hq)); have X6 : Ext (fun q => q = b) h h6 := (aB.mono fun _ _ e => e.elim).trans (aK.trans ((X.trans' aP (fun q hq e => by omega)).mono fun _ _ e => e.elim)); have I9 := aB.size; have lL := aK.size; replace bP := sW; clear sW; refine ⟨fun e => (by cases e), ?_⟩; refine WH.done (by kernel_rfl) ?_)
    skip))
    skip))
    aa (first | (aW refine ay 5007 ?_) | (
    refine ay 5007 ?_
    aa (refine aE.run rfl (au (fun w => Tryz.zeroValue53 w)) rfl rfl rfl ?_ (fun _ => by kernel_rfl); rintro _ h5 ⟨b8, rfl, Ha, bP, aO⟩; (have Ha : h2.size ≤ b8 := by have := X.size; omega); replace X := X.trans aO; try (replace how := how.ext aO (fun _ _ => aQ)))
    aa (refine ⟨fun _ => X, ?_⟩; refine WH.one 8 (by kernel_rfl) ?_; refine aE.call (vs := [_]) rfl rfl (fun a w => Tryz.call88 a w) rfl (kh _) rfl rfl rfl ?_ (fun _ => by kernel_rfl); rintro _ h3 ⟨rfl, aS⟩; replace X := X.trans aS; try (replace bP := aS.obj bP aQ))
    aa (refine ⟨fun _ => X, ?_⟩; refine WH.tk 9 rfl (fun hq hC => fy rfl rfl (by omega)) rfl rfl rfl ?_; refine WH.tk 11 rfl (fun hq hC => dk (l := hd + 4) (k := hd + n) Tryz.underlying23 (fun w => Tryz.sizeOf5 w) rfl rfl rfl (by omega)) rfl rfl rfl ?_; rw [show hd + n - (hd + 4) = m.length by omega])
    aa (refine WH.one 12 (by kernel_rfl) ?_; refine aE.call (vs := [_]) rfl rfl (fun a w => Tryz.call74 a w) rfl (lQ m (qC.av X) (by omega)) rfl rfl rfl ?_ (fun _ => by kernel_rfl); rintro w3 h4 ⟨how, bh, wQ⟩; (have wQ : ∀ q, w3.ownBlock = some q → h2.size ≤ q := fun q hq => by have := wQ q hq; have := X.size; omega); obtain ⟨A3, c3, rfl, _⟩ := id how.slice; replace X := X.trans bh; try (replace bP := bh.obj bP aQ))
    aa (refine ⟨fun _ => X, ?_⟩; refine WH.tk 13 rfl (fun hq hC => aH (vs := [_]) (cs := [_, _]) (fun | [a1] => [(.int .u8 0), a1] | _ => []) rfl rfl (by kernel_rfl)) rfl rfl rfl ?_; refine WH.one 15 (by kernel_rfl) ?_; refine aE.cY rfl (aq (fun w => Tryz.sizeOf53 w) rfl rfl rfl bP rfl (by simp [Value.oneCell'])) rfl rfl ?_ (fun _ => by kernel_rfl); rintro _ h6 ⟨sW, aP⟩; have lS := aP.obj (X.obj bR aQ) (fun e => by omega); have nV := aP.obj (X.obj ca aQ) (fun e => by omega); have mX := how.ext aP (fun q hq e => bZ how bP (by decide) (e ▸ hq)); have Dh : Fw h6 b _ (.slice B l.length d) l := (k2.av X).ext aP (fun e => by omega) (fun q hq e => bZ (k2.av X).own bP (by decide) (e ▸ hq)); have X6 : Ext (fun q => q = b) h h6 := (aB.mono fun _ _ e => e.elim).trans (aK.trans ((X.trans' aP (fun q hq e => by omega)).mono fun _ _ e => e.elim)); have I9 := aB.size; have lL := aK.size; replace bP := sW; clear sW; refine ⟨fun e => (by cases e), ?_⟩; refine WH.done (by kernel_rfl) ?_)
    skip))
    aa (refine Gn ?_; refine Gs [(0, _), (2, _), (8, _)] ?_; refine WC.seq ?_; refine WC.sr ?_; refine Go ?_; refine WL.step (ah rfl) rfl rfl rfl ?_; refine Go ?_; refine WL.ld rfl (by first | exact At.pre (xs := [_]) (ys := [_, _, _, _]) (At.ax lS) | assumption | exact ab (by assumption) rfl) rfl rfl rfl ?_; refine Gn ?_; refine Gs [(0, _), (2, _), (8, _), (41, _)] ?_; refine aJ 5 6 ?_ TT.mk)
    aa (first | (aW refine ay 5 ?_) | (
    refine ay 5 ?_
    aa (refine WC.region ?_; refine Go ?_; refine WL.step (ah rfl) rfl rfl rfl ?_; refine Go ?_; refine WL.ld rfl (by first | exact At.pre (xs := [_]) (ys := [_, _, _]) (At.tl (At.ax lS)) | assumption | exact ab (by assumption) rfl) rfl rfl rfl ?_; obtain ⟨bb, o, rfl, cX⟩ := cap _ Dh rfl; have Nk := cX.get (p := o + 0 * 1) 0 rfl (by omega); refine WL.step (aG Tryz.underlying23 (fun w => Tryz.sizeOf5 w) rfl rfl rfl (by first | omega | (simp <;> omega)) (by first | rfl | assumption) (k := 0)) rfl rfl rfl ?_; refine WL.ld rfl (by first | exact Nk | assumption | exact ab (by assumption) rfl) rfl rfl rfl ?_; refine Go ?_; refine WL.az (aD (fun w => Tryz.sizeOf5 w) rfl rfl bP (Nat.le_of_ble_eq_true rfl) rfl rfl) rfl rfl ?_; rintro _ h7 ⟨Nl, bu⟩; replace X6 := X6.trans' bu (fun q hq e => by omega); replace mX := mX.ext bu (fun q hq e => bZ mX bP (by decide) (e ▸ hq)); replace Dh := Dh.ext bu (fun e => by omega) (fun q hq e => bZ Dh.own bP (by decide) (e ▸ hq)); replace nV := bu.obj nV (fun e => by omega); replace bP := Nl; refine Gn ?_)
    skip))
    aa (first | (aW refine ay 6 ?_) | (
    refine ay 6 ?_
    aa (refine WC.skip ?_)
    skip))
    aa (refine Gn ?_; refine WC.sr ?_; refine WL.step (aA (fun w => Tryz.isAgg53 w) (fun w => Tryz.sizeOf53 w) rfl rfl (by exact At.ax bP)) rfl rfl rfl ?_; refine WL.az (aq (fun w => Tryz.sizeOf53 w) rfl rfl rfl nV rfl (by simp [Value.oneCell'])) rfl rfl ?_; rintro _ h9 ⟨ck, cl⟩; replace X6 := X6.trans' cl (fun q hq e => by omega); replace mX := mX.ext cl (fun q hq e => bZ mX nV (by decide) (e ▸ hq)); replace Dh := Dh.ext cl (fun e => by omega) (fun q hq e => bZ Dh.own nV (by decide) (e ▸ hq)); refine Go ?_; refine Gs [(2, _), (3, _), (4, _)] ?_; refine WC.ret ?_; repeat' (ae first | refine bq ?_ | refine ba ?_))
    aa (refine nL _ _ _ ⟨⟨_, rfl, bJ (fun w => Tryz.isAgg53 w) (fun w => Tryz.sizeOf53 w) (by assumption) rfl⟩, rfl, rfl, trivial⟩ ?_; exact ⟨_, rfl, I8 ▸ mX, Dh, X6, fun q hq => by have := wQ q hq; omega⟩)
end
section
variable {h h' : aj} {b : Nat} {ty : Bool} {v : Value} {l : List UInt8} {S : Nat → Prop}
set_option maxHeartbeats 2000000 in
set_option maxRecDepth 100000 in
theorem wR (k : Fw h b ty v l) (hd n : Nat) (he : (if ty = true then 1 else 0) = hd) (hn : iN ((l.drop hd).take 4) = (n : Int)) (h4 : 4 ≤ n ∧ n ≤ 65536) (hl : hd + n ≤ l.length) (hm : l.length ≤ 1000000) :
    ai Tryz.prog 53 ⟨[.pointer (some ⟨b, 0, none⟩)]⟩ h fun u h' => ∃ w v', u = .tuple ⟨[.agg ⟨[By (sV ty l), w]⟩, .bool true, In 0]⟩ ∧ Own h' w 5 1 (n - 4) (bK ((l.drop (hd + 4)).take (n - 4))) ∧ Fw h' b ty v' (l.drop (hd + n)) ∧ Ext (fun q => q = b ∨ v.ownBlock = some q) h h' ∧ (∀ q, w.ownBlock = some q → h.size ≤ q) ∧ v'.ownBlock = v.ownBlock := by
  have kp := fun (h' : aj) (k : Fw h' b ty v l) => DU k hd n he hn h4 hl hm
  have kh := fun h' => jx (h := h') ty
  rw [he] at kh
  have ep := k.ne
  have j3 : ∀ q, v.ownBlock = some q → q < h.size := fun q hq => k.own.lt hq
  obtain ⟨B, d, rfl, _⟩ := id k.own.slice
  obtain ⟨m, zq⟩ : ∃ m, m = (l.drop (hd + 4)).take (n - 4) := ⟨_, rfl⟩
  rw [← zq] at kp ⊢
  have kd := fun (h' : aj) (k : Fw h' b ty (.slice B l.length d) l) => uZ (k := hd + n) l k.own (by omega) hm
  refine calls [(0, _)] Tryz.func53 rfl Tryz.ntmps53 rfl ⟨rfl, trivial⟩ ?_
  refine WC.sr ?_
  refine WL.al (au (fun w => Tryz.zeroValue53 w)) rfl rfl rfl ?_
  rintro _ h1 ⟨b1, rfl, b0, aT, aB⟩
  have k1 := k.av aB
  have lb := ak k.bB
  refine Go ?_
  refine WC.sr ?_
  refine Go ?_
  refine WL.call (vs := [_]) rfl (fun a w => Tryz.call86 a w) rfl (kp _ k1) rfl rfl rfl ?_
  rintro _ h2 ⟨w2, rfl, how, k2, aK, wQ⟩
  obtain ⟨A2, c2, rfl, _⟩ := id how.slice
  have ca := aK.obj aT (fun e => by omega)
  have l1 := aB.size
  have l2 := aK.size
  refine Go ?_
  refine WL.al (au (fun w => Tryz.zeroValue53 w)) rfl rfl rfl ?_
  rintro _ h3 ⟨b5, rfl, r6, cd, aS⟩
  refine WL.az (aq (fun w => Tryz.sizeOf53 w) rfl rfl rfl cd rfl (by simp [Value.oneCell'])) rfl rfl ?_
  rintro _ h4 ⟨sX, bh⟩
  have X : Ext No h2 h4 := aS.trans' bh (fun q hq e => by omega)
  have k4 := k2.av X
  have Nn := how.ext X (fun _ _ => aQ)
  have bT := X.obj ca aQ
  have qR := k4.bB
  have l4 := X.size
  clear aT ca cd aS bh
  have nB : (Value.slice B l.length d).ownBlock ≠ some b := fun e => ep b e rfl
  have Mh : (Value.slice B l.length d).ownBlock ≠ some b5 := fun e => by have := j3 b5 e; omega
  refine Go ?_
  refine Gs [(0, _), (2, _), (5, _), (6, _), (7, _)] ?_
  refine WC.seq ?_
  refine WC.sr ?_
  refine Go ?_
  refine aJ 1 2 ?_ TT.mk
  aa (refine ay 1 ?_)
  refine WC.cg (fun h' => Ext (fun q => (Value.slice B l.length d).ownBlock = some q) h4 h') 18 19 rfl dB ?_
  refine WH.tk 0 rfl (fun hq hC => an rfl) rfl rfl rfl ?_
  refine WH.tk 1 rfl (fun hq hC => an rfl) rfl rfl rfl ?_
  refine WH.tk 2 rfl (fun hq hC => ah rfl) rfl rfl rfl ?_
  refine WH.tk 3 rfl (fun hq hC => ag rfl Tryz.underlying147 rfl (fun w => Tryz.sizeOf23 w)) rfl rfl rfl ?_
  refine WH.tk 4 rfl (fun hq hC => aC (fun w => Tryz.isAgg23 w) rfl (by first | exact hC.cell (by first | exact At.pre (xs := [_]) (ys := [_, _, _]) (At.tl ((At.ax qR).ext hC nB)) | assumption | exact ab (by assumption) rfl) (by first | exact nB | exact Mh))) rfl rfl rfl ?_
  refine WH.tk 5 rfl (fun hq hC => an rfl) rfl rfl rfl ?_
  refine WH.tk 6 rfl (fun hq hC => ah rfl) rfl rfl rfl ?_
  refine WH.tk 7 rfl (fun hq hC => ag rfl Tryz.underlying147 rfl (fun w => Tryz.sizeOf145 w)) rfl rfl rfl ?_
  refine WH.tk 8 rfl (fun hq hC => aA (fun w => Tryz.isAgg145 w) (fun w => Tryz.sizeOf145 w) rfl rfl (by exact At.pre (xs := [_]) (ys := [_, _, _, _]) ((At.ax qR).ext hC nB))) rfl rfl rfl ?_
  refine WH.tk 11 rfl (fun hq hC => ag rfl Tryz.underlying53 rfl (fun w => Tryz.sizeOf23 w)) rfl rfl rfl ?_
  refine WH.tk 12 rfl (fun hq hC => aC (fun w => Tryz.isAgg23 w) rfl (by first | exact hC.cell (by first | exact At.pre (xs := [_]) (ys := []) (At.tl ((At.ax sX).ext hC Mh)) | assumption | exact ab (by assumption) rfl) (by first | exact nB | exact Mh))) rfl rfl rfl ?_
  refine WH.tk 13 rfl (fun hq hC => cB rfl Tryz.underlying23 rfl) rfl rfl rfl ?_
  refine WH.one 9 (by kernel_rfl) ?_
  refine aE.call (vs := [_]) rfl rfl (fun a w => Tryz.call88 a w) rfl (kh _) rfl rfl rfl ?_ (fun _ => by kernel_rfl)
  rintro _ h5 ⟨rfl, aO⟩
  have FU : Ext (fun q => (Value.slice B l.length d).ownBlock = some q) h4 h5 := aO.mono fun _ _ e => e.elim
  refine ⟨fun _ => FU, ?_⟩
  refine WH.tk 10 rfl (fun hq hC => fy rfl rfl (by omega)) rfl rfl rfl ?_
  refine WH.tk 14 rfl (fun hq hC => fy rfl rfl (by omega)) rfl rfl rfl ?_
  rw [show (hd : Int) + 4 + ((n - 4 : Nat) : Int) = ((hd + n : Nat) : Int) by omega]
  refine WH.one 15 (by kernel_rfl) ?_
  refine aE.call (vs := [_, _, _]) rfl rfl (fun a w => Tryz.call87 a w) rfl (kd _ (k4.av aO)) rfl rfl rfl ?_ (fun _ => by kernel_rfl)
  rintro v6 h6 ⟨gT, aP, jg⟩
  obtain ⟨B6, d6, rfl, _⟩ := id gT.slice
  have lS := aP.obj (k4.av aO).bB nB
  have Ja : Ext (fun q => (Value.slice B l.length d).ownBlock = some q) h4 h6 := (aO.mono fun _ _ e => e.elim).trans aP
  have mX := Nn.ext Ja (fun q hq e => by have := wQ q hq; have := j3 q e; omega)
  have dK := Ja.obj bT (fun e => by have := j3 b1 e; omega)
  have Hc := Ja.obj sX Mh
  refine ⟨fun _ => by first | assumption | trivial, ?_⟩
  refine WH.one 16 (by kernel_rfl) ?_
  refine aE.run rfl (bW.r (ah rfl)) rfl rfl rfl ?_ (fun _ => by kernel_rfl)
  rintro _ hz ⟨rfl, _⟩
  subst hz
  refine ⟨fun _ => by first | assumption | trivial, ?_⟩
  refine WH.one 17 (by kernel_rfl) ?_
  refine aE.run rfl (bW.r (ag rfl Tryz.underlying147 rfl (fun w => Tryz.sizeOf23 w))) rfl rfl rfl ?_ (fun _ => by kernel_rfl)
  rintro _ hz ⟨rfl, _⟩
  subst hz
  refine ⟨fun _ => by first | assumption | trivial, ?_⟩
  refine WH.one 18 (by kernel_rfl) ?_
  refine aE.cY rfl (aD (fun w => Tryz.sizeOf23 w) rfl rfl lS (Nat.le_of_ble_eq_true rfl) rfl rfl) rfl rfl ?_ (fun _ => by kernel_rfl)
  rintro _ h7 ⟨Hd, bu⟩
  have k7 : Fw h7 b ty (.slice B6 (l.drop (hd + n)).length d6) (l.drop (hd + n)) := ⟨Hd, gT.ext bu (fun q hq e => nB (by rw [← jg]; exact e ▸ hq))⟩
  have J2 := mX.ext bu (fun q hq e => bZ mX lS (by decide) (e ▸ hq))
  have lT := bu.obj dK (fun e => by omega)
  have He := bu.obj Hc (fun e => by omega)
  have X7 : Ext (fun q => q = b ∨ (Value.slice B l.length d).ownBlock = some q) h h7 := (aB.mono fun _ _ e => e.elim).trans ((aK.mono fun _ _ e => .inl e).trans ((X.mono fun _ _ e => e.elim).trans ((Ja.mono fun _ _ e => .inr e).trans (bu.mono fun _ _ e => .inl e))))
  refine ⟨fun e => (by cases e), ?_⟩
  refine WH.done (by kernel_rfl) ?_
  refine Gn ?_
  refine WC.sr ?_
  refine WL.step (aA (fun w => Tryz.isAgg53 w) (fun w => Tryz.sizeOf53 w) rfl rfl (by exact At.ax He)) rfl rfl rfl ?_
  refine Go ?_
  refine WL.az (aq (fun w => Tryz.sizeOf53 w) rfl rfl rfl lT rfl (by simp [Value.oneCell'])) rfl rfl ?_
  rintro _ h8 ⟨gl, bH⟩
  refine Go ?_
  refine Gs [(2, _), (3, _), (4, _)] ?_
  refine WC.ret ?_
  repeat' (ae first | refine bq ?_ | refine ba ?_)
  refine nL _ _ _ ⟨⟨_, rfl, bJ (fun w => Tryz.isAgg53 w) (fun w => Tryz.sizeOf53 w) (by assumption) rfl⟩, rfl, rfl, trivial⟩ ?_
  exact ⟨_, _, rfl, J2.ext bH (fun q hq e => bZ J2 lT (by decide) (e ▸ hq)), k7.ext bH (fun e => by omega) (fun q hq e => bZ k7.own lT (by decide) (e ▸ hq)), X7.trans' bH (fun q hq e => by omega), fun q hq => by have := wQ q hq; omega, jg⟩
end
structure Sc (h:aj) (b:Nat) (v:Value) (l:List UInt8):Prop where
 bB:h[b]?=some (.cells ⟨[v,.bool false,.bool true]⟩ 199 (0,0))
 rd:Rd h v 1 l.length (bK l)
 ne:∀ q,v.ownBlock=some q→q ≠ b
section
variable {h h':aj} {b:Nat} {v:Value} {l:List UInt8} {S:Nat→Prop}
theorem Sc.ext (k:Sc h b v l) (x:Ext S h h') (h1:¬ S b) (h2:∀ q,v.ownBlock=some q→¬ S q):Sc h' b v l:=⟨x.obj k.bB h1,k.rd.ext x h2,k.ne⟩
theorem j8 {h:aj} (l:List UInt8) (hr:Rd h v 1 l.length (bK l)) (hm:l.length≤1000000):ai Tryz.prog 127 ⟨[v]⟩ h fun u h'=>Own h' u 5 1 l.length (bK l)∧Ext No h h'∧(∀ k,u.ownBlock=some k→h.size≤k):=by
 obtain ⟨A,c,rfl,_⟩:=id hr
 cases A with
 | none =>
   have h0:l=[]:=by
     cases l with
     | nil=>rfl
     | cons a l=>obtain ⟨b,o,e,_⟩:=Rd.at_ hr (by simp);cases e
   subst h0
   refine calls [(0,_)] Tryz.func127 rfl Tryz.ntmps127 rfl ⟨rfl,trivial⟩ ?_
   refine G2 ?_;refine G3 ?_;refine WL.step (dc Tryz.underlying23 rfl rfl) rfl rfl rfl ?_;refine Gn ?_
   refine aJ 1 2 ?_ TT.mk
   aa (refine ay 1 ?_)
   refine G2 ?_;refine Gt ?_
   exact ⟨Own.nil _ _ _,.refl _ _,by simp [Value.ownBlock]⟩
 | some a =>
   refine calls [(0,_)] Tryz.func127 rfl Tryz.ntmps127 rfl ⟨rfl,trivial⟩ ?_
   refine G2 ?_;refine G3 ?_;refine WL.step (dc Tryz.underlying23 rfl rfl) rfl rfl rfl ?_;refine Gn ?_
   refine aJ 1 2 ?_ TT.mk
   aa (refine ay 2 ?_)
   refine WC.skip ?_;refine Gn ?_;refine WC.sr ?_;refine WL.al (aw (vs:=[]) (cs:=[]) (fun _=>[]) Tryz.underlying23 rfl rfl (by kernel_rfl)) rfl rfl rfl ?_
   rintro _ h1 ⟨b1,rfl,b0,aT,aB⟩
   refine Go ?_
   have rY:=hr.av aB
   refine WL.al (aX (sz:=1) (bytes:=1) rfl Tryz.underlying23 (show Tryz.prog.info? 5=some Tryz.t5 by kernel_rfl) rfl rfl rfl rfl (by decide) rfl rfl (dR aT rfl (by simp [maxLen])) rY (by intro c hc;obtain ⟨b,_,rfl⟩:=List.mem_map.1 hc;rfl) (by simp only [maxLen];omega) (by omega)) rfl rfl rfl ?_
   rintro v2 h2 ⟨dv,aK,lL⟩
   refine Go ?_;refine Gs [(2,_)] ?_;refine Gt ?_
   exact ⟨by simpa using dv,aB.trans' aK (fun k hk e=>by simp [Value.ownBlock] at e;omega),cb lL (fun k hk=>by simp [Value.ownBlock] at hk;omega) aB.size⟩
theorem AB {w:Value} (l:List UInt8) (hr:Rd h w 1 l.length (bK l)) (hm:l.length≤1000000):ai Tryz.prog 94 ⟨[w]⟩ h fun u h'=>∃ b v,u=.pointer (some ⟨b,0,none⟩)∧Sc h' b v l∧Ext No h h'∧h.size≤b∧∀ q,v.ownBlock=some q→h.size≤q:=by
 refine calls [(0,_)] Tryz.func94 rfl Tryz.ntmps94 rfl ⟨rfl,trivial⟩ ?_
 refine G2 ?_;refine G2 ?_;refine WL.call (vs:=[_]) rfl Tryz.call127 rfl (j8 l hr hm) rfl rfl rfl ?_
 rintro v1 h1 ⟨kE,aB,iO⟩
 obtain ⟨A1,c1,rfl,_⟩:=id kE.slice
 refine WL.step (aH (vs:=[_,_]) (cs:=[_,_,_]) (fun | [a0,a2]=>[a0,(.bool false),a2] | _=>[]) rfl rfl (by kernel_rfl)) rfl rfl rfl ?_
 refine WL.al (aI rfl) rfl rfl rfl ?_
 rintro _ h2 ⟨b2,rfl,gI,bR,aK⟩
 refine Go ?_;refine Gs [(2,_)] ?_;refine Gt ?_
 exact ⟨b2,_,rfl,⟨bR,(kE.ext aK (fun _ _=>aQ)).rd,fun q hq e=>by have:=kE.lt hq;omega⟩,aB.trans aK,by have:=aB.size;omega,iO⟩
theorem jy (k:Sc h b v l):ai Tryz.prog 132 ⟨[.pointer (some ⟨b,0,none⟩)]⟩ h fun u h'=>u=.bool true∧h'=h:=by
 have hb:=k.bB
 refine calls [(0,_)] Tryz.func132 rfl Tryz.ntmps132 rfl ⟨rfl,trivial⟩ ?_
 refine G2 ?_;refine G2 ?_;refine WL.step (ej Tryz.underlying158 rfl rfl) rfl rfl rfl (Go ?_)
 refine bU 5 ?_ TT.mk
 refine Gg ?_;refine WL.step (ah rfl) rfl rfl rfl ?_;refine Gg ?_;refine WL.ld rfl (by first | exact ab hb rfl | assumption) rfl rfl rfl (Go ?_)
 refine bU 11 ?_ TT.mk
 refine Gg ?_;refine WL.step (ah rfl) rfl rfl rfl ?_;refine Gg ?_;refine WL.ld rfl (by first | exact ab hb rfl | assumption) rfl rfl rfl ?_
 refine Gg ?_;refine Go ?_;refine Gs [(2,_)] ?_;refine Gt ?_
 exact ⟨rfl,rfl⟩
theorem Rd.AD {A:Option Addr} {n c sz:Nat} {xs:List Value} (r:Rd h (.slice A n c) sz n xs):Rd h (.slice A n n) sz n xs:=by
 obtain ⟨A1,c1,e,hc,hl,hp⟩:=r
 simp only [Value.slice.injEq] at e
 obtain ⟨rfl,_,rfl⟩:=e
 exact ⟨_,_,rfl,Nat.le_refl _,hl,hp⟩
theorem qS {A:Option Addr} {n m c d k:Nat} {p:Prop} [Decidable p] {q:Nat} (e:(Value.slice (if p then A else A.map (·.add k)) m d).ownBlock=some q):(Value.slice A n c).ownBlock=some q:=by
 cases A with
 | none=>split at e <;> cases e
 | some a=>split at e <;> (simp only [Value.ownBlock,Option.map_some,Option.some.injEq,Addr.add] at e ⊢;first | exact e | (split at e <;> exact e))
theorem AE {A:Option Addr} {n m c d q:Nat} (e:(Value.slice A m d).ownBlock=some q):(Value.slice A n c).ownBlock=some q:=by cases A <;> exact e
theorem AF (k:Sc h b v l) (n:Nat) (hn:n≤l.length) (hm:l.length≤1000000):ai Tryz.prog 175 ⟨[.pointer (some ⟨b,0,none⟩),In (n:Int)]⟩ h fun u h'=>∃ A c v',u=.tuple ⟨[.slice A n c,.bool true]⟩∧Rd h' (.slice A n c) 1 n (bK (l.take n))∧Sc h' b v' (l.drop n)∧Ext (fun q=>q=b) h h':=by
 have kg:=fun (h':aj) (k:Sc h' b v l)=>jy k
 have hb:=k.bB
 have hr:=k.rd
 have ep:=k.ne
 obtain ⟨A,c,rfl,fS,_⟩:=id hr
 refine calls [(0,_),(1,_)] Tryz.func175 rfl Tryz.ntmps175 rfl ⟨rfl,rfl,trivial⟩ ?_
 refine G2 ?_;refine G3 ?_;refine WL.call (vs:=[_]) rfl Tryz.call132 rfl (kg _ k) rfl rfl rfl ?_
 rintro _ hq ⟨rfl,hz⟩
 replace hz:=hz.symm
 subst hz
 refine Go ?_
 refine bU 10 ?_ TT.mk
 refine Gg ?_;refine Go ?_
 refine bU 14 ?_ TT.mk
 refine Gg ?_;refine WL.step (ah rfl) rfl rfl rfl ?_;refine Gg ?_;refine WL.ld rfl (by first | exact ab hb rfl | assumption) rfl rfl rfl ?_
 refine Gg ?_;refine Go ?_;refine Gs [(0,_),(1,_),(22,_)] ?_
 refine aJ 1 2 ?_ TT.mk
 aa (refine ay 2 ?_)
 refine WC.skip ?_;refine Gn ?_;refine G2 ?_;refine WL.step (ah rfl) rfl rfl rfl (Go ?_);refine WL.ld rfl (by first | exact ab hb rfl | assumption) rfl rfl rfl (Go ?_)
 refine WL.step (fD Tryz.underlying23 Tryz.sizeOf5 rfl rfl rfl (by omega)) rfl rfl rfl (Go ?_)
 refine Gs [(0,_),(1,_),(6,_)] ?_;refine G2 ?_;refine WL.step (ah rfl) rfl rfl rfl (Go ?_);refine WL.ld rfl (by first | exact ab hb rfl | assumption) rfl rfl rfl (Go ?_)
 refine WL.step (dY Tryz.underlying23 Tryz.sizeOf5 rfl rfl (by omega)) rfl rfl rfl ?_
 refine WL.step (ah rfl) rfl rfl rfl (Go ?_);refine WL.az (aD Tryz.sizeOf23 rfl rfl hb (Nat.le_of_ble_eq_true rfl) rfl rfl) rfl rfl ?_
 rintro _ h2 ⟨bR,aK⟩
 refine Gn ?_;refine Gs [(6,_)] ?_;refine G2 ?_;refine Gt ?_
 have r1:=Rd.AD (hr.take hn)
 have r2:=hr.drop hn
 rw [show (bK l).take (n * 1)=bK (l.take n) by simp [bK]] at r1
 rw [show (bK l).drop (n * 1)=bK (l.drop n) by simp [bK]] at r2
 have n2:∀ q,(Value.slice (if c=n then A else A.map (fun x=>x.add (n * 1))) (l.length - n) (c - n)).ownBlock=some q→q ≠ b:=fun q hq=>ep q (qS hq)
 exact ⟨A,n,_,rfl,r1.ext aK (fun q hq=>ep q (AE hq)),⟨bR,by rw [List.length_drop];exact r2.ext aK n2,n2⟩,aK⟩
theorem Hf (k:Sc h b v l) (hn:4≤l.length) (hm:l.length≤1000000):ai Tryz.prog 122 ⟨[.pointer (some ⟨b,0,none⟩),In 4]⟩ h fun u h'=>∃ v',u=In (iN (l.take 4))∧Sc h' b v' (l.drop 4)∧Ext (fun q=>q=b) h h':=by
 have kc:=fun (h':aj) (k:Sc h' b v l)=>AF k 4 hn hm
 have kr:=fun (h':aj)=>qJ (h:=h') 0 4 (.inr (.inr rfl)) (by unfold Rt;decide)
 have h4:(l.take 4).length=4:=by simp;omega
 have kn:=fun (h':aj) (A:Option Addr) (c:Nat) (r:Rd h' (.slice A 4 c) 1 4 (bK (l.take 4)))=>FR (l.take 4) (A:=A) (c:=c) (by rw [h4];exact r) 0 (by omega) (by omega)
 simp only [h4,List.drop_zero,List.take_take,Nat.min_self] at kn
 refine calls [(0,_),(1,_)] Tryz.func122 rfl Tryz.ntmps122 rfl ⟨rfl,rfl,trivial⟩ ?_
 refine G2 ?_;refine G3 ?_;refine WL.call (vs:=[_,_]) rfl Tryz.call173 rfl (kr _) rfl rfl rfl ?_
 rintro _ hq ⟨rfl,hz⟩
 replace hz:=hz.symm
 subst hz
 refine Go ?_
 refine aJ 1 2 ?_ TT.mk
 aa (refine ay 2 ?_)
 refine WC.skip ?_;refine Gn ?_;refine Gs [(0,_),(1,_)] ?_;refine G2 ?_;refine WL.call (vs:=[_,_]) rfl Tryz.call175 rfl (kc _ k) rfl rfl rfl ?_
 rintro _ h2 ⟨A2,c2,v2,rfl,r2,k2,aK⟩
 refine Go ?_;refine Gs [(0,_),(1,_),(5,_),(6,_)] ?_;refine G3 ?_
 refine aJ 3 4 ?_ TT.mk
 aa (refine ay 4 ?_)
 refine WC.skip ?_;refine Gn ?_;refine G2 ?_;refine WL.call (vs:=[_,_,_]) rfl Tryz.call176 rfl (kn _ _ _ r2) rfl rfl rfl ?_
 rintro _ hq ⟨rfl,hz⟩
 replace hz:=hz.symm
 subst hz
 refine Go ?_;refine Gs [(0,_),(7,_),(8,_)] ?_;refine G3 ?_
 refine aJ 5 6 ?_ TT.mk
 aa (refine ay 6 ?_)
 refine WC.skip ?_;refine Gn ?_;refine Gs [(7,_)] ?_;refine G2 ?_;refine Gt ?_
 exact ⟨_,rfl,k2,aK⟩
theorem wS (k:Sc h b v []):ai Tryz.prog 96 ⟨[.pointer (some ⟨b,0,none⟩)]⟩ h fun u h'=>u=.bool true∧h'=h:=by
 have kg:=jy k
 have hb:=k.bB
 obtain ⟨A,c,rfl,_⟩:=id k.rd
 refine calls [(0,_)] Tryz.func96 rfl Tryz.ntmps96 rfl ⟨rfl,trivial⟩ ?_
 refine G2 ?_;refine G2 ?_;refine WL.call (vs:=[_]) rfl Tryz.call132 rfl (kg) rfl rfl rfl ?_
 rintro _ hq ⟨rfl,hz⟩
 replace hz:=hz.symm
 subst hz
 refine Go ?_
 refine bU 5 ?_ TT.mk
 refine Gg ?_;refine WL.step (ah rfl) rfl rfl rfl ?_;refine Gg ?_;refine WL.ld rfl (by first | exact ab hb rfl | assumption) rfl rfl rfl ?_
 refine Gg ?_;refine Go ?_;refine Gs [(2,_)] ?_;refine Gt ?_
 exact ⟨rfl,rfl⟩
theorem qT (s r:List UInt8) (hs:Lib.indexByte (s++0 :: r) 0=s.length) (k:Sc h b v (s++0 :: r)) (hm:(s++0 :: r).length≤1000000):ai Tryz.prog 128 ⟨[.pointer (some ⟨b,0,none⟩)]⟩ h fun u h'=>∃ v',u=St s∧Sc h' b v' r∧Ext (fun q=>q=b) h h':=by
 have kg:=fun (h':aj) (k:Sc h' b v (s++0 :: r))=>jy k
 have kc:=fun (h':aj) (k:Sc h' b v (s++0 :: r))=>AF k (s.length+1) (by simp) hm
 have hb:=k.bB
 have ki:=dM _ 0 k.rd (by simp;omega)
 rw [hs] at ki
 have e1:(s++0 :: r).drop (s.length+1)=r:=by rw [List.drop_append];simp
 have e2:(s++0 :: r).take (s.length+1)=s++[0]:=by rw [List.take_append,List.take_of_length_le (by omega)];simp
 rw [e1,e2] at kc
 have DV:s.length+1≤1000000:=by simp at hm;omega
 refine calls [(0,_)] Tryz.func128 rfl Tryz.ntmps128 rfl ⟨rfl,trivial⟩ ?_
 refine G2 ?_;refine G3 ?_;refine WL.call (vs:=[_]) rfl Tryz.call132 rfl (kg _ k) rfl rfl rfl ?_
 rintro _ hq ⟨rfl,hz⟩
 replace hz:=hz.symm
 subst hz
 refine Go ?_
 refine aJ 1 2 ?_ TT.mk
 aa (refine ay 2 ?_)
 refine WC.skip ?_;refine Gn ?_;refine Gs [(0,_)] ?_;refine G2 ?_;refine WL.step (ah rfl) rfl rfl rfl (Go ?_);refine WL.ld rfl (by first | exact ab hb rfl | assumption) rfl rfl rfl ?_
 refine WL.call (vs:=[_,_]) rfl Tryz.call126 rfl (ki) rfl rfl rfl ?_
 rintro _ hq ⟨rfl,hz⟩
 replace hz:=hz.symm
 subst hz
 refine Go ?_;refine Gs [(0,_),(3,_)] ?_;refine G3 ?_
 refine aJ 3 4 ?_ TT.mk
 aa (refine ay 4 ?_)
 refine WC.skip ?_;refine Gn ?_;refine G2 ?_
 rw [show ((s.length:Int)+1)=((s.length+1:Nat):Int) from rfl]
 refine WL.call (vs:=[_,_]) rfl Tryz.call175 rfl (kc _ k) rfl rfl rfl ?_
 rintro _ h2 ⟨A2,c2,v2,rfl,r2,k2,aK⟩
 have r3:=r2.take (k:=s.length) (by omega)
 rw [show (bK (s++[0])).take (s.length * 1)=bK s by simp [bK]] at r3
 have fS:s.length+1≤c2:=by obtain ⟨A1,c1,hv,fS,_⟩:=id r2;simp only [Value.slice.injEq] at hv;obtain ⟨_,_,rfl⟩:=hv;exact fS
 refine Go ?_;refine Gs [(3,_),(4,_)] ?_;refine G2 ?_;refine WL.step (mB Tryz.underlying23 Tryz.sizeOf5 rfl rfl (by omega)) rfl rfl rfl ?_
 refine WL.step (dZ Tryz.underlying23 Tryz.underlying5 Tryz.underlying9 rfl r3) rfl rfl rfl (Go ?_);refine Gs [(2,_)] ?_;refine Gt ?_
 exact ⟨_,rfl,k2,aK⟩
end
end Go.Proofs.YtopgddfgefnmbaaGreatDoor
namespace Go.RK
open Go
variable {H:Type} {enc:TypeId × Value→H}
def qU (Q:fi):fi
 | .goto _,_,_=>False
 | e,f,h=>Q e f h
section
variable {P:Program} {n:Env} {Q:fi} {f:Fr} {h:aj}
theorem WC.scope {c:Code} (hc:WC P n c (qU Q) f h) (I3:n.ro=Option.none:=by rfl):WC P n (.scope c) Q f h:=fun a w ha hw=>by
 obtain ⟨m,ds,ro⟩:=n
 obtain rfl:ro=Option.none:=I3
 exact wpIn_wide.2 (wp_scope_straight (Go.wp_mono (wpIn_wide.1 (hc a w ha hw)) fun e _ _ ⟨hl,hs,g,hg,q⟩=>by
   cases e <;> first | exact ⟨hl,hs,g,hg,q⟩ | exact q.elim))
theorem ez (hq:Q .normal f h):qU Q .normal f h:=hq
theorem AG {i:Nat} (hq:Q (.exit i) f h):qU Q (.exit i) f h:=hq
theorem AH (hq:Q .ret f h):qU Q .ret f h:=hq
end
end Go.RK
namespace Go.Proofs.YtopgddfgefnmbaaGreatDoor
open Go Go.RK
abbrev sY:List UInt8:=[117,115,101,114,0,117,0,0]
theorem AJ {h:aj} {b:Nat} {v:Value} (k:Sc h b v sY):ai Tryz.prog 123 ⟨[.pointer (some ⟨b,0,none⟩)]⟩ h fun u h'=>∃ v',Own h' u 59 2 1 [St je,St uL]∧Sc h' b v' []∧Ext (fun q=>q=b) h h'∧∀ q,u.ownBlock=some q→h.size≤q:=by
 have k1:=fun (h':aj) (k:Sc h' b v sY)=>qT je [117,0,0] (by decide) k (by decide)
 have k2:=fun (h':aj) (v:Value) (k:Sc h' b v [117,0,0])=>qT uL [0] (by decide) k (by decide)
 have k3:=fun (h':aj) (v:Value) (k:Sc h' b v [0])=>qT [] [] (by decide) k (by decide)
 have lb:=ak k.bB
 refine calls [(0,_)] Tryz.func123 rfl Tryz.ntmps123 rfl ⟨rfl,trivial⟩ ?_
 refine G2 ?_;refine WC.scope ?_;refine G2 ?_
 repeat' (ae first | refine aV ?_ | refine aN ?_ | refine ez ?_)
 refine WC.seq ?_;refine WC.label ?_
 repeat' (ae first | refine aV ?_ | refine aN ?_ | refine ez ?_)
 refine WC.seq ?_;refine WC.block ?_;refine WC.bO (X:=Nat × Value) (fun x=>([(3,x.2)]:Fr)) [(0,_)] (fun x h'=>(x.1=0∧x.2=.slice none 0 0∧h'=h)∨(x.1=1∧∃ v',Own h' x.2 59 2 1 [St je,St uL]∧Sc h' b v' [0]∧Ext (fun q=>q=b) h h'∧∀ q,x.2.ownBlock=some q→h.size≤q)) (fun x=>1 - x.1) ((0,.slice none 0 0)) ⟨rfl,rfl,trivial⟩ (by exact .inl ⟨rfl,rfl,rfl⟩) ?_
 rintro ⟨j,w⟩ h1 hI
 dsimp only at hI
 rcases hI with ⟨rfl,rfl,rfl⟩ | ⟨rfl,v1,kE,Rz,aB,iO⟩
 aa (refine WC.sub [(3,_),(0,_)] ⟨rfl,rfl,trivial⟩ ?_;dsimp only)
 aa (refine WC.block ?_;refine G2 ?_;refine WL.call (vs:=[_]) rfl Tryz.call128 rfl ((by first | exact k1 _ k | exact k3 _ _ Rz)) rfl rfl rfl ?_;rintro _ h2 ⟨v2,rfl,PF,aK⟩;refine Go ?_;repeat' (ae first | refine aV ?_ | refine aN ?_ | refine ez ?_))
 aa (refine G3 ?_;repeat' (ae first | refine aV ?_ | refine aN ?_ | refine ez ?_))
 aa (refine aJ 1 2 ?_ TT.mk)
 aa try (
 refine ay 1 ?_
 refine WC.exit ?_
 repeat' (ae first | refine aZ ?_ | refine aF rfl ?_ | refine aL ?_ | refine aN ?_ | refine aV ?_ | refine AG ?_ | refine ez ?_)
 refine Br.out (i:=1000) ?_
 skip)
 aa try (
 refine ay 2 ?_
 refine WC.skip ?_
 skip)
 aa (first | refine Br.ad ?_ | repeat' (ae first | refine aV ?_ | refine aN ?_ | refine ez ?_))
 aa (first | refine Br.ad ?_ | refine Gs [(0,_),(3,_),(4,_)] ?_)
 aa (first | refine Br.ad ?_ | refine WC.region ?_)
 aa (refine Go ?_)
 aa (
  first
    | (refine Br.ad ?_)
    | (refine WL.call (vs:=[_]) rfl Tryz.call128 rfl (k2 _ _ PF) rfl rfl rfl ?_
       rintro _ h3 ⟨v3,rfl,RA,aS⟩))
 aa (first | refine Br.ad ?_ | (refine WL.step (aH (vs:=[_,_]) (cs:=[_,_]) (fun | [a0,a1]=>[a0,a1] | _=>[]) rfl rfl (by kernel_rfl)) rfl rfl rfl ?_))
 aa (
  first
    | (refine Br.ad ?_)
    | (refine WL.al (aw (vs:=[_]) (cs:=[_,_]) (fun | [.agg ⟨[a0,a1]⟩]=>[a0,a1] | _=>[]) Tryz.underlying60 rfl rfl (by kernel_rfl)) rfl rfl rfl ?_
       rintro _ h4 ⟨b4,rfl,pH,bN,bh⟩))
 aa (
  first
    | (refine Br.ad ?_)
    | (refine WL.al (aX (sz:=2) (bytes:=32) rfl Tryz.underlying60 (show Tryz.prog.info? 59=some Tryz.t59 by kernel_rfl) rfl rfl rfl rfl (by decide) rfl rfl (Own.nil _ _ _) (bG (len:=1) (sz:=2) (cs:=[St je,St uL]) bN rfl) (by simp [Value.oneCell']) (by simp only [maxLen];omega) (by omega)) rfl rfl rfl ?_
       rintro v5 h5 ⟨eX,aO,Dd⟩
       have u0:=aK.trans aS
       have X4:=u0.trans (bh.mono fun _ _ e=>e.elim)
       have X5:=X4.trans' aO (fun q hq e=>by cases e)
       have RB:=RA.ext bh aQ (fun _ _=>aQ)
       have RC:=RB.ext aO (fun e=>by cases e) (fun q hq e=>by cases e)
       have gj:∀ q,v5.ownBlock=some q→h1.size≤q:=cb Dd (fun k hk=>by cases hk) X4.size))
 aa (refine Go ?_;first | refine Br.ad ?_ | repeat' (ae first | refine aV ?_ | refine aN ?_ | refine ez ?_))
 aa (first | refine Br.ad ?_ | (exact ⟨(0+1,_),⟨rfl,rfl,trivial⟩,(by exact .inr ⟨rfl,v3,eX,RC,X5,gj⟩),(by first | omega | (dsimp only;omega) | simp)⟩))
 try (refine Br.mk (i:=1000) ?_)
 repeat' (ae first | refine aV ?_ | refine aN ?_ | refine ez ?_)
 refine Gs [(3,_)] ?_;refine G2 ?_
 repeat' (ae first | refine aV ?_ | refine aN ?_ | refine ez ?_)
 refine WC.ret ?_
 repeat' (ae first | refine bq ?_ | refine ba ?_ | refine AH ?_)
 refine cA _ ⟨rfl,trivial⟩ ?_
 exact ⟨v2,kE.ext aK (fun q hq e=>by have:=iO q hq;omega),PF,aB.trans aK,iO⟩
theorem u3 {h:aj} {w:Value} (hr:Rd h w 1 12 (bK jT)):ai Tryz.prog 90 ⟨[w]⟩ h fun u h'=>∃ p,u=.tuple ⟨[.agg ⟨[In 196608,In 0,In 0,p]⟩,In 0]⟩∧Own h' p 59 2 1 [St je,St uL]∧Ext No h h'∧∀ q,p.ownBlock=some q→h.size≤q:=by
 have kn:=fun (h':aj) (b:Nat) (v:Value) (k:Sc h' b v jT)=>Hf k (by decide) (by decide)
 rw [show iN (jT.take 4)=196608 by decide] at kn
 have kt:=fun (h':aj) (b:Nat) (v:Value) (k:Sc h' b v sY)=>AJ k
 have kd:=fun (h':aj) (b:Nat) (v:Value) (k:Sc h' b v [])=>wS k
 obtain ⟨A,c,rfl,_⟩:=id hr
 refine calls [(0,_)] Tryz.func90 rfl Tryz.ntmps90 rfl ⟨rfl,trivial⟩ ?_
 refine WC.sr ?_;refine WL.al (au (fun w=>Tryz.zeroValue62 w)) rfl rfl rfl ?_
 rintro _ h1 ⟨b1,rfl,b0,aT,aB⟩
 refine Go ?_;refine G3 ?_
 refine aJ 1 2 ?_ TT.mk
 aa (refine ay 2 ?_)
 refine WC.skip ?_;refine Gn ?_;refine Gs [(0,_),(2,_)] ?_;refine G2 ?_;refine WL.call (vs:=[_]) rfl Tryz.call94 rfl (AB jT (hr.av aB) (by decide)) rfl rfl rfl ?_
 rintro _ h2 ⟨b2,v2,rfl,k2,aK,gI,fg⟩
 refine Go ?_;refine G2 ?_;refine WL.call (vs:=[_,_]) rfl Tryz.call122 rfl (kn _ _ _ k2) rfl rfl rfl ?_
 rintro _ h3 ⟨v3,rfl,k3,aS⟩
 have l1:=aB.size
 have l2:=aK.size
 have l3:=aS.size
 have cE:=aS.obj (aK.obj aT aQ) (fun e=>by have:=ak aT;omega)
 refine WL.step (aH (vs:=[_]) (cs:=[_,_,_,_]) (fun | [a0]=>[a0,(.int .i64 0),(.int .i64 0),(.slice none 0 0)] | _=>[]) rfl rfl (by kernel_rfl)) rfl rfl rfl ?_
 refine WL.al (au (fun w=>Tryz.zeroValue62 w)) rfl rfl rfl ?_
 rintro _ h4 ⟨b4,rfl,pH,bN,bh⟩
 refine WL.az (aq Tryz.sizeOf62 rfl rfl rfl bN rfl (by simp [Value.oneCell'])) rfl rfl ?_
 rintro _ h5 ⟨cd,aO⟩
 have PG:Sc h3 b2 v3 sY:=k3
 have X3:Ext No h h3:=(aB.trans aK).trans' aS (fun q hq e=>by omega)
 have l4:=bh.size
 have X5:=(X3.trans bh).trans' aO (fun q hq e=>by omega)
 have Up:=ak k3.bB
 have k5:Sc h5 b2 v3 sY:=(PG.ext bh aQ (fun _ _=>aQ)).ext aO (fun e=>by omega) (fun q hq e=>by have:=PG.rd.lt (by decide) hq;omega)
 have du:=aO.obj (bh.obj cE aQ) (fun e=>by have:=ak cE;omega)
 refine Gn ?_;refine Gs [(2,_),(4,_),(5,_)] ?_;refine G3 ?_;refine WL.ld rfl (by first | exact ab cd rfl | assumption) rfl rfl rfl ?_
 refine Gn ?_;refine WC.block ?_;refine G2 ?_
 refine aJ 3 4 ?_ TT.mk
 aa (refine ay 3 ?_)
 refine WC.region (Go ?_);refine WL.call (vs:=[_]) rfl Tryz.call123 rfl (kt _ _ _ k5) rfl rfl rfl ?_
 rintro w6 h6 ⟨v6,gT,k6,aP,jg⟩
 obtain ⟨A6,c6,rfl,_⟩:=id gT.slice
 have J3:=aP.obj cd (fun e=>by omega)
 have dK:=aP.obj du (fun e=>by have:=ak aT;omega)
 have l5:=X5.size
 have Uq:=aO.size
 have X6:=X5.trans' aP (fun q hq e=>by omega)
 refine Go ?_;refine WL.az (aD Tryz.sizeOf60 rfl rfl J3 (Nat.le_of_ble_eq_true rfl) rfl rfl) rfl rfl ?_
 rintro _ h7 ⟨cq,bu⟩
 have nT:=gT.ext bu (fun q hq e=>bZ gT J3 (by decide) (e▸hq))
 have k7:Sc h7 b2 v6 []:=⟨bu.obj k6.bB (fun e=>by omega),Rd.ext' k6.rd bu (fun q hq=>by simp at hq),k6.ne⟩
 have X7:=X6.trans' bu (fun q hq e=>by omega)
 have lT:=bu.obj dK (fun e=>by have:=ak cE;omega)
 refine Gn ?_;refine Gn ?_;refine G3 ?_;refine WL.call (vs:=[_]) rfl Tryz.call96 rfl (kd _ _ _ k7) rfl rfl rfl ?_
 rintro _ hq ⟨rfl,hz⟩
 replace hz:=hz.symm
 subst hz
 refine Go ?_;refine Gs [(2,_),(5,_),(35,_)] ?_
 refine aJ 9 10 ?_ TT.mk
 aa (refine ay 10 ?_)
 refine WC.skip ?_;refine Gn ?_;refine WC.sr ?_;refine WL.step (aA Tryz.isAgg62 Tryz.sizeOf62 rfl rfl (by exact At.ax cq)) rfl rfl rfl ?_
 refine WL.az (aq Tryz.sizeOf62 rfl rfl rfl lT rfl (by simp [Value.oneCell'])) rfl rfl ?_
 rintro _ h8 ⟨bP,bH⟩
 refine Go ?_;refine WC.ret ?_
 repeat' (ae first | refine bq ?_ | refine ba ?_)
 refine di _ _ ⟨⟨_,rfl,bJ Tryz.isAgg62 Tryz.sizeOf62 (by assumption) rfl⟩,rfl,trivial⟩ ?_
 exact ⟨_,rfl,nT.ext bH (fun q hq e=>bZ nT lT (by decide) (e▸hq)),X7.trans' bH (fun q hq e=>by omega),fun q hq=>by have:=jg q hq;omega⟩
def mN (w f s p i:Value) (bg ov:Bool):List Value:=[w,f,s,p,i,.bool bg,.bool ov]
abbrev u4:List Bk:=[gB 82 0 0 0,gB 75 0 1 7919,gB 90 73 0 0]
theorem gz {h:aj} {A:Option Addr} {n c:Nat} {xs:List Value} (hr:Rd h (.slice A n c) 2 n xs) (h1:∀ v∈xs,v.oneCell'=true) (hm:n * 32≤reachBytes) :
   ai Tryz.prog 294 ⟨[.slice A n c]⟩ h fun u h'=>Own h' u 85 2 n xs∧Ext No h h'∧(∀ k,u.ownBlock=some k→h.size≤k):=by
 unfold reachBytes at hm
 cases A with
 | none =>
   have h0:n=0:=by
     apply Classical.byContradiction
     intro hn
     obtain ⟨b,o,e,_⟩:=Rd.at_ hr (by omega)
     cases e
   subst h0
   have hx:xs=[]:=List.eq_nil_of_length_eq_zero (by obtain ⟨_,_,_,_,hl,_⟩:=hr;simpa using hl)
   subst hx
   refine calls [(0,_)] Tryz.func294 rfl Tryz.ntmps294 rfl ⟨rfl,trivial⟩ ?_
   refine G2 ?_;refine G3 ?_;refine WL.step (dc Tryz.underlying40 rfl rfl) rfl rfl rfl ?_;refine Gn ?_
   refine aJ 1 2 ?_ TT.mk
   aa (refine ay 1 ?_)
   refine G2 ?_;refine Gt ?_
   exact ⟨Own.nil _ _ _,.refl _ _,by simp [Value.ownBlock]⟩
 | some a =>
   refine calls [(0,_)] Tryz.func294 rfl Tryz.ntmps294 rfl ⟨rfl,trivial⟩ ?_
   refine G2 ?_;refine G3 ?_;refine WL.step (dc Tryz.underlying40 rfl rfl) rfl rfl rfl ?_;refine Gn ?_
   refine aJ 1 2 ?_ TT.mk
   aa (refine ay 2 ?_)
   refine WC.skip ?_;refine Gn ?_;refine WC.sr ?_;refine WL.al (aw (vs:=[]) (cs:=[]) (fun _=>[]) Tryz.underlying40 rfl rfl (by kernel_rfl)) rfl rfl rfl ?_
   rintro _ h3 ⟨b1,rfl,b0,aT,aB⟩
   refine Go ?_
   have rY:=hr.av aB
   refine WL.al (aX (sz:=2) (bytes:=32) rfl Tryz.underlying40 (show Tryz.prog.info? 85=some Tryz.t85 by kernel_rfl) rfl rfl rfl rfl (by decide) rfl rfl (dR aT rfl (by simp [maxLen])) rY h1 (by simp only [maxLen];omega) (by omega)) rfl rfl rfl ?_
   rintro v2 h2 ⟨dv,aK,lL⟩
   refine Go ?_;refine Gs [(2,_)] ?_;refine Gt ?_
   exact ⟨by simpa using dv,aB.trans' aK (fun k hk e=>by simp [Value.ownBlock] at e;omega),cb lL (fun k hk=>by simp [Value.ownBlock] at hk;omega) aB.size⟩
theorem nX {h:aj} {A:Option Addr} {n c:Nat} {xs:List Value} (hr:Rd h (.slice A n c) 1 n xs) (h1:∀ v∈xs,v.oneCell'=true) (hm:n * 24≤reachBytes) :
   ai Tryz.prog 291 ⟨[.slice A n c]⟩ h fun u h'=>Own h' u 40 1 n xs∧Ext No h h'∧(∀ k,u.ownBlock=some k→h.size≤k):=by
 unfold reachBytes at hm
 cases A with
 | none =>
   have h0:n=0:=by
     apply Classical.byContradiction
     intro hn
     obtain ⟨b,o,e,_⟩:=Rd.at_ hr (by omega)
     cases e
   subst h0
   have hx:xs=[]:=List.eq_nil_of_length_eq_zero (by obtain ⟨_,_,_,_,hl,_⟩:=hr;simpa using hl)
   subst hx
   refine calls [(0,_)] Tryz.func291 rfl Tryz.ntmps291 rfl ⟨rfl,trivial⟩ ?_
   refine G2 ?_;refine G3 ?_;refine WL.step (dc Tryz.underlying271 rfl rfl) rfl rfl rfl ?_;refine Gn ?_
   refine aJ 1 2 ?_ TT.mk
   aa (refine ay 1 ?_)
   refine G2 ?_;refine Gt ?_
   exact ⟨Own.nil _ _ _,.refl _ _,by simp [Value.ownBlock]⟩
 | some a =>
   refine calls [(0,_)] Tryz.func291 rfl Tryz.ntmps291 rfl ⟨rfl,trivial⟩ ?_
   refine G2 ?_;refine G3 ?_;refine WL.step (dc Tryz.underlying271 rfl rfl) rfl rfl rfl ?_;refine Gn ?_
   refine aJ 1 2 ?_ TT.mk
   aa (refine ay 2 ?_)
   refine WC.skip ?_;refine Gn ?_;refine WC.sr ?_;refine WL.al (aw (vs:=[]) (cs:=[]) (fun _=>[]) Tryz.underlying271 rfl rfl (by kernel_rfl)) rfl rfl rfl ?_
   rintro _ h3 ⟨b1,rfl,b0,aT,aB⟩
   refine Go ?_
   have rY:=hr.av aB
   refine WL.al (aX (sz:=1) (bytes:=24) rfl Tryz.underlying271 (show Tryz.prog.info? 40=some Tryz.t40 by kernel_rfl) rfl rfl rfl rfl (by decide) rfl rfl (dR aT rfl (by simp [maxLen])) rY h1 (by simp only [maxLen];omega) (by omega)) rfl rfl rfl ?_
   rintro v2 h2 ⟨dv,aK,lL⟩
   refine Go ?_;refine Gs [(2,_)] ?_;refine Gt ?_
   exact ⟨by simpa using dv,aB.trans' aK (fun k hk e=>by simp [Value.ownBlock] at e;omega),cb lL (fun k hk=>by simp [Value.ownBlock] at hk;omega) aB.size⟩
theorem mO {h:aj} {A:Option Addr} {c:Nat} (l:List UInt8) (hr:Rd h (.slice A l.length c) 1 l.length (bK l)) (hm:l.length≤reachBytes) :
   ai Tryz.prog 74 ⟨[.slice A l.length c]⟩ h fun u h'=>Own h' u 5 1 l.length (bK l)∧Ext No h h'∧(∀ k,u.ownBlock=some k→h.size≤k):=by
 unfold reachBytes at hm
 cases A with
 | none =>
   have h0:l=[]:=by
     cases l with
     | nil=>rfl
     | cons a l=>obtain ⟨b,o,e,_⟩:=Rd.at_ hr (by simp);cases e
   subst h0
   refine calls [(0,_)] Tryz.func74 rfl Tryz.ntmps74 rfl ⟨rfl,trivial⟩ ?_
   refine G2 ?_;refine G3 ?_;refine WL.step (dc Tryz.underlying23 rfl rfl) rfl rfl rfl ?_;refine Gn ?_
   refine aJ 1 2 ?_ TT.mk
   aa (refine ay 1 ?_)
   refine G2 ?_;refine Gt ?_
   exact ⟨Own.nil _ _ _,.refl _ _,by simp [Value.ownBlock]⟩
 | some a =>
   refine calls [(0,_)] Tryz.func74 rfl Tryz.ntmps74 rfl ⟨rfl,trivial⟩ ?_
   refine G2 ?_;refine G3 ?_;refine WL.step (dc Tryz.underlying23 rfl rfl) rfl rfl rfl ?_;refine Gn ?_
   refine aJ 1 2 ?_ TT.mk
   aa (refine ay 2 ?_)
   refine WC.skip ?_;refine Gn ?_;refine WC.sr ?_;refine WL.al (aw (vs:=[]) (cs:=[]) (fun _=>[]) Tryz.underlying23 rfl rfl (by kernel_rfl)) rfl rfl rfl ?_
   rintro _ h3 ⟨b1,rfl,b0,aT,aB⟩
   refine Go ?_
   have rY:=hr.av aB
   refine WL.al (aX (sz:=1) (bytes:=1) rfl Tryz.underlying23 (show Tryz.prog.info? 5=some Tryz.t5 by kernel_rfl) rfl rfl rfl rfl (by decide) rfl rfl (dR aT rfl (by simp [maxLen])) rY (wv l) (by simp only [maxLen];omega) (by omega)) rfl rfl rfl ?_
   rintro v2 h2 ⟨dv,aK,lL⟩
   refine Go ?_;refine Gs [(2,_)] ?_;refine Gt ?_
   exact ⟨by simpa using dv,aB.trans' aK (fun k hk e=>by simp [Value.ownBlock] at e;omega),cb lL (fun k hk=>by simp [Value.ownBlock] at hk;omega) aB.size⟩
theorem sZ {h:aj} {l:List bj} (hl:∀ c∈l,c.ok h):∀ v∈l.flatMap bj.cells,v.oneCell'=true:=by
 intro v hv
 obtain ⟨c,hc,hv⟩:=List.mem_flatMap.1 hv
 obtain ⟨_,_,e,_⟩:=(hl c hc).1
 simp only [bj.cells,List.mem_cons,List.not_mem_nil,or_false] at hv
 rcases hv with rfl | rfl
 · rfl
 · rw [e];rfl
theorem AK {out rest:List bj} {c:bj} {spare:List Value} {k o:Nat} (v:Value) (hk:out.length=k) (ho:o=0+k * 2+1) :
   ((out++c :: rest).flatMap bj.cells++spare).set o v=(out++[(⟨c.null,v,c.bytes⟩:bj)]++rest).flatMap bj.cells++spare:=by
 have oU:(out.flatMap bj.cells).length=k * 2:=by rw [cT bj.len,hk]
 subst ho
 simp only [List.flatMap_append,List.flatMap_cons,List.append_assoc,List.flatMap_nil,List.append_nil,bj.cells,List.cons_append,List.nil_append]
 rw [List.set_append_right _ _ (by omega),oU]
 have:0+k * 2+1 - k * 2=1:=by omega
 rw [this]
 rfl
theorem drop_cons {α:Type} {l:List α} {k:Nat} {x:α} (h:l[k]?=some x):l.drop k=x :: l.drop (k+1):=by
 rw [List.drop_eq_getElem?_toList_append,h]
 rfl
theorem qV {α:Type} {l out:List α} {k:Nat} {x:α} (h:l[k]?=some x) (hk:out.length=k):(out++l.drop k)[k]?=some x:=by
 subst hk
 rw [List.getElem?_append_right (Nat.le_refl _),List.getElem?_drop]
 simpa using h
structure qW (h2 h:aj) (b1:Nat) (l:List bj) (k:Nat) (out:List bj):Prop where
 le:k≤l.length
 len:out.length=k
 pl:out.map bj.pl=(l.take k).map bj.pl
 bB:∃ spare,h[b1]?=some (.cells ⟨(out++l.drop k).flatMap bj.cells++spare⟩ 85 (0,0))
 own:∀ q∈out,q.ok h∧∀ b,q.v.ownBlock=some b→h2.size≤b
 ext:Ext (fun b=>b=b1) h2 h
theorem qW.next {h2 h h3 h4:aj} {b1 k:Nat} {l out:List bj} {c:bj} {v:Value} {cs:List Value} (r:qW h2 h b1 l k out) (hc:l[k]?=some c) (x3:Ext No h h3) (o3:Own h3 v 5 1 c.bytes.length (bK c.bytes)) (f3:∀ b,v.ownBlock=some b→h.size≤b)
   (xY:∀ spare,h3[b1]?=some (.cells ⟨(out++l.drop k).flatMap bj.cells++spare⟩ 85 (0,0))→cs=((out++l.drop k).flatMap bj.cells++spare).set (0+k * 2+1) v) (bN:h4[b1]?=some (.cells ⟨cs⟩ 85 (0,0))) (x4:Ext (fun b=>b=b1) h3 h4) (hb:b1 < h2.size) (hz:c.bytes.length≤reachBytes) :
   qW h2 h4 b1 l (k+1) (out++[⟨c.null,v,c.bytes⟩]):=by
 have s0:=r.ext.size
 have s3:=x3.size
 have J4:k < l.length:=(List.getElem?_eq_some_iff.1 hc).1
 obtain ⟨spare,j9⟩:=r.bB
 refine ⟨J4,by simp [r.len],?_,⟨spare,?_⟩,fun q hq=>?_,(r.ext.trans' x3 fun _ _ e=>e.elim).trans x4⟩
 · rw [List.map_append,r.pl,List.take_add_one,hc,List.map_append]
   rfl
 · rw [bN,xY spare (x3.obj j9 aQ),drop_cons hc,AK v r.len rfl]
 · rcases List.mem_append.1 hq with hq | hq
   · obtain ⟨q1,q2⟩:=r.own q hq
     exact ⟨⟨(q1.1.av x3).ext' x4 fun b _ e eb=>by have:=q2 b e;omega,q1.2⟩,q2⟩
   · simp only [List.mem_singleton] at hq
     subst hq
     exact ⟨⟨o3.rd.ext' x4 fun b _ e eb=>by have:=f3 b e;omega,hz⟩,fun b e=>by have:=f3 b e;omega⟩
theorem qW.done {h0 h2 h:aj} {b1 c1:Nat} {l out:List bj} (r:qW h2 h b1 l l.length out) (x2:Ext No h0 h2) (hg:h0.size≤b1) (eH:b1 < h2.size) (hn:l.length≤c1) (hc:c1≤maxLen) (hl:l.length * 32≤reachBytes) :
   ∃ l',cN h (.slice (some ⟨b1,0,none⟩) l.length c1) l'∧l'.map bj.pl=l.map bj.pl∧Ext No h0 h∧∀ b,dG (.slice (some ⟨b1,0,none⟩) l.length c1) l' b→h0.size≤b:=by
 obtain ⟨spare,hb⟩:=r.bB
 rw [List.drop_length,List.append_nil] at hb
 have s2:=x2.size
 have e:=r.len
 refine ⟨out,?_,by rw [r.pl,List.take_length],x2.trans' r.ext fun b hb e=>by omega,?_⟩
 · rw [← e]
   exact ⟨⟨_,_,rfl,by omega,cT bj.len out,fun _=>⟨b1,0,rfl,ak hb,(At.ax hb).pre⟩⟩,⟨by omega,_,_,rfl,hc⟩,fun q hq=>(r.own q hq).1⟩
 · rintro b (⟨_,e⟩ | ⟨q,hq,_,e⟩)
   · simp only [Value.ownBlock,Option.some.injEq] at e;omega
   · have:=(r.own q hq).2 b e;omega
theorem ta {h:aj} {v:Value} (l:List bj) (hc:cN h v l) :
   ai Tryz.prog 279 ⟨[v]⟩ h fun u h'=>∃ l',cN h' u l'∧l'.map bj.pl=l.map bj.pl∧Ext No h h'∧∀ b,dG u l' b→h.size≤b:=by
 obtain ⟨hr,⟨lg,A,c,rfl,fS⟩,dJ⟩:=hc
 have AL:=lg
 unfold reachBytes at AL
 have h1:=sZ dJ
 by_cases h0:l=[]
 · subst h0
   refine calls [(0,_)] Tryz.func279 rfl Tryz.ntmps279 rfl ⟨rfl,trivial⟩ ?_
   refine G2 ?_;refine G2 ?_;refine WL.call (vs:=[_]) rfl Tryz.call294 rfl (gz hr h1 lg) rfl rfl rfl ?_
   rintro v2 h2 ⟨dv,aK,fg⟩
   obtain ⟨A2,c2,rfl,lI⟩:=dv.GS
   refine Go ?_;refine Gs [(3,_)] ?_;refine G3 ?_;refine WC.block ?_;refine WC.bO (X:=Unit) (fun x=>([(9,In (0:Int))]:Fr)) [(3,_),(8,_)] (fun _ h'=>h'=h2) (fun _=>0) (()) ⟨rfl,rfl,rfl,trivial⟩ (by exact rfl) ?_
   rintro _ h9 hz
   subst h9
   refine WC.sub [(9,_),(3,_),(8,_)] ⟨rfl,rfl,rfl,trivial⟩ ?_;refine G2 ?_;refine WC.seq ?_
   refine aJ 1 2 ?_ TT.mk
   aa (refine ay 2 ?_)
   refine WC.exit ?_
   repeat' (ae first | refine aZ ?_ | refine aF rfl ?_ | refine aL ?_ | refine aN ?_ | refine aV ?_)
   refine Br.out (i:=1000) ?_;refine Gn ?_;refine Br.ad ?_;refine Br.ad ?_;refine Br.ad ?_;refine Go ?_;refine Br.ad ?_;refine Go ?_;refine Br.ad ?_;refine Go ?_;refine Br.ad ?_;refine Br.ad ?_;refine Br.ad ?_;refine Go ?_;refine Br.ad ?_;refine Gn ?_;refine Br.ad ?_;refine Br.ad ?_;refine Go ?_;refine Br.ad ?_
   try (refine Br.mk (i:=1000) ?_)
   refine Gn ?_;refine G2 ?_;refine Gs [(2,_)] ?_;refine Gt ?_
   exact ⟨[],⟨dv.rd,⟨by simp,_,_,rfl,lI⟩,by simp⟩,rfl,aK,by rintro b (⟨e,_⟩ | ⟨_,e,_⟩);(simp at e);(simp at e)⟩
 · have si:0 < l.length:=List.length_pos_iff.2 h0
   refine calls [(0,_)] Tryz.func279 rfl Tryz.ntmps279 rfl ⟨rfl,trivial⟩ ?_
   refine G2 ?_;refine G2 ?_;refine WL.call (vs:=[_]) rfl Tryz.call294 rfl (gz hr h1 lg) rfl rfl rfl ?_
   rintro v2 h2 ⟨dv,aK,fg⟩
   obtain ⟨b1,c1,cs,rfl,aT,G9,rZ,pD,Dg⟩:=dv.block si
   have mY:=ak aT
   have b0:=fg b1 rfl
   have J5:qW h2 h2 b1 l 0 []:=⟨Nat.zero_le _,rfl,rfl,⟨cs.drop (l.length * 2),by rw [List.nil_append,List.drop_zero,← Dg,List.take_append_drop];exact aT⟩,by simp,.refl _ _⟩
   refine Go ?_;refine Gs [(3,_)] ?_;refine G3 ?_;refine WC.block ?_;refine WC.bO (X:=Nat × List bj) (fun x=>([(9,In (x.1:Int))]:Fr)) [(3,_),(8,_)] (fun x h'=>qW h2 h' b1 l x.1 x.2) (fun x=>l.length - x.1) ((0,[])) ⟨rfl,rfl,rfl,trivial⟩ (by exact J5) ?_
   rintro ⟨k,out⟩ h3 ri
   simp only at ri
   have hk:=ri.le
   refine WC.sub [(9,_),(3,_),(8,_)] ⟨rfl,rfl,rfl,trivial⟩ ?_
   dsimp only
   refine G2 ?_;refine WC.seq ?_
   refine aJ 1 2 (Hb.mk fun hb=>?_) (Hb.mk fun hb=>?_)
   aa try (
   refine ay 1 ?_
   refine WC.skip ?_
   skip)
   aa try (
   refine ay 2 ?_
   refine WC.exit ?_
   repeat' (ae first | refine aZ ?_ | refine aF rfl ?_ | refine aL ?_ | refine aN ?_ | refine aV ?_)
   refine Br.out (i:=1000) ?_
   skip)
   aa (refine Gn ?_;first | refine Br.ad ?_ | refine WC.seq ?_)
   aa (first | refine Br.ad ?_ | refine WC.block ?_)
   aa (first | refine Br.ad ?_ | refine WC.sr ?_)
   aa (refine Go ?_)
   aa (
    first
      | (refine Br.ad ?_)
      | (obtain ⟨⟨n1,v1,s1⟩,fH⟩:∃ y,l[k]?=some y:=⟨_,List.getElem?_eq_getElem (by omega)⟩
         have u0:=ri.ext
         obtain ⟨spare,j9⟩:=ri.bB
         obtain ⟨sO,zt⟩:=dJ _ (List.mem_of_getElem? fH)
         simp only at sO zt
         obtain ⟨A1,k1,rfl,_⟩:=id sO
         have E3:Ext No h h3:=aK.trans' u0 (fun b hb e=>by omega)
         have J6:At h3 b1 (0+k * 2) [.bool n1,.slice A1 s1.length k1]:=At.elem (xs:=out++l.drop k) bj.len ((At.ax j9).pre) (qV fH ri.len)))
   aa (first | refine Br.ad ?_ | refine WC.region ?_)
   aa (refine Go ?_;first | refine Br.ad ?_ | (refine WL.step (aG Tryz.underlying40 Tryz.sizeOf85 rfl rfl rfl (by omega) (by first | rfl | assumption)) rfl rfl rfl ?_))
   aa (refine Go ?_;first | refine Br.ad ?_ | (refine WL.ld rfl (by first | exact J6.get 1 rfl rfl | assumption) rfl rfl rfl ?_))
   aa (
    first
      | (refine Br.ad ?_)
      | (refine WL.call (vs:=[_]) rfl Tryz.call74 rfl (mO s1 (sO.av E3) zt) rfl rfl rfl ?_
         rintro v6 h6 ⟨gT,aP,jg⟩))
   aa (first | refine Br.ad ?_ | obtain ⟨A6,c6,rfl,_⟩:=gT.slice)
   aa (first | refine Br.ad ?_ | (refine WL.step (aG Tryz.underlying40 Tryz.sizeOf85 rfl rfl rfl (by omega) (by first | rfl | assumption)) rfl rfl rfl ?_))
   aa (refine Go ?_)
   aa (
    first
      | (refine Br.ad ?_)
      | (refine WL.az (aD Tryz.sizeOf23 rfl rfl (aP.obj j9 aQ) (by simp [cT bj.len,ri.len];omega) rfl rfl) rfl rfl ?_
         rintro _ h7 ⟨cq,bu⟩))
   aa (refine Gn ?_;first | refine Br.ad ?_ | refine Gs [(3,_),(8,_),(9,_)] ?_)
   aa (first | refine Br.ad ?_ | refine WC.region ?_)
   aa (refine Go ?_;first | refine Br.ad ?_ | (exact ⟨(k+1,out++[_]),⟨rfl,rfl,rfl,trivial⟩,(by exact ri.next fH aP gT jg (fun sp e=>by rw [aP.obj j9 aQ] at e;simp only [Option.some.injEq,Obj.cells.injEq,Array.mk.injEq] at e;obtain rfl:=List.append_cancel_left e.1;rfl) cq bu mY zt),(by simp;omega)⟩))
   try (refine Br.mk (i:=1000) ?_)
   refine Gn ?_;refine G2 ?_;refine Gs [(2,_)] ?_;refine Gt ?_
   obtain rfl:k=l.length:=by omega
   exact ri.done aK b0 mY G9 rZ lg
theorem Hg {out rest:List Rw} {r:Rw} {spare:List Value} {k o:Nat} (u:Rw) (hk:out.length=k) (ho:o=0+k * 1) :
   ((out++r :: rest).map Rw.v++spare).set o u.v=(out++[u]++rest).map Rw.v++spare:=by
 have oU:(out.map Rw.v).length=k:=by simp [hk]
 subst ho
 simp only [List.map_append,List.map_cons,List.append_assoc,List.map_nil,List.cons_append,List.nil_append]
 rw [List.set_append_right _ _ (by omega),oU]
 have:0+k * 1 - k=0:=by omega
 rw [this]
 rfl
structure u5 (h2 h:aj) (b1:Nat) (L:List Rw) (k:Nat) (out:List Rw):Prop where
 le:k≤L.length
 len:out.length=k
 pl:out.map Rw.pl=(L.take k).map Rw.pl
 bB:∃ spare,h[b1]?=some (.cells ⟨(out++L.drop k).map Rw.v++spare⟩ 40 (0,0))
 own:∀ r∈out,cN h r.v r.l∧∀ b,dG r.v r.l b→h2.size≤b
 ext:Ext (fun b=>b=b1) h2 h
theorem u5.next {h2 h h3 h4:aj} {b1 k:Nat} {L out:List Rw} {r:Rw} {v:Value} {l':List bj} {cs:List Value} (i:u5 h2 h b1 L k out) (hc:L[k]?=some r) (x3:Ext No h h3) (c3:cN h3 v l') (p3:l'.map bj.pl=r.l.map bj.pl) (f3:∀ b,dG v l' b→h.size≤b)
   (xY:∀ spare,h3[b1]?=some (.cells ⟨(out++L.drop k).map Rw.v++spare⟩ 40 (0,0))→cs=((out++L.drop k).map Rw.v++spare).set (0+k * 1) v) (bN:h4[b1]?=some (.cells ⟨cs⟩ 40 (0,0))) (x4:Ext (fun b=>b=b1) h3 h4) (hb:b1 < h2.size) :
   u5 h2 h4 b1 L (k+1) (out++[⟨v,l'⟩]):=by
 have s0:=i.ext.size
 have s3:=x3.size
 have J4:k < L.length:=(List.getElem?_eq_some_iff.1 hc).1
 obtain ⟨spare,j9⟩:=i.bB
 refine ⟨J4,by simp [i.len],?_,⟨spare,?_⟩,fun q hq=>?_,(i.ext.trans' x3 fun _ _ e=>e.elim).trans x4⟩
 · rw [List.map_append,i.pl,List.take_add_one,hc,List.map_append]
   simp [Rw.pl,p3]
 · rw [bN,xY spare (x3.obj j9 aQ),drop_cons hc,Hg (⟨v,l'⟩:Rw) i.len rfl]
 · rcases List.mem_append.1 hq with hq | hq
   · obtain ⟨q1,q2⟩:=i.own q hq
     exact ⟨(q1.av x3).ext x4 fun b e eb=>by have:=q2 b e;omega,q2⟩
   · simp only [List.mem_singleton] at hq
     subst hq
     exact ⟨c3.ext x4 fun b e eb=>by have:=f3 b e;omega,fun b e=>by have:=f3 b e;omega⟩
theorem u5.done {h0 h2 h:aj} {b1 c1:Nat} {L out:List Rw} (r:u5 h2 h b1 L L.length out) (x2:Ext No h0 h2) (hg:h0.size≤b1) (eH:b1 < h2.size) (hn:L.length≤c1) (hc:c1≤maxLen) (hl:L.length * 24≤reachBytes) :
   ∃ L',kD h (.slice (some ⟨b1,0,none⟩) L.length c1) L'∧L'.map Rw.pl=L.map Rw.pl∧Ext No h0 h∧∀ b,dU (.slice (some ⟨b1,0,none⟩) L.length c1) L' b→h0.size≤b:=by
 obtain ⟨spare,hb⟩:=r.bB
 rw [List.drop_length,List.append_nil] at hb
 have s2:=x2.size
 have e:=r.len
 refine ⟨out,?_,by rw [r.pl,List.take_length],x2.trans' r.ext fun b hb e=>by omega,?_⟩
 · rw [← e]
   exact ⟨⟨_,_,rfl,by omega,by simp,fun _=>⟨b1,0,rfl,ak hb,(At.ax hb).pre⟩⟩,⟨by omega,_,_,rfl,hc⟩,fun q hq=>(r.own q hq).1⟩
 · rintro b (⟨_,e⟩ | ⟨q,hq,e⟩)
   · simp only [Value.ownBlock,Option.some.injEq] at e;omega
   · have:=(r.own q hq).2 b e;omega
theorem DW {h:aj} {L:List Rw} (hl:∀ r∈L,cN h r.v r.l):∀ v∈L.map Rw.v,v.oneCell'=true:=by
 intro v hv
 obtain ⟨r,hr,rfl⟩:=List.mem_map.1 hv
 obtain ⟨_,⟨_,_,_,e,_⟩,_⟩:=hl r hr
 rw [e];rfl
theorem nY {h:aj} {v:Value} (L:List Rw) (hc:kD h v L) :
   ai Tryz.prog 257 ⟨[v]⟩ h fun u h'=>∃ L',kD h' u L'∧L'.map Rw.pl=L.map Rw.pl∧Ext No h h'∧∀ b,dU u L' b→h.size≤b:=by
 obtain ⟨hr,⟨lg,A,c,rfl,fS⟩,dJ⟩:=hc
 have AL:=lg
 unfold reachBytes at AL
 have h1:=DW dJ
 by_cases h0:L=[]
 · subst h0
   refine calls [(0,_)] Tryz.func257 rfl Tryz.ntmps257 rfl ⟨rfl,trivial⟩ ?_
   refine G2 ?_;refine G2 ?_;refine WL.call (vs:=[_]) rfl Tryz.call291 rfl (nX hr h1 lg) rfl rfl rfl ?_
   rintro v2 h2 ⟨dv,aK,fg⟩
   obtain ⟨A2,c2,rfl,lI⟩:=dv.GS
   refine Go ?_;refine Gs [(3,_)] ?_;refine G3 ?_;refine WC.block ?_;refine WC.bO (X:=Unit) (fun x=>([(9,In (0:Int))]:Fr)) [(3,_),(8,_)] (fun _ h'=>h'=h2) (fun _=>0) (()) ⟨rfl,rfl,rfl,trivial⟩ (by exact rfl) ?_
   rintro _ h9 hz
   subst h9
   refine WC.sub [(9,_),(3,_),(8,_)] ⟨rfl,rfl,rfl,trivial⟩ ?_;refine G2 ?_;refine WC.seq ?_
   refine aJ 1 2 ?_ TT.mk
   aa (refine ay 2 ?_)
   refine WC.exit ?_
   repeat' (ae first | refine aZ ?_ | refine aF rfl ?_ | refine aL ?_ | refine aN ?_ | refine aV ?_)
   refine Br.out (i:=1000) ?_;refine Gn ?_;refine Br.ad ?_;refine Br.ad ?_;refine Br.ad ?_;refine Go ?_;refine Br.ad ?_;refine Go ?_;refine Br.ad ?_;refine Br.ad ?_;refine Br.ad ?_;refine Br.ad ?_;refine Br.ad ?_;refine Gn ?_;refine Br.ad ?_;refine Br.ad ?_;refine Go ?_;refine Br.ad ?_
   try (refine Br.mk (i:=1000) ?_)
   refine Gn ?_;refine G2 ?_;refine Gs [(2,_)] ?_;refine Gt ?_
   exact ⟨[],⟨dv.rd,⟨by simp,_,_,rfl,lI⟩,by simp⟩,rfl,aK,by rintro b (⟨e,_⟩ | ⟨_,e,_⟩);(simp at e);(simp at e)⟩
 · have si:0 < L.length:=List.length_pos_iff.2 h0
   refine calls [(0,_)] Tryz.func257 rfl Tryz.ntmps257 rfl ⟨rfl,trivial⟩ ?_
   refine G2 ?_;refine G2 ?_;refine WL.call (vs:=[_]) rfl Tryz.call291 rfl (nX hr h1 lg) rfl rfl rfl ?_
   rintro v2 h2 ⟨dv,aK,fg⟩
   obtain ⟨b1,c1,cs,rfl,aT,G9,rZ,pD,Dg⟩:=dv.block si
   have mY:=ak aT
   have b0:=fg b1 rfl
   have J5:u5 h2 h2 b1 L 0 []:=⟨Nat.zero_le _,rfl,rfl,⟨cs.drop (L.length * 1),by rw [List.nil_append,List.drop_zero,← Dg,List.take_append_drop];exact aT⟩,by simp,.refl _ _⟩
   refine Go ?_;refine Gs [(3,_)] ?_;refine G3 ?_;refine WC.block ?_;refine WC.bO (X:=Nat × List Rw) (fun x=>([(9,In (x.1:Int))]:Fr)) [(3,_),(8,_)] (fun x h'=>u5 h2 h' b1 L x.1 x.2) (fun x=>L.length - x.1) ((0,[])) ⟨rfl,rfl,rfl,trivial⟩ (by exact J5) ?_
   rintro ⟨k,out⟩ h3 ri
   simp only at ri
   have hk:=ri.le
   refine WC.sub [(9,_),(3,_),(8,_)] ⟨rfl,rfl,rfl,trivial⟩ ?_
   dsimp only
   refine G2 ?_;refine WC.seq ?_
   refine aJ 1 2 (Hb.mk fun hb=>?_) (Hb.mk fun hb=>?_)
   aa try (
   refine ay 1 ?_
   refine WC.skip ?_
   skip)
   aa try (
   refine ay 2 ?_
   refine WC.exit ?_
   repeat' (ae first | refine aZ ?_ | refine aF rfl ?_ | refine aL ?_ | refine aN ?_ | refine aV ?_)
   refine Br.out (i:=1000) ?_
   skip)
   aa (refine Gn ?_;first | refine Br.ad ?_ | refine WC.seq ?_)
   aa (first | refine Br.ad ?_ | refine WC.block ?_)
   aa (first | refine Br.ad ?_ | refine WC.sr ?_)
   aa (refine Go ?_)
   aa (
    first
      | (refine Br.ad ?_)
      | (obtain ⟨⟨v1,l1⟩,fH⟩:∃ y,L[k]?=some y:=⟨_,List.getElem?_eq_getElem (by omega)⟩
         have u0:=ri.ext
         obtain ⟨spare,j9⟩:=ri.bB
         have sO:=dJ _ (List.mem_of_getElem? fH)
         simp only at sO
         have E3:Ext No h h3:=aK.trans' u0 (fun b hb e=>by omega)
         have J6:cell h3 ⟨b1,0+k * 1,none⟩=some v1:=((At.ax j9).pre).get k (by rw [List.getElem?_map,qV fH ri.len];exact rfl) (by omega)))
   aa (first | refine Br.ad ?_ | refine WC.region ?_)
   aa (refine Go ?_;first | refine Br.ad ?_ | (refine WL.step (aG Tryz.underlying271 Tryz.sizeOf40 rfl rfl rfl (by omega) (by first | rfl | assumption)) rfl rfl rfl ?_))
   aa (first | refine Br.ad ?_ | (refine WL.ld rfl (by first | exact J6 | assumption) rfl rfl rfl ?_))
   aa (
    first
      | (refine Br.ad ?_)
      | (refine WL.call (vs:=[_]) rfl Tryz.call279 rfl (ta l1 (sO.av E3)) rfl rfl rfl ?_
         rintro v6 h6 ⟨l6,Hh,J7,aP,jg⟩))
   aa (first | refine Br.ad ?_ | (obtain ⟨A6,c6,rfl⟩:∃ A c,v6=.slice A l6.length c:=(by obtain ⟨_,⟨_,A,c,e,_⟩,_⟩:=Hh;exact ⟨A,c,e⟩)))
   aa (first | refine Br.ad ?_ | (refine WL.step (aG Tryz.underlying271 Tryz.sizeOf40 rfl rfl rfl (by omega) (by first | rfl | assumption)) rfl rfl rfl ?_))
   aa (
    first
      | (refine Br.ad ?_)
      | (refine WL.az (aD Tryz.sizeOf40 rfl rfl (aP.obj j9 aQ) (by simp [ri.len];omega) rfl rfl) rfl rfl ?_
         rintro _ h7 ⟨cq,bu⟩))
   aa (refine Gn ?_;first | refine Br.ad ?_ | refine Gs [(3,_),(8,_),(9,_)] ?_)
   aa (first | refine Br.ad ?_ | refine WC.region ?_)
   aa (refine Go ?_;first | refine Br.ad ?_ | (exact ⟨(k+1,out++[_]),⟨rfl,rfl,rfl,trivial⟩,(by exact ri.next fH aP Hh J7 jg (fun sp e=>by rw [aP.obj j9 aQ] at e;simp only [Option.some.injEq,Obj.cells.injEq,Array.mk.injEq] at e;obtain rfl:=List.append_cancel_left e.1;rfl) cq bu mY),(by simp;omega)⟩))
   try (refine Br.mk (i:=1000) ?_)
   refine Gn ?_;refine G2 ?_;refine Gs [(2,_)] ?_;refine Gt ?_
   obtain rfl:k=L.length:=by omega
   exact ri.done aK b0 mY G9 rZ lg
structure PD where
 text:List UInt8
 vo:Value
 aU:List Int
 vp:Value
 ps:List bj
 vr:Value
 rs:List Rw
 dm:Bool
 over:Bool
def PD.cells (p:PD):List Value:=[St p.text,p.vo,p.vp,p.vr,.bool p.dm,.bool p.over]
structure PD.ok (h:aj) (p:PD):Prop where
 aU:Rd h p.vo 1 p.aU.length (ints p.aU)
 lo:p.aU.length * 8≤reachBytes
 ps:cN h p.vp p.ps
 rs:kD h p.vr p.rs
def PD.F (p:PD) (b:Nat):Prop:=(0 < p.aU.length∧p.vo.ownBlock=some b)∨dG p.vp p.ps b∨dU p.vr p.rs b
def PD.pl (p:PD):=(p.text,p.aU,p.ps.map bj.pl,p.rs.map Rw.pl,p.dm,p.over)
theorem PD.ok.ext {h h':aj} {S:Nat→Prop} {p:PD} (k:p.ok h) (a:Ext S h h') (hS:∀ b,p.F b→¬ S b):p.ok h' :=
 ⟨k.aU.ext' a fun b h1 h2=>hS b (.inl ⟨h1,h2⟩),k.lo,k.ps.ext a fun b hb=>hS b (.inr (.inl hb)),k.rs.ext a fun b hb=>hS b (.inr (.inr hb))⟩
theorem PD.ok.lt {h:aj} {p:PD} {b:Nat} (k:p.ok h) (hb:p.F b):b < h.size:=by
 rcases hb with ⟨h1,h2⟩ | hb | hb
 · exact k.aU.lt h1 h2
 · exact k.ps.lt hb
 · exact k.rs.lt hb
theorem DX {h h1 h2 h3 h4 h5 h6 h7 h8 h9:aj} {b1 b2 c3:Nat} {A3:Option Addr} {text:List UInt8} {aU:List Int} {ps l5:List bj} {rs L6:List Rw} {v5 v6:Value} {dm over:Bool} {T0:TypeId}
   (RD:h9[b2]?=some (.cells ⟨[St text,.slice A3 aU.length c3,v5,v6,.bool dm,.bool over]⟩ T0 (0,0)))
   (aS:Ext No h2 h3) (bh:Ext (fun k=>k=b1) h3 h4) (aO:Ext No h4 h5) (aP:Ext No h5 h6) (bu:Ext (fun k=>k=b1) h6 h7) (bH:Ext (fun k=>k=b1) h7 h8) (cl:Ext (fun k=>k=b2) h8 h9) (E4:Ext No h h4)
   (ee:Own h3 (.slice A3 aU.length c3) 3 1 aU.length (ints aU)) (im:∀ k,(Value.slice A3 aU.length c3).ownBlock=some k→h2.size≤k) (j0:aU.length * 8≤reachBytes)
   (Mi:cN h5 v5 l5) (Np:l5.map bj.pl=ps.map bj.pl) (gj:∀ b,dG v5 l5 b→h4.size≤b) (Hh:kD h6 v6 L6) (J7:L6.map Rw.pl=rs.map Rw.pl) (jg:∀ b,dU v6 L6 b→h5.size≤b)
   (mY:b1 < h1.size) (J8:b2 < h2.size) (b0:h.size≤b1) (gI:h1.size≤b2) (r7:h1.size≤h2.size) :
   ∃ p':PD,Value.agg ⟨[St text,.slice A3 aU.length c3,v5,v6,.bool dm,.bool over]⟩=.agg ⟨p'.cells⟩∧p'.ok h9∧p'.pl=(text,aU,ps.map bj.pl,rs.map Rw.pl,dm,over)∧Ext No h h9∧∀ b,p'.F b→h.size≤b:=by
 have s3:=aS.size
 have s4:=bh.size
 have s5:=aO.size
 have PH:Ext (fun b=>b=b1∨b=b2) h6 h9:=((bu.mono fun _ _ e=>.inl e).trans (bH.mono fun _ _ e=>.inl e)).trans (cl.mono fun _ _ e=>.inr e)
 have Nq:Ext (fun b=>b=b1∨b=b2) h5 h9:=(aP.mono fun _ _ e=>e.elim).trans PH
 have RE:Ext (fun b=>b=b1∨b=b2) h3 h9:=((bh.mono fun _ _ e=>.inl e).trans (aO.mono fun _ _ e=>e.elim)).trans Nq
 have RF:Ext (fun b=>b=b1∨b=b2) h4 h9:=(aO.mono fun _ _ e=>e.elim).trans Nq
 refine ⟨⟨text,.slice A3 aU.length c3,aU,v5,l5,v6,L6,dm,over⟩,rfl,⟨?_,j0,?_,?_⟩,by simp [PD.pl,Np,J7],E4.trans' RF fun b hb e=>by omega,?_⟩
 · exact ee.rd.ext' RE fun b _ e eb=>by have:=im b e;omega
 · exact Mi.ext Nq fun b e eb=>by have:=gj b e;omega
 · exact Hh.ext PH fun b e eb=>by have:=jg b e;omega
 · rintro b (⟨_,e⟩ | e | e)
   · have:=im b e;omega
   · have:=gj b e;omega
   · have:=jg b e;omega
theorem tb {h:aj} (p:PD) (hp:p.ok h) :
   ai Tryz.prog 248 ⟨[.agg ⟨p.cells⟩]⟩ h fun u h'=>∃ p':PD,u=.agg ⟨p'.cells⟩∧p'.ok h'∧p'.pl=p.pl∧Ext No h h'∧∀ b,p'.F b→h.size≤b:=by
 obtain ⟨text,vo,aU,vp,ps,vr,rs,dm,over⟩:=p
 obtain ⟨ho,j0,JK,yg⟩:=hp
 simp only at ho j0 JK yg
 obtain ⟨Ao,co,rfl,_⟩:=id ho
 obtain ⟨_,⟨_,Ap,cp,rfl,_⟩,_⟩:=id JK
 obtain ⟨_,⟨_,Ar,cr,rfl,_⟩,_⟩:=id yg
 dsimp only [PD.cells]
 refine calls [(0,_)] Tryz.func248 rfl Tryz.ntmps248 rfl ⟨rfl,trivial⟩ ?_
 refine WC.sr ?_;refine WL.al (aI rfl) rfl rfl rfl ?_
 rintro _ h1 ⟨b1,rfl,b0,aT,aB⟩
 refine WL.al (au (fun w=>Tryz.zeroValue273 w)) rfl rfl rfl ?_
 rintro _ h2 ⟨b2,rfl,gI,bR,aK⟩
 have sK:=aK.obj aT aQ
 have mY:=ak aT
 have eQ:=aB.trans aK
 refine Gn ?_;refine G2 ?_;refine Ld ?_;refine WL.call (vs:=[_]) rfl Tryz.call206 rfl (iu aU (ho.av eQ) j0) rfl rfl rfl ?_
 rintro v3 h3 ⟨ee,aS,im⟩
 obtain ⟨A3,c3,rfl,_⟩:=ee.slice
 have cE:=aS.obj sK aQ
 refine Go ?_;refine WL.az (aD Tryz.sizeOf39 rfl rfl cE (Nat.le_of_ble_eq_true rfl) rfl rfl) rfl rfl ?_
 rintro _ h4 ⟨bT,bh⟩
 have bT:h4[b1]?=some (.cells ⟨[St text,.slice A3 aU.length c3,.slice Ap ps.length cp,.slice Ar rs.length cr,.bool dm,.bool over]⟩ 273 (0,0)):=bT
 have E4:Ext No h h4:=(eQ.trans aS).trans' bh (fun b hb e=>by omega)
 refine Gn ?_;refine Gs [(1,_),(2,_)] ?_;refine WC.seq ?_;refine WC.cg (fun h'=>h'[b1]?=some (.cells ⟨[St text,.slice A3 aU.length c3,.slice Ap ps.length cp,.slice Ar rs.length cr,.bool dm,.bool over]⟩ 273 (0,0))) 7 10 rfl dB ?_
 refine WH.tk 0 rfl (fun hq hC=>ag rfl Tryz.underlying273 rfl Tryz.sizeOf40) rfl rfl rfl ?_
 refine WH.tk 1 rfl (fun hq hC=>aC Tryz.isAgg40 rfl (ab hC rfl)) rfl rfl rfl ?_
 refine WH.tk 3 rfl (fun hq hC=>ag rfl Tryz.underlying273 rfl Tryz.sizeOf271) rfl rfl rfl ?_
 refine WH.tk 4 rfl (fun hq hC=>aC Tryz.isAgg271 rfl (ab hC rfl)) rfl rfl rfl ?_
 refine WH.one 2 (by kernel_rfl) ?_
 refine aE.call (vs:=[_]) rfl rfl Tryz.call279 rfl (ta ps (JK.av E4)) rfl rfl rfl ?_ (fun _=>by kernel_rfl)
 rintro v5 h5 ⟨l5,Mi,Np,aO,gj⟩
 refine ⟨fun _=>aO.obj bT aQ,?_⟩
 have du:=aO.obj bT aQ
 obtain ⟨A5,c5,rfl⟩:∃ A c,v5=.slice A l5.length c:=(by obtain ⟨_,⟨_,A,c,e,_⟩,_⟩:=Mi;exact ⟨A,c,e⟩)
 refine WH.tk 6 rfl (fun hq hC=>ag rfl Tryz.underlying273 rfl Tryz.sizeOf40) rfl rfl rfl ?_
 refine WH.one 5 (by kernel_rfl) ?_
 refine aE.call (vs:=[_]) rfl rfl Tryz.call257 rfl (nY rs (yg.av (E4.trans aO))) rfl rfl rfl ?_ (fun _=>by kernel_rfl)
 rintro v6 h6 ⟨L6,Hh,J7,aP,jg⟩
 refine ⟨fun _=>aP.obj du aQ,?_⟩
 have dK:=aP.obj du aQ
 obtain ⟨A6,c6,rfl⟩:∃ A c,v6=.slice A L6.length c:=(by obtain ⟨_,⟨_,A,c,e,_⟩,_⟩:=Hh;exact ⟨A,c,e⟩)
 refine WH.one 7 (by kernel_rfl) ?_
 refine aE.cY rfl (aD Tryz.sizeOf40 rfl rfl dK (Nat.le_of_ble_eq_true rfl) rfl rfl) rfl rfl ?_ (fun _=>by kernel_rfl)
 rintro _ h7 ⟨lT,bu⟩
 refine ⟨fun e=>(by cases e),?_⟩
 refine WH.one 8 (by kernel_rfl) ?_
 refine aE.run rfl (bW.r (ag rfl Tryz.underlying273 rfl Tryz.sizeOf271)) rfl rfl rfl ?_ (fun _=>by kernel_rfl)
 rintro _ hz ⟨rfl,_⟩
 subst hz
 refine ⟨fun e=>(by cases e),?_⟩
 refine WH.one 9 (by kernel_rfl) ?_
 refine aE.cY rfl (aD Tryz.sizeOf271 rfl rfl lT (Nat.le_of_ble_eq_true rfl) rfl rfl) rfl rfl ?_ (fun _=>by kernel_rfl)
 rintro _ h8 ⟨gl,bH⟩
 refine ⟨fun e=>(by cases e),?_⟩
 have J8:=ak bR
 have Hi:b2 ≠ b1:=by omega
 have Nr:=bH.obj (bu.obj (aP.obj (aO.obj (bh.obj (aS.obj bR aQ) Hi) aQ) aQ) Hi) Hi
 refine WH.done (by kernel_rfl) ?_
 refine Gn ?_;refine Gs [(1,_),(2,_)] ?_;refine WC.sr ?_;refine WL.step (aA Tryz.isAgg273 Tryz.sizeOf273 rfl rfl (by exact At.ax gl)) rfl rfl rfl ?_
 refine WL.az (aq Tryz.sizeOf273 rfl rfl rfl Nr rfl (by simp [Value.oneCell'])) rfl rfl ?_
 rintro _ h9 ⟨ck,cl⟩
 refine Gn ?_;refine WC.ret ?_
 repeat' (ae first | refine bq ?_ | refine ba ?_)
 refine cA _ ⟨⟨_,rfl,bJ Tryz.isAgg273 Tryz.sizeOf273 (by assumption) rfl⟩,trivial⟩ ?_
 exact DX (text:=text) (dm:=dm) (over:=over) ck aS bh aO aP bu bH cl E4 ee im j0 Mi Np gj Hh J7 jg mY J8 b0 gI aK.size
theorem AM {h:aj}:ai Tryz.prog 84 ⟨[]⟩ h fun u h'=>∃ b m,u=.pointer (some ⟨b,0,none⟩)∧h'[b]?=some (.cells ⟨[.map (some m)]⟩ 189 (0,0))∧Mp .string St h' m ([]:List (List UInt8 × Value))∧h.size≤b∧h.size≤m∧Ext No h h':=by
 refine calls [] Tryz.func84 rfl Tryz.ntmps84 rfl trivial ?_
 refine G2 ?_;refine WC.sr ?_;refine WL.al iY rfl rfl rfl ?_
 rintro _ h1 ⟨m1,rfl,Ns,De,PI⟩
 refine WL.step (aH (vs:=[_]) (cs:=[_]) (fun | [a0]=>[a0] | _=>[]) rfl rfl (by kernel_rfl)) rfl rfl rfl ?_
 refine WL.al (aI rfl) rfl rfl rfl ?_
 rintro _ h2 ⟨b1,rfl,b0,aT,aB⟩
 refine Go ?_;refine Gt ?_
 exact ⟨_,_,rfl,aT,⟨_,_,aB.obj De id,MapKept.stamped_empty 0,rfl⟩,Nat.le_trans PI.size b0,Ns,PI.trans aB⟩
structure P1 (h:aj) (b m p:Nat) (name:List UInt8) (d:PD):Prop where
 set:h[b]?=some (.cells ⟨[.map (some m)]⟩ 189 (0,0))
 map:Mp .string St h m [(name,.pointer (some ⟨p,0,none⟩))]
 bB:h[p]?=some (.cells ⟨d.cells⟩ 273 (0,0))
 ok:d.ok h
 apart:∀ k,d.F k→k ≠ p
theorem fp {h:aj} {d:PD} (k:d.ok h):∀ v∈d.cells,v.oneCell'=true:=by
 obtain ⟨_,_,e1,_⟩:=k.aU
 obtain ⟨_,⟨_,_,_,e2,_⟩,_⟩:=k.ps
 obtain ⟨_,⟨_,_,_,e3,_⟩,_⟩:=k.rs
 intro v hv
 simp only [PD.cells,List.mem_cons,List.not_mem_nil,or_false] at hv
 rcases hv with rfl | rfl | rfl | rfl | rfl | rfl
 · rfl
 · rw [e1];rfl
 · rw [e2];rfl
 · rw [e3];rfl
 · rfl
 · rfl
theorem DY {h:aj} {A:Option Addr} {n c sz:Nat} {xs:List Value} (r:Rd h (.slice A n c) sz n xs):Rd h (.slice A n n) sz n xs:=by
 obtain ⟨A',c',e,_,hl,hp⟩:=r
 simp only [Value.slice.injEq] at e
 obtain ⟨rfl,_,rfl⟩:=e
 exact ⟨A,n,rfl,Nat.le_refl _,hl,hp⟩
theorem AN {h:aj} {A:Option Addr} {c n:Nat} {L:List Rw} (r:kD h (.slice A L.length c) L) (hn:n≤L.length):kD h (.slice A n n) (L.take n)∧∀ k,dU (.slice A n n) (L.take n) k→dU (.slice A L.length c) L k:=by
 obtain ⟨r1,⟨r2,A',c',e,hc⟩,r3⟩:=r
 simp only [Value.slice.injEq] at e
 obtain ⟨rfl,_,rfl⟩:=e
 have hl:(L.take n).length=n:=by rw [List.length_take];omega
 have Nt:c ≥ L.length:=by
   obtain ⟨_,_,e,hc,_⟩:=r1
   simp only [Value.slice.injEq] at e
   omega
 refine ⟨⟨?_,⟨by rw [hl];omega,_,_,by rw [hl],by omega⟩,fun q hq=>r3 q (List.mem_of_mem_take hq)⟩,?_⟩
 · have:=DY (r1.take hn)
   rw [Nat.mul_one,← List.map_take] at this
   rw [hl]
   exact this
 · rintro k (⟨h1,h2⟩ | ⟨q,hq,h2⟩)
   · refine .inl ⟨by omega,?_⟩
     cases A with
     | none=>cases h2
     | some a=>exact h2
   · exact .inr ⟨q,List.mem_of_mem_take hq,h2⟩
theorem AO {h:aj} {A:Option Addr} {c n:Nat} {L:List Rw} (r:kD h (.slice A L.length c) L) (hn:n≤L.length):kD h (.slice (if c=n then A else A.map (·.add (n * 1))) (L.length - n) (c - n)) (L.drop n)∧∀ k,dU (.slice (if c=n then A else A.map (·.add (n * 1))) (L.length - n) (c - n)) (L.drop n) k→dU (.slice A L.length c) L k:=by
 obtain ⟨r1,⟨r2,A',c',e,hc⟩,r3⟩:=r
 simp only [Value.slice.injEq] at e
 obtain ⟨rfl,_,rfl⟩:=e
 have hl:(L.drop n).length=L.length - n:=List.length_drop
 refine ⟨⟨?_,⟨by rw [hl];omega,_,_,by rw [hl],by omega⟩,fun q hq=>r3 q (List.mem_of_mem_drop hq)⟩,?_⟩
 · have:=r1.drop hn
   rw [Nat.mul_one,← List.map_drop] at this
   rw [hl]
   simpa using this
 · rintro k (⟨h1,h2⟩ | ⟨q,hq,h2⟩)
   · refine .inl ⟨by omega,?_⟩
     obtain ⟨_,_,e,Nt,_⟩:=r1
     simp only [Value.slice.injEq] at e
     rw [if_neg (by omega)] at h2
     cases A with
     | none=>cases h2
     | some a =>
       simp only [Option.map_some,Value.ownBlock,Option.some.injEq] at h2 ⊢
       rw [← h2]
       unfold Addr.add
       split <;> rfl
   · exact .inr ⟨q,List.mem_of_mem_drop hq,h2⟩
def Hj:PD:=⟨[],.slice none 0 0,[],.slice none 0 0,[],.slice none 0 0,[],false,false⟩
theorem gU (h:aj) (A:Option Addr):cN h (.slice A 0 0) []:=⟨⟨_,_,rfl,Nat.le_refl _,rfl,fun h=>absurd h (by decide)⟩,⟨by simp,_,_,rfl,by decide⟩,by simp⟩
theorem Hk (h:aj):Hj.ok h:=⟨Rd.nil _ _,by simp [Hj],gU h _,⟨Rd.nil _ _,⟨by simp [Hj],_,_,rfl,by decide⟩,by simp [Hj]⟩⟩
end Go.Proofs.YtopgddfgefnmbaaGreatDoor
namespace Go.RK
open Go
section
variable {h:aj}
theorem Own.holds {α:Type} [Inhabited α] (enc:α→Value) {w:World} {g n cap:Nat} {e:TypeId} {l:List α} (ho:Own w.heap (.slice (some ⟨g,0,none⟩) n cap) e 1 n (l.map enc)):Go.Sort.Holds enc w g 0 l.toArray:=by
 obtain ⟨hl,⟨hv,_⟩ | ⟨g0,RG,cur,hv,hg,hn,hc,hs,I7⟩⟩:=ho
 · cases hv
 · simp only [Value.slice.injEq,Option.some.injEq,Addr.mk.injEq] at hv
   obtain ⟨⟨rfl,_,_⟩,_,rfl⟩:=hv
   intro j hj
   have Fz:j < l.length:=by simpa using hj
   refine ⟨?_,?_⟩
   · rw [ni,cell_of hg,Nat.zero_add]
     have e1:(cur.toList.take (n * 1))[j]?=(l.map enc)[j]?:=by rw [I7]
     have e2:j < n * 1:=by
       have:=congrArg List.length I7
       simp at this hl
       omega
     rw [List.getElem?_take,if_pos e2,List.getElem?_map,List.getElem?_eq_getElem Fz] at e1
     rw [← Array.getElem?_toList,e1]
     simp [Fz]
   · unfold World.frozen?
     simp only [hg]
     simp
end
end Go.RK
namespace Go.Proofs.YtopgddfgefnmbaaGreatDoor
open Go Go.RK
structure Pe (h:aj) (b m:Nat) (es:List (List UInt8 × Value)) (p:Nat) (name:List UInt8) (d:PD):Prop where
 set:h[b]?=some (.cells ⟨[.map (some m)]⟩ 189 (0,0))
 map:Mp .string St h m es
 look:dg es name=some (.pointer (some ⟨p,0,none⟩))
 bB:h[p]?=some (.cells ⟨d.cells⟩ 273 (0,0))
 ok:d.ok h
 apart:∀ k,d.F k→k ≠ p
theorem Pe.ne {es:List (List UInt8 × Value)} {h:aj} {b m p:Nat} {name:List UInt8} {d:PD} (r:Pe h b m es p name d):b ≠ p∧m ≠ p:=by
 constructor
 · rintro rfl
   have:=r.set
   rw [r.bB] at this
   simp only [Option.some.injEq,Obj.cells.injEq] at this
   exact absurd this.2.1 (by decide)
 · rintro rfl
   obtain ⟨_,_,e,_⟩:=r.map
   rw [r.bB] at e
   cases e
theorem u6 {es:List (List UInt8 × Value)} {h:aj} {b m p:Nat} {name:List UInt8} {d:PD} (r:Pe h b m es p name d) :
   ai Tryz.prog 256 ⟨[.pointer (some ⟨b,0,none⟩),St name]⟩ h fun u h'=>u=.tuple ⟨[.pointer (some ⟨p,0,none⟩),.bool true]⟩∧h'=h:=by
 obtain ⟨hb,hm,hv,_⟩:=r
 refine calls [(0,_),(1,_)] Tryz.func256 rfl Tryz.ntmps256 rfl ⟨rfl,rfl,trivial⟩ ?_
 refine G2 ?_;refine G3 ?_;refine WL.step (fP Tryz.underlying150 rfl rfl) rfl rfl rfl (Go ?_)
 refine bU 10 ?_ TT.mk
 refine Gg ?_;refine WL.step (ah rfl) rfl rfl rfl ?_;refine Gg ?_;refine Ld ?_;refine WL.step (kO Tryz.underlying187 rfl rfl) rfl rfl rfl (Go ?_);refine Gs [(0,_),(1,_),(16,_)] ?_
 refine aJ 1 2 ?_ TT.mk
 aa (refine ay 2 ?_)
 refine WC.skip ?_;refine Gn ?_;refine G2 ?_;refine WL.step (ah rfl) rfl rfl rfl (Go ?_);refine Ld ?_;refine Go ?_;refine WL.step ((gR fR Tryz.underlying187 Tryz.underlying9 rfl rfl (by assumption) (by assumption)).1) rfl rfl rfl (Go ?_)
 refine Gs [(6,_),(7,_)] ?_;refine G2 ?_;refine Gs [(4,_),(5,_)] ?_;refine Gt ?_
 exact ⟨rfl,rfl⟩
theorem J9 {es:List (List UInt8 × Value)} {h:aj} {b m p:Nat} {name:List UInt8} {d:PD} {v:Value} (r:Pe h b m es p name d) (L:List Rw) (hd:d.dm=false) (hL:kD h v L) :
   ai Tryz.prog 216 ⟨[.pointer (some ⟨b,0,none⟩),St name,v]⟩ h fun u h'=>u=.bool true∧∃ v' L',Pe h' b m es p name { d with vr:=v',rs:=L',dm:=true }∧L'.map Rw.pl=L.map Rw.pl∧(∀ k,dU v' L' k→h.size≤k)∧Ext (fun k=>k=p) h h':=by
 have ep:=r.ne
 have uz:=r.apart
 have pf:=u6 r
 obtain ⟨hb,hm,jI,hp,dJ,_⟩:=r
 have GX:=ak hp
 obtain ⟨text,vo,aU,vp,ps,vr,rs,dm,over⟩:=d
 simp only at hd
 subst hd
 dsimp only [PD.cells] at hp
 refine calls [(0,_),(1,_),(2,_)] Tryz.func216 rfl Tryz.ntmps216 rfl ⟨rfl,rfl,rfl,trivial⟩ ?_
 refine G2 ?_;refine G2 ?_;refine WL.call (vs:=[_,_]) rfl Tryz.call256 rfl (pf) rfl rfl rfl ?_
 rintro _ hz ⟨rfl,_⟩
 subst hz
 refine Go ?_;refine Gs [(2,_),(7,_),(8,_)] ?_;refine G3 ?_
 refine bU 17 ?_ TT.mk
 refine Gg ?_;refine WL.step (ah rfl) rfl rfl rfl ?_;refine Gg ?_;refine Ld ?_;refine Go ?_;refine Gs [(2,_),(7,_),(22,_)] ?_
 refine aJ 1 2 ?_ TT.mk
 aa (refine ay 2 ?_)
 refine WC.skip ?_;refine Gn ?_;refine G2 ?_;refine WL.call (vs:=[_]) rfl Tryz.call257 rfl (nY L hL) rfl rfl rfl ?_
 rintro v2 h2 ⟨L2,PJ,Ka,aK,fg⟩
 obtain ⟨A2,c2,rfl⟩:∃ A c,v2=.slice A L2.length c:=(by obtain ⟨_,⟨_,A,c,e,_⟩,_⟩:=PJ;exact ⟨A,c,e⟩)
 refine WL.step (ah rfl) rfl rfl rfl (Go ?_);refine WL.az (aD Tryz.sizeOf4 rfl rfl (aK.obj hp aQ) (Nat.le_of_ble_eq_true rfl) rfl rfl) rfl rfl ?_
 rintro _ h3 ⟨bC,aS⟩
 refine WL.step (ah rfl) rfl rfl rfl (Go ?_);refine WL.az (aD Tryz.sizeOf271 rfl rfl bC (Nat.le_of_ble_eq_true rfl) rfl rfl) rfl rfl ?_
 rintro _ h4 ⟨bN,bh⟩
 have Kb:=aS.trans bh
 have AP:=(aK.mono (S':=fun k=>k=p) (fun _ _ e=>e.elim)).trans Kb
 refine Gn ?_;refine Gs [] ?_;refine G2 ?_;refine Gt ?_
 exact ⟨rfl,_,L2,⟨AP.obj hb ep.1,hm.ext AP ep.2,jI,bN,⟨dJ.aU.ext' AP (fun k h1 h2 e=>uz k (.inl ⟨h1,h2⟩) e),dJ.lo,dJ.ps.ext AP (fun k hk e=>uz k (.inr (.inl hk)) e),PJ.ext Kb (fun k hk e=>by have:=fg k hk;omega)⟩,fun k hk e=>by rcases hk with hk | hk | hk;exact uz k (.inl hk) e;exact uz k (.inr (.inl hk)) e;have:=fg k hk;omega⟩,Ka,fg,AP⟩
theorem DZ {es:List (List UInt8 × Value)} {h:aj} {b m p:Nat} {name:List UInt8} {d:PD} {v:Value} (r:Pe h b m es p name d) (hd:d.dm=true) :
   ai Tryz.prog 216 ⟨[.pointer (some ⟨b,0,none⟩),St name,v]⟩ h fun u h'=>u=.bool false∧h'=h:=by
 have pf:=u6 r
 obtain ⟨hb,hm,jI,hp,dJ,_⟩:=r
 obtain ⟨text,vo,aU,vp,ps,vr,rs,dm,over⟩:=d
 simp only at hd
 subst hd
 dsimp only [PD.cells] at hp
 refine calls [(0,_),(1,_),(2,_)] Tryz.func216 rfl Tryz.ntmps216 rfl ⟨rfl,rfl,rfl,trivial⟩ ?_
 refine G2 ?_;refine G2 ?_;refine WL.call (vs:=[_,_]) rfl Tryz.call256 rfl (pf) rfl rfl rfl ?_
 rintro _ hz ⟨rfl,_⟩
 subst hz
 refine Go ?_;refine Gs [(2,_),(7,_),(8,_)] ?_;refine G3 ?_
 refine bU 17 ?_ TT.mk
 refine Gg ?_;refine WL.step (ah rfl) rfl rfl rfl ?_;refine Gg ?_;refine Ld ?_;refine Go ?_;refine Gs [(2,_),(7,_),(22,_)] ?_
 refine aJ 1 2 ?_ TT.mk
 aa (refine ay 1 ?_)
 refine G2 ?_;refine Gt ?_
 exact ⟨rfl,rfl⟩
theorem nZ {es:List (List UInt8 × Value)} {h h':aj} {b m p n c0:Nat} {A0:Option Addr} {name text:List UInt8} {vo vp:Value} {aU:List Int} {ps:List bj} {rs:List Rw} (hb:h[b]?=some (.cells ⟨[.map (some m)]⟩ 189 (0,0))) (hm:Mp .string St h m es) (jI:dg es name=some (.pointer (some ⟨p,0,none⟩))) (ep:b ≠ p∧m ≠ p)
   (uz:∀ k,PD.F ⟨text,vo,aU,vp,ps,.slice A0 rs.length c0,rs,true,false⟩ k→k ≠ p) (dJ:PD.ok h ⟨text,vo,aU,vp,ps,.slice A0 rs.length c0,rs,true,false⟩) (hn:n≤rs.length) (hx:Ext (fun k=>k=p) h h')
   (bN:h'[p]?=some (.cells ⟨[St text,vo,vp,.slice (if c0=n then A0 else A0.map (·.add (n * 1))) (rs.length - n) (c0 - n),.bool true,.bool (decide (((rs.length - n:Nat):Int)=0))]⟩ 273 (0,0))) :
   ∃ wo wT,Value.tuple ⟨[.slice A0 n n,.bool (!decide (((rs.length - n:Nat):Int)=0))]⟩=.tuple ⟨[wo,.bool (!decide (((rs.length - n:Nat):Int)=0))]⟩∧kD h' wo (rs.take n)∧Pe h' b m es p name ⟨text,vo,aU,vp,ps,wT,rs.drop n,true,decide (((rs.length - n:Nat):Int)=0)⟩∧(∀ k,dU wo (rs.take n) k→dU (.slice A0 rs.length c0) rs k)∧(∀ k,dU wT (rs.drop n) k→dU (.slice A0 rs.length c0) rs k)∧Ext (fun k=>k=p) h h':=by
 obtain ⟨t1,t2⟩:=AN dJ.rs hn
 obtain ⟨d1,d2⟩:=AO dJ.rs hn
 refine ⟨_,_,rfl,t1.ext hx fun k hk e=>uz k (.inr (.inr (t2 k hk))) e,⟨hx.obj hb ep.1,hm.ext hx ep.2,jI,bN,⟨dJ.aU.ext' hx (fun k h1 h2 e=>uz k (.inl ⟨h1,h2⟩) e),dJ.lo,dJ.ps.ext hx (fun k hk e=>uz k (.inr (.inl hk)) e),d1.ext hx fun k hk e=>uz k (.inr (.inr (d2 k hk))) e⟩,fun k hk e=>?_⟩,t2,d2,hx⟩
 rcases hk with hk | hk | hk
 · exact uz k (.inl hk) e
 · exact uz k (.inr (.inl hk)) e
 · exact uz k (.inr (.inr (d2 k hk))) e
theorem u7 {es:List (List UInt8 × Value)} {h:aj} {b m p:Nat} {name:List UInt8} {d:PD} (r:Pe h b m es p name d) (most:Int) (FV:¬ 0 < most) (hd:d.dm=true) (hv:d.over=false) :
   ai Tryz.prog 219 ⟨[.pointer (some ⟨b,0,none⟩),St name,In most]⟩ h fun u h'=>∃ vo wT,u=.tuple ⟨[vo,.bool (!decide (((d.rs.length - d.rs.length:Nat):Int)=0))]⟩∧kD h' vo (d.rs.take d.rs.length)∧Pe h' b m es p name { d with vr:=wT,rs:=d.rs.drop d.rs.length,over:=decide (((d.rs.length - d.rs.length:Nat):Int)=0) }∧(∀ k,dU vo (d.rs.take d.rs.length) k→dU d.vr d.rs k)∧(∀ k,dU wT (d.rs.drop d.rs.length) k→dU d.vr d.rs k)∧Ext (fun k=>k=p) h h':=by
 have ep:=r.ne
 have uz:=r.apart
 have pf:=u6 r
 obtain ⟨hb,hm,jI,hp,dJ,_⟩:=r
 obtain ⟨text,vo,aU,vp,ps,vr,rs,dm,over⟩:=d
 simp only at hd hv
 subst hd
 subst hv
 obtain ⟨A0,c0,rfl,_⟩:∃ A c,vr=.slice A rs.length c∧c≤maxLen:=dJ.rs.2.1.2
 dsimp only [PD.cells] at hp
 have Kc:=dJ.rs.2.1.1
 simp only at Kc
 unfold reachBytes at Kc
 have Nt:rs.length≤c0:=by
   obtain ⟨A',c',e,hc,_⟩:=dJ.rs.1
   simp only [Value.slice.injEq] at e
   obtain ⟨_,_,rfl⟩:=e
   exact hc
 refine calls [(0,_),(1,_),(2,_)] Tryz.func219 rfl Tryz.ntmps219 rfl ⟨rfl,rfl,rfl,trivial⟩ ?_
 refine G2 ?_;refine G2 ?_;refine WL.call (vs:=[_,_]) rfl Tryz.call256 rfl (pf) rfl rfl rfl ?_
 rintro _ hz ⟨rfl,_⟩
 subst hz
 refine Go ?_;refine Gs [(2,_),(8,_),(9,_)] ?_;refine G3 ?_
 refine bU 20 ?_ TT.mk
 refine Gg ?_;refine WL.step (ah rfl) rfl rfl rfl ?_;refine Gg ?_;refine Ld ?_;refine Gg ?_;refine Go ?_
 refine bU 27 ?_ TT.mk
 refine Gg ?_;refine WL.step (ah rfl) rfl rfl rfl ?_;refine Gg ?_;refine Ld ?_;refine Go ?_;refine Gs [(2,_),(8,_),(32,_)] ?_
 refine aJ 1 2 ?_ TT.mk
 aa (refine ay 2 ?_)
 refine WC.skip ?_;refine Gn ?_;refine G2 ?_;refine WL.step (ah rfl) rfl rfl rfl (Go ?_);refine Ld ?_;refine Go ?_;refine Gs [(2,_),(8,_),(10,_)] ?_;refine G3 ?_
 refine aJ 3 4 ?_ TT.mk
 aa (refine ay 4 ?_)
 refine WC.skip ?_;refine Gn ?_;refine G2 ?_;refine WL.step (ah rfl) rfl rfl rfl (Go ?_);refine Ld ?_;refine Go ?_;refine WL.step (fD Tryz.underlying271 Tryz.sizeOf40 rfl rfl rfl (by omega)) rfl rfl rfl (Go ?_)
 refine Gs [(8,_),(10,_),(11,_)] ?_;refine G2 ?_;refine WL.step (ah rfl) rfl rfl rfl (Go ?_);refine Ld ?_;refine Go ?_;refine WL.step (dY Tryz.underlying271 Tryz.sizeOf40 rfl rfl (by omega)) rfl rfl rfl ?_
 refine WL.step (ah rfl) rfl rfl rfl (Go ?_);refine WL.az (aD Tryz.sizeOf271 rfl rfl hp (Nat.le_of_ble_eq_true rfl) rfl rfl) rfl rfl ?_
 rintro _ h3 ⟨bC,aS⟩
 refine Gn ?_;refine Gs [(8,_),(11,_)] ?_;refine G2 ?_;refine WL.step (ah rfl) rfl rfl rfl (Go ?_);refine Ld ?_;refine WL.step (cB rfl Tryz.underlying271 rfl) rfl rfl rfl ?_;refine WL.step (nI rfl rfl) rfl rfl rfl ?_;refine WL.step (ah rfl) rfl rfl rfl (Go ?_);refine WL.az (aD Tryz.sizeOf4 rfl rfl bC (Nat.le_of_ble_eq_true rfl) rfl rfl) rfl rfl ?_
 rintro _ h4 ⟨bN,bh⟩
 refine Gn ?_;refine Gs [(8,_),(11,_)] ?_;refine WC.seq ?_;refine WC.gu dB (by kernel_rfl) ?_
 refine WQ.aM (an rfl) rfl rfl rfl ?_;refine WQ.aM (an rfl) rfl rfl rfl ?_;refine WQ.aM (ah rfl) rfl rfl rfl ?_;refine WQ.aM (ag rfl Tryz.underlying273 rfl Tryz.sizeOf4) rfl rfl rfl ?_;refine WQ.aM (aC Tryz.isAgg4 rfl (by first | assumption | exact ab (by assumption) rfl)) rfl rfl rfl ?_
 refine WQ.aM (dI rfl) rfl rfl rfl ?_;refine WQ.aM (aR rfl) rfl rfl rfl ?_;refine WQ.aM (aR rfl) rfl rfl rfl ?_;refine WQ.nil ?_;refine Gn ?_;refine Gs [(6,_),(7,_)] ?_;refine Gt ?_
 exact nZ (n:=rs.length) hb hm jI ep uz dJ (by omega) (aS.trans bh) bN
theorem tc {es:List (List UInt8 × Value)} {h:aj} {b m p n:Nat} {name:List UInt8} {d:PD} (r:Pe h b m es p name d) (most:Int) (FV:0 < most) (hn:min (d.rs.length:Int) most=(n:Int)) (hd:d.dm=true) (hv:d.over=false) :
   ai Tryz.prog 219 ⟨[.pointer (some ⟨b,0,none⟩),St name,In most]⟩ h fun u h'=>∃ vo wT,u=.tuple ⟨[vo,.bool (!decide (((d.rs.length - n:Nat):Int)=0))]⟩∧kD h' vo (d.rs.take n)∧Pe h' b m es p name { d with vr:=wT,rs:=d.rs.drop n,over:=decide (((d.rs.length - n:Nat):Int)=0) }∧(∀ k,dU vo (d.rs.take n) k→dU d.vr d.rs k)∧(∀ k,dU wT (d.rs.drop n) k→dU d.vr d.rs k)∧Ext (fun k=>k=p) h h':=by
 have ep:=r.ne
 have uz:=r.apart
 have pf:=u6 r
 obtain ⟨hb,hm,jI,hp,dJ,_⟩:=r
 obtain ⟨text,vo,aU,vp,ps,vr,rs,dm,over⟩:=d
 simp only at hd hv hn
 subst hd
 subst hv
 obtain ⟨A0,c0,rfl,_⟩:∃ A c,vr=.slice A rs.length c∧c≤maxLen:=dJ.rs.2.1.2
 dsimp only [PD.cells] at hp
 have Kc:=dJ.rs.2.1.1
 simp only at Kc
 unfold reachBytes at Kc
 have Nt:rs.length≤c0:=by
   obtain ⟨A',c',e,hc,_⟩:=dJ.rs.1
   simp only [Value.slice.injEq] at e
   obtain ⟨_,_,rfl⟩:=e
   exact hc
 refine calls [(0,_),(1,_),(2,_)] Tryz.func219 rfl Tryz.ntmps219 rfl ⟨rfl,rfl,rfl,trivial⟩ ?_
 refine G2 ?_;refine G2 ?_;refine WL.call (vs:=[_,_]) rfl Tryz.call256 rfl (pf) rfl rfl rfl ?_
 rintro _ hz ⟨rfl,_⟩
 subst hz
 refine Go ?_;refine Gs [(2,_),(8,_),(9,_)] ?_;refine G3 ?_
 refine bU 20 ?_ TT.mk
 refine Gg ?_;refine WL.step (ah rfl) rfl rfl rfl ?_;refine Gg ?_;refine Ld ?_;refine Gg ?_;refine Go ?_
 refine bU 27 ?_ TT.mk
 refine Gg ?_;refine WL.step (ah rfl) rfl rfl rfl ?_;refine Gg ?_;refine Ld ?_;refine Go ?_;refine Gs [(2,_),(8,_),(32,_)] ?_
 refine aJ 1 2 ?_ TT.mk
 aa (refine ay 2 ?_)
 refine WC.skip ?_;refine Gn ?_;refine G2 ?_;refine WL.step (ah rfl) rfl rfl rfl (Go ?_);refine Ld ?_;refine Go ?_;refine Gs [(2,_),(8,_),(10,_)] ?_;refine G3 ?_
 refine aJ 3 4 ?_ TT.mk
 aa (refine ay 3 ?_)
 refine WC.region (Go ?_);refine WL.step (kU rfl rfl) rfl rfl rfl ?_
 rw [show (if most < (rs.length:Int) then most else (rs.length:Int))=(n:Int) by (split <;> omega)]
 refine Go ?_;refine Gn ?_;refine G2 ?_;refine WL.step (ah rfl) rfl rfl rfl (Go ?_);refine Ld ?_;refine Go ?_;refine WL.step (fD Tryz.underlying271 Tryz.sizeOf40 rfl rfl rfl (by omega)) rfl rfl rfl (Go ?_)
 refine Gs [(8,_),(10,_),(11,_)] ?_;refine G2 ?_;refine WL.step (ah rfl) rfl rfl rfl (Go ?_);refine Ld ?_;refine Go ?_;refine WL.step (dY Tryz.underlying271 Tryz.sizeOf40 rfl rfl (by omega)) rfl rfl rfl ?_
 refine WL.step (ah rfl) rfl rfl rfl (Go ?_);refine WL.az (aD Tryz.sizeOf271 rfl rfl hp (Nat.le_of_ble_eq_true rfl) rfl rfl) rfl rfl ?_
 rintro _ h3 ⟨bC,aS⟩
 refine Gn ?_;refine Gs [(8,_),(11,_)] ?_;refine G2 ?_;refine WL.step (ah rfl) rfl rfl rfl (Go ?_);refine Ld ?_;refine WL.step (cB rfl Tryz.underlying271 rfl) rfl rfl rfl ?_;refine WL.step (nI rfl rfl) rfl rfl rfl ?_;refine WL.step (ah rfl) rfl rfl rfl (Go ?_);refine WL.az (aD Tryz.sizeOf4 rfl rfl bC (Nat.le_of_ble_eq_true rfl) rfl rfl) rfl rfl ?_
 rintro _ h4 ⟨bN,bh⟩
 refine Gn ?_;refine Gs [(8,_),(11,_)] ?_;refine WC.seq ?_;refine WC.gu dB (by kernel_rfl) ?_
 refine WQ.aM (an rfl) rfl rfl rfl ?_;refine WQ.aM (an rfl) rfl rfl rfl ?_;refine WQ.aM (ah rfl) rfl rfl rfl ?_;refine WQ.aM (ag rfl Tryz.underlying273 rfl Tryz.sizeOf4) rfl rfl rfl ?_;refine WQ.aM (aC Tryz.isAgg4 rfl (by first | assumption | exact ab (by assumption) rfl)) rfl rfl rfl ?_
 refine WQ.aM (dI rfl) rfl rfl rfl ?_;refine WQ.aM (aR rfl) rfl rfl rfl ?_;refine WQ.aM (aR rfl) rfl rfl rfl ?_;refine WQ.nil ?_;refine Gn ?_;refine Gs [(6,_),(7,_)] ?_;refine Gt ?_
 exact nZ (n:=n) hb hm jI ep uz dJ (by omega) (aS.trans bh) bN
theorem td {es:List (List UInt8 × Value)} {h:aj} {b m p:Nat} {name:List UInt8} {d:PD} (r:Pe h b m es p name d) (most:Int) (hd:d.dm=true) (hv:d.over=true) :
   ai Tryz.prog 219 ⟨[.pointer (some ⟨b,0,none⟩),St name,In most]⟩ h fun u h'=>u=.tuple ⟨[.slice none 0 0,.bool false]⟩∧h'=h:=by
 have pf:=u6 r
 obtain ⟨hb,hm,jI,hp,dJ,_⟩:=r
 obtain ⟨text,vo,aU,vp,ps,vr,rs,dm,over⟩:=d
 simp only at hd hv
 subst hd
 subst hv
 dsimp only [PD.cells] at hp
 refine calls [(0,_),(1,_),(2,_)] Tryz.func219 rfl Tryz.ntmps219 rfl ⟨rfl,rfl,rfl,trivial⟩ ?_
 refine G2 ?_;refine G2 ?_;refine WL.call (vs:=[_,_]) rfl Tryz.call256 rfl (pf) rfl rfl rfl ?_
 rintro _ hz ⟨rfl,_⟩
 subst hz
 refine Go ?_;refine Gs [(2,_),(8,_),(9,_)] ?_;refine G3 ?_
 refine bU 20 ?_ TT.mk
 refine Gg ?_;refine WL.step (ah rfl) rfl rfl rfl ?_;refine Gg ?_;refine Ld ?_;refine Gg ?_;refine Go ?_
 refine bU 27 ?_ TT.mk
 refine Gg ?_;refine WL.step (ah rfl) rfl rfl rfl ?_;refine Gg ?_;refine Ld ?_;refine Go ?_;refine Gs [(2,_),(8,_),(32,_)] ?_
 refine aJ 1 2 ?_ TT.mk
 aa (refine ay 1 ?_)
 refine G2 ?_;refine Gt ?_
 exact ⟨rfl,rfl⟩
theorem va {P:Program} {f:Fr} {h:aj} {dd:Option Tmp} {ty:TypeId} {pos:String} {af:Array Edge} {g:Option (Nat × Bool)} {x:Operand} {t kt et:TypeId} {ts:Array TypeId} {κ:Type} {d:TypeDesc} {enc:κ→Value} {m:Nat} {es:List (κ × Value)} (uJ:ts=#[t]) (hu:P.underlying t=some (.map kt et)) (hx:f.ev x=some (.map (some m))) (hm:Mp d enc h m es) :
   fa P f ⟨dd,.call { callee:=.builtin .clear,args:=#[x],argTypes:=ts },ty,pos,af,g⟩ h (fun _ h'=>Mp d enc h' m ([]:List (κ × Value))∧Ext (fun b=>b=m) h h'):=fun ρ w ha hw=>by
 subst uJ
 subst hw
 obtain ⟨arr,clock,hb,hs,he⟩:=hm
 refine ⟨.tuple #[],{ w with heap:=w.heap.setIfInBounds m (.map #[] clock) },⟨rfl,rfl,rfl,trivial⟩,⟨⟨_,_,dQ hb,MapKept.stamped_empty _,rfl⟩,.set _ _ _ rfl⟩,.inl ?_⟩
 simp [execOp,resolve,invoke,builtin,ha _ _ hx,Builtin.clear_,run_underlying hu,MapKept.run_getObj_map hb,MapKept.run_setObj_map _ hb]
section
variable {h:aj} {b m:Nat} {es:List (List UInt8 × Value)}
theorem qX (name:List UInt8) (hb:h[b]?=some (.cells ⟨[.map (some m)]⟩ 189 (0,0))) (hm:Mp .string St h m es) (hv:dg es name=none) :
   ai Tryz.prog 256 ⟨[.pointer (some ⟨b,0,none⟩),St name]⟩ h fun u h'=>u=.tuple ⟨[.pointer none,.bool false]⟩∧h'=h:=by
 refine calls [(0,_),(1,_)] Tryz.func256 rfl Tryz.ntmps256 rfl ⟨rfl,rfl,trivial⟩ ?_
 refine G2 ?_;refine G3 ?_;refine WL.step (fP Tryz.underlying150 rfl rfl) rfl rfl rfl (Go ?_)
 refine bU 10 ?_ TT.mk
 refine Gg ?_;refine WL.step (ah rfl) rfl rfl rfl ?_;refine Gg ?_;refine Ld ?_;refine WL.step (kO Tryz.underlying187 rfl rfl) rfl rfl rfl (Go ?_);refine Gs [(0,_),(1,_),(16,_)] ?_
 refine aJ 1 2 ?_ TT.mk
 aa (refine ay 2 ?_)
 refine WC.skip ?_;refine Gn ?_;refine G2 ?_;refine WL.step (ah rfl) rfl rfl rfl (Go ?_);refine Ld ?_;refine Go ?_;refine WL.step ((dD fR Tryz.underlying187 Tryz.underlying9 (fun w=>Tryz.zeroValue318 w) rfl rfl (by assumption) (by assumption)).1) rfl rfl rfl (Go ?_)
 refine Gs [(6,_),(7,_)] ?_;refine G2 ?_;refine Gs [(4,_),(5,_)] ?_;refine Gt ?_
 exact ⟨rfl,rfl⟩
theorem Hl (hb:h[b]?=some (.cells ⟨[.map (some m)]⟩ 189 (0,0))) (hm:Mp .string St h m es):b ≠ m:=by
 rintro rfl
 obtain ⟨_,_,e,_⟩:=hm
 rw [hb] at e
 cases e
theorem Ke (name:List UInt8) (d:PD) (hb:h[b]?=some (.cells ⟨[.map (some m)]⟩ 189 (0,0))) (hm:Mp .string St h m es) (hd:d.ok h) (hn:name=[]∨dg es name=none) :
   ai Tryz.prog 210 ⟨[.pointer (some ⟨b,0,none⟩),St name,.agg ⟨d.cells⟩]⟩ h fun u h'=>u=In 0∧∃ p d',Mp .string St h' m (uN es name (.pointer (some ⟨p,0,none⟩)))∧h'[p]?=some (.cells ⟨PD.cells d'⟩ 273 (0,0))∧d'.ok h'∧d'.pl=d.pl∧h.size≤p∧(∀ k,d'.F k→h.size≤k∧k ≠ p)∧Ext (fun k=>k=m) h h':=by
 have Ur:=Hl hb hm
 have uP:=hm.lt
 have xY:dg es name=none∨∃ v,dg es name=some v∧name=[]:=by
   rcases hv:dg es name with _ | v
   · exact .inl rfl
   · rcases hn with e | e
     · exact .inr ⟨v,rfl,e⟩
     · rw [hv] at e;cases e
 rcases xY with hv | ⟨v0,hv,rfl⟩
 aa
   refine calls [(0,_),(1,_),(2,_)] Tryz.func210 rfl Tryz.ntmps210 rfl ⟨rfl,rfl,rfl,trivial⟩ ?_
   aa (refine WC.sr ?_;refine WL.al (aI rfl) rfl rfl rfl ?_;rintro _ h1 ⟨b5,rfl,r6,cd,aO⟩;have zr:=aO.obj hb aQ;have PK:=hm.ext aO aQ;have MQ:=hd.ext aO (fun _ _=>aQ);refine Go ?_;refine G3 ?_;refine WL.step (fP Tryz.underlying150 rfl rfl) rfl rfl rfl (Go ?_);refine bU 12 ?_ TT.mk;refine Gg ?_;refine WL.step (ah rfl) rfl rfl rfl ?_;refine Gg ?_;refine Ld ?_;refine WL.step (kO Tryz.underlying187 rfl rfl) rfl rfl rfl (Go ?_);refine Gs [(0,_),(1,_),(5,_),(18,_)] ?_;refine aJ 1 2 ?_ TT.mk;refine ay 2 ?_;refine WC.skip ?_;refine Gn ?_;refine G3 ?_;refine WL.step (ah rfl) rfl rfl rfl (Go ?_);refine Ld ?_;refine Go ?_;first | (refine WL.step ((gR fR Tryz.underlying187 Tryz.underlying9 rfl rfl (by assumption) (by assumption)).1) rfl rfl rfl ?_) | (refine WL.step ((dD fR Tryz.underlying187 Tryz.underlying9 (fun w=>Tryz.zeroValue318 w) rfl rfl (by assumption) (by assumption)).1) rfl rfl rfl ?_))
   aa (refine Go ?_;refine Gs [(0,_),(1,_),(5,_),(8,_)] ?_;refine G2 ?_;refine bU 29 ?_ TT.mk;refine Gg ?_;refine Go ?_;refine Gs [(0,_),(1,_),(5,_),(32,_)] ?_;refine aJ 3 4 ?_ TT.mk;refine ay 4 ?_;refine WC.skip ?_;refine Gn ?_;refine WC.sr ?_;refine WL.step (aA Tryz.isAgg273 Tryz.sizeOf273 rfl rfl (by exact At.ax cd)) rfl rfl rfl ?_;refine WL.call (vs:=[_]) rfl Tryz.call248 rfl (tb d MQ) rfl rfl rfl ?_;rintro _ h2 ⟨d2,rfl,jv,lj,aK,fg⟩;refine WL.al (au (fun w=>Tryz.zeroValue273 w)) rfl rfl rfl ?_;rintro _ h3 ⟨b3,rfl,gN,bC,aS⟩;refine WL.az (aq Tryz.sizeOf273 rfl rfl rfl (by assumption) rfl (fp jv)) rfl rfl ?_;rintro _ h4 ⟨bN,bh⟩;have iP:Ext No h1 h4:=(aK.trans aS).trans' bh (fun k hk e=>by have:=aK.size;omega);have PM:=iP.obj zr aQ;have Df:=PK.ext iP aQ;refine Gn ?_;refine Gs [(0,_),(1,_),(9,_)] ?_;refine G2 ?_;refine WL.step (ah rfl) rfl rfl rfl (Go ?_);refine Ld ?_;refine Go ?_;refine WL.az (ij fR Tryz.underlying187 Tryz.underlying9 rfl rfl rfl (by assumption)) rfl rfl ?_;rintro _ h6 ⟨RH,aP⟩;refine Gn ?_;refine Gs [] ?_;refine G2 ?_;refine Gt ?_;exact ⟨rfl,b3,d2,RH,aP.obj bN (fun e=>by have:=aO.size;have:=aK.size;omega),(jv.ext (aS.trans' bh (S:=No) (fun k hk e=>by omega)) (fun _ _=>aQ)).ext aP (fun k hk e=>by have:=fg k hk;have:=aO.size;omega),lj,by have:=aO.size;have:=aK.size;omega,fun k hk=>⟨by have:=fg k hk;have:=aO.size;omega,fun e=>by have:=jv.lt hk;omega⟩,(aO.mono (fun _ _ e=>e.elim)).trans ((iP.mono (fun _ _ e=>e.elim)).trans aP)⟩)
theorem Hm (name:List UInt8) (d:PD) (hb:h[b]?=some (.cells ⟨[.map (some m)]⟩ 189 (0,0))) (hm:Mp .string St h m es) {v:Value} (hv:dg es name=some v) (hn:name ≠ []) :
   ai Tryz.prog 210 ⟨[.pointer (some ⟨b,0,none⟩),St name,.agg ⟨d.cells⟩]⟩ h fun u h'=>u=In 8∧Ext No h h':=by
 refine calls [(0,_),(1,_),(2,_)] Tryz.func210 rfl Tryz.ntmps210 rfl ⟨rfl,rfl,rfl,trivial⟩ ?_
 refine WC.sr ?_;refine WL.al (aI rfl) rfl rfl rfl ?_
 rintro _ h1 ⟨b5,rfl,r6,cd,aO⟩
 have zr:=aO.obj hb aQ
 have PK:=hm.ext aO aQ
 refine Go ?_;refine G3 ?_;refine WL.step (fP Tryz.underlying150 rfl rfl) rfl rfl rfl (Go ?_)
 refine bU 12 ?_ TT.mk
 refine Gg ?_;refine WL.step (ah rfl) rfl rfl rfl ?_;refine Gg ?_;refine Ld ?_;refine WL.step (kO Tryz.underlying187 rfl rfl) rfl rfl rfl (Go ?_);refine Gs [(0,_),(1,_),(5,_),(18,_)] ?_
 refine aJ 1 2 ?_ TT.mk
 aa (refine ay 2 ?_)
 refine WC.skip ?_;refine Gn ?_;refine G3 ?_;refine WL.step (ah rfl) rfl rfl rfl (Go ?_);refine Ld ?_;refine Go ?_;refine WL.step ((gR fR Tryz.underlying187 Tryz.underlying9 rfl rfl (by assumption) (by assumption)).1) rfl rfl rfl (Go ?_)
 refine Gs [(0,_),(1,_),(5,_),(8,_)] ?_;refine G2 ?_
 refine bU 29 ?_ TT.mk
 refine Gg ?_;refine Go ?_;refine Gs [(0,_),(1,_),(5,_),(32,_)] ?_
 refine aJ 3 4 ?_ TT.mk
 aa (refine ay 3 ?_)
 refine G2 ?_;refine Gs [(6,_)] ?_;refine Gt ?_
 exact ⟨rfl,aO⟩
theorem Hn (name:List UInt8) (hb:h[b]?=some (.cells ⟨[.map (some m)]⟩ 189 (0,0))) (hm:Mp .string St h m es) (hv:dg es name=none) :
   ai Tryz.prog 249 ⟨[.pointer (some ⟨b,0,none⟩),St name]⟩ h fun u h'=>u=.tuple ⟨[.agg ⟨Hj.cells⟩,.bool false]⟩∧Ext No h h':=by
 refine calls [(0,_),(1,_)] Tryz.func249 rfl Tryz.ntmps249 rfl ⟨rfl,rfl,trivial⟩ ?_
 refine WC.sr ?_;refine WL.al (au (fun w=>Tryz.zeroValue273 w)) rfl rfl rfl ?_
 rintro _ h1 ⟨b1,rfl,b0,aT,aB⟩
 refine Go ?_;refine G2 ?_;refine WL.call (vs:=[_,_]) rfl Tryz.call256 rfl (qX name (aB.obj hb aQ) (hm.ext aB aQ) hv) rfl rfl rfl ?_
 rintro _ hz ⟨rfl,_⟩
 subst hz
 refine Go ?_;refine Gs [(4,_),(6,_),(7,_)] ?_;refine G3 ?_
 refine aJ 1 2 ?_ TT.mk
 aa (refine ay 1 ?_)
 refine WC.sr ?_;refine WL.step (aH (vs:=[]) (cs:=[_,_,_,_,_,_]) (fun | []=>[(St []),(.slice none 0 0),(.slice none 0 0),(.slice none 0 0),(.bool false),(.bool false)] | _=>[]) rfl rfl (by kernel_rfl)) rfl rfl rfl ?_
 refine WL.az (aq Tryz.sizeOf273 rfl rfl rfl aT rfl (by simp [Value.oneCell'])) rfl rfl ?_
 rintro _ h2 ⟨bR,aK⟩
 refine Go ?_;refine Gs [(4,_),(5,_)] ?_;refine WC.ret ?_
 repeat' (ae first | refine bq ?_ | refine ba ?_)
 refine di _ _ ⟨⟨_,rfl,bJ Tryz.isAgg273 Tryz.sizeOf273 (by assumption) rfl⟩,rfl,trivial⟩ ?_
 exact ⟨rfl,aB.trans' aK (fun k hk e=>by omega)⟩
theorem Pe.av {h':aj} {p:Nat} {name:List UInt8} {d:PD} (r:Pe h b m es p name d) (a:Ext No h h'):Pe h' b m es p name d :=
 ⟨a.obj r.set aQ,r.map.ext a aQ,r.look,a.obj r.bB aQ,r.ok.ext a (fun _ _=>aQ),r.apart⟩
theorem FW {p:Nat} {name:List UInt8} {d:PD} (r:Pe h b m es p name d) :
   ai Tryz.prog 221 ⟨[.pointer (some ⟨b,0,none⟩),St name]⟩ h fun u h'=>u=.bool true∧Mp .string St h' m (mU es name)∧Ext (fun k=>k=m) h h':=by
 have hb:=r.set
 have hm:=r.map
 refine calls [(0,_),(1,_)] Tryz.func221 rfl Tryz.ntmps221 rfl ⟨rfl,rfl,trivial⟩ ?_
 refine G2 ?_;refine G2 ?_;refine WL.call (vs:=[_,_]) rfl Tryz.call256 rfl (u6 r) rfl rfl rfl ?_
 rintro _ hz ⟨rfl,_⟩
 subst hz
 refine Go ?_;refine Gs [(0,_),(1,_),(6,_)] ?_;refine G3 ?_
 refine aJ 1 2 ?_ TT.mk
 aa (refine ay 1 ?_)
 refine WC.region (Go ?_);refine WL.step (ah rfl) rfl rfl rfl (Go ?_);refine Ld ?_;refine Go ?_;refine WL.az (fG rfl fR Tryz.underlying187 Tryz.underlying9 rfl rfl (by assumption)) rfl rfl ?_
 rintro _ h1 ⟨De,aB⟩
 refine Gn ?_;refine Gn ?_;refine G2 ?_;refine Gs [(4,_)] ?_;refine Gt ?_
 exact ⟨rfl,De,aB⟩
theorem AQ (name:List UInt8) (hb:h[b]?=some (.cells ⟨[.map (some m)]⟩ 189 (0,0))) (hm:Mp .string St h m es) (hv:dg es name=none) :
   ai Tryz.prog 221 ⟨[.pointer (some ⟨b,0,none⟩),St name]⟩ h fun u h'=>u=.bool false∧h'=h:=by
 refine calls [(0,_),(1,_)] Tryz.func221 rfl Tryz.ntmps221 rfl ⟨rfl,rfl,trivial⟩ ?_
 refine G2 ?_;refine G2 ?_;refine WL.call (vs:=[_,_]) rfl Tryz.call256 rfl (qX name hb hm hv) rfl rfl rfl ?_
 rintro _ hz ⟨rfl,_⟩
 subst hz
 refine Go ?_;refine Gs [(0,_),(1,_),(6,_)] ?_;refine G3 ?_
 refine aJ 1 2 ?_ TT.mk
 aa (refine ay 2 ?_)
 refine WC.skip ?_;refine Gn ?_;refine G2 ?_;refine Gs [(4,_)] ?_;refine Gt ?_
 exact ⟨rfl,rfl⟩
theorem D0 (hb:h[b]?=some (.cells ⟨[.map (some m)]⟩ 189 (0,0))) (hm:Mp .string St h m es) :
   ai Tryz.prog 145 ⟨[.pointer (some ⟨b,0,none⟩)]⟩ h fun u h'=>u=.tuple ⟨[]⟩∧Mp .string St h' m ([]:List (List UInt8 × Value))∧Ext (fun k=>k=m) h h':=by
 refine calls [(0,_)] Tryz.func145 rfl Tryz.ntmps145 rfl ⟨rfl,trivial⟩ ?_
 refine G2 ?_;refine WL.step (ej Tryz.underlying150 rfl rfl) rfl rfl rfl ?_;refine Gn ?_
 refine aJ 1 2 ?_ TT.mk
 aa (refine ay 1 ?_)
 refine WC.region (Go ?_);refine WL.step (ah rfl) rfl rfl rfl (Go ?_);refine Ld ?_;refine WL.az (va rfl Tryz.underlying187 rfl hm) rfl rfl ?_
 rintro _ h1 ⟨De,aB⟩
 refine Gn ?_;refine Gn ?_
 refine fQ [] trivial ?_
 exact ⟨rfl,De,aB⟩
end
structure Fm where
 kind:Int
 what:Int
 name:List UInt8
 bm:List UInt8
 text:List UInt8
 vo:Value
 aU:List Int
 vf:Value
 bX:List Int
 vs:Value
 results:List Int
 vp:Value
 params:List bj
 max:Int
def Fm.cells (b:Fm):List Value:=[.int .u8 b.kind,.int .u8 b.what,St b.name,St b.bm,St b.text,b.vo,b.vf,b.vs,b.vp,In b.max]
theorem Fm.len (b:Fm):b.cells.length=10:=rfl
structure Fm.ok (h:aj) (b:Fm):Prop where
 aU:Rd h b.vo 1 b.aU.length (ints b.aU)∧b.aU.length≤maxLen
 bX:Rd h b.vf 1 b.bX.length (ints b.bX)∧b.bX.length≤maxLen
 results:Rd h b.vs 1 b.results.length (ints b.results)∧b.results.length≤maxLen
 params:cN h b.vp b.params
theorem Fm.ok.av {h h':aj} {b:Fm} (k:b.ok h) (a:Ext No h h'):b.ok h':=⟨⟨k.1.1.av a,k.1.2⟩,⟨k.2.1.av a,k.2.2⟩,⟨k.3.1.av a,k.3.2⟩,k.4.av a⟩
theorem Fm.ok.one {h:aj} {e:Fm} (k:e.ok h):∀ v∈e.cells,v.oneCell'=true:=by
 obtain ⟨A1,c1,e1,_⟩:=k.1.1
 obtain ⟨A2,c2,e2,_⟩:=k.2.1
 obtain ⟨A3,c3,e3,_⟩:=k.3.1
 obtain ⟨_,⟨_,A4,c4,e4,_⟩,_⟩:=k.4
 simp [Fm.cells,Value.oneCell',e1,e2,e3,e4]
def Fm.pl (b:Fm):=(b.kind,b.what,b.name,b.bm,b.text,b.aU,b.bX,b.results,b.params.map bj.pl,b.max)
def Ho (h:aj) (v:Value) (L:List Fm):Prop:=Rd h v 10 L.length (L.flatMap Fm.cells)∧L.length≤maxLen∧∀ e∈L,e.ok h
theorem Ho.av {h h':aj} {v:Value} {L:List Fm} (k:Ho h v L) (a:Ext No h h'):Ho h' v L:=⟨k.1.av a,k.2.1,fun r hr=>(k.2.2 r hr).av a⟩
theorem Hp {n:Int} (h:(Lit.int .u8 n).wf=true):0≤n∧n≤255:=by simpa [Lit.wf,IntKind.min,IntKind.max,IntKind.signed,IntKind.bits] using h
theorem D1 {n:Int} (h:(Lit.int .i64 n).wf=true) : -9223372036854775808≤n∧n≤9223372036854775807:=by simpa [Lit.wf,IntKind.min,IntKind.max,IntKind.signed,IntKind.bits] using h
theorem AR (w:World):ew Tryz.prog w 42 Fm.cells (fun b=>b.ok w.heap∧(0≤b.kind∧b.kind≤255) ∧ -9223372036854775808≤b.max∧b.max≤9223372036854775807):=by
 have hi:∀ {v:Value} {l:List Int},Rd w.heap v 1 l.length (l.flatMap fun n:Int=>[In n])→Rd w.heap v 1 l.length (ints l):=fun h=>by nE [sy] at h
 have jf:=cw (P:=Tryz.prog) (w:=w) (o:=9) (f:=⟨ "Max", 3,9,false, "", "", 152⟩) rfl (eO Tryz.underlying3) (by kernel_rfl) (fun _=>rfl) nO
 have h9:=cw (P:=Tryz.prog) (w:=w) (o:=8) (f:=⟨ "Params", 40,8,false, "", "", 128⟩) rfl (sN w) (by kernel_rfl) (fun _=>rfl) jf
 have h8:=cw (P:=Tryz.prog) (w:=w) (o:=7) (f:=⟨ "Results", 39,7,false, "", "", 104⟩) rfl (dX (sz:=1) (F:=fun n:Int=>[In n]) Tryz.underlying39 (by kernel_rfl) (by decide) (fun _=>rfl) (eO Tryz.underlying3)) (by kernel_rfl) (fun _=>rfl) h9
 have h7:=cw (P:=Tryz.prog) (w:=w) (o:=6) (f:=⟨ "Formats", 39,6,false, "", "", 80⟩) rfl (dX (sz:=1) (F:=fun n:Int=>[In n]) Tryz.underlying39 (by kernel_rfl) (by decide) (fun _=>rfl) (eO Tryz.underlying3)) (by kernel_rfl) (fun _=>rfl) h8
 have h6:=cw (P:=Tryz.prog) (w:=w) (o:=5) (f:=⟨ "OIDs", 39,5,false, "", "", 56⟩) rfl (dX (sz:=1) (F:=fun n:Int=>[In n]) Tryz.underlying39 (by kernel_rfl) (by decide) (fun _=>rfl) (eO Tryz.underlying3)) (by kernel_rfl) (fun _=>rfl) h7
 have h5:=cw (P:=Tryz.prog) (w:=w) (o:=4) (f:=⟨ "Text", 9,4,false, "", "", 40⟩) rfl (ik Tryz.underlying9) (by kernel_rfl) (fun _=>rfl) h6
 have h4:=cw (P:=Tryz.prog) (w:=w) (o:=3) (f:=⟨ "Portal", 9,3,false, "", "", 24⟩) rfl (ik Tryz.underlying9) (by kernel_rfl) (fun _=>rfl) h5
 have h3:=cw (P:=Tryz.prog) (w:=w) (o:=2) (f:=⟨ "Name", 9,2,false, "", "", 8⟩) rfl (ik Tryz.underlying9) (by kernel_rfl) (fun _=>rfl) h4
 have h2:=cw (P:=Tryz.prog) (w:=w) (o:=1) (f:=⟨ "What", 5,1,false, "", "", 1⟩) rfl (eO Tryz.underlying5) (by kernel_rfl) (fun _=>rfl) h3
 have h1:=cw (P:=Tryz.prog) (w:=w) (o:=0) (f:=⟨ "Kind", 5,0,false, "", "", 0⟩) rfl (eO Tryz.underlying5) (by kernel_rfl) (fun _=>rfl) h2
 have h0:=kR Tryz.underlying42 (by kernel_rfl) h1
 refine h0.map (fun p=>(⟨p.1,p.2.1,p.2.2.1,p.2.2.2.1,p.2.2.2.2.1,p.2.2.2.2.2.1.1,p.2.2.2.2.2.1.2,p.2.2.2.2.2.2.1.1,p.2.2.2.2.2.2.1.2,p.2.2.2.2.2.2.2.1.1,p.2.2.2.2.2.2.2.1.2,p.2.2.2.2.2.2.2.2.1.1,p.2.2.2.2.2.2.2.2.1.2,p.2.2.2.2.2.2.2.2.2.1⟩:Fm)) (fun _=>rfl) (fun p q=>?_)
 obtain ⟨q1,q2,q3,q4,q5,q6,q7,q8,q9,RI,_⟩:=q
 exact ⟨⟨⟨hi q6.1,q6.2.1⟩,⟨hi q7.1,q7.2.1⟩,⟨hi q8.1,q8.2.1⟩,q9⟩,Hp q1,D1 RI⟩
structure Se (h:aj) (bs ms bp mp be me:Nat) (st:Int) (sk ov:Bool) (aY:Int) (L P R:List (List UInt8 × Value)):Prop where
 bB:h[bs]?=some (.cells ⟨[.map (some ms),.pointer (some ⟨bp,0,none⟩),.pointer (some ⟨be,0,none⟩),.int .u8 st,.bool sk,.bool ov]⟩ 153 (0,0))
 ka:Mp .string St h ms L
 pb:h[bp]?=some (.cells ⟨[.map (some mp)]⟩ 189 (0,0))
 pm:Mp .string St h mp P
 eb:h[be]?=some (.cells ⟨[.map (some me),In aY]⟩ 104 (0,0))
 em:Mp .string St h me R
 ne:ms ≠ mp∧ms ≠ me∧mp ≠ me
theorem Se.av {h h':aj} {bs ms bp mp be me:Nat} {st:Int} {sk ov:Bool} {aY:Int} {L P R:List (List UInt8 × Value)} (k:Se h bs ms bp mp be me st sk ov aY L P R) (x:Ext No h h'):Se h' bs ms bp mp be me st sk ov aY L P R :=
 ⟨x.obj k.bB aQ,k.ka.ext x aQ,x.obj k.pb aQ,k.pm.ext x aQ,x.obj k.eb aQ,k.em.ext x aQ,k.ne⟩
theorem wU {h:aj}:ai Tryz.prog 24 ⟨[]⟩ h fun u h'=>∃ be me,u=.pointer (some ⟨be,0,none⟩)∧h'[be]?=some (.cells ⟨[.map (some me),In 0]⟩ 104 (0,0))∧Mp .string St h' me ([]:List (List UInt8 × Value))∧h.size≤be∧h.size≤me∧Ext No h h':=by
 refine calls [] Tryz.func24 rfl Tryz.ntmps24 rfl trivial ?_
 refine G2 ?_;refine WC.sr ?_;refine WL.al iY rfl rfl rfl ?_
 rintro _ h1 ⟨b1,rfl,b0,aT,aB⟩
 refine WL.step (aH (vs:=[_]) (cs:=[_,_]) (fun | [a0]=>[a0,(.int .i64 0)] | _=>[]) rfl rfl (by kernel_rfl)) rfl rfl rfl ?_
 refine WL.al (aI rfl) rfl rfl rfl ?_
 rintro _ h2 ⟨b2,rfl,gI,bR,aK⟩
 refine Go ?_;refine Gt ?_
 exact ⟨b2,b1,rfl,bR,⟨_,_,aK.obj aT id,MapKept.stamped_empty 0,rfl⟩,by have:=aB.size;omega,b0,aB.trans aK⟩
theorem te {h:aj} (e:Option Addr):ai Tryz.prog 49 ⟨[.pointer e]⟩ h fun u h'=>∃ bs ms bp mp,u=.pointer (some ⟨bs,0,none⟩)∧h'[bs]?=some (.cells ⟨[.map (some ms),.pointer (some ⟨bp,0,none⟩),.pointer e,.int .u8 73,.bool false,.bool false]⟩ 153 (0,0))∧Mp .string St h' ms ([]:List (List UInt8 × Value)) ∧
   h'[bp]?=some (.cells ⟨[.map (some mp)]⟩ 189 (0,0))∧Mp .string St h' mp ([]:List (List UInt8 × Value))∧h.size≤ms∧ms < mp∧h.size≤bp∧h.size≤bs∧Ext No h h':=by
 refine calls [(0,_)] Tryz.func49 rfl Tryz.ntmps49 rfl ⟨rfl,trivial⟩ ?_
 refine G2 ?_;refine WC.sr ?_;refine WL.al iY rfl rfl rfl ?_
 rintro _ h1 ⟨b1,rfl,b0,aT,aB⟩
 refine WL.call (vs:=[]) rfl Tryz.call84 rfl (AM) rfl rfl rfl ?_
 rintro _ h2 ⟨bp,mp,rfl,Nu,Nv,Us,Ns,aK⟩
 refine Go ?_;refine WL.step (aH (vs:=[_,_,_,_]) (cs:=[_,_,_,_,_,_]) (fun | [a0,a1,a2,a3]=>[a0,a1,a2,a3,(.bool false),(.bool false)] | _=>[]) rfl rfl (by kernel_rfl)) rfl rfl rfl ?_
 refine WL.al (aI rfl) rfl rfl rfl ?_
 rintro _ h3 ⟨b3,rfl,gN,bC,aS⟩
 have l1:=ak aT
 refine Go ?_;refine Gs [(2,_)] ?_;refine Gt ?_
 exact ⟨b3,b1,bp,mp,rfl,bC,⟨_,_,(aK.trans aS).obj aT id,MapKept.stamped_empty 0,rfl⟩,aS.obj Nu aQ,Nv.ext aS aQ,b0,by omega,by have:=aB.size;omega,by have:=aB.size;have:=aK.size;omega,(aB.trans aK).trans aS⟩
section
variable {h:aj} {b:Nat} {m p:Value} {e:Option Addr} {st:Int} {sk ov:Bool}
theorem lU {a:Addr} (hb:h[b]?=some (.cells ⟨[m,p,.pointer (some a),.int .u8 st,.bool sk,.bool ov]⟩ 153 (0,0))):ai Tryz.prog 99 ⟨[.pointer (some ⟨b,0,none⟩)]⟩ h fun u h'=>u=.bool (!ov)∧h'=h:=by
 cases ov
 aa
   refine calls [(0,_)] Tryz.func99 rfl Tryz.ntmps99 rfl ⟨rfl,trivial⟩ ?_
   aa (refine G2 ?_;refine G2 ?_;refine WL.step (ej Tryz.underlying90 rfl rfl) rfl rfl rfl (Go ?_);refine bU 5 ?_ TT.mk;refine Gg ?_;refine WL.step (ah rfl) rfl rfl rfl ?_;refine Gg ?_;refine Ld ?_;refine WL.step (ej Tryz.underlying46 rfl rfl) rfl rfl rfl (Go ?_);refine bU 12 ?_ TT.mk;refine Gg ?_;refine WL.step (ah rfl) rfl rfl rfl ?_;refine Gg ?_;refine Ld ?_;refine Gg ?_;refine Go ?_;refine Gs [(2,_)] ?_;refine Gt ?_;exact ⟨rfl,rfl⟩)
theorem Hq (hb:h[b]?=some (.cells ⟨[m,p,.pointer e,.int .u8 st,.bool sk,.bool ov]⟩ 153 (0,0))):ai Tryz.prog 59 ⟨[.pointer (some ⟨b,0,none⟩)]⟩ h fun u h'=>u=.bool ov∧h'=h:=by
 refine calls [(0,_)] Tryz.func59 rfl Tryz.ntmps59 rfl ⟨rfl,trivial⟩ ?_
 refine G2 ?_;refine G2 ?_;refine WL.step (ej Tryz.underlying90 rfl rfl) rfl rfl rfl (Go ?_)
 refine bU 5 ?_ TT.mk
 refine Gg ?_;refine WL.step (ah rfl) rfl rfl rfl ?_;refine Gg ?_;refine Ld ?_;refine Go ?_;refine Gs [(2,_)] ?_;refine Gt ?_
 exact ⟨rfl,rfl⟩
end
theorem eC {h:aj} {b fb:Nat} {w s p i:Value} {bg ov:Bool} (hb:h[b]?=some (.cells ⟨mN w (.pointer (some ⟨fb,0,none⟩)) s p i bg ov⟩ 96 (0,0))):ai Tryz.prog 51 ⟨[.pointer (some ⟨b,0,none⟩)]⟩ h fun u h'=>u=.bool true∧h'=h:=by
 refine calls [(0,_)] Tryz.func51 rfl Tryz.ntmps51 rfl ⟨rfl,trivial⟩ ?_
 refine G2 ?_;refine G2 ?_;refine WL.step (ej Tryz.underlying44 rfl rfl) rfl rfl rfl (Go ?_)
 refine bU 5 ?_ TT.mk
 refine Gg ?_;refine WL.step (ah rfl) rfl rfl rfl ?_;refine Gg ?_;refine WL.ld rfl (by first | exact ab hb rfl | assumption) rfl rfl rfl ?_
 refine WL.step (ej Tryz.underlying87 rfl rfl) rfl rfl rfl (Go ?_);refine Gs [(2,_)] ?_;refine Gt ?_
 exact ⟨rfl,rfl⟩
abbrev Jb:List Value:=[.int .u8 0,.int .u8 0,St [],St [],St [],.slice none 0 0,.slice none 0 0,.slice none 0 0,.slice none 0 0,In 0]
theorem n7 {h:aj}:ai Tryz.prog 50 ⟨[.slice none 0 0]⟩ h fun u h'=>u=.slice none 0 0∧h'=h:=by
 refine calls [(0,_)] Tryz.func50 rfl Tryz.ntmps50 rfl ⟨rfl,trivial⟩ ?_
 refine G2 ?_;refine G3 ?_;refine WL.step (dc Tryz.underlying60 rfl rfl) rfl rfl rfl ?_;refine Gn ?_
 refine aJ 1 2 ?_ TT.mk
 aa (refine ay 1 ?_)
 refine G2 ?_;refine Gt ?_
 exact ⟨rfl,rfl⟩
theorem Hr {h:aj} {e:Option Addr}:ai Tryz.prog 23 ⟨[.pointer e,.slice none 0 0,In 0]⟩ h fun u h'=>∃ b fb s,u=.pointer (some ⟨b,0,none⟩)∧h'[b]?=some (.cells ⟨mN (.slice none 0 0) (.pointer (some ⟨fb,0,none⟩)) s (.slice none 0 0) (In 0) false false⟩ 96 (0,0))∧Fw h' fb false (.slice none 0 0) []∧h.size≤b∧h.size≤fb∧Ext No h h':=by
 refine calls [(0,_),(1,_),(2,_)] Tryz.func23 rfl Tryz.ntmps23 rfl ⟨rfl,rfl,rfl,trivial⟩ ?_
 refine G2 ?_;refine WC.sr ?_;refine WL.call (vs:=[_,_,_]) rfl Tryz.call48 rfl (Ay) rfl rfl rfl ?_
 rintro _ h1 ⟨fb,rfl,kf,Nw,aB⟩
 refine Go ?_;refine Gs [(0,_),(1,_),(2,_),(7,_),(8,_)] ?_;refine G3 ?_
 refine aJ 1 2 ?_ TT.mk
 aa (refine ay 2 ?_)
 refine WC.skip ?_;refine Gn ?_;refine G2 ?_;refine WL.call (vs:=[_]) rfl Tryz.call49 rfl (te e) rfl rfl rfl ?_
 rintro _ h2 ⟨bs,ms,bp,mp,rfl,_,_,_,_,_,_,_,_,aK⟩
 refine Go ?_;refine WL.call (vs:=[_]) rfl Tryz.call50 rfl (n7) rfl rfl rfl ?_
 rintro _ hz ⟨rfl,_⟩
 subst hz
 refine Go ?_;refine WL.step (aH (vs:=[_,_,_,_]) (cs:=[_,_,_,_,_,_,_]) (fun | [a1,a2,a3,a4]=>[(.slice none 0 0),a1,a2,a3,a4,(.bool false),(.bool false)] | _=>[]) rfl rfl (by kernel_rfl)) rfl rfl rfl ?_
 refine WL.al (aI rfl) rfl rfl rfl ?_
 rintro _ h3 ⟨b,rfl,gN,bC,aS⟩
 refine Go ?_;refine Gs [(6,_)] ?_;refine Gt ?_
 exact ⟨b,fb,_,rfl,bC,(kf.av aK).av aS,by have:=aB.size;have:=aK.size;omega,Nw,(aB.trans aK).trans aS⟩
theorem D2 {h:aj} {b fb:Nat} {w s p i:Value} {bg:Bool} (hb:h[b]?=some (.cells ⟨mN w (.pointer (some ⟨fb,0,none⟩)) s p i bg false⟩ 96 (0,0))):ai Tryz.prog 28 ⟨[.pointer (some ⟨b,0,none⟩)]⟩ h fun u h'=>u=.bool false∧h'=h:=by
 have kr:=eC hb
 refine calls [(0,_)] Tryz.func28 rfl Tryz.ntmps28 rfl ⟨rfl,trivial⟩ ?_
 refine G2 ?_;refine G2 ?_;refine WL.call (vs:=[_]) rfl Tryz.call51 rfl (kr) rfl rfl rfl ?_
 rintro _ hq ⟨rfl,hz⟩
 replace hz:=hz.symm
 subst hz
 refine Go ?_
 refine bU 5 ?_ TT.mk
 refine Gg ?_;refine WL.step (ah rfl) rfl rfl rfl ?_;refine Gg ?_;refine WL.ld rfl (by first | exact ab hb rfl | assumption) rfl rfl rfl (Go ?_)
 refine Gs [(2,_)] ?_;refine Gt ?_
 exact ⟨rfl,rfl⟩
theorem wV {h:aj} {b fb:Nat} {w s p i v x:Value} {bg ty:Bool} {l m:List UInt8} (hb:h[b]?=some (.cells ⟨mN w (.pointer (some ⟨fb,0,none⟩)) s p i bg false⟩ 96 (0,0))) (kf:Fw h fb ty v l) (hr:Rd h x 1 m.length (bK m)) (hl:l.length+m.length≤262144) :
   ai Tryz.prog 25 ⟨[.pointer (some ⟨b,0,none⟩),x]⟩ h fun u h'=>u=In 0∧∃ v',Fw h' fb ty v' (l++m)∧Ext (fun q=>q=fb∨v.ownBlock=some q) h h'∧∀ q,v'.ownBlock=some q→v.ownBlock=some q∨h.size≤q:=by
 have kr:=eC hb
 obtain ⟨A,c,rfl,_⟩:=id hr
 refine calls [(0,_),(1,_)] Tryz.func25 rfl Tryz.ntmps25 rfl ⟨rfl,rfl,trivial⟩ ?_
 refine G2 ?_;refine WC.seq ?_;refine WC.block ?_;refine G2 ?_;refine WL.call (vs:=[_]) rfl Tryz.call51 rfl (kr) rfl rfl rfl ?_
 rintro _ hq ⟨rfl,hz⟩
 replace hz:=hz.symm
 subst hz
 refine Go ?_;refine Gs [(0,_),(1,_),(5,_)] ?_
 refine aJ 1 2 ?_ TT.mk
 aa (refine ay 2 ?_)
 refine G2 ?_;refine WL.step (ah rfl) rfl rfl rfl (Go ?_);refine WL.ld rfl (by first | exact ab hb rfl | assumption) rfl rfl rfl (Go ?_)
 refine Gs [(0,_),(1,_),(9,_)] ?_
 refine aJ 3 4 ?_ TT.mk
 aa (refine ay 4 ?_)
 refine WC.skip ?_;refine Gn ?_;refine G2 ?_;refine WL.step (ah rfl) rfl rfl rfl (Go ?_);refine WL.ld rfl (by first | exact ab hb rfl | assumption) rfl rfl rfl (Go ?_)
 refine WL.call (vs:=[_,_]) rfl Tryz.call52 rfl (DT kf m hr hl) rfl rfl rfl ?_
 rintro _ h2 ⟨rfl,v2,Di,aK,fg⟩
 refine Go ?_;refine Gs [(4,_)] ?_;refine Gt ?_
 exact ⟨rfl,v2,Di,aK,fg⟩
theorem D3 {k:Int} {v:Value} {xs:List Value} (hv:v.oneCell'=true) (hx:∀ x∈xs,x.oneCell'=true):∀ x∈Value.int .u8 k :: v :: xs,x.oneCell'=true:=fun x h=>by
 simp only [List.mem_cons] at h
 rcases h with rfl | rfl | h
 · rfl
 · exact hv
 · exact hx x h
end Go.Proofs.YtopgddfgefnmbaaGreatDoor
namespace Go.RK
open Go
section
variable {P:Program} {f:Fr} {h:aj} {d:Option Tmp} {ty:TypeId} {pos:String} {af:Array Edge} {g:Option (Nat × Bool)}
theorem tf {t e:TypeId} {x y:Operand} {b o l sz k:Nat} {kd:IntKind} {i:Int} (hu:P.underlying t=some (.array l e)) (hz:∀ w,(sizeOf e).run P w=.ok sz w)
   (hx:f.ev x=some (.pointer (some ⟨b,o,Option.none⟩))) (hy:f.ev y=some (.int kd i)) (hi:i=(k:Int)) (hk:k < l) :
   bW P f ⟨d,.indexAddr t x y,ty,pos,af,g⟩ h (.pointer (some ⟨b,o+k * sz,Option.none⟩)):=fun ρ w ha _=>by
 subst hi
 have h1:(0:Int)≤k∧(k:Int) < l:=⟨by omega,by omega⟩
 have hs:(Instr.sureAddr (.pointer (some ⟨b,o,Option.none⟩))).run P w=.ok ⟨b,o,Option.none⟩ w:=rfl
 simp [execOp,ha _ _ hx,ha _ _ hy,Instr.indexAt,asIntOf,run_underlying hu,h1,hz,hs,hk,Addr.add_lit]
end
end Go.RK
