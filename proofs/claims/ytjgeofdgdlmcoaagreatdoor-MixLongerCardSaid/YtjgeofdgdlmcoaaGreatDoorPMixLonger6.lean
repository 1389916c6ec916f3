import Derived.Test.YtjgeofdgdlmcoaaGreatDoorPMixLonger5
import Derived.WalkKit
import Derived.LaidEql
import Derived.Stop.Asserts
import Derived.RowKitTokens
set_option linter.unusedVariables false
set_option linter.unusedSimpArgs false
set_option linter.unusedSectionVars false
namespace Go.Proofs.YtjgeofdgdlmcoaaGreatDoor
open Go Go.RK
open Go.RK.Uni (Ty El)
open Go.RK.Byt (bT)
noncomputable def s_poRow_0 (out:List (Cell)) (t8:Int) (t9:Int):Option ((List (Cell) × (Int × (Int × Unit))) ⊕ (List (Cell) × Unit)) :=
 bif (ltI t9 t8) then
  bif (inB t9 (List.length out)) then
   bif (Nat.blt (Int.toNat t9) (List.length out)) then
    bnd (f_clBy (getU (t:=Tm.cell) out (Int.ofNat (Int.toNat t9))).bytes) fun y2 =>
    bif (inB t9 (List.length out)) then
     bif ((true && (true && true)) && ((Nat.blt (Int.toNat t9) (List.length out)) && (Nat.blt (Int.toNat t9) (List.length out)))) then
      bif (inR (t9+(1:Int))) then
       some (.inl ((List.set out (Int.toNat t9) { (getU (t:=Tm.cell) out (Int.ofNat (Int.toNat t9))) with bytes:=y2 }),(t8,((t9+(1:Int)),()))))
      else none
     else none
    else none
   else none
  else none
 else some (.inr (out,()))
noncomputable def l_poRow_0:Lp Tryz.prog:=mkLp (P:=Tryz.prog) [3,8,9] [75,3,3] 1 [] (tC (tOwn 0 Tm.cell 135) (tC tI (tC tI tNil))) [⟨.exit 0,[3],[75],2,(tC (tOwn 1 Tm.cell 135) tNil)⟩] (fun x=>s_poRow_0 x.1 x.2.1 x.2.2.1)
noncomputable def u_poRow_0 (out:List (Cell)) (t8:Int) (t9:Int):Nat:=Int.toNat (t8 - t9)+1
noncomputable def k_poRow_0:Lk Tryz.prog 240 0:=mkLk hm0 en0 l_poRow_0 0 (fun x=>u_poRow_0 x.1 x.2.1 x.2.2.1) (natX_ok c_clBy (natX_ok c_clCell (nat0_ok _))) [] (by kernel_rfl) fun x=>by kernel_rfl
noncomputable def f_poRow (a0:List (Cell)):Option ((List (Cell) × Unit) × Unit) :=
 bnd (f_clCell a0) fun y0 =>
 bnd (lpF l_poRow_0.step (u_poRow_0 y0 (Int.ofNat (List.length y0)) (0:Int)) (y0,((Int.ofNat (List.length y0)),((0:Int),())))) fun y1 =>
 some ((y1.1,()),())
noncomputable def c_poRow:Go.RK.Fn Tryz.prog 240:=mkFn hm0 en0 (by kernel_rfl) [75] [75] (tC (qR .cell (nu 0)) tNil) (tC (qO .cell 135 (nu 0)) tNil) tNil 0 1 (natX_ok c_clBy (natX_ok c_clCell (nat0_ok _))) [⟨_,k_poRow_0⟩] (by kernel_rfl) (fun x=>f_poRow x.1) fun x=>by kernel_rfl
noncomputable def s_poTable_0 (out:List (List (Cell))) (t8:Int) (t9:Int):Option ((List (List (Cell)) × (Int × (Int × Unit))) ⊕ (List (List (Cell)) × Unit)) :=
 bif (ltI t9 t8) then
  bif (inB t9 (List.length out)) then
   bif (Nat.blt (Int.toNat t9) (List.length out)) then
    bnd (f_poRow (getU (t:=Tm.cells) out (Int.ofNat (Int.toNat t9)))) fun y2 =>
    bif (inB t9 (List.length out)) then
     bif ((true && true) && ((Nat.blt (Int.toNat t9) (List.length out)) && (Nat.blt (Int.toNat t9) (List.length out)))) then
      bif (inR (t9+(1:Int))) then
       some (.inl ((List.set out (Int.toNat t9) y2.1.1),(t8,((t9+(1:Int)),()))))
      else none
     else none
    else none
   else none
  else none
 else some (.inr (out,()))
noncomputable def l_poTable_0:Lp Tryz.prog:=mkLp (P:=Tryz.prog) [3,8,9] [216,3,3] 1 [] (tC (tOwn 0 Tm.cells 75) (tC tI (tC tI tNil))) [⟨.exit 0,[3],[216],2,(tC (tOwn 1 Tm.cells 75) tNil)⟩] (fun x=>s_poTable_0 x.1 x.2.1 x.2.2.1)
noncomputable def u_poTable_0 (out:List (List (Cell))) (t8:Int) (t9:Int):Nat:=Int.toNat (t8 - t9)+1
noncomputable def k_poTable_0:Lk Tryz.prog 200 0:=mkLk hm0 en0 l_poTable_0 0 (fun x=>u_poTable_0 x.1 x.2.1 x.2.2.1) (natX_ok c_poRow (natX_ok c_clCells (nat0_ok _))) [] (by kernel_rfl) fun x=>by kernel_rfl
noncomputable def f_poTable (a0:List (List (Cell))):Option ((List (List (Cell)) × Unit) × Unit) :=
 bnd (f_clCells a0) fun y0 =>
 bnd (lpF l_poTable_0.step (u_poTable_0 y0 (Int.ofNat (List.length y0)) (0:Int)) (y0,((Int.ofNat (List.length y0)),((0:Int),())))) fun y1 =>
 some ((y1.1,()),())
noncomputable def c_poTable:Go.RK.Fn Tryz.prog 200:=mkFn hm0 en0 (by kernel_rfl) [216] [216] (tC (qR .cells (nu 0)) tNil) (tC (qO .cells 75 (nu 0)) tNil) tNil 0 1 (natX_ok c_poRow (natX_ok c_clCells (nat0_ok _))) [⟨_,k_poTable_0⟩] (by kernel_rfl) (fun x=>f_poTable x.1) fun x=>by kernel_rfl
noncomputable def f_porown (a0:Portal):Option ((Portal × Unit) × Unit) :=
 bnd (f_clInt a0.stmt.oids) fun y0 =>
 bnd (f_poRow a0.params) fun y1 =>
 bnd (f_poTable a0.rows) fun y2 =>
 some (((Portal.mk { a0.stmt with oids:=y0 } y1.1.1 y2.1.1 a0.ran a0.over),()),())
noncomputable def c_porown:Go.RK.Fn Tryz.prog 191:=mkFn hm0 en0 (by kernel_rfl) [218] [218] (tC (qPo (nu 0)) tNil) (tC (qPo (nu 0)) tNil) tNil 0 0 (natX_ok c_clInt (natX_ok c_poTable (natX_ok c_poRow (nat0_ok _)))) [] (by kernel_rfl) (fun x=>f_porown x.1) fun x=>by kernel_rfl
noncomputable def f_poGet (a0:List ((Bs × Portal))) (a1:Bs):Option ((Portal × (Bool × Unit)) × (List ((Bs × Portal)) × Unit)) :=
 match (mlook a0 a1) with
 | none=>some (((Portal.mk (Stmt.mk ([]:Bs) ([]:List (Int))) ([]:List (Cell)) ([]:List (List (Cell))) false false),(false,())),(a0,()))
 | some y0 =>
 bnd (f_porown y0) fun y1 =>
 some ((y1.1.1,(true,())),((mput a0 a1 y0),()))
noncomputable def c_poGet:Go.RK.Fn Tryz.prog 192:=mkFn hm0 en0 (by kernel_rfl) [114,9] [218,4] (tC (qPs (nu 0)) (tC (qS (nu 2)) tNil)) (tC (qPo (nu 2)) (tC (qB (nu 2)) tNil)) (tC (qPs (nl [0,1])) tNil) 2 2 (natX_ok c_porown (nat0_ok _)) [] (by kernel_rfl) (fun x=>f_poGet x.1 x.2.1) fun x=>by kernel_rfl
noncomputable def f_poPut (a0:List ((Bs × Portal))) (a1:Bs) (a2:Portal):Option ((Int × Unit) × (List ((Bs × Portal)) × Unit)) :=
 match (mlook a0 a1) with
 | none=>bnd (f_porown a2) fun y2 =>
  some (((0:Int),()),((mput a0 a1 y2.1.1),()))
 | some y0 =>
 bif (!decide (a1=([]:Bs))) then
  some (((8:Int),()),((mput a0 a1 y0),()))
 else bnd (f_porown a2) fun y1 =>
 some (((0:Int),()),((mput (mput a0 a1 y0) a1 y1.1.1),()))
noncomputable def c_poPut:Go.RK.Fn Tryz.prog 140:=mkFn hm0 en0 (by kernel_rfl) [114,9,218] [49] (tC (qPs (nu 0)) (tC (qS (nu 2)) (tC (qPo (nu 2)) tNil))) (tC (qI (nu 2)) tNil) (tC (qPs (nl [0,1])) tNil) 2 2 (natX_ok c_porown (nat0_ok _)) [] (by kernel_rfl) (fun x=>f_poPut x.1 x.2.1 x.2.2.1) fun x=>by kernel_rfl
noncomputable def f_poRan (a0:List ((Bs × Portal))) (a1:Bs) (a2:List (List (Cell))):Option ((Bool × Unit) × (List ((Bs × Portal)) × Unit)) :=
 match (mlook a0 a1) with
 | none=>some ((false,()),(a0,()))
 | some y0 =>
 bif y0.ran then
  some ((false,()),((mput a0 a1 y0),()))
 else bnd (f_poTable a2) fun y1 =>
 some ((true,()),((mput a0 a1 { y0 with rows:=y1.1.1,ran:=true }),()))
noncomputable def c_poRan:Go.RK.Fn Tryz.prog 146:=mkFn hm0 en0 (by kernel_rfl) [114,9,216] [4] (tC (qPs (nu 0)) (tC (qS (nu 2)) (tC (qR .cells (nu 2)) tNil))) (tC (qB (nu 2)) tNil) (tC (qPs (nl [0,1])) tNil) 2 2 (natX_ok c_poTable (nat0_ok _)) [] (by kernel_rfl) (fun x=>f_poRan x.1 x.2.1 x.2.2.1) fun x=>by kernel_rfl
noncomputable def f_poFetch (a0:List ((Bs × Portal))) (a1:Bs) (a2:Int):Option ((List (List (Cell)) × (Bool × Unit)) × (List ((Bs × Portal)) × Unit)) :=
 match (mlook a0 a1) with
 | none=>some ((([]:List (List (Cell))),(false,())),(a0,()))
 | some y0 =>
 bif (!y0.ran) then
  some ((([]:List (List (Cell))),(false,())),((mput a0 a1 y0),()))
 else bif y0.over then
  some ((([]:List (List (Cell))),(false,())),((mput a0 a1 y0),()))
 else bif (ltI (0:Int) a2) then
  bif (true && ((leI (0:Int) (minI (Int.ofNat (List.length y0.rows)) a2)) && ((leI (0:Int) (minI (Int.ofNat (List.length y0.rows)) a2)) && ((Nat.ble (0:Nat) (Int.toNat (minI (Int.ofNat (List.length y0.rows)) a2))) && ((Nat.ble (Int.toNat (minI (Int.ofNat (List.length y0.rows)) a2)) (Int.toNat (minI (Int.ofNat (List.length y0.rows)) a2))) && (Nat.ble (Int.toNat (minI (Int.ofNat (List.length y0.rows)) a2)) (List.length y0.rows))))))) then
   bif ((leI (0:Int) (minI (Int.ofNat (List.length y0.rows)) a2)) && (true && (true && ((Nat.ble (Int.toNat (minI (Int.ofNat (List.length y0.rows)) a2)) (List.length y0.rows)) && ((Nat.ble (List.length y0.rows) (List.length y0.rows)) && (Nat.ble (List.length y0.rows) (List.length y0.rows))))))) then
    some (((List.take ((Int.toNat (minI (Int.ofNat (List.length y0.rows)) a2)) - (0:Nat)) (List.drop (0:Nat) y0.rows)),((!decide ((Int.ofNat (List.length (List.take ((List.length y0.rows) - (Int.toNat (minI (Int.ofNat (List.length y0.rows)) a2))) (List.drop (Int.toNat (minI (Int.ofNat (List.length y0.rows)) a2)) y0.rows))))=(0:Int))),())),((mput a0 a1 { y0 with rows:=(List.take ((List.length y0.rows) - (Int.toNat (minI (Int.ofNat (List.length y0.rows)) a2))) (List.drop (Int.toNat (minI (Int.ofNat (List.length y0.rows)) a2)) y0.rows)),over:=decide ((Int.ofNat (List.length (List.take ((List.length y0.rows) - (Int.toNat (minI (Int.ofNat (List.length y0.rows)) a2))) (List.drop (Int.toNat (minI (Int.ofNat (List.length y0.rows)) a2)) y0.rows))))=(0:Int)) }),()))
   else none
  else none
 else bif (true && ((leI (0:Int) (Int.ofNat (List.length y0.rows))) && ((leI (0:Int) (Int.ofNat (List.length y0.rows))) && ((Nat.ble (0:Nat) (Int.toNat (Int.ofNat (List.length y0.rows)))) && ((Nat.ble (Int.toNat (Int.ofNat (List.length y0.rows))) (Int.toNat (Int.ofNat (List.length y0.rows)))) && (Nat.ble (Int.toNat (Int.ofNat (List.length y0.rows))) (List.length y0.rows))))))) then
  bif ((leI (0:Int) (Int.ofNat (List.length y0.rows))) && (true && (true && ((Nat.ble (Int.toNat (Int.ofNat (List.length y0.rows))) (List.length y0.rows)) && ((Nat.ble (List.length y0.rows) (List.length y0.rows)) && (Nat.ble (List.length y0.rows) (List.length y0.rows))))))) then
   some (((List.take ((Int.toNat (Int.ofNat (List.length y0.rows))) - (0:Nat)) (List.drop (0:Nat) y0.rows)),((!decide ((Int.ofNat (List.length (List.take ((List.length y0.rows) - (Int.toNat (Int.ofNat (List.length y0.rows)))) (List.drop (Int.toNat (Int.ofNat (List.length y0.rows))) y0.rows))))=(0:Int))),())),((mput a0 a1 { y0 with rows:=(List.take ((List.length y0.rows) - (Int.toNat (Int.ofNat (List.length y0.rows)))) (List.drop (Int.toNat (Int.ofNat (List.length y0.rows))) y0.rows)),over:=decide ((Int.ofNat (List.length (List.take ((List.length y0.rows) - (Int.toNat (Int.ofNat (List.length y0.rows)))) (List.drop (Int.toNat (Int.ofNat (List.length y0.rows))) y0.rows))))=(0:Int)) }),()))
  else none
 else none
noncomputable def c_poFetch:Go.RK.Fn Tryz.prog 149:=mkFn hm0 en0 (by kernel_rfl) [114,9,3] [216,4] (tC (qPs (nu 0)) (tC (qS (nu 2)) (tC (qI (nu 2)) tNil))) (tC (qR .cells (nu 2)) (tC (qB (nu 2)) tNil)) (tC (qPs (nl [0,1])) tNil) 2 2 (nat0_ok _) [] (by kernel_rfl) (fun x=>f_poFetch x.1 x.2.1 x.2.2.1) fun x=>by kernel_rfl
noncomputable def f_poDelete (a0:List ((Bs × Portal))) (a1:Bs):Option ((Bool × Unit) × (List ((Bs × Portal)) × Unit)) :=
 match (mlook a0 a1) with
 | none=>some ((false,()),(a0,()))
 | some y0 =>
 some ((true,()),((mdel (mput a0 a1 y0) a1),()))
noncomputable def c_poDelete:Go.RK.Fn Tryz.prog 151:=mkFn hm0 en0 (by kernel_rfl) [114,9] [4] (tC (qPs (nu 0)) (tC (qS (nu 2)) tNil)) (tC (qB (nu 2)) tNil) (tC (qPs (nl [0,1])) tNil) 2 2 (nat0_ok _) [] (by kernel_rfl) (fun x=>f_poDelete x.1 x.2.1) fun x=>by kernel_rfl
noncomputable def f_poNew  : Option ((List ((Bs × Portal)) × Unit) × Unit) :=
 some ((([]:List ((Bs × Portal))),()),())
noncomputable def c_poNew:Go.RK.Fn Tryz.prog 56:=mkFn hm0 en0 (by kernel_rfl) [] [114] tNil (tC (qPs (nu 0)) tNil) tNil 0 2 (nat0_ok _) [] (by kernel_rfl) (fun x=>f_poNew ) fun x=>by kernel_rfl
noncomputable def f_poClear (a0:List ((Bs × Portal))):Option (Unit × (List ((Bs × Portal)) × Unit)) :=
 some ((),(([]:List ((Bs × Portal))),()))
noncomputable def c_poClear:Go.RK.Fn Tryz.prog 102:=mkFn hm0 en0 (by kernel_rfl) [114] [] (tC (qPs (nu 0)) tNil) tNil (tC (qPs (nl [0,1])) tNil) 2 2 (nat0_ok _) [] (by kernel_rfl) (fun x=>f_poClear x.1) fun x=>by kernel_rfl
noncomputable def f_coHeld (a0:Int):Option ((Int × Unit) × Unit) :=
 some (((minI (maxI a0 (0:Int)) (1000:Int)),()),())
noncomputable def c_coHeld:Go.RK.Fn Tryz.prog 279:=mkFn hm0 en0 (by kernel_rfl) [3] [3] (tC (qI (nu 0)) tNil) (tC (qI (nu 0)) tNil) tNil 0 0 (nat0_ok _) [] (by kernel_rfl) (fun x=>f_coHeld x.1) fun x=>by kernel_rfl
noncomputable def f_coColumn (a0:Int):Option ((Col × Unit) × Unit) :=
 bnd (f_text a0) fun y0 =>
 bif (Nat.ble ((List.length [(99:UInt8)])+(List.length y0)) (9223372036854775807:Nat)) then
  some (((Col.mk ([(99:UInt8)]++y0) (0:Int) (0:Int) (25:Int) (-(1:Int)) (-(1:Int)) (0:Int)),()),())
 else none
noncomputable def c_coColumn:Go.RK.Fn Tryz.prog 259:=mkFn hm0 en0 (by kernel_rfl) [3] [137] (tC (qI (nu 0)) tNil) (tC (qCo (nu 0)) tNil) tNil 0 0 (natX_ok c_text (nat0_ok _)) [] (by kernel_rfl) (fun x=>f_coColumn x.1) fun x=>by kernel_rfl
noncomputable def f_coRow (a0:Int):Option ((List (Cell) × Unit) × Unit) :=
 bnd (f_text a0) fun y0 =>
 bif (Nat.ble (List.length y0) (140737488355328:Nat)) then
  some (([(Cell.mk false y0)],()),())
 else none
noncomputable def c_coRow:Go.RK.Fn Tryz.prog 254:=mkFn hm0 en0 (by kernel_rfl) [3] [75] (tC (qI (nu 0)) tNil) (tC (qO .cell 135 (nu 0)) tNil) tNil 0 1 (natX_ok c_text (nat0_ok _)) [] (by kernel_rfl) (fun x=>f_coRow x.1) fun x=>by kernel_rfl
noncomputable def s_eachCol_0 (one:(Unit × Unit)) (out:List (Col)) (t8:Int) (t9:Int):Option (((Unit × Unit) × (List (Col) × (Int × (Int × Unit)))) ⊕ (List (Col) × Unit)) :=
 bif (ltI t9 t8) then
  bif (inR (t9+(1:Int))) then
   bnd (f_coColumn (t9+(1:Int))) fun y1 =>
   bif (Nat.ble (((List.length out)+(List.length [y1.1.1])) * (64:Nat)) (140737488355328:Nat)) then
    bif (inR (t9+(1:Int))) then
     some (.inl (((),()),((out++[y1.1.1]),(t8,((t9+(1:Int)),())))))
    else none
   else none
  else none
 else some (.inr (out,()))
noncomputable def l_eachCol_0:Lp Tryz.prog:=mkLp (P:=Tryz.prog) [1,5,8,9] [334,74,3,3] 1 [] (tC (tFn 259 tNil tNil) (tC (tOwn 0 Tm.col 137) (tC tI (tC tI tNil)))) [⟨.exit 0,[5],[74],2,(tC (tOwn 1 Tm.col 137) tNil)⟩] (fun x=>s_eachCol_0 x.1 x.2.1 x.2.2.1 x.2.2.2.1)
noncomputable def u_eachCol_0 (one:(Unit × Unit)) (out:List (Col)) (t8:Int) (t9:Int):Nat:=Int.toNat (t8 - t9)+1
noncomputable def k_eachCol_0:Lk Tryz.prog 258 0:=mkLk hm0 en0 l_eachCol_0 0 (fun x=>u_eachCol_0 x.1 x.2.1 x.2.2.1 x.2.2.2.1) (natX_ok c_coHeld (natX_ok c_coColumn (nat0_ok _))) [] (by kernel_rfl) fun x=>by kernel_rfl
noncomputable def f_eachCol (a0:Int) (a1:(Unit × Unit)):Option ((List (Col) × Unit) × Unit) :=
 bnd (lpF l_eachCol_0.step (u_eachCol_0 ((),()) ([]:List (Col)) (minI (maxI a0 (0:Int)) (1000:Int)) (0:Int)) (((),()),(([]:List (Col)),((minI (maxI a0 (0:Int)) (1000:Int)),((0:Int),()))))) fun y0 =>
 some ((y0.1,()),())
noncomputable def c_eachCol:Go.RK.Fn Tryz.prog 258:=mkFn hm0 en0 (by kernel_rfl) [3,334] [74] (tC (qI (nu 0)) (tC ((fun _=>tFn 259 tNil tNil) (nu 0)) tNil)) (tC (qO .col 137 (nu 0)) tNil) tNil 0 1 (natX_ok c_coHeld (natX_ok c_coColumn (nat0_ok _))) [⟨_,k_eachCol_0⟩] (by kernel_rfl) (fun x=>f_eachCol x.1 x.2.1) fun x=>by kernel_rfl
noncomputable def s_eachRow_0 (one:(Unit × Unit)) (out:List (List (Cell))) (t8:Int) (t9:Int):Option (((Unit × Unit) × (List (List (Cell)) × (Int × (Int × Unit)))) ⊕ (List (List (Cell)) × Unit)) :=
 bif (ltI t9 t8) then
  bif (inR (t9+(1:Int))) then
   bnd (f_coRow (t9+(1:Int))) fun y1 =>
   bif (Nat.ble (((List.length out)+(List.length [y1.1.1])) * (24:Nat)) (140737488355328:Nat)) then
    bif (inR (t9+(1:Int))) then
     some (.inl (((),()),((out++[y1.1.1]),(t8,((t9+(1:Int)),())))))
    else none
   else none
  else none
 else some (.inr (out,()))
noncomputable def l_eachRow_0:Lp Tryz.prog:=mkLp (P:=Tryz.prog) [1,5,8,9] [330,216,3,3] 1 [] (tC (tFn 254 tNil tNil) (tC (tOwn 0 Tm.cells 75) (tC tI (tC tI tNil)))) [⟨.exit 0,[5],[216],2,(tC (tOwn 1 Tm.cells 75) tNil)⟩] (fun x=>s_eachRow_0 x.1 x.2.1 x.2.2.1 x.2.2.2.1)
noncomputable def u_eachRow_0 (one:(Unit × Unit)) (out:List (List (Cell))) (t8:Int) (t9:Int):Nat:=Int.toNat (t8 - t9)+1
noncomputable def k_eachRow_0:Lk Tryz.prog 253 0:=mkLk hm0 en0 l_eachRow_0 0 (fun x=>u_eachRow_0 x.1 x.2.1 x.2.2.1 x.2.2.2.1) (natX_ok c_coHeld (natX_ok c_coRow (nat0_ok _))) [] (by kernel_rfl) fun x=>by kernel_rfl
noncomputable def f_eachRow (a0:Int) (a1:(Unit × Unit)):Option ((List (List (Cell)) × Unit) × Unit) :=
 bnd (lpF l_eachRow_0.step (u_eachRow_0 ((),()) ([]:List (List (Cell))) (minI (maxI a0 (0:Int)) (1000:Int)) (0:Int)) (((),()),(([]:List (List (Cell))),((minI (maxI a0 (0:Int)) (1000:Int)),((0:Int),()))))) fun y0 =>
 some ((y0.1,()),())
noncomputable def c_eachRow:Go.RK.Fn Tryz.prog 253:=mkFn hm0 en0 (by kernel_rfl) [3,330] [216] (tC (qI (nu 0)) (tC ((fun _=>tFn 254 tNil tNil) (nu 0)) tNil)) (tC (qO .cells 75 (nu 0)) tNil) tNil 0 1 (natX_ok c_coHeld (natX_ok c_coRow (nat0_ok _))) [⟨_,k_eachRow_0⟩] (by kernel_rfl) (fun x=>f_eachRow x.1 x.2.1) fun x=>by kernel_rfl
noncomputable def f_coCols (a0:Int):Option ((List (Col) × Unit) × Unit) :=
 bnd (f_eachCol a0 ((),())) fun y0 =>
 some ((y0.1.1,()),())
noncomputable def c_coCols:Go.RK.Fn Tryz.prog 209:=mkFn hm0 en0 (by kernel_rfl) [3] [74] (tC (qI (nu 0)) tNil) (tC (qO .col 137 (nu 0)) tNil) tNil 0 1 (natX_ok c_eachCol (natX_ok c_coColumn (nat0_ok _))) [] (by kernel_rfl) (fun x=>f_coCols x.1) fun x=>by kernel_rfl
noncomputable def f_coDescribe (a0:Int):Option ((Back × Unit) × Unit) :=
 bnd (f_coCols a0) fun y0 =>
 some (((Back.mk (UInt8.ofNat 84) (UInt8.ofNat 0) ([]:Bs) ([]:Bs) ([]:Bs) (0:Int) (0:Int) ([]:List (Int)) y0.1.1 ([]:List (Cell)) ([]:List (Field))),()),())
noncomputable def c_coDescribe:Go.RK.Fn Tryz.prog 152:=mkFn hm0 en0 (by kernel_rfl) [3] [78] (tC (qI (nu 0)) tNil) (tC (qBk (nu 0)) tNil) tNil 0 0 (natX_ok c_coCols (nat0_ok _)) [] (by kernel_rfl) (fun x=>f_coDescribe x.1) fun x=>by kernel_rfl
noncomputable def f_coRows (a0:Int):Option ((List (List (Cell)) × Unit) × Unit) :=
 bnd (f_eachRow a0 ((),())) fun y0 =>
 some ((y0.1.1,()),())
noncomputable def c_coRows:Go.RK.Fn Tryz.prog 202:=mkFn hm0 en0 (by kernel_rfl) [3] [216] (tC (qI (nu 0)) tNil) (tC (qO .cells 75 (nu 0)) tNil) tNil 0 1 (natX_ok c_eachRow (natX_ok c_coRow (nat0_ok _))) [] (by kernel_rfl) (fun x=>f_coRows x.1) fun x=>by kernel_rfl
noncomputable def f_coTag (a0:Int):Option ((Bs × Unit) × Unit) :=
 bnd (f_text a0) fun y0 =>
 bif (Nat.ble ((List.length [(83:UInt8),(69:UInt8),(76:UInt8),(69:UInt8),(67:UInt8),(84:UInt8),(32:UInt8)])+(List.length y0)) (9223372036854775807:Nat)) then
  some ((([(83:UInt8),(69:UInt8),(76:UInt8),(69:UInt8),(67:UInt8),(84:UInt8),(32:UInt8)]++y0),()),())
 else none
noncomputable def c_coTag:Go.RK.Fn Tryz.prog 206:=mkFn hm0 en0 (by kernel_rfl) [3] [9] (tC (qI (nu 0)) tNil) (tC (qS (nu 0)) tNil) tNil 0 0 (natX_ok c_text (nat0_ok _)) [] (by kernel_rfl) (fun x=>f_coTag x.1) fun x=>by kernel_rfl
noncomputable def f_fMake (a0:Bs) (a1:Bs) (a2:Bs):Option ((List (Field) × Unit) × Unit) :=
 some ((((((([]:List (Field))++[(Field.mk (getU (t:=Tm.by) [(UInt8.ofNat (Int.toNat (83:Int))),(UInt8.ofNat (Int.toNat (86:Int))),(UInt8.ofNat (Int.toNat (67:Int))),(UInt8.ofNat (Int.toNat (77:Int)))] (Int.ofNat (Int.toNat (0:Int)))) a0)])++[(Field.mk (getU (t:=Tm.by) [(UInt8.ofNat (Int.toNat (83:Int))),(UInt8.ofNat (Int.toNat (86:Int))),(UInt8.ofNat (Int.toNat (67:Int))),(UInt8.ofNat (Int.toNat (77:Int)))] (Int.ofNat (Int.toNat ((0:Int)+(1:Int))))) a0)])++[(Field.mk (getU (t:=Tm.by) [(UInt8.ofNat (Int.toNat (83:Int))),(UInt8.ofNat (Int.toNat (86:Int))),(UInt8.ofNat (Int.toNat (67:Int))),(UInt8.ofNat (Int.toNat (77:Int)))] (Int.ofNat (Int.toNat (((0:Int)+(1:Int))+(1:Int))))) a1)])++[(Field.mk (getU (t:=Tm.by) [(UInt8.ofNat (Int.toNat (83:Int))),(UInt8.ofNat (Int.toNat (86:Int))),(UInt8.ofNat (Int.toNat (67:Int))),(UInt8.ofNat (Int.toNat (77:Int)))] (Int.ofNat (Int.toNat ((((0:Int)+(1:Int))+(1:Int))+(1:Int))))) a2)]),()),())
noncomputable def c_fMake:Go.RK.Fn Tryz.prog 211:=mkFn hm0 en0 (by kernel_rfl) [9,9,9] [76] (tC (qS (nu 0)) (tC (qS (nu 0)) (tC (qS (nu 0)) tNil))) (tC (qO .field 139 (nu 0)) tNil) tNil 0 1 (nat0_ok _) [] (by kernel_rfl) (fun x=>f_fMake x.1 x.2.1 x.2.2.1) fun x=>by kernel_rfl
noncomputable def f_told (a0:Bs) (a1:Bs) (a2:Bs):Option ((Back × Unit) × Unit) :=
 some (((Back.mk (UInt8.ofNat 69) (UInt8.ofNat 0) ([]:Bs) ([]:Bs) ([]:Bs) (0:Int) (0:Int) ([]:List (Int)) ([]:List (Col)) ([]:List (Cell)) ((((([]:List (Field))++[(Field.mk (getU (t:=Tm.by) [(UInt8.ofNat (Int.toNat (83:Int))),(UInt8.ofNat (Int.toNat (86:Int))),(UInt8.ofNat (Int.toNat (67:Int))),(UInt8.ofNat (Int.toNat (77:Int)))] (Int.ofNat (Int.toNat (0:Int)))) a0)])++[(Field.mk (getU (t:=Tm.by) [(UInt8.ofNat (Int.toNat (83:Int))),(UInt8.ofNat (Int.toNat (86:Int))),(UInt8.ofNat (Int.toNat (67:Int))),(UInt8.ofNat (Int.toNat (77:Int)))] (Int.ofNat (Int.toNat ((0:Int)+(1:Int))))) a0)])++[(Field.mk (getU (t:=Tm.by) [(UInt8.ofNat (Int.toNat (83:Int))),(UInt8.ofNat (Int.toNat (86:Int))),(UInt8.ofNat (Int.toNat (67:Int))),(UInt8.ofNat (Int.toNat (77:Int)))] (Int.ofNat (Int.toNat (((0:Int)+(1:Int))+(1:Int))))) a1)])++[(Field.mk (getU (t:=Tm.by) [(UInt8.ofNat (Int.toNat (83:Int))),(UInt8.ofNat (Int.toNat (86:Int))),(UInt8.ofNat (Int.toNat (67:Int))),(UInt8.ofNat (Int.toNat (77:Int)))] (Int.ofNat (Int.toNat ((((0:Int)+(1:Int))+(1:Int))+(1:Int))))) a2)])),()),())
noncomputable def c_told:Go.RK.Fn Tryz.prog 158:=mkFn hm0 en0 (by kernel_rfl) [9,9,9] [78] (tC (qS (nu 0)) (tC (qS (nu 0)) (tC (qS (nu 0)) tNil))) (tC (qBk (nu 0)) tNil) tNil 0 0 (natX_ok c_fMake (nat0_ok _)) [] (by kernel_rfl) (fun x=>f_told x.1 x.2.1 x.2.2.1) fun x=>by kernel_rfl
noncomputable def f_ftError (a0:Bs) (a1:Bs):Option ((Back × Unit) × Unit) :=
 some (((Back.mk (UInt8.ofNat (69:Nat)) (UInt8.ofNat (0:Nat)) ([]:Bs) ([]:Bs) ([]:Bs) (0:Int) (0:Int) ([]:List (Int)) ([]:List (Col)) ([]:List (Cell)) ((((([]:List (Field))++[(Field.mk (getU (t:=Tm.by) [(UInt8.ofNat (Int.toNat (83:Int))),(UInt8.ofNat (Int.toNat (86:Int))),(UInt8.ofNat (Int.toNat (67:Int))),(UInt8.ofNat (Int.toNat (77:Int)))] (Int.ofNat (Int.toNat (0:Int)))) [(69:UInt8),(82:UInt8),(82:UInt8),(79:UInt8),(82:UInt8)])])++[(Field.mk (getU (t:=Tm.by) [(UInt8.ofNat (Int.toNat (83:Int))),(UInt8.ofNat (Int.toNat (86:Int))),(UInt8.ofNat (Int.toNat (67:Int))),(UInt8.ofNat (Int.toNat (77:Int)))] (Int.ofNat (Int.toNat ((0:Int)+(1:Int))))) [(69:UInt8),(82:UInt8),(82:UInt8),(79:UInt8),(82:UInt8)])])++[(Field.mk (getU (t:=Tm.by) [(UInt8.ofNat (Int.toNat (83:Int))),(UInt8.ofNat (Int.toNat (86:Int))),(UInt8.ofNat (Int.toNat (67:Int))),(UInt8.ofNat (Int.toNat (77:Int)))] (Int.ofNat (Int.toNat (((0:Int)+(1:Int))+(1:Int))))) a0)])++[(Field.mk (getU (t:=Tm.by) [(UInt8.ofNat (Int.toNat (83:Int))),(UInt8.ofNat (Int.toNat (86:Int))),(UInt8.ofNat (Int.toNat (67:Int))),(UInt8.ofNat (Int.toNat (77:Int)))] (Int.ofNat (Int.toNat ((((0:Int)+(1:Int))+(1:Int))+(1:Int))))) a1)])),()),())
noncomputable def c_ftError:Go.RK.Fn Tryz.prog 114:=mkFn hm0 en0 (by kernel_rfl) [9,9] [78] (tC (qS (nu 0)) (tC (qS (nu 0)) tNil)) (tC (qBk (nu 0)) tNil) tNil 0 0 (natX_ok c_told (nat0_ok _)) [] (by kernel_rfl) (fun x=>f_ftError x.1 x.2.1) fun x=>by kernel_rfl
noncomputable def f_enNew  : Option ((Engine × Unit) × Unit) :=
 some (((Engine.mk ([]:List ((Bs × Bool))) (0:Int)),()),())
noncomputable def c_enNew:Go.RK.Fn Tryz.prog 24:=mkFn hm0 en0 (by kernel_rfl) [] [59] tNil (tC (qEn (nu 0)) tNil) tNil 0 2 (nat0_ok _) [] (by kernel_rfl) (fun x=>f_enNew ) fun x=>by kernel_rfl
noncomputable def s_enOwn_0 (out:List (Cell)) (t8:Int) (t9:Int):Option ((List (Cell) × (Int × (Int × Unit))) ⊕ (List (Cell) × Unit)) :=
 bif (ltI t9 t8) then
  bif (inB t9 (List.length out)) then
   bif (Nat.blt (Int.toNat t9) (List.length out)) then
    bnd (f_clBy (getU (t:=Tm.cell) out (Int.ofNat (Int.toNat t9))).bytes) fun y2 =>
    bif (inB t9 (List.length out)) then
     bif ((true && (true && true)) && ((Nat.blt (Int.toNat t9) (List.length out)) && (Nat.blt (Int.toNat t9) (List.length out)))) then
      bif (inR (t9+(1:Int))) then
       some (.inl ((List.set out (Int.toNat t9) { (getU (t:=Tm.cell) out (Int.ofNat (Int.toNat t9))) with bytes:=y2 }),(t8,((t9+(1:Int)),()))))
      else none
     else none
    else none
   else none
  else none
 else some (.inr (out,()))
noncomputable def l_enOwn_0:Lp Tryz.prog:=mkLp (P:=Tryz.prog) [3,8,9] [75,3,3] 1 [] (tC (tOwn 0 Tm.cell 135) (tC tI (tC tI tNil))) [⟨.exit 0,[3],[75],2,(tC (tOwn 1 Tm.cell 135) tNil)⟩] (fun x=>s_enOwn_0 x.1 x.2.1 x.2.2.1)
noncomputable def u_enOwn_0 (out:List (Cell)) (t8:Int) (t9:Int):Nat:=Int.toNat (t8 - t9)+1
noncomputable def k_enOwn_0:Lk Tryz.prog 203 0:=mkLk hm0 en0 l_enOwn_0 0 (fun x=>u_enOwn_0 x.1 x.2.1 x.2.2.1) (natX_ok c_clBy (natX_ok c_clCell (nat0_ok _))) [] (by kernel_rfl) fun x=>by kernel_rfl
noncomputable def f_enOwn (a0:List (Cell)):Option ((List (Cell) × Unit) × Unit) :=
 bnd (f_clCell a0) fun y0 =>
 bnd (lpF l_enOwn_0.step (u_enOwn_0 y0 (Int.ofNat (List.length y0)) (0:Int)) (y0,((Int.ofNat (List.length y0)),((0:Int),())))) fun y1 =>
 some ((y1.1,()),())
noncomputable def c_enOwn:Go.RK.Fn Tryz.prog 203:=mkFn hm0 en0 (by kernel_rfl) [75] [75] (tC (qR .cell (nu 0)) tNil) (tC (qO .cell 135 (nu 0)) tNil) tNil 0 1 (natX_ok c_clBy (natX_ok c_clCell (nat0_ok _))) [⟨_,k_enOwn_0⟩] (by kernel_rfl) (fun x=>f_enOwn x.1) fun x=>by kernel_rfl
noncomputable def f_enReady (a0:Engine):Option ((Bool × Unit) × (Engine × Unit)) :=
 some (((!false),()),(a0,()))
noncomputable def c_enReady:Go.RK.Fn Tryz.prog 201:=mkFn hm0 en0 (by kernel_rfl) [59] [4] (tC (qEn (nu 0)) tNil) (tC (qB (nu 2)) tNil) (tC (qEn (nl [0,1])) tNil) 2 2 (nat0_ok _) [] (by kernel_rfl) (fun x=>f_enReady x.1) fun x=>by kernel_rfl
noncomputable def f_enNext (a0:Engine):Option ((Int × Unit) × (Engine × Unit)) :=
 bif (inR (a0.count+(1:Int))) then
  some (((a0.count+(1:Int)),()),({ a0 with count:=(a0.count+(1:Int)) },()))
 else none
noncomputable def c_enNext:Go.RK.Fn Tryz.prog 204:=mkFn hm0 en0 (by kernel_rfl) [59] [3] (tC (qEn (nu 0)) tNil) (tC (qI (nu 2)) tNil) (tC (qEn (nl [0,1])) tNil) 2 2 (natX_ok c_enReady (n_add_ok (nat0_ok _))) [] (by kernel_rfl) (fun x=>f_enNext x.1) fun x=>by kernel_rfl
noncomputable def f_sqlRows (a0:Verb):Option ((Bool × Unit) × Unit) :=
 bnd (f_one a0 [(5:Int),(6:Int),(7:Int)]) fun y0 =>
 some ((y0.1.1,()),())
noncomputable def c_sqlRows:Go.RK.Fn Tryz.prog 145:=mkFn hm0 en0 (by kernel_rfl) [223] [4] (tC (qVe (nu 0)) tNil) (tC (qB (nu 0)) tNil) tNil 0 0 (natX_ok c_one (nat0_ok _)) [] (by kernel_rfl) (fun x=>f_sqlRows x.1) fun x=>by kernel_rfl
noncomputable def f_sqlExit (a0:Verb):Option ((Bool × Unit) × Unit) :=
 bnd (f_one a0 [(3:Int),(4:Int)]) fun y0 =>
 some ((y0.1.1,()),())
noncomputable def c_sqlExit:Go.RK.Fn Tryz.prog 208:=mkFn hm0 en0 (by kernel_rfl) [223] [4] (tC (qVe (nu 0)) tNil) (tC (qB (nu 0)) tNil) tNil 0 0 (natX_ok c_one (nat0_ok _)) [] (by kernel_rfl) (fun x=>f_sqlExit x.1) fun x=>by kernel_rfl
noncomputable def f_sqlColumns (a0:Verb) (a1:Int):Option ((Int × Unit) × Unit) :=
 bif decide (a0.kind=(6:Int)) then
  some (((minI (maxI a1 (0:Int)) (1000:Int)),()),())
 else bnd (f_sqlRows a0) fun y0 =>
 bif y0.1.1 then
  some (((1:Int),()),())
 else some (((0:Int),()),())
noncomputable def c_sqlColumns:Go.RK.Fn Tryz.prog 153:=mkFn hm0 en0 (by kernel_rfl) [223,3] [3] (tC (qVe (nu 0)) (tC (qI (nu 0)) tNil)) (tC (qI (nu 0)) tNil) tNil 0 0 (natX_ok c_sqlRows (nat0_ok _)) [] (by kernel_rfl) (fun x=>f_sqlColumns x.1 x.2.1) fun x=>by kernel_rfl
noncomputable def f_enRows (a0:Engine) (a1:Verb) (a2:List (Cell)):Option ((List (List (Cell)) × Unit) × (Engine × Unit)) :=
 bif decide (a1.kind=(5:Int)) then
  bnd (f_coRows a1.n) fun y0 =>
  some ((y0.1.1,()),(a0,()))
 else bif decide (a1.kind=(6:Int)) then
  bnd (f_enOwn a2) fun y1 =>
  some (([y1.1.1],()),(a0,()))
 else bif decide (a1.kind=(7:Int)) then
  bnd (f_enNext a0) fun y2 =>
  bnd (f_text y2.1.1) fun y3 =>
  bif (Nat.ble (List.length y3) (140737488355328:Nat)) then
   some (([[(Cell.mk false y3)]],()),(y2.2.1,()))
  else none
 else some ((([]:List (List (Cell))),()),(a0,()))
noncomputable def c_enRows:Go.RK.Fn Tryz.prog 147:=mkFn hm0 en0 (by kernel_rfl) [59,223,75] [216] (tC (qEn (nu 0)) (tC (qVe (nu 2)) (tC (qR .cell (nu 2)) tNil))) (tC (qO .cells 75 (nu 2)) tNil) (tC (qEn (nl [0,1])) tNil) 2 3 (natX_ok c_text (natX_ok c_enReady (natX_ok c_coRows (natX_ok c_enOwn (natX_ok c_enNext (nat0_ok _)))))) [] (by kernel_rfl) (fun x=>f_enRows x.1 x.2.1 x.2.2.1) fun x=>by kernel_rfl
noncomputable def f_quote (a0:Bs):Option ((Bs × Unit) × Unit) :=
 bif (Nat.ble ((List.length [(34:UInt8)])+(List.length a0)) (9223372036854775807:Nat)) then
  bif (Nat.ble ((List.length ([(34:UInt8)]++a0))+(List.length [(34:UInt8)])) (9223372036854775807:Nat)) then
   some (((([(34:UInt8)]++a0)++[(34:UInt8)]),()),())
  else none
 else none
noncomputable def c_quote:Go.RK.Fn Tryz.prog 235:=mkFn hm0 en0 (by kernel_rfl) [9] [9] (tC (qS (nu 0)) tNil) (tC (qS (nu 0)) tNil) tNil 0 0 (nat0_ok _) [] (by kernel_rfl) (fun x=>f_quote x.1) fun x=>by kernel_rfl
end Go.Proofs.YtjgeofdgdlmcoaaGreatDoor
namespace Go.Proofs.YtjgeofdgdlmcoaaGreatDoor
open Go Go.RowKit Go.Extern.Stop Go.Stop Go.Extern
open Go.RK (St In)
open Go.RK.Uni (Ty El)
open Go.RK.Byt (bT)
theorem Rf.valueOf27 (t : Addr) (w : World) : (ReflectliteValue.unpack (.iface 159 (.pointer (some t)))).run Tryz.prog w
    = .ok (.agg #[.pointer (some ⟨4,159,none⟩),.pointer (some ⟨w.heap.size,0,none⟩),.int .u64 150]) (w.alloc (.cells #[.pointer (some t)] 159)):=by kernel_rfl
theorem Rf.type27 (a : Addr) (w : World) : (ReflectliteValue.methodAny (ReflectliteValue.valueError "reflectlite.Value.Type" 0) (fun t _ _ _ => ReflectliteType.toType t) #[.agg #[.pointer (some ⟨4, 159, none⟩), .pointer (some a), .int .u64 150]]).run Tryz.prog w
    = .ok (.iface 235 (.agg #[.pointer (some ⟨4,159,none⟩)])) w:=by kernel_rfl
theorem Rf.methodKind (h:Value) (w:World):(Go.method 489 235 (.agg #[h]) "Kind").run Tryz.prog w=.ok (307,h) w:=by kernel_rfl
theorem Rf.kind27 (w:World):((ReflectliteType.abiMethod fun t=>Functor.map (fun a:Nat=>Value.int IntKind.u8 (a:Int)) (Rtype.kind t)) #[.pointer (some ⟨4,159,none⟩)]).run Tryz.prog w=.ok (.int .u8 22) w:=by kernel_rfl
theorem Rf.kind25 (w:World):((ReflectliteType.abiMethod fun t=>Functor.map (fun a:Nat=>Value.int IntKind.u8 (a:Int)) (Rtype.kind t)) #[.pointer (some ⟨4,157,none⟩)]).run Tryz.prog w=.ok (.int .u8 25) w:=by kernel_rfl
theorem rlm (z : Sem Value) (f : TypeId → Addr → Nat → Nat → Sem Value) (v : Value) :
    ReflectliteValue.method z f #[v]=(do match ← ReflectliteValue.parts v with | none=>z | some (t,a,fl)=>f t a fl (fl % 32)):=rfl
theorem Rf.parts27 (a:Addr) (w:World):(ReflectliteValue.parts (.agg #[.pointer (some ⟨4,159,none⟩),.pointer (some a),.int .u64 150])).run Tryz.prog w=.ok (some (159,a,150)) w:=by kernel_rfl
theorem Rf.isNil27 (a p : Addr) (W : World) (ha : W.cell? a = some (.pointer (some p))) :
    (ReflectliteValue.method (ReflectliteValue.valueError "reflectlite.Value.IsNil" 0) ReflectliteValue.isNil #[.agg #[.pointer (some ⟨4,159,none⟩),.pointer (some a),.int .u64 150]]).run Tryz.prog W=.ok (.bool false) W:=by
  rw [rlm]
  simp only [Sem.run_bind,Rf.parts27,Result.andThen]
  simp [ReflectliteValue.isNil,loadVar,isAgg,underlying,Tryz.underlying159,ha,Result.andThen]
theorem Rf.methodElem (h:Value) (w:World):(Go.method 489 235 (.agg #[h]) "Elem").run Tryz.prog w=.ok (319,.agg #[h]) w:=by kernel_rfl
theorem Rf.methodImplements (h:Value) (w:World):(Go.method 489 235 (.agg #[h]) "Implements").run Tryz.prog w=.ok (320,.agg #[h]) w:=by kernel_rfl
theorem Rf.methodAssignableTo (h:Value) (w:World):(Go.method 489 235 (.agg #[h]) "AssignableTo").run Tryz.prog w=.ok (317,.agg #[h]) w:=by kernel_rfl
theorem Rf.elem27 (w:World):(ReflectliteType.method ReflectliteType.elem #[.agg #[.pointer (some ⟨4,159,none⟩)]]).run Tryz.prog w=.ok (.iface 235 (.agg #[.pointer (some ⟨4,157,none⟩)])) w:=by kernel_rfl
theorem Rf.implements25 (w:World):(ReflectliteType.relation "Implements" ReflectliteType.implements_ #[.agg #[.pointer (some ⟨4,157,none⟩)],.iface 235 (.agg #[.pointer (some ⟨4,153,none⟩)])]).run Tryz.prog w=.ok (.bool true) w:=by kernel_rfl
theorem Rf.typeOf25 (v:Value) (w:World):(ReflectliteType.typeOf #[.iface 157 v]).run Tryz.prog w=.ok (.iface 235 (.agg #[.pointer (some ⟨4,157,none⟩)])) w:=by kernel_rfl
theorem Rf.assignable25 (w:World):(ReflectliteType.relation "AssignableTo" ReflectliteType.assignableTo #[.agg #[.pointer (some ⟨4,157,none⟩)],.iface 235 (.agg #[.pointer (some ⟨4,157,none⟩)])]).run Tryz.prog w=.ok (.bool true) w:=by kernel_rfl
theorem Rf.valueOf25 (a c : List UInt8) (w : World) : (ReflectliteValue.unpack (.iface 157 (.agg #[St a, St c]))).run Tryz.prog w
    = .ok (.agg #[.pointer (some ⟨4,157,none⟩),.pointer (some ⟨w.heap.size,0,none⟩),.int .u64 153]) (w.alloc (.cells #[St a,St c] 157)):=by kernel_rfl
theorem Rf.elemOf27 (w:World):(Rtype.elem? 159).run Tryz.prog w=.ok (some 157) w:=by kernel_rfl
theorem Rf.mk25 (p:Addr) (w:World):(ReflectliteValue.mk 157 p ReflectliteValue.flagAddr).run Tryz.prog w=.ok (.agg #[.pointer (some ⟨4,157,none⟩),.pointer (some p),.int .u64 409]) w:=by kernel_rfl
theorem Rf.elemV27 (a p : Addr) (W : World) (ha : W.cell? a = some (.pointer (some p))) :
    (ReflectliteValue.method (ReflectliteValue.valueError "reflectlite.Value.Elem" 0) ReflectliteValue.elem #[.agg #[.pointer (some ⟨4,159,none⟩),.pointer (some a),.int .u64 150]]).run Tryz.prog W
      = .ok (.agg #[.pointer (some ⟨4,157,none⟩),.pointer (some p),.int .u64 409]) W:=by
  rw [rlm]
  simp only [Sem.run_bind,Rf.parts27,Result.andThen]
  simp [ReflectliteValue.elem,loadVar,isAgg,underlying,Tryz.underlying159,ha,Result.andThen,Rf.elemOf27,Rf.mk25]
theorem rls (v x : Value) : ReflectliteValue.set #[v, x] = (do
    let (some (dst,a,fl),some (src,b,_)):=(← ReflectliteValue.parts v,← ReflectliteValue.parts x)
      | unsupported (.noEntry "extern/(internal/reflectlite.Value).Set.zeroValue")
    if fl / ReflectliteValue.flagAddr % 2 == 0 then unsupported (.noEntry "extern/(internal/reflectlite.Value).Set.unaddressable")
    let val ← loadVar src b
    if ← Rtype.directlyAssignable dst src then storeVar dst a val
    else if ← Rtype.implements dst src then
      if (← Rtype.kind src) == 20 then
        match val with
        | .nilIface=>unsupported (.noEntry "extern/reflectlite: a nil value of one interface type handed on as a value of another")
        | _=>storeVar dst a val
      else storeVar dst a (.iface src val)
    else panicString ("reflectlite.Set: value of type " ++ (← Rtype.spelt src) ++ " is not assignable to type " ++ (← Rtype.spelt dst))
    pure (.tuple #[])):=rfl
theorem Rf.parts25a (a:Addr) (w:World):(ReflectliteValue.parts (.agg #[.pointer (some ⟨4,157,none⟩),.pointer (some a),.int .u64 409])).run Tryz.prog w=.ok (some (157,a,409)) w:=by kernel_rfl
theorem Rf.parts25 (a:Addr) (w:World):(ReflectliteValue.parts (.agg #[.pointer (some ⟨4,157,none⟩),.pointer (some a),.int .u64 153])).run Tryz.prog w=.ok (some (157,a,153)) w:=by kernel_rfl
theorem Rf.direct25 (w:World):(Rtype.directlyAssignable 157 157).run Tryz.prog w=.ok true w:=by kernel_rfl
end Go.Proofs.YtjgeofdgdlmcoaaGreatDoor
namespace Go.Proofs.YtjgeofdgdlmcoaaGreatDoor
open Go Go.RowKit Go.Extern.Stop Go.Stop Go.Extern
open Go.RK (St In)
open Go.RK.Uni (Ty El)
open Go.RK.Byt (bT)
theorem push_old (h:Array Obj) (o:Obj) {k:Nat} (hk:k < h.size):(h.push o)[k]?=h[k]?:=by simp [Array.getElem?_push,Nat.ne_of_lt hk]
theorem Rf.set25 (a c : List UInt8) (p : Addr) (b : Nat) (W w' : World) (hb : W.heap[b]? = some (.cells ⟨[St a, St c]⟩ 157 (0, 0))) (hr : (storeCells p [St a, St c]).run Tryz.prog W = .ok () w') :
    (ReflectliteValue.set #[.agg #[.pointer (some ⟨4,157,none⟩),.pointer (some p),.int .u64 409],.agg #[.pointer (some ⟨4,157,none⟩),.pointer (some ⟨b,0,none⟩),.int .u64 153]]).run Tryz.prog W=.ok (.tuple #[]) w':=by
  have i1:=Tryz.isAgg157 W
  have s1:=Tryz.sizeOf157 W
  have l1:(loadCells ⟨b,0,none⟩ 2).run Tryz.prog W=.ok #[St a,St c] W:=run_loadCells_list W _ [St a,St c] fun j v hj=>by rw [Addr.add_lit];exact Go.RK.At.of_block hb j v hj
  rw [rls]
  simp only [Sem.run_bind,Rf.parts25a,Rf.parts25,Result.andThen]
  simp [ReflectliteValue.flagAddr,loadVar,i1,s1,l1,Result.andThen,Rf.direct25,storeVar,Value.cells,hr]
def asW (a c:List UInt8) (p:Addr) (w:World):World:=(((w.alloc (.cells #[.pointer (some p)] 159)).alloc (.cells #[.pointer (some ⟨4,159,none⟩),.pointer (some ⟨w.heap.size,0,none⟩),.int .u64 150] 178)).alloc (.cells #[.pointer (some ⟨4,159,none⟩),.pointer (some ⟨w.heap.size,0,none⟩),.int .u64 150] 178)).alloc (.cells #[St a,St c] 157)
set_option maxHeartbeats 4000000 in
theorem as_hit (a c : List UInt8) (p : Addr) (w w' : World) (hg : w.cell? ⟨0, 0, none⟩ = some (.iface 235 (.agg #[.pointer (some ⟨4, 153, none⟩)]))) (hst : (storeCells p [St a, St c]).run Tryz.prog (asW a c p w) = .ok () w') :
    Calls Tryz.prog 84 #[.iface 157 (.agg #[St a,St c]),.iface 159 (.pointer (some p))] w fun ev w1=>ev=.returned (.bool true)∧w1=w':=by
  unfold asW at hst
  have h6:=@run_callFunc_extern Tryz.prog 109 _ (fun args=>ReflectliteValue.unpack (args.getD 0 (.tuple #[]))) Tryz.func109 (by kernel_rfl) (by kernel_rfl) (by kernel_rfl) (by kernel_rfl)
  have h7:=@run_callFunc_extern Tryz.prog 110 _ (ReflectliteValue.methodAny (ReflectliteValue.valueError "reflectlite.Value.Type" 0) (fun t _ _ _=>ReflectliteType.toType t)) Tryz.func110 (by kernel_rfl) (by kernel_rfl) (by kernel_rfl) (by kernel_rfl)
  have h8:=@run_callFunc_extern Tryz.prog 111 _ (ReflectliteValue.method (ReflectliteValue.valueError "reflectlite.Value.IsNil" 0) ReflectliteValue.isNil) Tryz.func111 (by kernel_rfl) (by kernel_rfl) (by kernel_rfl) (by kernel_rfl)
  have h27:=@run_callFunc_extern Tryz.prog 307 _ (ReflectliteType.abiMethod fun t=>do pure (.int .u8 (← Rtype.kind t))) Tryz.func307 (by kernel_rfl) (by kernel_rfl) (by kernel_rfl) (by kernel_rfl)
  have h37:=@run_callFunc_extern Tryz.prog 319 _ (ReflectliteType.method ReflectliteType.elem) Tryz.func319 (by kernel_rfl) (by kernel_rfl) (by kernel_rfl) (by kernel_rfl)
  have h38:=@run_callFunc_extern Tryz.prog 320 _ (ReflectliteType.relation "Implements" ReflectliteType.implements_) Tryz.func320 (by kernel_rfl) (by kernel_rfl) (by kernel_rfl) (by kernel_rfl)
  have h10:=@run_callFunc_extern Tryz.prog 154 _ ReflectliteType.typeOf Tryz.func154 (by kernel_rfl) (by kernel_rfl) (by kernel_rfl) (by kernel_rfl)
  have h35:=@run_callFunc_extern Tryz.prog 317 _ (ReflectliteType.relation "AssignableTo" ReflectliteType.assignableTo) Tryz.func317 (by kernel_rfl) (by kernel_rfl) (by kernel_rfl) (by kernel_rfl)
  have h11:=@run_callFunc_extern Tryz.prog 155 _ (ReflectliteValue.method (ReflectliteValue.valueError "reflectlite.Value.Elem" 0) ReflectliteValue.elem) Tryz.func155 (by kernel_rfl) (by kernel_rfl) (by kernel_rfl) (by kernel_rfl)
  have h12:=@run_callFunc_extern Tryz.prog 156 _ ReflectliteValue.set Tryz.func156 (by kernel_rfl) (by kernel_rfl) (by kernel_rfl) (by kernel_rfl)
  have tO:=Rf.typeOf25
  have mA:=Rf.methodAssignableTo
  have a25:=Rf.assignable25
  have v25:=Rf.valueOf25
  have f6:=Rf.valueOf27
  have f7:=Rf.type27
  have mK:=Rf.methodKind
  have mE:=Rf.methodElem
  have mI:=Rf.methodImplements
  have k27:=Rf.kind27
  have k25:=Rf.kind25
  have e27:=Rf.elem27
  have i25:=Rf.implements25
  have n8:=Rf.isNil27 ⟨w.heap.size,0,none⟩ p ((w.alloc (.cells #[.pointer (some p)] 159)).alloc (.cells #[.pointer (some ⟨4,159,none⟩),.pointer (some ⟨w.heap.size,0,none⟩),.int .u64 150] 178)) (by simp)
  have hlt:0 < w.heap.size:=by
    rcases Nat.eq_zero_or_pos w.heap.size with h0 | h
    · simp [World.cell?,h0] at hg
    · exact h
  have hg2:((w.alloc (.cells #[.pointer (some p)] 159)).alloc (.cells #[.pointer (some ⟨4,159,none⟩),.pointer (some ⟨w.heap.size,0,none⟩),.int .u64 150] 178)).cell? ⟨0,0,none⟩=some (.iface 235 (.agg #[.pointer (some ⟨4,153,none⟩)])):=by
    rw [World.cell?_alloc_lt _ _ ⟨0,0,none⟩ (by simp),World.cell?_alloc_lt _ _ ⟨0,0,none⟩ hlt];exact hg
  have el:=Rf.elemV27 ⟨w.heap.size,0,none⟩ p (((w.alloc (.cells #[.pointer (some p)] 159)).alloc (.cells #[.pointer (some ⟨4,159,none⟩),.pointer (some ⟨w.heap.size,0,none⟩),.int .u64 150] 178)).alloc (.cells #[.pointer (some ⟨4,159,none⟩),.pointer (some ⟨w.heap.size,0,none⟩),.int .u64 150] 178)) (by rw [World.cell?_alloc_lt _ _ ⟨w.heap.size,0,none⟩ (by simp;omega)];simp)
  have st:=Rf.set25 a c p (w.heap.size+1+1+1) ((((w.alloc (.cells #[.pointer (some p)] 159)).alloc (.cells #[.pointer (some ⟨4,159,none⟩),.pointer (some ⟨w.heap.size,0,none⟩),.int .u64 150] 178)).alloc (.cells #[.pointer (some ⟨4,159,none⟩),.pointer (some ⟨w.heap.size,0,none⟩),.int .u64 150] 178)).alloc (.cells #[St a,St c] 157)) w'
    (by simp only [World.alloc];rw [Array.getElem?_push,if_pos (by simp)]) hst
  go_enter Tryz.func84,Tryz.ntmps84
  go_wp2
  refine wp_loop_rounds 1 ?_
  rw [rounds_succ]
  go_wp2
  go_ret
  exact ⟨rfl,rfl⟩
end Go.Proofs.YtjgeofdgdlmcoaaGreatDoor
namespace Go.Proofs.YtjgeofdgdlmcoaaGreatDoor
open Go Go.RK
open Go.RK.Uni (Ty El)
open Go.RK.Byt (bT)
theorem as_nil (t:Value) (w:World):Calls Tryz.prog 84 #[.nilIface,t] w fun e w'=>e=.returned (.bool false)∧w'=w:=by
  go_enter Tryz.func84,Tryz.ntmps84
  go_wp2
  go_ret
  exact ⟨rfl,rfl⟩
theorem asW_ext (a c:List UInt8) (p:Addr) (w:World):Ext No w.heap (asW a c p w).heap∧Same w (asW a c p w):=by
  refine ⟨⟨?_,fun b hb _=>?_⟩,?_⟩
  · simp only [asW,World.alloc,Array.size_push]
    omega
  · simp only [asW,World.alloc]
    rw [push_old _ _ (by simp;omega),push_old _ _ (by simp;omega),push_old _ _ (by simp;omega),push_old _ _ hb]
  · exact ⟨rfl,rfl,rfl,trivial⟩
noncomputable def n_as {R:Type} (N:NatK R):NatK R:=fun k' vs A=>bif Nat.beq k' 84 then (match vs with
  | [.nilIface,_]=>some fun κ=>κ (.bool false) A
  | [.iface t (.agg ⟨[.string ⟨⟨a⟩⟩, .string ⟨⟨c⟩⟩]⟩), .iface s (.pointer (some ⟨b, 0, none⟩))] => bif Nat.beq t 157 && Nat.beq s 159 then (match wrE A b 0 [.string ⟨⟨a⟩⟩, .string ⟨⟨c⟩⟩] with
      | some A'=>some fun κ=>κ (.bool true) A'
      | none=>none) else none
  | _=>none) else N k' vs A
theorem n_as_okE {R:Type} {N:NatK R} (hEn:EnOk Tryz.prog) (hb:bodyB Tryz.prog 84=true) (hN:NOkK Tryz.prog N):NOkK Tryz.prog (n_as N):=fun k' vs A F κ r e hr=>by
  unfold n_as at e
  cases hk:Nat.beq k' 84 with
  | false=>rw [hk] at e;exact hN _ _ _ _ _ _ e hr
  | true =>
    rw [hk] at e
    simp only [cond_true] at e
    have hk2:=Nat.eq_of_beq_eq_true hk
    subst hk2
    split at e
    · simp only [Option.some.injEq] at e
      subst e
      refine ⟨_,_,hr,fun σ us h hv hh=>?_⟩
      cases hv with
      | cons h1 t =>
        cases t with
        | cons h2 t =>
          cases t
          cases h1
          refine .inr ⟨hEn _ hb _,fun w hw=>(as_nil _ w).mono fun e w1 ⟨he,h1⟩=>?_⟩
          subst h1 hw
          exact ⟨Same.refl _,_,he,σ,Stp.refl hh,.bool _⟩
    · rename_i t a c s b
      cases hts:Nat.beq t 157 && Nat.beq s 159 with
      | false=>rw [hts] at e;cases e
      | true =>
        rw [hts] at e
        simp only [cond_true] at e
        simp only [Bool.and_eq_true] at hts
        have ht:=Nat.eq_of_beq_eq_true hts.1
        have hs:=Nat.eq_of_beq_eq_true hts.2
        subst ht hs
        split at e
        case h_2=>cases e
        rename_i A2 hw2
        simp only [Option.some.injEq] at e
        subst e
        refine ⟨_,_,hr,fun σ us h hv hh=>?_⟩
        cases hv with
        | cons h1 t =>
        cases t with
        | cons h2 t =>
        cases t
        cases h1 with
        | iface h1 =>
        cases h1 with
        | agg h1 =>
        cases h1 with
        | cons h3 h1 =>
        cases h1 with
        | cons h4 h1 =>
        cases h1
        cases h3
        cases h4
        cases h2 with
        | iface h2 =>
        obtain ⟨p,hp,rfl⟩:=va_ptr h2
        refine .inr ⟨hEn _ hb _,fun w hw=>?_⟩
        subst hw
        obtain ⟨ug,hg0,rest,rfl⟩:=hh.gl 0 _ rfl
        obtain ⟨tg,zg,hg⟩:=(hh.frz 0 _ hg0).1
        obtain ⟨hx,hsm⟩:=asW_ext a c ⟨p.b,p.o+0,none⟩ w
        obtain ⟨w',hrun,hs,hst⟩:=wr_ok (P:=Tryz.prog) (hh.ext hx) hp (.cons (.string _) (.cons (.string _) .nil)) hw2 _ rfl
        refine (as_hit a c ⟨p.b,p.o+0,none⟩ w w' (by simp [World.cell?,hg]) hrun).mono fun e w1 ⟨he,h1⟩=>?_
        subst h1
        exact ⟨hsm.trans hs,_,he,σ,(Stp.ext hh hx).trans hst,.bool _⟩
    · cases e
theorem n_as_ok {R:Type} {N:NatK R} (hN:NOkK Tryz.prog N):NOkK Tryz.prog (n_as N):=n_as_okE en0 (by kernel_rfl) hN
end Go.Proofs.YtjgeofdgdlmcoaaGreatDoor
namespace Go.Proofs.YtjgeofdgdlmcoaaGreatDoor
open Go Go.RK
open Go.RK.Uni (Ty El)
open Go.RK.Byt (bT)
noncomputable def f_ftMessage (a0:Scan) (a1:UInt8):Option ((Front × Unit) × (Scan × Unit)) :=
 bif decide ((Int.ofNat (UInt8.toNat a1))=(80:Int)) then
  bnd (f_scText a0) fun y0 =>
  bnd (f_scText y0.2.1) fun y1 =>
  bnd (f_ftList y1.2.1 (4:Int)) fun y2 =>
  some (((Front.mk a1 (UInt8.ofNat 0) y0.1.1 ([]:Bs) y1.1.1 y2.1.1 ([]:List (Int)) ([]:List (Int)) ([]:List (Cell)) (0:Int)),()),(y2.2.1,()))
 else bif decide ((Int.ofNat (UInt8.toNat a1))=(66:Int)) then
  bnd (f_scText a0) fun y3 =>
  bnd (f_scText y3.2.1) fun y4 =>
  bnd (f_ftList y4.2.1 (2:Int)) fun y5 =>
  bnd (f_ftRow y5.2.1) fun y6 =>
  bnd (f_ftList y6.2.1 (2:Int)) fun y7 =>
  some (((Front.mk a1 (UInt8.ofNat 0) y4.1.1 y3.1.1 ([]:Bs) ([]:List (Int)) y5.1.1 y7.1.1 y6.1.1 (0:Int)),()),(y7.2.1,()))
 else bif decide ((Int.ofNat (UInt8.toNat a1))=(67:Int)) then
  bnd (f_scNum a0 (1:Int)) fun y8 =>
  bnd (f_scText y8.2.1) fun y9 =>
  bif decide ((Int.ofNat (UInt8.toNat (UInt8.ofNat (Int.toNat (IntKind.wrap .u8 y8.1.1)))))=(83:Int)) then
   some (((Front.mk a1 (UInt8.ofNat (Int.toNat (IntKind.wrap .u8 y8.1.1))) y9.1.1 ([]:Bs) ([]:Bs) ([]:List (Int)) ([]:List (Int)) ([]:List (Int)) ([]:List (Cell)) (0:Int)),()),(y9.2.1,()))
  else some (((Front.mk a1 (UInt8.ofNat (Int.toNat (IntKind.wrap .u8 y8.1.1))) ([]:Bs) y9.1.1 ([]:Bs) ([]:List (Int)) ([]:List (Int)) ([]:List (Int)) ([]:List (Cell)) (0:Int)),()),(y9.2.1,()))
 else bif decide ((Int.ofNat (UInt8.toNat a1))=(68:Int)) then
  bnd (f_scNum a0 (1:Int)) fun y10 =>
  bnd (f_scText y10.2.1) fun y11 =>
  bif decide ((Int.ofNat (UInt8.toNat (UInt8.ofNat (Int.toNat (IntKind.wrap .u8 y10.1.1)))))=(83:Int)) then
   some (((Front.mk a1 (UInt8.ofNat (Int.toNat (IntKind.wrap .u8 y10.1.1))) y11.1.1 ([]:Bs) ([]:Bs) ([]:List (Int)) ([]:List (Int)) ([]:List (Int)) ([]:List (Cell)) (0:Int)),()),(y11.2.1,()))
  else some (((Front.mk a1 (UInt8.ofNat (Int.toNat (IntKind.wrap .u8 y10.1.1))) ([]:Bs) y11.1.1 ([]:Bs) ([]:List (Int)) ([]:List (Int)) ([]:List (Int)) ([]:List (Cell)) (0:Int)),()),(y11.2.1,()))
 else bif decide ((Int.ofNat (UInt8.toNat a1))=(69:Int)) then
  bnd (f_scText a0) fun y12 =>
  bnd (f_scNum y12.2.1 (4:Int)) fun y13 =>
  bnd (f_signed y13.1.1 (4:Int)) fun y14 =>
  some (((Front.mk a1 (UInt8.ofNat 0) ([]:Bs) y12.1.1 ([]:Bs) ([]:List (Int)) ([]:List (Int)) ([]:List (Int)) ([]:List (Cell)) y14.1.1),()),(y13.2.1,()))
 else bif decide ((Int.ofNat (UInt8.toNat a1))=(81:Int)) then
  bnd (f_scText a0) fun y15 =>
  some (((Front.mk a1 (UInt8.ofNat 0) ([]:Bs) ([]:Bs) y15.1.1 ([]:List (Int)) ([]:List (Int)) ([]:List (Int)) ([]:List (Cell)) (0:Int)),()),(y15.2.1,()))
 else some (((Front.mk a1 (UInt8.ofNat 0) ([]:Bs) ([]:Bs) ([]:Bs) ([]:List (Int)) ([]:List (Int)) ([]:List (Int)) ([]:List (Cell)) (0:Int)),()),(a0,()))
noncomputable def c_ftMessage:Go.RK.Fn Tryz.prog 179:=mkFn hm0 en0 (by kernel_rfl) [263,5] [119] (tC (qRd (nu 0)) (tC (qY (nu 1)) tNil)) (tC (qFt (nu 1)) tNil) (tC (qSc (nl [0])) tNil) 1 1 (natX_ok c_scNum (natX_ok c_scText (natX_ok c_ftList (natX_ok c_ftRow (natX_ok c_signed (nat0_ok _)))))) [] (by kernel_rfl) (fun x=>f_ftMessage x.1 x.2.1) fun x=>by kernel_rfl
noncomputable def f_ftDecode (a0:Msg):Option ((Front × (Int × Unit)) × Unit) :=
 bnd (f_ftKnown a0.type) fun y0 =>
 bif decide (y0.1.1=(0:Int)) then
  some (((Front.mk (UInt8.ofNat 0) (UInt8.ofNat 0) ([]:Bs) ([]:Bs) ([]:Bs) ([]:List (Int)) ([]:List (Int)) ([]:List (Int)) ([]:List (Cell)) (0:Int)),((4:Int),())),())
 else bif decide (y0.1.1=(2:Int)) then
  some (((Front.mk (UInt8.ofNat 0) (UInt8.ofNat 0) ([]:Bs) ([]:Bs) ([]:Bs) ([]:List (Int)) ([]:List (Int)) ([]:List (Int)) ([]:List (Cell)) (0:Int)),((9:Int),())),())
 else bnd (f_scNew a0.body) fun y1 =>
 bnd (f_ftMessage y1.1.1 a0.type) fun y2 =>
 bnd (f_scDone y2.2.1) fun y3 =>
 bif (!y3.1.1) then
  some (((Front.mk (UInt8.ofNat 0) (UInt8.ofNat 0) ([]:Bs) ([]:Bs) ([]:Bs) ([]:List (Int)) ([]:List (Int)) ([]:List (Int)) ([]:List (Cell)) (0:Int)),((4:Int),())),())
 else bnd (f_ftCheck y2.1.1) fun y4 =>
 bif (!decide (y4.1.1=(0:Int))) then
  some (((Front.mk (UInt8.ofNat 0) (UInt8.ofNat 0) ([]:Bs) ([]:Bs) ([]:Bs) ([]:List (Int)) ([]:List (Int)) ([]:List (Int)) ([]:List (Cell)) (0:Int)),((4:Int),())),())
 else some ((y2.1.1,((0:Int),())),())
noncomputable def c_ftDecode:Go.RK.Fn Tryz.prog 129:=mkFn hm0 en0 (by kernel_rfl) [58] [119,49] (tC (qMsg (nu 0)) tNil) (tC (qFt (nu 0)) (tC (qI (nu 0)) tNil)) tNil 0 0 (natX_ok c_ftKnown (natX_ok c_scNew (natX_ok c_ftMessage (natX_ok c_scDone (natX_ok c_ftCheck (nat0_ok _)))))) [] (by kernel_rfl) (fun x=>f_ftDecode x.1) fun x=>by kernel_rfl
noncomputable def f_wrNum (a0:Bs) (a1:Int) (a2:Int):Option (Unit × (Bs × Unit)) :=
 bnd (f_numPut a0 a1 a2) fun y0 =>
 some ((),(y0.1.1,()))
noncomputable def c_wrNum:Go.RK.Fn Tryz.prog 87:=mkFn hm0 en0 (by kernel_rfl) [161,3,3] [] (tC (qWr (nu 0)) (tC (qI (nu 2)) (tC (qI (nu 2)) tNil))) tNil (tC (qWr (nl [0,2])) tNil) 2 3 (natX_ok c_numPut (nat0_ok _)) [] (by kernel_rfl) (fun x=>f_wrNum x.1 x.2.1 x.2.2.1) fun x=>by kernel_rfl
noncomputable def f_wrText (a0:Bs) (a1:Bs):Option (Unit × (Bs × Unit)) :=
 bif (Nat.ble (((List.length a0)+(List.length a1)) * (1:Nat)) (140737488355328:Nat)) then
  bif (Nat.ble (((List.length (a0++a1))+(List.length [(UInt8.ofNat (Int.toNat (0:Int)))])) * (1:Nat)) (140737488355328:Nat)) then
   some ((),(((a0++a1)++[(UInt8.ofNat (Int.toNat (0:Int)))]),()))
  else none
 else none
noncomputable def c_wrText:Go.RK.Fn Tryz.prog 88:=mkFn hm0 en0 (by kernel_rfl) [161,9] [] (tC (qWr (nu 0)) (tC (qS (nu 2)) tNil)) tNil (tC (qWr (nl [0,2])) tNil) 2 3 (nat0_ok _) [] (by kernel_rfl) (fun x=>f_wrText x.1 x.2.1) fun x=>by kernel_rfl
noncomputable def s_wrRow_0 (w:Bs) (t10:List (Cell)) (t11:Int) (t12:Int):Option ((Bs × (List (Cell) × (Int × (Int × Unit)))) ⊕ (Bs × Unit)) :=
 bif (ltI t12 t11) then
  bif (inB t12 (List.length t10)) then
   bif (getU (t:=Tm.cell) t10 t12).null then
    bnd (f_wrNum w (4294967295:Int) (4:Int)) fun y3 =>
    bif (inR (t12+(1:Int))) then
     some (.inl (y3.2.1,(t10,(t11,((t12+(1:Int)),())))))
    else none
   else bnd (f_wrNum w (Int.ofNat (List.length (getU (t:=Tm.cell) t10 t12).bytes)) (4:Int)) fun y4 =>
   bif (Nat.ble (((List.length y4.2.1)+(List.length (getU (t:=Tm.cell) t10 t12).bytes)) * (1:Nat)) (140737488355328:Nat)) then
    bif (inR (t12+(1:Int))) then
     some (.inl ((y4.2.1++(getU (t:=Tm.cell) t10 t12).bytes),(t10,(t11,((t12+(1:Int)),())))))
    else none
   else none
  else none
 else some (.inr (w,()))
noncomputable def l_wrRow_0:Lp Tryz.prog:=mkLp (P:=Tryz.prog) [0,10,11,12] [161,75,3,3] 2 [0] (tC (qWr (nl [0,1])) (tC (tRow Tm.cell) (tC tI (tC tI tNil)))) [⟨.exit 0,[0],[161],3,(tC (qWr (nl [0,2])) tNil)⟩] (fun x=>s_wrRow_0 x.1 x.2.1 x.2.2.1 x.2.2.2.1)
noncomputable def u_wrRow_0 (w:Bs) (t10:List (Cell)) (t11:Int) (t12:Int):Nat:=Int.toNat (t11 - t12)+1
noncomputable def k_wrRow_0:Lk Tryz.prog 89 0:=mkLk hm0 en0 l_wrRow_0 0 (fun x=>u_wrRow_0 x.1 x.2.1 x.2.2.1 x.2.2.2.1) (natX_ok c_wrNum (nat0_ok _)) [] (by kernel_rfl) fun x=>by kernel_rfl
noncomputable def f_wrRow (a0:Bs) (a1:List (Cell)):Option (Unit × (Bs × Unit)) :=
 bnd (f_wrNum a0 (Int.ofNat (List.length a1)) (2:Int)) fun y0 =>
 bnd (lpF l_wrRow_0.step (u_wrRow_0 y0.2.1 a1 (Int.ofNat (List.length a1)) (0:Int)) (y0.2.1,(a1,((Int.ofNat (List.length a1)),((0:Int),()))))) fun y1 =>
 some ((),(y1.1,()))
noncomputable def c_wrRow:Go.RK.Fn Tryz.prog 89:=mkFn hm0 en0 (by kernel_rfl) [161,75] [] (tC (qWr (nu 0)) (tC (qR .cell (nu 2)) tNil)) tNil (tC (qWr (nl [0,2])) tNil) 2 3 (natX_ok c_wrNum (nat0_ok _)) [⟨_,k_wrRow_0⟩] (by kernel_rfl) (fun x=>f_wrRow x.1 x.2.1) fun x=>by kernel_rfl
noncomputable def f_wrColumn (a0:Bs) (a1:Col):Option (Unit × (Bs × Unit)) :=
 bnd (f_wrText a0 a1.name) fun y0 =>
 bnd (f_wrNum y0.2.1 a1.table (4:Int)) fun y1 =>
 bnd (f_wrNum y1.2.1 a1.attr (2:Int)) fun y2 =>
 bnd (f_wrNum y2.2.1 a1.oid (4:Int)) fun y3 =>
 bnd (f_wrNum y3.2.1 a1.size (2:Int)) fun y4 =>
 bnd (f_wrNum y4.2.1 a1.mod (4:Int)) fun y5 =>
 bnd (f_wrNum y5.2.1 a1.format (2:Int)) fun y6 =>
 some ((),(y6.2.1,()))
noncomputable def c_wrColumn:Go.RK.Fn Tryz.prog 90:=mkFn hm0 en0 (by kernel_rfl) [161,137] [] (tC (qWr (nu 0)) (tC (qCo (nu 2)) tNil)) tNil (tC (qWr (nl [0,2])) tNil) 2 3 (natX_ok c_wrNum (natX_ok c_wrText (nat0_ok _))) [] (by kernel_rfl) (fun x=>f_wrColumn x.1 x.2.1) fun x=>by kernel_rfl
noncomputable def s_wrFields_0 (w:Bs) (t6:List (Field)) (t7:Int) (t8:Int):Option ((Bs × (List (Field) × (Int × (Int × Unit)))) ⊕ (Bs × Unit)) :=
 bif (ltI t8 t7) then
  bif (inB t8 (List.length t6)) then
   bif (Nat.ble (((List.length w)+(List.length [(getU (t:=Tm.field) t6 t8).code])) * (1:Nat)) (140737488355328:Nat)) then
    bnd (f_wrText (w++[(getU (t:=Tm.field) t6 t8).code]) (getU (t:=Tm.field) t6 t8).text) fun y1 =>
    bif (inR (t8+(1:Int))) then
     some (.inl (y1.2.1,(t6,(t7,((t8+(1:Int)),())))))
    else none
   else none
  else none
 else some (.inr (w,()))
noncomputable def l_wrFields_0:Lp Tryz.prog:=mkLp (P:=Tryz.prog) [0,6,7,8] [161,76,3,3] 2 [0] (tC (qWr (nl [0,1])) (tC (tRow Tm.field) (tC tI (tC tI tNil)))) [⟨.exit 0,[0],[161],3,(tC (qWr (nl [0,2])) tNil)⟩] (fun x=>s_wrFields_0 x.1 x.2.1 x.2.2.1 x.2.2.2.1)
noncomputable def u_wrFields_0 (w:Bs) (t6:List (Field)) (t7:Int) (t8:Int):Nat:=Int.toNat (t7 - t8)+1
noncomputable def k_wrFields_0:Lk Tryz.prog 91 0:=mkLk hm0 en0 l_wrFields_0 0 (fun x=>u_wrFields_0 x.1 x.2.1 x.2.2.1 x.2.2.2.1) (natX_ok c_wrText (nat0_ok _)) [] (by kernel_rfl) fun x=>by kernel_rfl
noncomputable def f_wrFields (a0:Bs) (a1:List (Field)):Option (Unit × (Bs × Unit)) :=
 bnd (lpF l_wrFields_0.step (u_wrFields_0 a0 a1 (Int.ofNat (List.length a1)) (0:Int)) (a0,(a1,((Int.ofNat (List.length a1)),((0:Int),()))))) fun y0 =>
 bif (Nat.ble (((List.length y0.1)+(List.length [(UInt8.ofNat (Int.toNat (0:Int)))])) * (1:Nat)) (140737488355328:Nat)) then
  some ((),((y0.1++[(UInt8.ofNat (Int.toNat (0:Int)))]),()))
 else none
noncomputable def c_wrFields:Go.RK.Fn Tryz.prog 91:=mkFn hm0 en0 (by kernel_rfl) [161,76] [] (tC (qWr (nu 0)) (tC (qR .field (nu 2)) tNil)) tNil (tC (qWr (nl [0,2])) tNil) 2 3 (natX_ok c_wrText (nat0_ok _)) [⟨_,k_wrFields_0⟩] (by kernel_rfl) (fun x=>f_wrFields x.1 x.2.1) fun x=>by kernel_rfl
noncomputable def s_bkEncode_1 (b:(UInt8 × (UInt8 × (Bs × (Bs × (Bs × (Int × (Int × (List (Int) × (List (Col) × (List (Cell) × (List (Field) × Unit)))))))))))) (t2:(Int × (Bs × Unit))) (w:Bs) (t72:List (Col)) (t73:Int) (t74:Int):Option (((UInt8 × (UInt8 × (Bs × (Bs × (Bs × (Int × (Int × (List (Int) × (List (Col) × (List (Cell) × (List (Field) × Unit))))))))))) × ((Int × (Bs × Unit)) × (Bs × (List (Col) × (Int × (Int × Unit)))))) ⊕ ((UInt8 × (UInt8 × (Bs × (Bs × (Bs × (Int × (Int × (List (Int) × (List (Col) × (List (Cell) × (List (Field) × Unit))))))))))) × ((Int × (Bs × Unit)) × (Bs × Unit)))) :=
 bif (ltI t74 t73) then
  bif (inB t74 (List.length t72)) then
   bnd (f_wrColumn w (getU (t:=Tm.col) t72 t74)) fun y9 =>
   bif (inR (t74+(1:Int))) then
    some (.inl ((b.1,(b.2.1,(b.2.2.1,(b.2.2.2.1,(b.2.2.2.2.1,(b.2.2.2.2.2.1,(b.2.2.2.2.2.2.1,(b.2.2.2.2.2.2.2.1,(b.2.2.2.2.2.2.2.2.1,(b.2.2.2.2.2.2.2.2.2.1,(b.2.2.2.2.2.2.2.2.2.2.1,()))))))))))),((t2.1,(t2.2.1,())),(y9.2.1,(t72,(t73,((t74+(1:Int)),())))))))
   else none
  else none
 else some (.inr ((b.1,(b.2.1,(b.2.2.1,(b.2.2.2.1,(b.2.2.2.2.1,(b.2.2.2.2.2.1,(b.2.2.2.2.2.2.1,(b.2.2.2.2.2.2.2.1,(b.2.2.2.2.2.2.2.2.1,(b.2.2.2.2.2.2.2.2.2.1,(b.2.2.2.2.2.2.2.2.2.2.1,()))))))))))),((t2.1,(t2.2.1,())),(w,()))))
noncomputable def l_bkEncode_1:Lp Tryz.prog:=mkLp (P:=Tryz.prog) [1,2,5,72,73,74] [0,0,161,74,3,3] 5 [0,1,3] (tC (tPtr 0 78 (tC tByte (tC tByte (tC tStr (tC tStr (tC tStr (tC tI (tC tI (tC (tRow Tm.int) (tC (tRow Tm.col) (tC (tRow Tm.cell) (tC (tRow Tm.field) tNil)))))))))))) (tC (tPtr 1 58 (tC (tInt .u8) (tC (tOwn 2 Tm.by 5) tNil))) (tC (qWr (nl [3,4])) (tC (tRow Tm.col) (tC tI (tC tI tNil)))))) [⟨.exit 1,[1,2,5],[0,0,161],7,(tC (tPtr 0 78 (tC tByte (tC tByte (tC tStr (tC tStr (tC tStr (tC tI (tC tI (tC (tRow Tm.int) (tC (tRow Tm.col) (tC (tRow Tm.cell) (tC (tRow Tm.field) tNil)))))))))))) (tC (tPtr 1 58 (tC (tInt .u8) (tC (tOwn 5 Tm.by 5) tNil))) (tC (qWr (nl [3,6])) tNil)))⟩] (fun x=>s_bkEncode_1 x.1 x.2.1 x.2.2.1 x.2.2.2.1 x.2.2.2.2.1 x.2.2.2.2.2.1)
noncomputable def u_bkEncode_1 (b:(UInt8 × (UInt8 × (Bs × (Bs × (Bs × (Int × (Int × (List (Int) × (List (Col) × (List (Cell) × (List (Field) × Unit)))))))))))) (t2:(Int × (Bs × Unit))) (w:Bs) (t72:List (Col)) (t73:Int) (t74:Int):Nat:=Int.toNat (t73 - t74)+1
noncomputable def k_bkEncode_1:Lk Tryz.prog 63 1:=mkLk hm0 en0 l_bkEncode_1 1 (fun x=>u_bkEncode_1 x.1 x.2.1 x.2.2.1 x.2.2.2.1 x.2.2.2.2.1 x.2.2.2.2.2.1) (natX_ok c_bkCheck (natX_ok c_wrNum (natX_ok c_wrText (natX_ok c_wrRow (natX_ok c_wrColumn (natX_ok c_wrFields (nat0_ok _))))))) [] (by kernel_rfl) fun x=>by kernel_rfl
noncomputable def s_bkEncode_3 (b:(UInt8 × (UInt8 × (Bs × (Bs × (Bs × (Int × (Int × (List (Int) × (List (Col) × (List (Cell) × (List (Field) × Unit)))))))))))) (t2:(Int × (Bs × Unit))) (w:Bs) (t90:List (Int)) (t91:Int) (t92:Int):Option (((UInt8 × (UInt8 × (Bs × (Bs × (Bs × (Int × (Int × (List (Int) × (List (Col) × (List (Cell) × (List (Field) × Unit))))))))))) × ((Int × (Bs × Unit)) × (Bs × (List (Int) × (Int × (Int × Unit)))))) ⊕ ((UInt8 × (UInt8 × (Bs × (Bs × (Bs × (Int × (Int × (List (Int) × (List (Col) × (List (Cell) × (List (Field) × Unit))))))))))) × ((Int × (Bs × Unit)) × (Bs × Unit)))) :=
 bif (ltI t92 t91) then
  bif (inB t92 (List.length t90)) then
   bnd (f_wrNum w (getU (t:=Tm.int) t90 t92) (4:Int)) fun y11 =>
   bif (inR (t92+(1:Int))) then
    some (.inl ((b.1,(b.2.1,(b.2.2.1,(b.2.2.2.1,(b.2.2.2.2.1,(b.2.2.2.2.2.1,(b.2.2.2.2.2.2.1,(b.2.2.2.2.2.2.2.1,(b.2.2.2.2.2.2.2.2.1,(b.2.2.2.2.2.2.2.2.2.1,(b.2.2.2.2.2.2.2.2.2.2.1,()))))))))))),((t2.1,(t2.2.1,())),(y11.2.1,(t90,(t91,((t92+(1:Int)),())))))))
   else none
  else none
 else some (.inr ((b.1,(b.2.1,(b.2.2.1,(b.2.2.2.1,(b.2.2.2.2.1,(b.2.2.2.2.2.1,(b.2.2.2.2.2.2.1,(b.2.2.2.2.2.2.2.1,(b.2.2.2.2.2.2.2.2.1,(b.2.2.2.2.2.2.2.2.2.1,(b.2.2.2.2.2.2.2.2.2.2.1,()))))))))))),((t2.1,(t2.2.1,())),(w,()))))
noncomputable def l_bkEncode_3:Lp Tryz.prog:=mkLp (P:=Tryz.prog) [1,2,5,90,91,92] [0,0,161,33,3,3] 5 [0,1,3] (tC (tPtr 0 78 (tC tByte (tC tByte (tC tStr (tC tStr (tC tStr (tC tI (tC tI (tC (tRow Tm.int) (tC (tRow Tm.col) (tC (tRow Tm.cell) (tC (tRow Tm.field) tNil)))))))))))) (tC (tPtr 1 58 (tC (tInt .u8) (tC (tOwn 2 Tm.by 5) tNil))) (tC (qWr (nl [3,4])) (tC (tRow Tm.int) (tC tI (tC tI tNil)))))) [⟨.exit 3,[1,2,5],[0,0,161],7,(tC (tPtr 0 78 (tC tByte (tC tByte (tC tStr (tC tStr (tC tStr (tC tI (tC tI (tC (tRow Tm.int) (tC (tRow Tm.col) (tC (tRow Tm.cell) (tC (tRow Tm.field) tNil)))))))))))) (tC (tPtr 1 58 (tC (tInt .u8) (tC (tOwn 5 Tm.by 5) tNil))) (tC (qWr (nl [3,6])) tNil)))⟩] (fun x=>s_bkEncode_3 x.1 x.2.1 x.2.2.1 x.2.2.2.1 x.2.2.2.2.1 x.2.2.2.2.2.1)
noncomputable def u_bkEncode_3 (b:(UInt8 × (UInt8 × (Bs × (Bs × (Bs × (Int × (Int × (List (Int) × (List (Col) × (List (Cell) × (List (Field) × Unit)))))))))))) (t2:(Int × (Bs × Unit))) (w:Bs) (t90:List (Int)) (t91:Int) (t92:Int):Nat:=Int.toNat (t91 - t92)+1
noncomputable def k_bkEncode_3:Lk Tryz.prog 63 3:=mkLk hm0 en0 l_bkEncode_3 3 (fun x=>u_bkEncode_3 x.1 x.2.1 x.2.2.1 x.2.2.2.1 x.2.2.2.2.1 x.2.2.2.2.2.1) (natX_ok c_bkCheck (natX_ok c_wrNum (natX_ok c_wrText (natX_ok c_wrRow (natX_ok c_wrColumn (natX_ok c_wrFields (nat0_ok _))))))) [] (by kernel_rfl) fun x=>by kernel_rfl
noncomputable def f_bkEncode (a0:Back):Option ((Msg × (Int × Unit)) × Unit) :=
 bnd (f_bkCheck a0) fun y0 =>
 bif (!decide (y0.1.1=(0:Int))) then
  some (((Msg.mk (UInt8.ofNat 0) ([]:Bs)),(y0.1.1,())),())
 else bif decide ((Int.ofNat (UInt8.toNat a0.kind))=(82:Int)) then
  some (((Msg.mk a0.kind (((((([]:Bs)++([]:Bs))++[(UInt8.ofNat (Int.toNat (IntKind.wrap .u8 ((0:Int) / ((2:Int) ^ (Int.toNat ((8:Int) * ((4:Int) - (1:Int)))))))))])++[(UInt8.ofNat (Int.toNat (IntKind.wrap .u8 ((0:Int) / ((2:Int) ^ (Int.toNat (((8:Int) * ((4:Int) - (1:Int))) - (8:Int))))))))])++[(UInt8.ofNat (Int.toNat (IntKind.wrap .u8 ((0:Int) / ((2:Int) ^ (Int.toNat ((((8:Int) * ((4:Int) - (1:Int))) - (8:Int)) - (8:Int))))))))])++[(UInt8.ofNat (Int.toNat (IntKind.wrap .u8 ((0:Int) / ((2:Int) ^ (Int.toNat (((((8:Int) * ((4:Int) - (1:Int))) - (8:Int)) - (8:Int)) - (8:Int))))))))])),((0:Int),())),())
 else bif decide ((Int.ofNat (UInt8.toNat a0.kind))=(83:Int)) then
  bnd (f_wrText ([]:Bs) a0.name) fun y1 =>
  bnd (f_wrText y1.2.1 a0.value) fun y2 =>
  some (((Msg.mk a0.kind y2.2.1),((0:Int),())),())
 else bif decide ((Int.ofNat (UInt8.toNat a0.kind))=(75:Int)) then
  bnd (f_wrNum ([]:Bs) a0.n (4:Int)) fun y3 =>
  bnd (f_wrNum y3.2.1 a0.m (4:Int)) fun y4 =>
  some (((Msg.mk a0.kind y4.2.1),((0:Int),())),())
 else bif decide ((Int.ofNat (UInt8.toNat a0.kind))=(90:Int)) then
  some (((Msg.mk a0.kind [a0.status]),((0:Int),())),())
 else bif decide ((Int.ofNat (UInt8.toNat a0.kind))=(67:Int)) then
  bnd (f_wrText ([]:Bs) a0.tag) fun y5 =>
  some (((Msg.mk a0.kind y5.2.1),((0:Int),())),())
 else bif decide ((Int.ofNat (UInt8.toNat a0.kind))=(68:Int)) then
  bnd (f_wrRow ([]:Bs) a0.row) fun y6 =>
  some (((Msg.mk a0.kind y6.2.1),((0:Int),())),())
 else bif decide ((Int.ofNat (UInt8.toNat a0.kind))=(84:Int)) then
  bnd (f_wrNum ([]:Bs) (Int.ofNat (List.length a0.cols)) (2:Int)) fun y7 =>
  bnd (lpF l_bkEncode_1.step (u_bkEncode_1 (a0.kind,(a0.status,(a0.tag,(a0.name,(a0.value,(a0.n,(a0.m,(a0.oids,(a0.cols,(a0.row,(a0.fields,()))))))))))) ((0:Int),(([]:Bs),())) y7.2.1 a0.cols (Int.ofNat (List.length a0.cols)) (0:Int)) ((a0.kind,(a0.status,(a0.tag,(a0.name,(a0.value,(a0.n,(a0.m,(a0.oids,(a0.cols,(a0.row,(a0.fields,()))))))))))),(((0:Int),(([]:Bs),())),(y7.2.1,(a0.cols,((Int.ofNat (List.length a0.cols)),((0:Int),()))))))) fun y8 =>
  some (((Msg.mk y8.1.1 y8.2.2.1),((0:Int),())),())
 else bif decide ((Int.ofNat (UInt8.toNat a0.kind))=(116:Int)) then
  bnd (f_wrNum ([]:Bs) (Int.ofNat (List.length a0.oids)) (2:Int)) fun y9 =>
  bnd (lpF l_bkEncode_3.step (u_bkEncode_3 (a0.kind,(a0.status,(a0.tag,(a0.name,(a0.value,(a0.n,(a0.m,(a0.oids,(a0.cols,(a0.row,(a0.fields,()))))))))))) ((0:Int),(([]:Bs),())) y9.2.1 a0.oids (Int.ofNat (List.length a0.oids)) (0:Int)) ((a0.kind,(a0.status,(a0.tag,(a0.name,(a0.value,(a0.n,(a0.m,(a0.oids,(a0.cols,(a0.row,(a0.fields,()))))))))))),(((0:Int),(([]:Bs),())),(y9.2.1,(a0.oids,((Int.ofNat (List.length a0.oids)),((0:Int),()))))))) fun y10 =>
  some (((Msg.mk y10.1.1 y10.2.2.1),((0:Int),())),())
 else bif decide ((Int.ofNat (UInt8.toNat a0.kind))=(69:Int)) then
  bnd (f_wrFields ([]:Bs) a0.fields) fun y11 =>
  some (((Msg.mk a0.kind y11.2.1),((0:Int),())),())
 else bif decide ((Int.ofNat (UInt8.toNat a0.kind))=(78:Int)) then
  bnd (f_wrFields ([]:Bs) a0.fields) fun y12 =>
  some (((Msg.mk a0.kind y12.2.1),((0:Int),())),())
 else some (((Msg.mk a0.kind ([]:Bs)),((0:Int),())),())
noncomputable def c_bkEncode:Go.RK.Fn Tryz.prog 63:=mkFn hm0 en0 (by kernel_rfl) [78] [58,49] (tC (qBk (nu 0)) tNil) (tC (qMsg (nu 0)) (tC (qI (nu 0)) tNil)) tNil 0 0 (natX_ok c_bkCheck (natX_ok c_wrNum (natX_ok c_wrText (natX_ok c_wrRow (natX_ok c_wrColumn (natX_ok c_wrFields (nat0_ok _))))))) [⟨_,k_bkEncode_1⟩,⟨_,k_bkEncode_3⟩] (by kernel_rfl) (fun x=>f_bkEncode x.1) fun x=>by kernel_rfl
noncomputable def s_bkBytes_0 (out:Bs) (t8:List (Back)) (t9:Int) (t10:Int):Option ((Bs × (List (Back) × (Int × (Int × Unit)))) ⊕ (Bs × Unit)) :=
 bif (ltI t10 t9) then
  bif (inB t10 (List.length t8)) then
   bnd (f_bkEncode (getU (t:=Tm.back) t8 t10)) fun y2 =>
   bif (!decide (y2.1.2.1=(0:Int))) then
    bif (inR (t10+(1:Int))) then
     some (.inl (out,(t8,(t9,((t10+(1:Int)),())))))
    else none
   else bnd (f_frBytes y2.1.1) fun y3 =>
   bif (Nat.ble (((List.length out)+(List.length y3.1.1)) * (1:Nat)) (140737488355328:Nat)) then
    bif (inR (t10+(1:Int))) then
     some (.inl ((out++y3.1.1),(t8,(t9,((t10+(1:Int)),())))))
    else none
   else none
  else none
 else some (.inr (out,()))
noncomputable def l_bkBytes_0:Lp Tryz.prog:=mkLp (P:=Tryz.prog) [3,8,9,10] [28,45,3,3] 1 [] (tC (tOwn 0 Tm.by 5) (tC (tRow Tm.back) (tC tI (tC tI tNil)))) [⟨.exit 0,[3],[28],2,(tC (tOwn 1 Tm.by 5) tNil)⟩] (fun x=>s_bkBytes_0 x.1 x.2.1 x.2.2.1 x.2.2.2.1)
noncomputable def u_bkBytes_0 (out:Bs) (t8:List (Back)) (t9:Int) (t10:Int):Nat:=Int.toNat (t9 - t10)+1
noncomputable def k_bkBytes_0:Lk Tryz.prog 44 0:=mkLk hm0 en0 l_bkBytes_0 0 (fun x=>u_bkBytes_0 x.1 x.2.1 x.2.2.1 x.2.2.2.1) (natX_ok c_bkEncode (natX_ok c_frBytes (nat0_ok _))) [] (by kernel_rfl) fun x=>by kernel_rfl
noncomputable def f_bkBytes (a0:List (Back)):Option ((Bs × Unit) × Unit) :=
 bnd (lpF l_bkBytes_0.step (u_bkBytes_0 ([]:Bs) a0 (Int.ofNat (List.length a0)) (0:Int)) (([]:Bs),(a0,((Int.ofNat (List.length a0)),((0:Int),()))))) fun y0 =>
 some ((y0.1,()),())
noncomputable def c_bkBytes:Go.RK.Fn Tryz.prog 44:=mkFn hm0 en0 (by kernel_rfl) [45] [28] (tC (qR .back (nu 0)) tNil) (tC (qOb (nu 0)) tNil) tNil 0 1 (natX_ok c_bkEncode (natX_ok c_frBytes (nat0_ok _))) [⟨_,k_bkBytes_0⟩] (by kernel_rfl) (fun x=>f_bkBytes x.1) fun x=>by kernel_rfl
noncomputable def s_helloPairs_0 (s:Scan) (out:List (Pair)):Option ((Scan × (List (Pair) × Unit)) ⊕ (List (Pair) × (Scan × Unit))) :=
 bnd (f_scText s) fun y1 =>
 bif decide (y1.1.1=([]:Bs)) then
  some (.inr (out,(y1.2.1,())))
 else bnd (f_scText y1.2.1) fun y2 =>
 bif (Nat.ble (((List.length out)+(List.length [(Pair.mk y1.1.1 y2.1.1)])) * (32:Nat)) (140737488355328:Nat)) then
  some (.inl (y2.2.1,((out++[(Pair.mk y1.1.1 y2.1.1)]),())))
 else none
noncomputable def l_helloPairs_0:Lp Tryz.prog:=mkLp (P:=Tryz.prog) [0,3] [260,37] 2 [0] (tC (qSc (nl [0])) (tC (tOwn 1 Tm.pair 53) tNil)) [⟨.exit 0,[3,0],[37,260],3,(tC (tOwn 2 Tm.pair 53) (tC (qSc (nl [0])) tNil))⟩] (fun x=>s_helloPairs_0 x.1 x.2.1)
noncomputable def u_helloPairs_0 (s:Scan) (out:List (Pair)):Nat:=List.length s.rest+1
noncomputable def k_helloPairs_0:Lk Tryz.prog 183 0:=mkLk hm0 en0 l_helloPairs_0 0 (fun x=>u_helloPairs_0 x.1 x.2.1) (natX_ok c_scText (nat0_ok _)) [] (by kernel_rfl) fun x=>by kernel_rfl
noncomputable def f_helloPairs (a0:Scan):Option ((List (Pair) × Unit) × (Scan × Unit)) :=
 bnd (lpF l_helloPairs_0.step (u_helloPairs_0 a0 ([]:List (Pair))) (a0,(([]:List (Pair)),()))) fun y0 =>
 some ((y0.1,()),(y0.2.1,()))
noncomputable def c_helloPairs:Go.RK.Fn Tryz.prog 183:=mkFn hm0 en0 (by kernel_rfl) [260] [37] (tC (qSc (nu 0)) tNil) (tC (qO .pair 53 (nu 1)) tNil) (tC (qSc (nl [0])) tNil) 1 2 (natX_ok c_scText (nat0_ok _)) [⟨_,k_helloPairs_0⟩] (by kernel_rfl) (fun x=>f_helloPairs x.1) fun x=>by kernel_rfl
noncomputable def f_helloParse (a0:Bs):Option ((Hello × (Int × Unit)) × Unit) :=
 bif (ltI (Int.ofNat (List.length a0)) (4:Int)) then
  some (((Hello.mk (0:Int) (0:Int) (0:Int) ([]:List (Pair))),((4:Int),())),())
 else bnd (f_scNew a0) fun y0 =>
 bnd (f_scNum y0.1.1 (4:Int)) fun y1 =>
 bif decide (y1.1.1=(196608:Int)) then
  bnd (f_helloPairs y1.2.1) fun y2 =>
  bnd (f_scDone y2.2.1) fun y3 =>
  bif (!y3.1.1) then
   some (((Hello.mk (0:Int) (0:Int) (0:Int) ([]:List (Pair))),((4:Int),())),())
  else some (((Hello.mk y1.1.1 (0:Int) (0:Int) y2.1.1),((0:Int),())),())
 else bif decide (y1.1.1=(80877102:Int)) then
  bnd (f_scNum y1.2.1 (4:Int)) fun y4 =>
  bnd (f_scNum y4.2.1 (4:Int)) fun y5 =>
  bnd (f_scDone y5.2.1) fun y6 =>
  bif (!y6.1.1) then
   some (((Hello.mk (0:Int) (0:Int) (0:Int) ([]:List (Pair))),((4:Int),())),())
  else some (((Hello.mk y1.1.1 y4.1.1 y5.1.1 ([]:List (Pair))),((0:Int),())),())
 else bif decide (y1.1.1=(80877103:Int)) then
  bnd (f_scDone y1.2.1) fun y7 =>
  bif (!y7.1.1) then
   some (((Hello.mk (0:Int) (0:Int) (0:Int) ([]:List (Pair))),((4:Int),())),())
  else some (((Hello.mk y1.1.1 (0:Int) (0:Int) ([]:List (Pair))),((0:Int),())),())
 else some (((Hello.mk (0:Int) (0:Int) (0:Int) ([]:List (Pair))),((9:Int),())),())
noncomputable def c_helloParse:Go.RK.Fn Tryz.prog 130:=mkFn hm0 en0 (by kernel_rfl) [28] [55,49] (tC (qR .by (nu 0)) tNil) (tC (qHe (nu 0)) (tC (qI (nu 0)) tNil)) tNil 0 0 (natX_ok c_scNew (natX_ok c_scDone (natX_ok c_scNum (natX_ok c_helloPairs (nat0_ok _))))) [] (by kernel_rfl) (fun x=>f_helloParse x.1) fun x=>by kernel_rfl
noncomputable def f_greetBytes (a0:List (Pair)) (a1:Int):Option ((Bs × Unit) × Unit) :=
 bnd (f_backs a0 a1) fun y0 =>
 bnd (f_bkBytes y0.1.1) fun y1 =>
 some ((y1.1.1,()),())
noncomputable def c_greetBytes:Go.RK.Fn Tryz.prog 28:=mkFn hm0 en0 (by kernel_rfl) [37,3] [28] (tC (qR .pair (nu 0)) (tC (qI (nu 0)) tNil)) (tC (qOb (nu 0)) tNil) tNil 0 1 (natX_ok c_bkBytes (natX_ok c_backs (nat0_ok _))) [] (by kernel_rfl) (fun x=>f_greetBytes x.1 x.2.1) fun x=>by kernel_rfl
noncomputable def f_clWrong (a0:Int):Option ((Item × Unit) × Unit) :=
 bif decide (a0=(9:Int)) then
  some (((Item.mk (3:Int) (Hello.mk (0:Int) (0:Int) (0:Int) ([]:List (Pair))) (Front.mk (UInt8.ofNat 0) (UInt8.ofNat 0) ([]:Bs) ([]:Bs) ([]:Bs) ([]:List (Int)) ([]:List (Int)) ([]:List (Int)) ([]:List (Cell)) (0:Int)) [(48:UInt8),(65:UInt8),(48:UInt8),(48:UInt8),(48:UInt8)] [(117:UInt8),(110:UInt8),(115:UInt8),(117:UInt8),(112:UInt8),(112:UInt8),(111:UInt8),(114:UInt8),(116:UInt8),(101:UInt8),(100:UInt8),(32:UInt8),(109:UInt8),(101:UInt8),(115:UInt8),(115:UInt8),(97:UInt8),(103:UInt8),(101:UInt8)]),()),())
 else some (((Item.mk (3:Int) (Hello.mk (0:Int) (0:Int) (0:Int) ([]:List (Pair))) (Front.mk (UInt8.ofNat 0) (UInt8.ofNat 0) ([]:Bs) ([]:Bs) ([]:Bs) ([]:List (Int)) ([]:List (Int)) ([]:List (Int)) ([]:List (Cell)) (0:Int)) [(48:UInt8),(56:UInt8),(80:UInt8),(48:UInt8),(49:UInt8)] [(112:UInt8),(114:UInt8),(111:UInt8),(116:UInt8),(111:UInt8),(99:UInt8),(111:UInt8),(108:UInt8),(32:UInt8),(118:UInt8),(105:UInt8),(111:UInt8),(108:UInt8),(97:UInt8),(116:UInt8),(105:UInt8),(111:UInt8),(110:UInt8)]),()),())
noncomputable def c_clWrong:Go.RK.Fn Tryz.prog 95:=mkFn hm0 en0 (by kernel_rfl) [49] [121] (tC (qI (nu 0)) tNil) (tC (qIt (nu 0)) tNil) tNil 0 0 (nat0_ok _) [] (by kernel_rfl) (fun x=>f_clWrong x.1) fun x=>by kernel_rfl
noncomputable def f_clMessage (a0:Msg):Option ((Item × Unit) × Unit) :=
 bnd (f_ftDecode a0) fun y0 =>
 bif (!decide (y0.1.2.1=(0:Int))) then
  bnd (f_clWrong y0.1.2.1) fun y1 =>
  some ((y1.1.1,()),())
 else some (((Item.mk (2:Int) (Hello.mk (0:Int) (0:Int) (0:Int) ([]:List (Pair))) y0.1.1 ([]:Bs) ([]:Bs)),()),())
noncomputable def c_clMessage:Go.RK.Fn Tryz.prog 96:=mkFn hm0 en0 (by kernel_rfl) [58] [121] (tC (qMsg (nu 0)) tNil) (tC (qIt (nu 0)) tNil) tNil 0 0 (natX_ok c_clWrong (natX_ok c_ftDecode (nat0_ok _))) [] (by kernel_rfl) (fun x=>f_clMessage x.1) fun x=>by kernel_rfl
noncomputable def f_clFirst (a0:Msg):Option ((Item × Unit) × Unit) :=
 bnd (f_helloParse a0.body) fun y0 =>
 bif (!decide (y0.1.2.1=(0:Int))) then
  bnd (f_clWrong y0.1.2.1) fun y1 =>
  some ((y1.1.1,()),())
 else some (((Item.mk (1:Int) y0.1.1 (Front.mk (UInt8.ofNat 0) (UInt8.ofNat 0) ([]:Bs) ([]:Bs) ([]:Bs) ([]:List (Int)) ([]:List (Int)) ([]:List (Int)) ([]:List (Cell)) (0:Int)) ([]:Bs) ([]:Bs)),()),())
noncomputable def c_clFirst:Go.RK.Fn Tryz.prog 97:=mkFn hm0 en0 (by kernel_rfl) [58] [121] (tC (qMsg (nu 0)) tNil) (tC (qIt (nu 0)) tNil) tNil 0 0 (natX_ok c_clWrong (natX_ok c_helloParse (nat0_ok _))) [] (by kernel_rfl) (fun x=>f_clFirst x.1) fun x=>by kernel_rfl
noncomputable def f_clItem (a0:Client) (a1:Msg) (a2:Bool) (a3:Int):Option ((Item × Unit) × (Client × Unit)) :=
 bif (!decide (a3=(0:Int))) then
  bnd (f_clWrong a3) fun y0 =>
  some ((y0.1.1,()),(a0,()))
 else bif (!a2) then
  some (((Item.mk (0:Int) (Hello.mk (0:Int) (0:Int) (0:Int) ([]:List (Pair))) (Front.mk (UInt8.ofNat 0) (UInt8.ofNat 0) ([]:Bs) ([]:Bs) ([]:Bs) ([]:List (Int)) ([]:List (Int)) ([]:List (Int)) ([]:List (Cell)) (0:Int)) ([]:Bs) ([]:Bs)),()),(a0,()))
 else bif a0.begun then
  bnd (f_clMessage a1) fun y1 =>
  some ((y1.1.1,()),(a0,()))
 else bnd (f_clFirst a1) fun y2 =>
 some ((y2.1.1,()),(a0,()))
noncomputable def c_clItem:Go.RK.Fn Tryz.prog 77:=mkFn hm0 en0 (by kernel_rfl) [66,58,4,49] [121] (tC (qCl (nu 0)) (tC (qMsg (nu 3)) (tC (qB (nu 3)) (tC (qI (nu 3)) tNil)))) (tC (qIt (nu 3)) tNil) (tC (qCl (nl [0,1,3])) tNil) 3 4 (natX_ok c_clWrong (natX_ok c_clMessage (natX_ok c_clFirst (nat0_ok _)))) [] (by kernel_rfl) (fun x=>f_clItem x.1 x.2.1 x.2.2.1 x.2.2.2.1) fun x=>by kernel_rfl
end Go.Proofs.YtjgeofdgdlmcoaaGreatDoor
namespace Go.Proofs.YtjgeofdgdlmcoaaGreatDoor
open Go Go.RK
open Go.RK.Uni (Ty El)
open Go.RK.Byt (bT)
def ItemB (b:Item):Prop:=FrontB b.front∧b.code.length≤100∧b.text.length≤100
attribute [grind =] ItemB
theorem t_ftMessage (a0:Scan) (a1:UInt8) (h0:a0.rest.length≤3990):Tt (f_ftMessage a0 a1) fun y=>FrontB y.1.1:=by
 unfold f_ftMessage
 refine Tt.bif (fun h=>?_) (fun h=>?_)
 refine Tt.bnd (t_scText _ (by grind)) fun y0 hy0=>?_
 refine Tt.bnd (t_scText _ (by grind)) fun y1 hy1=>?_
 refine Tt.bnd (t_ftList _ _ (by grind) (by grind)) fun y2 hy2=>?_
 exact Tt.ret (by grind)
 refine Tt.bif (fun h=>?_) (fun h=>?_)
 refine Tt.bnd (t_scText _ (by grind)) fun y3 hy3=>?_
 refine Tt.bnd (t_scText _ (by grind)) fun y4 hy4=>?_
 refine Tt.bnd (t_ftList _ _ (by grind) (by grind)) fun y5 hy5=>?_
 refine Tt.bnd (t_ftRow _ (by grind)) fun y6 hy6=>?_
 refine Tt.bnd (t_ftList _ _ (by grind) (by grind)) fun y7 hy7=>?_
 exact Tt.ret (by grind)
 refine Tt.bif (fun h=>?_) (fun h=>?_)
 refine Tt.bnd (t_scNum _ _ (by grind)) fun y8 hy8=>?_
 refine Tt.bnd (t_scText _ (by grind)) fun y9 hy9=>?_
 refine Tt.bif (fun h=>?_) (fun h=>?_)
 exact Tt.ret (by grind)
 exact Tt.ret (by grind)
 refine Tt.bif (fun h=>?_) (fun h=>?_)
 refine Tt.bnd (t_scNum _ _ (by grind)) fun y10 hy10=>?_
 refine Tt.bnd (t_scText _ (by grind)) fun y11 hy11=>?_
 refine Tt.bif (fun h=>?_) (fun h=>?_)
 exact Tt.ret (by grind)
 exact Tt.ret (by grind)
 refine Tt.bif (fun h=>?_) (fun h=>?_)
 refine Tt.bnd (t_scText _ (by grind)) fun y12 hy12=>?_
 refine Tt.bnd (t_scNum _ _ (by grind)) fun y13 hy13=>?_
 refine Tt.bnd (t_signed _ _ (by grind)) fun y14 hy14=>?_
 exact Tt.ret (by grind)
 refine Tt.bif (fun h=>?_) (fun h=>?_)
 refine Tt.bnd (t_scText _ (by grind)) fun y15 hy15=>?_
 exact Tt.ret (by grind)
 exact Tt.ret (by grind)
theorem t_ftDecode (a0:Msg) (h0:a0.body.length≤3990):Tt (f_ftDecode a0) fun y=>FrontB y.1.1:=by
 unfold f_ftDecode
 refine Tt.bnd (t_ftKnown _) fun y0 hy0=>?_
 refine Tt.bif (fun h=>?_) (fun h=>?_)
 exact Tt.ret (by grind)
 refine Tt.bif (fun h=>?_) (fun h=>?_)
 exact Tt.ret (by grind)
 refine Tt.bnd (t_scNew _ (by grind)) fun y1 hy1=>?_
 refine Tt.bnd (t_ftMessage _ _ (by grind)) fun y2 hy2=>?_
 refine Tt.bnd (t_scDone _) fun y3 hy3=>?_
 refine Tt.bif (fun h=>?_) (fun h=>?_)
 exact Tt.ret (by grind)
 refine Tt.bnd (t_ftCheck _ (by grind)) fun y4 hy4=>?_
 refine Tt.bif (fun h=>?_) (fun h=>?_)
 exact Tt.ret (by grind)
 exact Tt.ret (by grind)
theorem t_wrNum (a0:List (UInt8)) (a1:Int) (a2:Int) (h0:a0.length≤100000000) (h1:a2=2∨a2=4):Tt (f_wrNum a0 a1 a2) fun y=>y.2.1.length≤a0.length+4:=by
 unfold f_wrNum
 refine Tt.bnd (t_numPut _ _ _ (by grind) (by grind)) fun y0 hy0=>?_
 exact Tt.ret (by grind)
theorem t_wrText (a0:List (UInt8)) (a1:List (UInt8)) (h0:a0.length≤100000000) (h1:a1.length≤1000000):Tt (f_wrText a0 a1) fun y=>y.2.1.length≤a0.length+a1.length+1:=by
 unfold f_wrText
 refine Tt.ok (by grind) ?_
 refine Tt.ok (by grind) ?_
 exact Tt.ret (by grind)
theorem st_wrRow_0 (W:Nat) (w:List (UInt8)) (t10:List (Cell)) (t11:Int) (t12:Int) (h0:0≤t12∧t12≤t11∧t11≤1000000) (h1:t11≤(t10.length:Int)) (h2:(w.length:Int)≤W+4004 * t12∧W≤104∧CellsB t10∧t11≤4000):Tt (s_wrRow_0 w t10 t11 t12) fun r=>match r with | .inl (w',t10',t11',t12',_)=>((0≤t12'∧t12'≤t11'∧t11'≤1000000)∧(t11'≤(t10'.length:Int))∧((w'.length:Int)≤W+4004 * t12'∧W≤104∧CellsB t10'∧t11'≤4000))∧(t11' - t12').toNat < (t11 - t12).toNat | .inr y=>y.1.length≤16020000:=by
 unfold s_wrRow_0
 try dsimp only [El_cell]
 refine Tt.bif (fun h=>?_) (fun h=>?_)
 refine Tt.ok (by grind) ?_
 refine Tt.bif (fun h=>?_) (fun h=>?_)
 refine Tt.bnd (t_wrNum _ _ _ (by grind) (by grind)) fun y3 hy3=>?_
 refine Tt.ok (by grind) ?_
 exact Tt.ret (by grind)
 refine Tt.bnd (t_wrNum _ _ _ (by grind) (by grind)) fun y4 hy4=>?_
 refine Tt.ok (by grind) ?_
 refine Tt.ok (by grind) ?_
 exact Tt.ret (by grind)
 exact Tt.ret (by grind)
theorem lt_wrRow_0 (W:Nat) (w:List (UInt8)) (t10:List (Cell)) (t11:Int) (t12:Int) (h0:0≤t12∧t12≤t11∧t11≤1000000) (h1:t11≤(t10.length:Int)) (h2:(w.length:Int)≤W+4004 * t12∧W≤104∧CellsB t10∧t11≤4000):Tt (α:=(List (UInt8) × Unit)) (lpF l_wrRow_0.step (u_wrRow_0 w t10 t11 t12) (w,(t10,(t11,(t12,()))))) fun y=>y.1.length≤16020000:=by
 refine Tt.lp (fun x=>(0≤x.2.2.2.1∧x.2.2.2.1≤x.2.2.1∧x.2.2.1≤1000000)∧(x.2.2.1≤(x.2.1.length:Int))∧((x.1.length:Int)≤W+4004 * x.2.2.2.1∧W≤104∧CellsB x.2.1∧x.2.2.1≤4000)) (fun x=>(x.2.2.1 - x.2.2.2.1).toNat) (fun x h=>(st_wrRow_0 W x.1 x.2.1 x.2.2.1 x.2.2.2.1 h.1 h.2.1 h.2.2).mono fun r hr=>?_) (by exact ⟨h0,h1,h2⟩) (by unfold u_wrRow_0;grind)
 rcases r with r | r <;> exact hr
theorem t_wrRow (a0:List (UInt8)) (a1:List (Cell)) (h0:a0.length≤100) (h1:a1.length≤4000) (h2:CellsB a1):Tt (f_wrRow a0 a1) fun y=>y.2.1.length≤16020000:=by
 unfold f_wrRow
 refine Tt.bnd (t_wrNum _ _ _ (by grind) (by grind)) fun y0 hy0=>?_
 refine Tt.bnd (lt_wrRow_0 (a0.length+4) _ _ _ _ (by grind) (by grind) (by grind)) fun (y1:(List (UInt8) × Unit)) hy1=>?_
 exact Tt.ret (by grind)
theorem t_wrColumn (a0:List (UInt8)) (a1:Col) (h0:a0.length≤50000000) (h1:a1.name.length≤4000):Tt (f_wrColumn a0 a1) fun y=>y.2.1.length≤a0.length+4025:=by
 unfold f_wrColumn
 refine Tt.bnd (t_wrText _ _ (by grind) (by grind)) fun y0 hy0=>?_
 refine Tt.bnd (t_wrNum _ _ _ (by grind) (by grind)) fun y1 hy1=>?_
 refine Tt.bnd (t_wrNum _ _ _ (by grind) (by grind)) fun y2 hy2=>?_
 refine Tt.bnd (t_wrNum _ _ _ (by grind) (by grind)) fun y3 hy3=>?_
 refine Tt.bnd (t_wrNum _ _ _ (by grind) (by grind)) fun y4 hy4=>?_
 refine Tt.bnd (t_wrNum _ _ _ (by grind) (by grind)) fun y5 hy5=>?_
 refine Tt.bnd (t_wrNum _ _ _ (by grind) (by grind)) fun y6 hy6=>?_
 exact Tt.ret (by grind)
theorem st_wrFields_0 (W:Nat) (w:List (UInt8)) (t6:List (Field)) (t7:Int) (t8:Int) (h0:0≤t8∧t8≤t7∧t7≤1000000) (h1:t7≤(t6.length:Int)) (h2:(w.length:Int)≤W+5002 * t8∧W≤104∧FieldsB t6∧t7≤100):Tt (s_wrFields_0 w t6 t7 t8) fun r=>match r with | .inl (w',t6',t7',t8',_)=>((0≤t8'∧t8'≤t7'∧t7'≤1000000)∧(t7'≤(t6'.length:Int))∧((w'.length:Int)≤W+5002 * t8'∧W≤104∧FieldsB t6'∧t7'≤100))∧(t7' - t8').toNat < (t7 - t8).toNat | .inr y=>y.1.length≤600000:=by
 unfold s_wrFields_0
 try dsimp only [El_field]
 refine Tt.bif (fun h=>?_) (fun h=>?_)
 refine Tt.ok (by grind) ?_
 refine Tt.ok (by grind) ?_
 refine Tt.bnd (t_wrText _ _ (by grind) (by grind)) fun y1 hy1=>?_
 refine Tt.ok (by grind) ?_
 exact Tt.ret (by grind)
 exact Tt.ret (by grind)
theorem lt_wrFields_0 (W:Nat) (w:List (UInt8)) (t6:List (Field)) (t7:Int) (t8:Int) (h0:0≤t8∧t8≤t7∧t7≤1000000) (h1:t7≤(t6.length:Int)) (h2:(w.length:Int)≤W+5002 * t8∧W≤104∧FieldsB t6∧t7≤100):Tt (α:=(List (UInt8) × Unit)) (lpF l_wrFields_0.step (u_wrFields_0 w t6 t7 t8) (w,(t6,(t7,(t8,()))))) fun y=>y.1.length≤600000:=by
 refine Tt.lp (fun x=>(0≤x.2.2.2.1∧x.2.2.2.1≤x.2.2.1∧x.2.2.1≤1000000)∧(x.2.2.1≤(x.2.1.length:Int))∧((x.1.length:Int)≤W+5002 * x.2.2.2.1∧W≤104∧FieldsB x.2.1∧x.2.2.1≤100)) (fun x=>(x.2.2.1 - x.2.2.2.1).toNat) (fun x h=>(st_wrFields_0 W x.1 x.2.1 x.2.2.1 x.2.2.2.1 h.1 h.2.1 h.2.2).mono fun r hr=>?_) (by exact ⟨h0,h1,h2⟩) (by unfold u_wrFields_0;grind)
 rcases r with r | r <;> exact hr
theorem t_wrFields (a0:List (UInt8)) (a1:List (Field)) (h0:a0.length≤100) (h1:a1.length≤100) (h2:FieldsB a1):Tt (f_wrFields a0 a1) fun y=>y.2.1.length≤600001:=by
 unfold f_wrFields
 refine Tt.bnd (lt_wrFields_0 (a0.length) _ _ _ _ (by grind) (by grind) (by grind)) fun (y0:(List (UInt8) × Unit)) hy0=>?_
 refine Tt.ok (by grind) ?_
 exact Tt.ret (by grind)
theorem st_bkEncode_1 (W:Nat) (b:(UInt8 × (UInt8 × (List (UInt8) × (List (UInt8) × (List (UInt8) × (Int × (Int × (List (Int) × (List (Col) × (List (Cell) × (List (Field) × Unit)))))))))))) (t2:(Int × (List (UInt8) × Unit))) (w:List (UInt8)) (t72:List (Col)) (t73:Int) (t74:Int) (h0:0≤t74∧t74≤t73∧t73≤1000000) (h1:t73≤(t72.length:Int)) (h2:(w.length:Int)≤W+4025 * t74∧W≤104∧ColsB t72∧t73≤4000):Tt (s_bkEncode_1 b t2 w t72 t73 t74) fun r=>match r with | .inl (b',t2',w',t72',t73',t74',_)=>((0≤t74'∧t74'≤t73'∧t73'≤1000000)∧(t73'≤(t72'.length:Int))∧((w'.length:Int)≤W+4025 * t74'∧W≤104∧ColsB t72'∧t73'≤4000))∧(t73' - t74').toNat < (t73 - t74).toNat | .inr y=>y.2.2.1.length≤16110000:=by
 unfold s_bkEncode_1
 try dsimp only [El_col]
 refine Tt.bif (fun h=>?_) (fun h=>?_)
 refine Tt.ok (by grind) ?_
 refine Tt.bnd (t_wrColumn _ _ (by grind) (by grind)) fun y9 hy9=>?_
 refine Tt.ok (by grind) ?_
 exact Tt.ret (by grind)
 exact Tt.ret (by grind)
theorem lt_bkEncode_1 (W:Nat) (b:(UInt8 × (UInt8 × (List (UInt8) × (List (UInt8) × (List (UInt8) × (Int × (Int × (List (Int) × (List (Col) × (List (Cell) × (List (Field) × Unit)))))))))))) (t2:(Int × (List (UInt8) × Unit))) (w:List (UInt8)) (t72:List (Col)) (t73:Int) (t74:Int) (h0:0≤t74∧t74≤t73∧t73≤1000000) (h1:t73≤(t72.length:Int)) (h2:(w.length:Int)≤W+4025 * t74∧W≤104∧ColsB t72∧t73≤4000):Tt (α:=((UInt8 × (UInt8 × (List (UInt8) × (List (UInt8) × (List (UInt8) × (Int × (Int × (List (Int) × (List (Col) × (List (Cell) × (List (Field) × Unit))))))))))) × ((Int × (List (UInt8) × Unit)) × (List (UInt8) × Unit)))) (lpF l_bkEncode_1.step (u_bkEncode_1 b t2 w t72 t73 t74) (b,(t2,(w,(t72,(t73,(t74,()))))))) fun y=>y.2.2.1.length≤16110000:=by
 refine Tt.lp (fun x=>(0≤x.2.2.2.2.2.1∧x.2.2.2.2.2.1≤x.2.2.2.2.1∧x.2.2.2.2.1≤1000000)∧(x.2.2.2.2.1≤(x.2.2.2.1.length:Int))∧((x.2.2.1.length:Int)≤W+4025 * x.2.2.2.2.2.1∧W≤104∧ColsB x.2.2.2.1∧x.2.2.2.2.1≤4000)) (fun x=>(x.2.2.2.2.1 - x.2.2.2.2.2.1).toNat) (fun x h=>(st_bkEncode_1 W x.1 x.2.1 x.2.2.1 x.2.2.2.1 x.2.2.2.2.1 x.2.2.2.2.2.1 h.1 h.2.1 h.2.2).mono fun r hr=>?_) (by exact ⟨h0,h1,h2⟩) (by unfold u_bkEncode_1;grind)
 rcases r with r | r <;> exact hr
theorem st_bkEncode_3 (W:Nat) (b:(UInt8 × (UInt8 × (List (UInt8) × (List (UInt8) × (List (UInt8) × (Int × (Int × (List (Int) × (List (Col) × (List (Cell) × (List (Field) × Unit)))))))))))) (t2:(Int × (List (UInt8) × Unit))) (w:List (UInt8)) (t90:List (Int)) (t91:Int) (t92:Int) (h0:0≤t92∧t92≤t91∧t91≤1000000) (h1:t91≤(t90.length:Int)) (h2:(w.length:Int)≤W+4 * t92∧W≤104∧t91≤4000):Tt (s_bkEncode_3 b t2 w t90 t91 t92) fun r=>match r with | .inl (b',t2',w',t90',t91',t92',_)=>((0≤t92'∧t92'≤t91'∧t91'≤1000000)∧(t91'≤(t90'.length:Int))∧((w'.length:Int)≤W+4 * t92'∧W≤104∧t91'≤4000))∧(t91' - t92').toNat < (t91 - t92).toNat | .inr y=>y.2.2.1.length≤16110000:=by
 unfold s_bkEncode_3
 try dsimp only [El_int]
 refine Tt.bif (fun h=>?_) (fun h=>?_)
 refine Tt.ok (by grind) ?_
 refine Tt.bnd (t_wrNum _ _ _ (by grind) (by grind)) fun y11 hy11=>?_
 refine Tt.ok (by grind) ?_
 exact Tt.ret (by grind)
 exact Tt.ret (by grind)
theorem lt_bkEncode_3 (W:Nat) (b:(UInt8 × (UInt8 × (List (UInt8) × (List (UInt8) × (List (UInt8) × (Int × (Int × (List (Int) × (List (Col) × (List (Cell) × (List (Field) × Unit)))))))))))) (t2:(Int × (List (UInt8) × Unit))) (w:List (UInt8)) (t90:List (Int)) (t91:Int) (t92:Int) (h0:0≤t92∧t92≤t91∧t91≤1000000) (h1:t91≤(t90.length:Int)) (h2:(w.length:Int)≤W+4 * t92∧W≤104∧t91≤4000):Tt (α:=((UInt8 × (UInt8 × (List (UInt8) × (List (UInt8) × (List (UInt8) × (Int × (Int × (List (Int) × (List (Col) × (List (Cell) × (List (Field) × Unit))))))))))) × ((Int × (List (UInt8) × Unit)) × (List (UInt8) × Unit)))) (lpF l_bkEncode_3.step (u_bkEncode_3 b t2 w t90 t91 t92) (b,(t2,(w,(t90,(t91,(t92,()))))))) fun y=>y.2.2.1.length≤16110000:=by
 refine Tt.lp (fun x=>(0≤x.2.2.2.2.2.1∧x.2.2.2.2.2.1≤x.2.2.2.2.1∧x.2.2.2.2.1≤1000000)∧(x.2.2.2.2.1≤(x.2.2.2.1.length:Int))∧((x.2.2.1.length:Int)≤W+4 * x.2.2.2.2.2.1∧W≤104∧x.2.2.2.2.1≤4000)) (fun x=>(x.2.2.2.2.1 - x.2.2.2.2.2.1).toNat) (fun x h=>(st_bkEncode_3 W x.1 x.2.1 x.2.2.1 x.2.2.2.1 x.2.2.2.2.1 x.2.2.2.2.2.1 h.1 h.2.1 h.2.2).mono fun r hr=>?_) (by exact ⟨h0,h1,h2⟩) (by unfold u_bkEncode_3;grind)
 rcases r with r | r <;> exact hr
theorem t_bkEncode (a0:Back) (h0:BackB a0):Tt (f_bkEncode a0) fun y=>y.1.1.body.length≤16110000:=by
 unfold f_bkEncode
 refine Tt.bnd (t_bkCheck _ (by grind)) fun y0 hy0=>?_
 refine Tt.bif (fun h=>?_) (fun h=>?_)
 exact Tt.ret (by grind)
 refine Tt.bif (fun h=>?_) (fun h=>?_)
 exact Tt.ret (by grind)
 refine Tt.bif (fun h=>?_) (fun h=>?_)
 refine Tt.bnd (t_wrText _ _ (by grind) (by grind)) fun y1 hy1=>?_
 refine Tt.bnd (t_wrText _ _ (by grind) (by grind)) fun y2 hy2=>?_
 exact Tt.ret (by grind)
 refine Tt.bif (fun h=>?_) (fun h=>?_)
 refine Tt.bnd (t_wrNum _ _ _ (by grind) (by grind)) fun y3 hy3=>?_
 refine Tt.bnd (t_wrNum _ _ _ (by grind) (by grind)) fun y4 hy4=>?_
 exact Tt.ret (by grind)
 refine Tt.bif (fun h=>?_) (fun h=>?_)
 exact Tt.ret (by grind)
 refine Tt.bif (fun h=>?_) (fun h=>?_)
 refine Tt.bnd (t_wrText _ _ (by grind) (by grind)) fun y5 hy5=>?_
 exact Tt.ret (by grind)
 refine Tt.bif (fun h=>?_) (fun h=>?_)
 refine Tt.bnd (t_wrRow _ _ (by grind) (by grind) (by grind)) fun y6 hy6=>?_
 exact Tt.ret (by grind)
 refine Tt.bif (fun h=>?_) (fun h=>?_)
 refine Tt.bnd (t_wrNum _ _ _ (by grind) (by grind)) fun y7 hy7=>?_
 refine Tt.bnd (lt_bkEncode_1 (4) _ _ _ _ _ _ (by grind) (by grind) (by grind)) fun (y8:((UInt8 × (UInt8 × (List (UInt8) × (List (UInt8) × (List (UInt8) × (Int × (Int × (List (Int) × (List (Col) × (List (Cell) × (List (Field) × Unit))))))))))) × ((Int × (List (UInt8) × Unit)) × (List (UInt8) × Unit)))) hy8=>?_
 exact Tt.ret (by grind)
 refine Tt.bif (fun h=>?_) (fun h=>?_)
 refine Tt.bnd (t_wrNum _ _ _ (by grind) (by grind)) fun y9 hy9=>?_
 refine Tt.bnd (lt_bkEncode_3 (4) _ _ _ _ _ _ (by grind) (by grind) (by grind)) fun (y10:((UInt8 × (UInt8 × (List (UInt8) × (List (UInt8) × (List (UInt8) × (Int × (Int × (List (Int) × (List (Col) × (List (Cell) × (List (Field) × Unit))))))))))) × ((Int × (List (UInt8) × Unit)) × (List (UInt8) × Unit)))) hy10=>?_
 exact Tt.ret (by grind)
 refine Tt.bif (fun h=>?_) (fun h=>?_)
 refine Tt.bnd (t_wrFields _ _ (by grind) (by grind) (by grind)) fun y11 hy11=>?_
 exact Tt.ret (by grind)
 refine Tt.bif (fun h=>?_) (fun h=>?_)
 refine Tt.bnd (t_wrFields _ _ (by grind) (by grind) (by grind)) fun y12 hy12=>?_
 exact Tt.ret (by grind)
 exact Tt.ret (by grind)
theorem st_bkBytes_0 (N:Nat) (out:List (UInt8)) (t8:List (Back)) (t9:Int) (t10:Int) (h0:0≤t10∧t10≤t9∧t9≤1000000) (h1:t9≤(t8.length:Int)) (h2:(out.length:Int)≤16110010 * t10∧BacksB t8∧t9≤(N:Int)∧N≤1100):Tt (s_bkBytes_0 out t8 t9 t10) fun r=>match r with | .inl (out',t8',t9',t10',_)=>((0≤t10'∧t10'≤t9'∧t9'≤1000000)∧(t9'≤(t8'.length:Int))∧((out'.length:Int)≤16110010 * t10'∧BacksB t8'∧t9'≤(N:Int)∧N≤1100))∧(t9' - t10').toNat < (t9 - t10).toNat | .inr y=>y.1.length≤16110010 * N:=by
 unfold s_bkBytes_0
 try dsimp only [El_back]
 refine Tt.bif (fun h=>?_) (fun h=>?_)
 refine Tt.ok (by grind) ?_
 refine Tt.bnd (t_bkEncode _ (by grind)) fun y2 hy2=>?_
 refine Tt.bif (fun h=>?_) (fun h=>?_)
 refine Tt.ok (by grind) ?_
 exact Tt.ret (by grind)
 refine Tt.bnd (t_frBytes _ (by grind)) fun y3 hy3=>?_
 refine Tt.ok (by grind) ?_
 refine Tt.ok (by grind) ?_
 exact Tt.ret (by grind)
 exact Tt.ret (by grind)
theorem lt_bkBytes_0 (N:Nat) (out:List (UInt8)) (t8:List (Back)) (t9:Int) (t10:Int) (h0:0≤t10∧t10≤t9∧t9≤1000000) (h1:t9≤(t8.length:Int)) (h2:(out.length:Int)≤16110010 * t10∧BacksB t8∧t9≤(N:Int)∧N≤1100):Tt (α:=(List (UInt8) × Unit)) (lpF l_bkBytes_0.step (u_bkBytes_0 out t8 t9 t10) (out,(t8,(t9,(t10,()))))) fun y=>y.1.length≤16110010 * N:=by
 refine Tt.lp (fun x=>(0≤x.2.2.2.1∧x.2.2.2.1≤x.2.2.1∧x.2.2.1≤1000000)∧(x.2.2.1≤(x.2.1.length:Int))∧((x.1.length:Int)≤16110010 * x.2.2.2.1∧BacksB x.2.1∧x.2.2.1≤(N:Int)∧N≤1100)) (fun x=>(x.2.2.1 - x.2.2.2.1).toNat) (fun x h=>(st_bkBytes_0 N x.1 x.2.1 x.2.2.1 x.2.2.2.1 h.1 h.2.1 h.2.2).mono fun r hr=>?_) (by exact ⟨h0,h1,h2⟩) (by unfold u_bkBytes_0;grind)
 rcases r with r | r <;> exact hr
theorem t_bkBytes (a0:List (Back)) (h0:a0.length≤1100) (h1:BacksB a0):Tt (f_bkBytes a0) fun y=>y.1.1.length≤16110010 * a0.length:=by
 unfold f_bkBytes
 refine Tt.bnd (lt_bkBytes_0 (a0.length) _ _ _ _ (by grind) (by grind) (by grind)) fun (y0:(List (UInt8) × Unit)) hy0=>?_
 exact Tt.ret (by grind)
theorem st_helloPairs_0 (s:Scan) (out:List (Pair)) (h0:out.length+s.rest.length≤4000):Tt (s_helloPairs_0 s out) fun r=>match r with | .inl (s',out',_)=>((out'.length+s'.rest.length≤4000))∧s'.rest.length < s.rest.length | .inr y=>True:=by
 unfold s_helloPairs_0
 refine Tt.bnd (t_scText _ (by first | omega | grind | (have:=@List.length_pos_iff _ y1.1.1;grind))) fun y1 hy1=>?_
 refine Tt.bif (fun h=>?_) (fun h=>?_)
 exact Tt.ret (by first | omega | grind | (have:=@List.length_pos_iff _ y1.1.1;grind))
 refine Tt.bnd (t_scText _ (by first | omega | grind | (have:=@List.length_pos_iff _ y1.1.1;grind))) fun y2 hy2=>?_
 refine Tt.ok (by first | omega | grind | (have:=@List.length_pos_iff _ y1.1.1;grind)) ?_
 exact Tt.ret (by first | omega | grind | (have:=@List.length_pos_iff _ y1.1.1;grind))
theorem lt_helloPairs_0 (s:Scan) (out:List (Pair)) (h0:out.length+s.rest.length≤4000):Tt (α:=(List (Pair) × (Scan × Unit))) (lpF l_helloPairs_0.step (u_helloPairs_0 s out) (s,(out,()))) fun y=>True:=by
 refine Tt.lp (fun x=>(x.2.1.length+x.1.rest.length≤4000)) (fun x=>x.1.rest.length) (fun x h=>(st_helloPairs_0 x.1 x.2.1 h).mono fun r hr=>?_) (by exact h0) (by unfold u_helloPairs_0;first | omega | grind | (have:=@List.length_pos_iff _ y1.1.1;grind))
 rcases r with r | r <;> exact hr
theorem t_helloPairs (a0:Scan) (h0:a0.rest.length≤3990):Tt (f_helloPairs a0) fun y=>True:=by
 unfold f_helloPairs
 refine Tt.bnd (lt_helloPairs_0 _ _ (by grind)) fun (y0:(List (Pair) × (Scan × Unit))) hy0=>?_
 exact Tt.ret (by grind)
theorem t_helloParse (a0:List (UInt8)) (h0:a0.length≤3990):Tt (f_helloParse a0) fun y=>True:=by
 unfold f_helloParse
 refine Tt.bif (fun h=>?_) (fun h=>?_)
 exact Tt.ret (by grind)
 refine Tt.bnd (t_scNew _ (by grind)) fun y0 hy0=>?_
 refine Tt.bnd (t_scNum _ _ (by grind)) fun y1 hy1=>?_
 refine Tt.bif (fun h=>?_) (fun h=>?_)
 refine Tt.bnd (t_helloPairs _ (by grind)) fun y2 hy2=>?_
 refine Tt.bnd (t_scDone _) fun y3 hy3=>?_
 refine Tt.bif (fun h=>?_) (fun h=>?_)
 exact Tt.ret (by grind)
 exact Tt.ret (by grind)
 refine Tt.bif (fun h=>?_) (fun h=>?_)
 refine Tt.bnd (t_scNum _ _ (by grind)) fun y4 hy4=>?_
 refine Tt.bnd (t_scNum _ _ (by grind)) fun y5 hy5=>?_
 refine Tt.bnd (t_scDone _) fun y6 hy6=>?_
 refine Tt.bif (fun h=>?_) (fun h=>?_)
 exact Tt.ret (by grind)
 exact Tt.ret (by grind)
 refine Tt.bif (fun h=>?_) (fun h=>?_)
 refine Tt.bnd (t_scDone _) fun y7 hy7=>?_
 refine Tt.bif (fun h=>?_) (fun h=>?_)
 exact Tt.ret (by grind)
 exact Tt.ret (by grind)
 exact Tt.ret (by grind)
theorem t_clWrong (a0:Int):Tt (f_clWrong a0) fun y=>ItemB y.1.1∧y.1.1.kind=3:=by
 unfold f_clWrong
 refine Tt.bif (fun h=>?_) (fun h=>?_)
 exact Tt.ret (by first | omega | grind | (simp_all <;> omega) | (repeat' apply And.intro) <;> first | omega | grind | (simp_all <;> omega))
 exact Tt.ret (by first | omega | grind | (simp_all <;> omega) | (repeat' apply And.intro) <;> first | omega | grind | (simp_all <;> omega))
theorem t_clMessage (a0:Msg) (h0:a0.body.length≤3990):Tt (f_clMessage a0) fun y=>ItemB y.1.1∧(y.1.1.kind=2∨y.1.1.kind=3):=by
 unfold f_clMessage
 refine Tt.bnd (t_ftDecode _ (by grind)) fun y0 hy0=>?_
 refine Tt.bif (fun h=>?_) (fun h=>?_)
 refine Tt.bnd (t_clWrong _) fun y1 hy1=>?_
 exact Tt.ret (by grind)
 exact Tt.ret (by grind)
theorem t_clFirst (a0:Msg) (h0:a0.body.length≤3990):Tt (f_clFirst a0) fun y=>ItemB y.1.1∧(y.1.1.kind=1∨y.1.1.kind=3):=by
 unfold f_clFirst
 refine Tt.bnd (t_helloParse _ (by grind)) fun y0 hy0=>?_
 refine Tt.bif (fun h=>?_) (fun h=>?_)
 refine Tt.bnd (t_clWrong _) fun y1 hy1=>?_
 exact Tt.ret (by grind)
 exact Tt.ret (by grind)
theorem t_clItem (a0:Client) (a1:Msg) (a2:Bool) (a3:Int) (h0:a1.body.length≤3990):Tt (f_clItem a0 a1 a2 a3) fun y=>ItemB y.1.1∧y.2.1=a0∧(a2=false→a3=0→y.1.1.kind=0)∧(y.1.1.kind=1→a0.begun=false∧a2=true)∧(y.1.1.kind=2→a0.begun=true∧a2=true):=by
 unfold f_clItem
 refine Tt.bif (fun h=>?_) (fun h=>?_)
 refine Tt.bnd (t_clWrong _) fun y0 hy0=>?_
 exact Tt.ret (by grind)
 refine Tt.bif (fun h=>?_) (fun h=>?_)
 exact Tt.ret (by grind)
 refine Tt.bif (fun h=>?_) (fun h=>?_)
 refine Tt.bnd (t_clMessage _ (by grind)) fun y1 hy1=>?_
 exact Tt.ret (by grind)
 refine Tt.bnd (t_clFirst _ (by grind)) fun y2 hy2=>?_
 exact Tt.ret (by grind)
end Go.Proofs.YtjgeofdgdlmcoaaGreatDoor
namespace Go.Proofs.YtjgeofdgdlmcoaaGreatDoor
open Go Go.RK
open Go.RK.Uni (Ty El)
open Go.RK.Byt (bT)
theorem st_poRow_0 (out:List (Cell)) (t8:Int) (t9:Int) (h0:0≤t9∧t9≤t8∧t8≤1000000) (h1:t8≤(out.length:Int)) (h2:CellsB out∧out.length≤4000):Tt (s_poRow_0 out t8 t9) fun r=>match r with | .inl (out',t8',t9',_)=>((0≤t9'∧t9'≤t8'∧t8'≤1000000)∧(t8'≤(out'.length:Int))∧(CellsB out'∧out'.length≤4000))∧(t8' - t9').toNat < (t8 - t9).toNat | .inr y=>CellsB y.1∧y.1.length≤4000:=by
 unfold s_poRow_0
 try dsimp only [El_by,El_cell]
 refine Tt.bif (fun h=>?_) (fun h=>?_)
 refine Tt.ok (by grind) ?_
 refine Tt.ok (by grind) ?_
 refine Tt.bnd (t_clBy _ (by grind)) fun (y2:List (UInt8)) hy2=>?_
 refine Tt.ok (by grind) ?_
 refine Tt.ok (by grind) ?_
 refine Tt.ok (by grind) ?_
 exact Tt.ret (by grind)
 exact Tt.ret (by grind)
theorem lt_poRow_0 (out:List (Cell)) (t8:Int) (t9:Int) (h0:0≤t9∧t9≤t8∧t8≤1000000) (h1:t8≤(out.length:Int)) (h2:CellsB out∧out.length≤4000):Tt (α:=(List (Cell) × Unit)) (lpF l_poRow_0.step (u_poRow_0 out t8 t9) (out,(t8,(t9,())))) fun y=>CellsB y.1∧y.1.length≤4000:=by
 refine Tt.lp (fun x=>(0≤x.2.2.1∧x.2.2.1≤x.2.1∧x.2.1≤1000000)∧(x.2.1≤(x.1.length:Int))∧(CellsB x.1∧x.1.length≤4000)) (fun x=>(x.2.1 - x.2.2.1).toNat) (fun x h=>(st_poRow_0 x.1 x.2.1 x.2.2.1 h.1 h.2.1 h.2.2).mono fun r hr=>?_) (by exact ⟨h0,h1,h2⟩) (by unfold u_poRow_0;grind)
 rcases r with r | r <;> exact hr
theorem t_poRow (a0:List (Cell)) (h0:a0.length≤4000) (h1:CellsB a0):Tt (f_poRow a0) fun y=>CellsB y.1.1∧y.1.1.length≤4000:=by
 unfold f_poRow
 try dsimp only [El_cell]
 refine Tt.bnd (t_clCell _ (by grind)) fun (y0:List (Cell)) hy0=>?_
 refine Tt.bnd (lt_poRow_0 _ _ _ (by grind) (by grind) (by grind)) fun (y1:(List (Cell) × Unit)) hy1=>?_
 exact Tt.ret (by grind)
theorem st_poTable_0 (out:List (List (Cell))) (t8:Int) (t9:Int) (h0:0≤t9∧t9≤t8∧t8≤1000000) (h1:t8≤(out.length:Int)) (h2:RowsB out∧out.length≤1000):Tt (s_poTable_0 out t8 t9) fun r=>match r with | .inl (out',t8',t9',_)=>((0≤t9'∧t9'≤t8'∧t8'≤1000000)∧(t8'≤(out'.length:Int))∧(RowsB out'∧out'.length≤1000))∧(t8' - t9').toNat < (t8 - t9).toNat | .inr y=>RowsB y.1∧y.1.length≤1000:=by
 unfold s_poTable_0
 try dsimp only [El_cells]
 refine Tt.bif (fun h=>?_) (fun h=>?_)
 refine Tt.ok (by grind) ?_
 refine Tt.ok (by grind) ?_
 refine Tt.bnd (t_poRow _ (by grind) (by grind)) fun y2 hy2=>?_
 refine Tt.ok (by grind) ?_
 refine Tt.ok (by grind) ?_
 refine Tt.ok (by grind) ?_
 exact Tt.ret (by grind)
 exact Tt.ret (by grind)
theorem lt_poTable_0 (out:List (List (Cell))) (t8:Int) (t9:Int) (h0:0≤t9∧t9≤t8∧t8≤1000000) (h1:t8≤(out.length:Int)) (h2:RowsB out∧out.length≤1000):Tt (α:=(List (List (Cell)) × Unit)) (lpF l_poTable_0.step (u_poTable_0 out t8 t9) (out,(t8,(t9,())))) fun y=>RowsB y.1∧y.1.length≤1000:=by
 refine Tt.lp (fun x=>(0≤x.2.2.1∧x.2.2.1≤x.2.1∧x.2.1≤1000000)∧(x.2.1≤(x.1.length:Int))∧(RowsB x.1∧x.1.length≤1000)) (fun x=>(x.2.1 - x.2.2.1).toNat) (fun x h=>(st_poTable_0 x.1 x.2.1 x.2.2.1 h.1 h.2.1 h.2.2).mono fun r hr=>?_) (by exact ⟨h0,h1,h2⟩) (by unfold u_poTable_0;grind)
 rcases r with r | r <;> exact hr
theorem t_poTable (a0:List (List (Cell))) (h0:a0.length≤1000) (h1:RowsB a0):Tt (f_poTable a0) fun y=>RowsB y.1.1∧y.1.1.length≤1000:=by
 unfold f_poTable
 try dsimp only [El_cells]
 refine Tt.bnd (t_clCells _ (by grind)) fun (y0:List (List Cell)) hy0=>?_
 refine Tt.bnd (lt_poTable_0 _ _ _ (by grind) (by grind) (by grind)) fun (y1:(List (List (Cell)) × Unit)) hy1=>?_
 exact Tt.ret (by grind)
theorem t_porown (a0:Portal) (h0:PortalB a0):Tt (f_porown a0) fun y=>PortalB y.1.1:=by
 unfold f_porown
 try dsimp only [El_int]
 refine Tt.bnd (t_clInt _ (by grind)) fun (y0:List (Int)) hy0=>?_
 refine Tt.bnd (t_poRow _ (by grind) (by grind)) fun y1 hy1=>?_
 refine Tt.bnd (t_poTable _ (by grind) (by grind)) fun y2 hy2=>?_
 exact Tt.ret (by grind)
theorem t_poGet (a0:List ((List (UInt8) × Portal))) (a1:List (UInt8)) (h0:PortalsB a0):Tt (f_poGet a0 a1) fun y=>PortalB y.1.1∧PortalsB y.2.1:=by
 unfold f_poGet
 split
 rename_i hn
 exact Tt.ret (by grind)
 rename_i y0 hy0
 refine Tt.bnd (t_porown _ (by grind)) fun y1 hy1=>?_
 exact Tt.ret (by grind)
theorem t_poPut (a0:List ((List (UInt8) × Portal))) (a1:List (UInt8)) (a2:Portal) (h0:PortalsB a0) (h1:PortalB a2):Tt (f_poPut a0 a1 a2) fun y=>PortalsB y.2.1:=by
 unfold f_poPut
 split
 rename_i hn
 refine Tt.bnd (t_porown _ (by grind)) fun y2 hy2=>?_
 exact Tt.ret (by grind)
 rename_i y0 hy0
 refine Tt.bif (fun h=>?_) (fun h=>?_)
 exact Tt.ret (by grind)
 refine Tt.bnd (t_porown _ (by grind)) fun y1 hy1=>?_
 exact Tt.ret (by grind)
theorem t_poRan (a0:List ((List (UInt8) × Portal))) (a1:List (UInt8)) (a2:List (List (Cell))) (h0:PortalsB a0) (h1:a2.length≤1000) (h2:RowsB a2):Tt (f_poRan a0 a1 a2) fun y=>PortalsB y.2.1:=by
 unfold f_poRan
 split
 rename_i hn
 exact Tt.ret (by grind)
 rename_i y0 hy0
 refine Tt.bif (fun h=>?_) (fun h=>?_)
 exact Tt.ret (by grind)
 refine Tt.bnd (t_poTable _ (by grind) (by grind)) fun y1 hy1=>?_
 exact Tt.ret (by grind)
theorem t_poFetch (a0:List ((List (UInt8) × Portal))) (a1:List (UInt8)) (a2:Int) (h0:PortalsB a0):Tt (f_poFetch a0 a1 a2) fun y=>PortalsB y.2.1∧RowsB y.1.1∧y.1.1.length≤1000:=by
 unfold f_poFetch
 split
 rename_i hn
 exact Tt.ret (by grind)
 rename_i y0 hy0
 refine Tt.bif (fun h=>?_) (fun h=>?_)
 exact Tt.ret (by grind)
 refine Tt.bif (fun h=>?_) (fun h=>?_)
 exact Tt.ret (by grind)
 refine Tt.bif (fun h=>?_) (fun h=>?_)
 refine Tt.ok (by grind) ?_
 refine Tt.ok (by grind) ?_
 exact Tt.ret (by grind)
 refine Tt.ok (by grind) ?_
 refine Tt.ok (by grind) ?_
 exact Tt.ret (by grind)
theorem t_poDelete (a0:List ((List (UInt8) × Portal))) (a1:List (UInt8)) (h0:PortalsB a0):Tt (f_poDelete a0 a1) fun y=>PortalsB y.2.1:=by
 unfold f_poDelete
 split
 rename_i hn
 exact Tt.ret (by grind)
 rename_i y0 hy0
 exact Tt.ret (by grind)
theorem t_coColumn (a0:Int) (h0:0≤a0∧a0≤1000000):Tt (f_coColumn a0) fun y=>y.1.1.name.length≤4000:=by
 unfold f_coColumn
 try dsimp only [El_by]
 refine Tt.bnd (t_text _ (by grind)) fun (y0:List UInt8) hy0=>?_
 refine Tt.ok (by grind) ?_
 exact Tt.ret (by grind)
theorem t_coRow (a0:Int) (h0:0≤a0∧a0≤1000000):Tt (f_coRow a0) fun y=>y.1.1.length≤4000∧CellsB y.1.1:=by
 unfold f_coRow
 try dsimp only [El_by]
 refine Tt.bnd (t_text _ (by grind)) fun (y0:List UInt8) hy0=>?_
 refine Tt.ok (by grind) ?_
 exact Tt.ret (by grind)
theorem st_eachCol_0 (one:(Unit × Unit)) (out:List (Col)) (t8:Int) (t9:Int) (h0:0≤t9∧t9≤t8∧t8≤1000∧(out.length:Int)=t9∧ColsB out):Tt (s_eachCol_0 one out t8 t9) fun r=>match r with | .inl (one',out',t8',t9',_)=>((0≤t9'∧t9'≤t8'∧t8'≤1000∧(out'.length:Int)=t9'∧ColsB out'))∧(t8' - t9').toNat < (t8 - t9).toNat | .inr y=>y.1.length≤1000∧ColsB y.1:=by
 unfold s_eachCol_0
 refine Tt.bif (fun h=>?_) (fun h=>?_)
 refine Tt.ok (by grind) ?_
 refine Tt.bnd (t_coColumn _ (by grind)) fun y1 hy1=>?_
 refine Tt.ok (by grind) ?_
 refine Tt.ok (by grind) ?_
 exact Tt.ret (by grind)
 exact Tt.ret (by grind)
theorem lt_eachCol_0 (one:(Unit × Unit)) (out:List (Col)) (t8:Int) (t9:Int) (h0:0≤t9∧t9≤t8∧t8≤1000∧(out.length:Int)=t9∧ColsB out):Tt (α:=(List (Col) × Unit)) (lpF l_eachCol_0.step (u_eachCol_0 one out t8 t9) (one,(out,(t8,(t9,()))))) fun y=>y.1.length≤1000∧ColsB y.1:=by
 refine Tt.lp (fun x=>(0≤x.2.2.2.1∧x.2.2.2.1≤x.2.2.1∧x.2.2.1≤1000∧(x.2.1.length:Int)=x.2.2.2.1∧ColsB x.2.1)) (fun x=>(x.2.2.1 - x.2.2.2.1).toNat) (fun x h=>(st_eachCol_0 x.1 x.2.1 x.2.2.1 x.2.2.2.1 h).mono fun r hr=>?_) (by exact h0) (by unfold u_eachCol_0;grind)
 rcases r with r | r <;> exact hr
theorem t_eachCol (a0:Int) (a1:(Unit × Unit)):Tt (f_eachCol a0 a1) fun y=>y.1.1.length≤1000∧ColsB y.1.1:=by
 unfold f_eachCol
 refine Tt.bnd (lt_eachCol_0 _ _ _ _ (by grind)) fun (y0:(List (Col) × Unit)) hy0=>?_
 exact Tt.ret (by grind)
theorem st_eachRow_0 (one:(Unit × Unit)) (out:List (List (Cell))) (t8:Int) (t9:Int) (h0:0≤t9∧t9≤t8∧t8≤1000∧(out.length:Int)=t9∧RowsB out):Tt (s_eachRow_0 one out t8 t9) fun r=>match r with | .inl (one',out',t8',t9',_)=>((0≤t9'∧t9'≤t8'∧t8'≤1000∧(out'.length:Int)=t9'∧RowsB out'))∧(t8' - t9').toNat < (t8 - t9).toNat | .inr y=>y.1.length≤1000∧RowsB y.1:=by
 unfold s_eachRow_0
 refine Tt.bif (fun h=>?_) (fun h=>?_)
 refine Tt.ok (by grind) ?_
 refine Tt.bnd (t_coRow _ (by grind)) fun y1 hy1=>?_
 refine Tt.ok (by grind) ?_
 refine Tt.ok (by grind) ?_
 exact Tt.ret (by grind)
 exact Tt.ret (by grind)
theorem lt_eachRow_0 (one:(Unit × Unit)) (out:List (List (Cell))) (t8:Int) (t9:Int) (h0:0≤t9∧t9≤t8∧t8≤1000∧(out.length:Int)=t9∧RowsB out):Tt (α:=(List (List (Cell)) × Unit)) (lpF l_eachRow_0.step (u_eachRow_0 one out t8 t9) (one,(out,(t8,(t9,()))))) fun y=>y.1.length≤1000∧RowsB y.1:=by
 refine Tt.lp (fun x=>(0≤x.2.2.2.1∧x.2.2.2.1≤x.2.2.1∧x.2.2.1≤1000∧(x.2.1.length:Int)=x.2.2.2.1∧RowsB x.2.1)) (fun x=>(x.2.2.1 - x.2.2.2.1).toNat) (fun x h=>(st_eachRow_0 x.1 x.2.1 x.2.2.1 x.2.2.2.1 h).mono fun r hr=>?_) (by exact h0) (by unfold u_eachRow_0;grind)
 rcases r with r | r <;> exact hr
theorem t_eachRow (a0:Int) (a1:(Unit × Unit)):Tt (f_eachRow a0 a1) fun y=>y.1.1.length≤1000∧RowsB y.1.1:=by
 unfold f_eachRow
 refine Tt.bnd (lt_eachRow_0 _ _ _ _ (by grind)) fun (y0:(List (List (Cell)) × Unit)) hy0=>?_
 exact Tt.ret (by grind)
theorem t_coCols (a0:Int):Tt (f_coCols a0) fun y=>y.1.1.length≤1000∧ColsB y.1.1:=by
 unfold f_coCols
 refine Tt.bnd (t_eachCol _ _) fun y0 hy0=>?_
 exact Tt.ret (by grind)
theorem t_coDescribe (a0:Int):Tt (f_coDescribe a0) fun y=>BackB y.1.1:=by
 unfold f_coDescribe
 refine Tt.bnd (t_coCols _) fun y0 hy0=>?_
 exact Tt.ret (by grind)
theorem t_coRows (a0:Int):Tt (f_coRows a0) fun y=>y.1.1.length≤1000∧RowsB y.1.1:=by
 unfold f_coRows
 refine Tt.bnd (t_eachRow _ _) fun y0 hy0=>?_
 exact Tt.ret (by grind)
theorem t_coTag (a0:Int) (h0:0≤a0∧a0≤1000000):Tt (f_coTag a0) fun y=>y.1.1.length≤30:=by
 unfold f_coTag
 try dsimp only [El_by]
 refine Tt.bnd (t_text _ (by first | omega | grind | (simp_all <;> omega) | (repeat' apply And.intro) <;> first | omega | grind | (simp_all <;> omega))) fun (y0:List UInt8) hy0=>?_
 refine Tt.ok (by first | omega | grind | (simp_all <;> omega) | (repeat' apply And.intro) <;> first | omega | grind | (simp_all <;> omega)) ?_
 exact Tt.ret (by first | omega | grind | (simp_all <;> omega) | (repeat' apply And.intro) <;> first | omega | grind | (simp_all <;> omega))
theorem st_enOwn_0 (out:List (Cell)) (t8:Int) (t9:Int) (h0:0≤t9∧t9≤t8∧t8≤1000000) (h1:t8≤(out.length:Int)) (h2:CellsB out∧out.length≤4000):Tt (s_enOwn_0 out t8 t9) fun r=>match r with | .inl (out',t8',t9',_)=>((0≤t9'∧t9'≤t8'∧t8'≤1000000)∧(t8'≤(out'.length:Int))∧(CellsB out'∧out'.length≤4000))∧(t8' - t9').toNat < (t8 - t9).toNat | .inr y=>CellsB y.1∧y.1.length≤4000:=by
 unfold s_enOwn_0
 try dsimp only [El_by,El_cell]
 refine Tt.bif (fun h=>?_) (fun h=>?_)
 refine Tt.ok (by grind) ?_
 refine Tt.ok (by grind) ?_
 refine Tt.bnd (t_clBy _ (by grind)) fun (y2:List (UInt8)) hy2=>?_
 refine Tt.ok (by grind) ?_
 refine Tt.ok (by grind) ?_
 refine Tt.ok (by grind) ?_
 exact Tt.ret (by grind)
 exact Tt.ret (by grind)
theorem lt_enOwn_0 (out:List (Cell)) (t8:Int) (t9:Int) (h0:0≤t9∧t9≤t8∧t8≤1000000) (h1:t8≤(out.length:Int)) (h2:CellsB out∧out.length≤4000):Tt (α:=(List (Cell) × Unit)) (lpF l_enOwn_0.step (u_enOwn_0 out t8 t9) (out,(t8,(t9,())))) fun y=>CellsB y.1∧y.1.length≤4000:=by
 refine Tt.lp (fun x=>(0≤x.2.2.1∧x.2.2.1≤x.2.1∧x.2.1≤1000000)∧(x.2.1≤(x.1.length:Int))∧(CellsB x.1∧x.1.length≤4000)) (fun x=>(x.2.1 - x.2.2.1).toNat) (fun x h=>(st_enOwn_0 x.1 x.2.1 x.2.2.1 h.1 h.2.1 h.2.2).mono fun r hr=>?_) (by exact ⟨h0,h1,h2⟩) (by unfold u_enOwn_0;grind)
 rcases r with r | r <;> exact hr
theorem t_enOwn (a0:List (Cell)) (h0:a0.length≤4000) (h1:CellsB a0):Tt (f_enOwn a0) fun y=>CellsB y.1.1∧y.1.1.length≤4000:=by
 unfold f_enOwn
 try dsimp only [El_cell]
 refine Tt.bnd (t_clCell _ (by grind)) fun (y0:List (Cell)) hy0=>?_
 refine Tt.bnd (lt_enOwn_0 _ _ _ (by grind) (by grind) (by grind)) fun (y1:(List (Cell) × Unit)) hy1=>?_
 exact Tt.ret (by grind)
theorem t_enNext (a0:Engine) (h0:0≤a0.count∧a0.count≤1000000):Tt (f_enNext a0) fun y=>y.1.1=a0.count+1∧y.2.1.count=a0.count+1:=by
 unfold f_enNext
 refine Tt.ok (by grind) ?_
 exact Tt.ret (by grind)
theorem t_sqlRows (a0:Verb):Tt (f_sqlRows a0) fun y=>True:=by
 unfold f_sqlRows
 refine Tt.bnd (t_one _ _ (by grind)) fun y0 hy0=>?_
 exact Tt.ret (by grind)
theorem t_sqlExit (a0:Verb):Tt (f_sqlExit a0) fun y=>True:=by
 unfold f_sqlExit
 refine Tt.bnd (t_one _ _ (by grind)) fun y0 hy0=>?_
 exact Tt.ret (by grind)
theorem t_sqlColumns (a0:Verb) (a1:Int):Tt (f_sqlColumns a0 a1) fun y=>True:=by
 unfold f_sqlColumns
 refine Tt.bif (fun h=>?_) (fun h=>?_)
 exact Tt.ret (by grind)
 refine Tt.bnd (t_sqlRows _) fun y0 hy0=>?_
 refine Tt.bif (fun h=>?_) (fun h=>?_)
 exact Tt.ret (by grind)
 exact Tt.ret (by grind)
theorem t_enRows (a0:Engine) (a1:Verb) (a2:List (Cell)) (h0:0≤a0.count∧a0.count≤1000000) (h1:a2.length≤4000) (h2:CellsB a2):Tt (f_enRows a0 a1 a2) fun y=>y.1.1.length≤1000∧RowsB y.1.1∧0≤y.2.1.count∧y.2.1.count≤a0.count+1:=by
 unfold f_enRows
 try dsimp only [El_by]
 refine Tt.bif (fun h=>?_) (fun h=>?_)
 refine Tt.bnd (t_coRows _) fun y0 hy0=>?_
 exact Tt.ret (by grind)
 refine Tt.bif (fun h=>?_) (fun h=>?_)
 refine Tt.bnd (t_enOwn _ (by grind) (by grind)) fun y1 hy1=>?_
 exact Tt.ret (by grind)
 refine Tt.bif (fun h=>?_) (fun h=>?_)
 refine Tt.bnd (t_enNext _ (by grind)) fun y2 hy2=>?_
 refine Tt.bnd (t_text _ (by grind)) fun (y3:List UInt8) hy3=>?_
 refine Tt.ok (by grind) ?_
 exact Tt.ret (by grind)
 exact Tt.ret (by grind)
theorem t_quote (a0:List (UInt8)) (h0:a0.length≤1000000):Tt (f_quote a0) fun y=>y.1.1.length≤a0.length+2:=by
 unfold f_quote
 refine Tt.ok (by grind) ?_
 refine Tt.ok (by grind) ?_
 exact Tt.ret (by grind)
end Go.Proofs.YtjgeofdgdlmcoaaGreatDoor
namespace Go.Proofs.YtjgeofdgdlmcoaaGreatDoor
open Go Go.RK
open Go.RK.Uni (Ty El)
open Go.RK.Byt (bT)
noncomputable def s_trimL_0 (s:Bs) (c:UInt8):Option ((Bs × (UInt8 × Unit)) ⊕ (Bs × Unit)) :=
 bif (ltI (0:Int) (Int.ofNat (List.length s))) then
  bif (inB (0:Int) (List.length s)) then
   bif decide ((Int.ofNat (UInt8.toNat (List.getD s (Int.toNat (0:Int)) (0:UInt8))))=(Int.ofNat (UInt8.toNat c))) then
    bif ((leI (0:Int) (1:Int)) && (true && ((Nat.ble (Int.toNat (1:Int)) (List.length s)) && (Nat.ble (List.length s) (List.length s))))) then
     some (.inl ((List.take ((List.length s) - (Int.toNat (1:Int))) (List.drop (Int.toNat (1:Int)) s)),(c,())))
    else none
   else some (.inr (s,()))
  else none
 else some (.inr (s,()))
noncomputable def l_trimL_0:Lp Tryz.prog:=mkLp (P:=Tryz.prog) [0,1] [9,5] 0 [] (tC tStr (tC tByte tNil)) [⟨.exit 0,[0],[9],0,(tC tStr tNil)⟩] (fun x=>s_trimL_0 x.1 x.2.1)
noncomputable def u_trimL_0 (s:Bs) (c:UInt8):Nat:=Int.toNat ((Int.ofNat (List.length s)) - (0:Int))+1
noncomputable def k_trimL_0:Lk Tryz.prog 241 0:=mkLk hm0 en0 l_trimL_0 0 (fun x=>u_trimL_0 x.1 x.2.1) (nat0_ok _) [] (by kernel_rfl) fun x=>by kernel_rfl
noncomputable def f_trimL (a0:Bs) (a1:UInt8):Option ((Bs × Unit) × Unit) :=
 bnd (lpF l_trimL_0.step (u_trimL_0 a0 a1) (a0,(a1,()))) fun y0 =>
 some ((y0.1,()),())
noncomputable def c_trimL:Go.RK.Fn Tryz.prog 241:=mkFn hm0 en0 (by kernel_rfl) [9,5] [9] (tC (qS (nu 0)) (tC (qY (nu 0)) tNil)) (tC (qS (nu 0)) tNil) tNil 0 0 (nat0_ok _) [⟨_,k_trimL_0⟩] (by kernel_rfl) (fun x=>f_trimL x.1 x.2.1) fun x=>by kernel_rfl
noncomputable def s_trimR_0 (s:Bs) (c:UInt8):Option ((Bs × (UInt8 × Unit)) ⊕ (Bs × Unit)) :=
 bif (ltI (0:Int) (Int.ofNat (List.length s))) then
  bif (inR ((Int.ofNat (List.length s)) - (1:Int))) then
   bif (inB ((Int.ofNat (List.length s)) - (1:Int)) (List.length s)) then
    bif decide ((Int.ofNat (UInt8.toNat (List.getD s (Int.toNat ((Int.ofNat (List.length s)) - (1:Int))) (0:UInt8))))=(Int.ofNat (UInt8.toNat c))) then
     bif (inR ((Int.ofNat (List.length s)) - (1:Int))) then
      bif (true && ((leI (0:Int) ((Int.ofNat (List.length s)) - (1:Int))) && ((Nat.ble (0:Nat) (Int.toNat ((Int.ofNat (List.length s)) - (1:Int)))) && (Nat.ble (Int.toNat ((Int.ofNat (List.length s)) - (1:Int))) (List.length s))))) then
       some (.inl ((List.take ((Int.toNat ((Int.ofNat (List.length s)) - (1:Int))) - (0:Nat)) (List.drop (0:Nat) s)),(c,())))
      else none
     else none
    else some (.inr (s,()))
   else none
  else none
 else some (.inr (s,()))
noncomputable def l_trimR_0:Lp Tryz.prog:=mkLp (P:=Tryz.prog) [0,1] [9,5] 0 [] (tC tStr (tC tByte tNil)) [⟨.exit 0,[0],[9],0,(tC tStr tNil)⟩] (fun x=>s_trimR_0 x.1 x.2.1)
noncomputable def u_trimR_0 (s:Bs) (c:UInt8):Nat:=Int.toNat ((Int.ofNat (List.length s)) - (0:Int))+1
noncomputable def k_trimR_0:Lk Tryz.prog 242 0:=mkLk hm0 en0 l_trimR_0 0 (fun x=>u_trimR_0 x.1 x.2.1) (nat0_ok _) [] (by kernel_rfl) fun x=>by kernel_rfl
noncomputable def f_trimR (a0:Bs) (a1:UInt8):Option ((Bs × Unit) × Unit) :=
 bnd (lpF l_trimR_0.step (u_trimR_0 a0 a1) (a0,(a1,()))) fun y0 =>
 some ((y0.1,()),())
noncomputable def c_trimR:Go.RK.Fn Tryz.prog 242:=mkFn hm0 en0 (by kernel_rfl) [9,5] [9] (tC (qS (nu 0)) (tC (qY (nu 0)) tNil)) (tC (qS (nu 0)) tNil) tNil 0 0 (nat0_ok _) [⟨_,k_trimR_0⟩] (by kernel_rfl) (fun x=>f_trimR x.1 x.2.1) fun x=>by kernel_rfl
noncomputable def f_sqlParse (a0:Bs):Option ((Verb × Unit) × Unit) :=
 bif decide (a0=([]:Bs)) then
  bnd (f_word a0) fun y0 =>
  bif y0.1.2.1 then
   some (((Verb.mk y0.1.1 (0:Int) ([]:Bs)),()),())
  else bif decide ([(32:UInt8)]=a0) then
   bif ((leI (0:Int) ((0:Int)+(Int.ofNat (List.length [(32:UInt8)])))) && (true && ((Nat.ble (Int.toNat ((0:Int)+(Int.ofNat (List.length [(32:UInt8)])))) (List.length a0)) && (Nat.ble (List.length a0) (List.length a0))))) then
    some (((Verb.mk (0:Int) (0:Int) ([]:Bs)),()),())
   else none
  else bnd (f_ixS a0 (List.getD [(32:UInt8)] (Int.toNat (0:Int)) (0:UInt8))) fun y1 =>
  bif (leI (0:Int) y1) then
   bif (true && ((leI (0:Int) y1) && ((Nat.ble (0:Nat) (Int.toNat y1)) && (Nat.ble (Int.toNat y1) (List.length a0))))) then
    bif (inR (y1+(Int.ofNat (List.length [(32:UInt8)])))) then
     bif ((leI (0:Int) (y1+(Int.ofNat (List.length [(32:UInt8)])))) && (true && ((Nat.ble (Int.toNat (y1+(Int.ofNat (List.length [(32:UInt8)])))) (List.length a0)) && (Nat.ble (List.length a0) (List.length a0))))) then
      bnd (f_sqlPair (List.take ((Int.toNat y1) - (0:Nat)) (List.drop (0:Nat) a0)) (List.take ((List.length a0) - (Int.toNat (y1+(Int.ofNat (List.length [(32:UInt8)]))))) (List.drop (Int.toNat (y1+(Int.ofNat (List.length [(32:UInt8)])))) a0))) fun y2 =>
      some ((y2.1.1,()),())
     else none
    else none
   else none
  else some (((Verb.mk (0:Int) (0:Int) ([]:Bs)),()),())
 else bnd (f_trimR a0 (List.getD [(32:UInt8)] (Int.toNat (0:Int)) (0:UInt8))) fun y3 =>
 bnd (f_trimL y3.1.1 (List.getD [(32:UInt8)] (Int.toNat (0:Int)) (0:UInt8))) fun y4 =>
 bnd (f_word y4.1.1) fun y5 =>
 bif y5.1.2.1 then
  some (((Verb.mk y5.1.1 (0:Int) ([]:Bs)),()),())
 else bif decide ([(32:UInt8)]=y4.1.1) then
  bif ((leI (0:Int) ((0:Int)+(Int.ofNat (List.length [(32:UInt8)])))) && (true && ((Nat.ble (Int.toNat ((0:Int)+(Int.ofNat (List.length [(32:UInt8)])))) (List.length y4.1.1)) && (Nat.ble (List.length y4.1.1) (List.length y4.1.1))))) then
   some (((Verb.mk (0:Int) (0:Int) ([]:Bs)),()),())
  else none
 else bnd (f_ixS y4.1.1 (List.getD [(32:UInt8)] (Int.toNat (0:Int)) (0:UInt8))) fun y6 =>
 bif (leI (0:Int) y6) then
  bif (true && ((leI (0:Int) y6) && ((Nat.ble (0:Nat) (Int.toNat y6)) && (Nat.ble (Int.toNat y6) (List.length y4.1.1))))) then
   bif (inR (y6+(Int.ofNat (List.length [(32:UInt8)])))) then
    bif ((leI (0:Int) (y6+(Int.ofNat (List.length [(32:UInt8)])))) && (true && ((Nat.ble (Int.toNat (y6+(Int.ofNat (List.length [(32:UInt8)])))) (List.length y4.1.1)) && (Nat.ble (List.length y4.1.1) (List.length y4.1.1))))) then
     bnd (f_sqlPair (List.take ((Int.toNat y6) - (0:Nat)) (List.drop (0:Nat) y4.1.1)) (List.take ((List.length y4.1.1) - (Int.toNat (y6+(Int.ofNat (List.length [(32:UInt8)]))))) (List.drop (Int.toNat (y6+(Int.ofNat (List.length [(32:UInt8)])))) y4.1.1))) fun y7 =>
     some ((y7.1.1,()),())
    else none
   else none
  else none
 else some (((Verb.mk (0:Int) (0:Int) ([]:Bs)),()),())
noncomputable def c_sqlParse:Go.RK.Fn Tryz.prog 144:=mkFn hm0 en0 (by kernel_rfl) [9] [223] (tC (qS (nu 0)) tNil) (tC (qVe (nu 0)) tNil) tNil 0 0 (natX_ok c_word (natX_ok c_sqlPair (natX_ok c_ixS (natX_ok c_trimL (natX_ok c_trimR (natX_ok c_stIndexByte (nat0_ok _))))))) [] (by kernel_rfl) (fun x=>f_sqlParse x.1) fun x=>by kernel_rfl
noncomputable def f_tExists (a0:Bs):Option ((Bs × Unit) × Unit) :=
 bnd (f_says [(112:UInt8),(114:UInt8),(101:UInt8),(112:UInt8),(97:UInt8),(114:UInt8),(101:UInt8),(100:UInt8),(32:UInt8),(115:UInt8),(116:UInt8),(97:UInt8),(116:UInt8),(101:UInt8),(109:UInt8),(101:UInt8),(110:UInt8),(116:UInt8)] a0 [(97:UInt8),(108:UInt8),(114:UInt8),(101:UInt8),(97:UInt8),(100:UInt8),(121:UInt8),(32:UInt8),(101:UInt8),(120:UInt8),(105:UInt8),(115:UInt8),(116:UInt8),(115:UInt8)]) fun y0 =>
 some ((y0,()),())
noncomputable def c_tExists:Go.RK.Fn Tryz.prog 135:=mkFn hm0 en0 (by kernel_rfl) [9] [9] (tC (qS (nu 0)) tNil) (tC (qS (nu 0)) tNil) tNil 0 0 (natX_ok c_says (nat0_ok _)) [] (by kernel_rfl) (fun x=>f_tExists x.1) fun x=>by kernel_rfl
noncomputable def f_tMissing (a0:Bs):Option ((Bs × Unit) × Unit) :=
 bif decide (a0=([]:Bs)) then
  some (([(117:UInt8),(110:UInt8),(110:UInt8),(97:UInt8),(109:UInt8),(101:UInt8),(100:UInt8),(32:UInt8),(112:UInt8),(114:UInt8),(101:UInt8),(112:UInt8),(97:UInt8),(114:UInt8),(101:UInt8),(100:UInt8),(32:UInt8),(115:UInt8),(116:UInt8),(97:UInt8),(116:UInt8),(101:UInt8),(109:UInt8),(101:UInt8),(110:UInt8),(116:UInt8),(32:UInt8),(100:UInt8),(111:UInt8),(101:UInt8),(115:UInt8),(32:UInt8),(110:UInt8),(111:UInt8),(116:UInt8),(32:UInt8),(101:UInt8),(120:UInt8),(105:UInt8),(115:UInt8),(116:UInt8)],()),())
 else bnd (f_says [(112:UInt8),(114:UInt8),(101:UInt8),(112:UInt8),(97:UInt8),(114:UInt8),(101:UInt8),(100:UInt8),(32:UInt8),(115:UInt8),(116:UInt8),(97:UInt8),(116:UInt8),(101:UInt8),(109:UInt8),(101:UInt8),(110:UInt8),(116:UInt8)] a0 [(100:UInt8),(111:UInt8),(101:UInt8),(115:UInt8),(32:UInt8),(110:UInt8),(111:UInt8),(116:UInt8),(32:UInt8),(101:UInt8),(120:UInt8),(105:UInt8),(115:UInt8),(116:UInt8)]) fun y0 =>
 some ((y0,()),())
noncomputable def c_tMissing:Go.RK.Fn Tryz.prog 187:=mkFn hm0 en0 (by kernel_rfl) [9] [9] (tC (qS (nu 0)) tNil) (tC (qS (nu 0)) tNil) tNil 0 0 (natX_ok c_says (nat0_ok _)) [] (by kernel_rfl) (fun x=>f_tMissing x.1) fun x=>by kernel_rfl
noncomputable def f_tNeeds (a0:Bs):Option ((Bs × Unit) × Unit) :=
 bnd (f_quote a0) fun y0 =>
 bif (Nat.ble ((List.length [(44:UInt8),(32:UInt8),(98:UInt8),(117:UInt8),(116:UInt8),(32:UInt8),(112:UInt8),(114:UInt8),(101:UInt8),(112:UInt8),(97:UInt8),(114:UInt8),(101:UInt8),(100:UInt8),(32:UInt8),(115:UInt8),(116:UInt8),(97:UInt8),(116:UInt8),(101:UInt8),(109:UInt8),(101:UInt8),(110:UInt8),(116:UInt8),(32:UInt8)])+(List.length y0.1.1)) (9223372036854775807:Nat)) then
  bif (Nat.ble ((List.length ([(44:UInt8),(32:UInt8),(98:UInt8),(117:UInt8),(116:UInt8),(32:UInt8),(112:UInt8),(114:UInt8),(101:UInt8),(112:UInt8),(97:UInt8),(114:UInt8),(101:UInt8),(100:UInt8),(32:UInt8),(115:UInt8),(116:UInt8),(97:UInt8),(116:UInt8),(101:UInt8),(109:UInt8),(101:UInt8),(110:UInt8),(116:UInt8),(32:UInt8)]++y0.1.1))+(List.length [(32:UInt8),(114:UInt8),(101:UInt8),(113:UInt8),(117:UInt8),(105:UInt8),(114:UInt8),(101:UInt8),(115:UInt8),(32:UInt8)])) (9223372036854775807:Nat)) then
   some (((([(44:UInt8),(32:UInt8),(98:UInt8),(117:UInt8),(116:UInt8),(32:UInt8),(112:UInt8),(114:UInt8),(101:UInt8),(112:UInt8),(97:UInt8),(114:UInt8),(101:UInt8),(100:UInt8),(32:UInt8),(115:UInt8),(116:UInt8),(97:UInt8),(116:UInt8),(101:UInt8),(109:UInt8),(101:UInt8),(110:UInt8),(116:UInt8),(32:UInt8)]++y0.1.1)++[(32:UInt8),(114:UInt8),(101:UInt8),(113:UInt8),(117:UInt8),(105:UInt8),(114:UInt8),(101:UInt8),(115:UInt8),(32:UInt8)]),()),())
  else none
 else none
noncomputable def c_tNeeds:Go.RK.Fn Tryz.prog 190:=mkFn hm0 en0 (by kernel_rfl) [9] [9] (tC (qS (nu 0)) tNil) (tC (qS (nu 0)) tNil) tNil 0 0 (natX_ok c_quote (nat0_ok _)) [] (by kernel_rfl) (fun x=>f_tNeeds x.1) fun x=>by kernel_rfl
noncomputable def f_tArity (a0:Int) (a1:Bs) (a2:Int):Option ((Bs × Unit) × Unit) :=
 bnd (f_text a0) fun y0 =>
 bif (Nat.ble ((List.length [(98:UInt8),(105:UInt8),(110:UInt8),(100:UInt8),(32:UInt8),(109:UInt8),(101:UInt8),(115:UInt8),(115:UInt8),(97:UInt8),(103:UInt8),(101:UInt8),(32:UInt8),(115:UInt8),(117:UInt8),(112:UInt8),(112:UInt8),(108:UInt8),(105:UInt8),(101:UInt8),(115:UInt8),(32:UInt8)])+(List.length y0)) (9223372036854775807:Nat)) then
  bif (Nat.ble ((List.length ([(98:UInt8),(105:UInt8),(110:UInt8),(100:UInt8),(32:UInt8),(109:UInt8),(101:UInt8),(115:UInt8),(115:UInt8),(97:UInt8),(103:UInt8),(101:UInt8),(32:UInt8),(115:UInt8),(117:UInt8),(112:UInt8),(112:UInt8),(108:UInt8),(105:UInt8),(101:UInt8),(115:UInt8),(32:UInt8)]++y0))+(List.length [(32:UInt8),(112:UInt8),(97:UInt8),(114:UInt8),(97:UInt8),(109:UInt8),(101:UInt8),(116:UInt8),(101:UInt8),(114:UInt8),(115:UInt8)])) (9223372036854775807:Nat)) then
   bnd (f_tNeeds a1) fun y1 =>
   bif (Nat.ble ((List.length (([(98:UInt8),(105:UInt8),(110:UInt8),(100:UInt8),(32:UInt8),(109:UInt8),(101:UInt8),(115:UInt8),(115:UInt8),(97:UInt8),(103:UInt8),(101:UInt8),(32:UInt8),(115:UInt8),(117:UInt8),(112:UInt8),(112:UInt8),(108:UInt8),(105:UInt8),(101:UInt8),(115:UInt8),(32:UInt8)]++y0)++[(32:UInt8),(112:UInt8),(97:UInt8),(114:UInt8),(97:UInt8),(109:UInt8),(101:UInt8),(116:UInt8),(101:UInt8),(114:UInt8),(115:UInt8)]))+(List.length y1.1.1)) (9223372036854775807:Nat)) then
    bnd (f_text a2) fun y2 =>
    bif (Nat.ble ((List.length ((([(98:UInt8),(105:UInt8),(110:UInt8),(100:UInt8),(32:UInt8),(109:UInt8),(101:UInt8),(115:UInt8),(115:UInt8),(97:UInt8),(103:UInt8),(101:UInt8),(32:UInt8),(115:UInt8),(117:UInt8),(112:UInt8),(112:UInt8),(108:UInt8),(105:UInt8),(101:UInt8),(115:UInt8),(32:UInt8)]++y0)++[(32:UInt8),(112:UInt8),(97:UInt8),(114:UInt8),(97:UInt8),(109:UInt8),(101:UInt8),(116:UInt8),(101:UInt8),(114:UInt8),(115:UInt8)])++y1.1.1))+(List.length y2)) (9223372036854775807:Nat)) then
     some (((((([(98:UInt8),(105:UInt8),(110:UInt8),(100:UInt8),(32:UInt8),(109:UInt8),(101:UInt8),(115:UInt8),(115:UInt8),(97:UInt8),(103:UInt8),(101:UInt8),(32:UInt8),(115:UInt8),(117:UInt8),(112:UInt8),(112:UInt8),(108:UInt8),(105:UInt8),(101:UInt8),(115:UInt8),(32:UInt8)]++y0)++[(32:UInt8),(112:UInt8),(97:UInt8),(114:UInt8),(97:UInt8),(109:UInt8),(101:UInt8),(116:UInt8),(101:UInt8),(114:UInt8),(115:UInt8)])++y1.1.1)++y2),()),())
    else none
   else none
  else none
 else none
noncomputable def c_tArity:Go.RK.Fn Tryz.prog 139:=mkFn hm0 en0 (by kernel_rfl) [3,9,3] [9] (tC (qI (nu 0)) (tC (qS (nu 0)) (tC (qI (nu 0)) tNil))) (tC (qS (nu 0)) tNil) tNil 0 0 (natX_ok c_text (natX_ok c_tNeeds (nat0_ok _))) [] (by kernel_rfl) (fun x=>f_tArity x.1 x.2.1 x.2.2.1) fun x=>by kernel_rfl
noncomputable def f_tCursor (a0:Bs):Option ((Bs × Unit) × Unit) :=
 bnd (f_says [(99:UInt8),(117:UInt8),(114:UInt8),(115:UInt8),(111:UInt8),(114:UInt8)] a0 [(97:UInt8),(108:UInt8),(114:UInt8),(101:UInt8),(97:UInt8),(100:UInt8),(121:UInt8),(32:UInt8),(101:UInt8),(120:UInt8),(105:UInt8),(115:UInt8),(116:UInt8),(115:UInt8)]) fun y0 =>
 some ((y0,()),())
noncomputable def c_tCursor:Go.RK.Fn Tryz.prog 141:=mkFn hm0 en0 (by kernel_rfl) [9] [9] (tC (qS (nu 0)) tNil) (tC (qS (nu 0)) tNil) tNil 0 0 (natX_ok c_says (nat0_ok _)) [] (by kernel_rfl) (fun x=>f_tCursor x.1) fun x=>by kernel_rfl
noncomputable def f_tPortal (a0:Bs):Option ((Bs × Unit) × Unit) :=
 bnd (f_says [(112:UInt8),(111:UInt8),(114:UInt8),(116:UInt8),(97:UInt8),(108:UInt8)] a0 [(100:UInt8),(111:UInt8),(101:UInt8),(115:UInt8),(32:UInt8),(110:UInt8),(111:UInt8),(116:UInt8),(32:UInt8),(101:UInt8),(120:UInt8),(105:UInt8),(115:UInt8),(116:UInt8)]) fun y0 =>
 some ((y0,()),())
noncomputable def c_tPortal:Go.RK.Fn Tryz.prog 193:=mkFn hm0 en0 (by kernel_rfl) [9] [9] (tC (qS (nu 0)) tNil) (tC (qS (nu 0)) tNil) tNil 0 0 (natX_ok c_says (nat0_ok _)) [] (by kernel_rfl) (fun x=>f_tPortal x.1) fun x=>by kernel_rfl
noncomputable def f_enAborted  : Option ((Bs × Unit) × Unit) :=
 some ((([(99:UInt8),(117:UInt8),(114:UInt8),(114:UInt8),(101:UInt8),(110:UInt8),(116:UInt8),(32:UInt8),(116:UInt8),(114:UInt8),(97:UInt8),(110:UInt8),(115:UInt8),(97:UInt8),(99:UInt8),(116:UInt8),(105:UInt8),(111:UInt8),(110:UInt8),(32:UInt8),(105:UInt8),(115:UInt8),(32:UInt8),(97:UInt8),(98:UInt8),(111:UInt8),(114:UInt8),(116:UInt8),(101:UInt8),(100:UInt8),(44:UInt8),(32:UInt8),(99:UInt8),(111:UInt8),(109:UInt8),(109:UInt8),(97:UInt8),(110:UInt8),(100:UInt8)]++[(115:UInt8),(32:UInt8),(105:UInt8),(103:UInt8),(110:UInt8),(111:UInt8),(114:UInt8),(101:UInt8),(100:UInt8),(32:UInt8),(117:UInt8),(110:UInt8),(116:UInt8),(105:UInt8),(108:UInt8),(32:UInt8),(101:UInt8),(110:UInt8),(100:UInt8),(32:UInt8),(111:UInt8),(102:UInt8),(32:UInt8),(116:UInt8),(114:UInt8),(97:UInt8),(110:UInt8),(115:UInt8),(97:UInt8),(99:UInt8),(116:UInt8),(105:UInt8),(111:UInt8),(110:UInt8),(32:UInt8),(98:UInt8),(108:UInt8),(111:UInt8),(99:UInt8),(107:UInt8)]),()),())
noncomputable def c_enAborted:Go.RK.Fn Tryz.prog 236:=mkFn hm0 en0 (by kernel_rfl) [] [9] tNil (tC (qS (nu 0)) tNil) tNil 0 0 (nat0_ok _) [] (by kernel_rfl) (fun x=>f_enAborted ) fun x=>by kernel_rfl
noncomputable def f_enVerdict (a0:Engine) (a1:Bs) (a2:UInt8):Option ((Bs × (Bs × (Bool × Unit))) × (Engine × Unit)) :=
 bnd (f_sqlParse a1) fun y0 =>
 bif decide (y0.1.1.kind=(0:Int)) then
  some (([(52:UInt8),(50:UInt8),(54:UInt8),(48:UInt8),(49:UInt8)],([(115:UInt8),(121:UInt8),(110:UInt8),(116:UInt8),(97:UInt8),(120:UInt8),(32:UInt8),(101:UInt8),(114:UInt8),(114:UInt8),(111:UInt8),(114:UInt8)],(true,()))),(a0,()))
 else bif decide ((Int.ofNat (UInt8.toNat a2))=(69:Int)) then
  bnd (f_sqlExit y0.1.1) fun y1 =>
  bif (!y1.1.1) then
   some (([(50:UInt8),(53:UInt8),(80:UInt8),(48:UInt8),(50:UInt8)],(([(99:UInt8),(117:UInt8),(114:UInt8),(114:UInt8),(101:UInt8),(110:UInt8),(116:UInt8),(32:UInt8),(116:UInt8),(114:UInt8),(97:UInt8),(110:UInt8),(115:UInt8),(97:UInt8),(99:UInt8),(116:UInt8),(105:UInt8),(111:UInt8),(110:UInt8),(32:UInt8),(105:UInt8),(115:UInt8),(32:UInt8),(97:UInt8),(98:UInt8),(111:UInt8),(114:UInt8),(116:UInt8),(101:UInt8),(100:UInt8),(44:UInt8),(32:UInt8),(99:UInt8),(111:UInt8),(109:UInt8),(109:UInt8),(97:UInt8),(110:UInt8),(100:UInt8)]++[(115:UInt8),(32:UInt8),(105:UInt8),(103:UInt8),(110:UInt8),(111:UInt8),(114:UInt8),(101:UInt8),(100:UInt8),(32:UInt8),(117:UInt8),(110:UInt8),(116:UInt8),(105:UInt8),(108:UInt8),(32:UInt8),(101:UInt8),(110:UInt8),(100:UInt8),(32:UInt8),(111:UInt8),(102:UInt8),(32:UInt8),(116:UInt8),(114:UInt8),(97:UInt8),(110:UInt8),(115:UInt8),(97:UInt8),(99:UInt8),(116:UInt8),(105:UInt8),(111:UInt8),(110:UInt8),(32:UInt8),(98:UInt8),(108:UInt8),(111:UInt8),(99:UInt8),(107:UInt8)]),(true,()))),(a0,()))
  else bnd (f_sqlExit y0.1.1) fun y2 =>
  bif y2.1.1 then
   some ((([]:Bs),(([]:Bs),(false,()))),(a0,()))
  else bif decide (y0.1.1.kind=(1:Int)) then
   some ((([]:Bs),(([]:Bs),(false,()))),(a0,()))
  else bif (Option.getD (mlook a0.refused a1) false) then
   some (([(52:UInt8),(50:UInt8),(80:UInt8),(48:UInt8),(49:UInt8)],([(114:UInt8),(101:UInt8),(108:UInt8),(97:UInt8),(116:UInt8),(105:UInt8),(111:UInt8),(110:UInt8),(32:UInt8),(100:UInt8),(111:UInt8),(101:UInt8),(115:UInt8),(32:UInt8),(110:UInt8),(111:UInt8),(116:UInt8),(32:UInt8),(101:UInt8),(120:UInt8),(105:UInt8),(115:UInt8),(116:UInt8)],(true,()))),(a0,()))
  else some ((([]:Bs),(([]:Bs),(false,()))),(a0,()))
 else bnd (f_sqlExit y0.1.1) fun y3 =>
 bif y3.1.1 then
  some ((([]:Bs),(([]:Bs),(false,()))),(a0,()))
 else bif decide (y0.1.1.kind=(1:Int)) then
  some ((([]:Bs),(([]:Bs),(false,()))),(a0,()))
 else bif (Option.getD (mlook a0.refused a1) false) then
  some (([(52:UInt8),(50:UInt8),(80:UInt8),(48:UInt8),(49:UInt8)],([(114:UInt8),(101:UInt8),(108:UInt8),(97:UInt8),(116:UInt8),(105:UInt8),(111:UInt8),(110:UInt8),(32:UInt8),(100:UInt8),(111:UInt8),(101:UInt8),(115:UInt8),(32:UInt8),(110:UInt8),(111:UInt8),(116:UInt8),(32:UInt8),(101:UInt8),(120:UInt8),(105:UInt8),(115:UInt8),(116:UInt8)],(true,()))),(a0,()))
 else some ((([]:Bs),(([]:Bs),(false,()))),(a0,()))
noncomputable def c_enVerdict:Go.RK.Fn Tryz.prog 185:=mkFn hm0 en0 (by kernel_rfl) [59,9,5] [9,9,4] (tC (qEn (nu 0)) (tC (qS (nu 2)) (tC (qY (nu 2)) tNil))) (tC (qS (nu 2)) (tC (qS (nu 2)) (tC (qB (nu 2)) tNil))) (tC (qEn (nl [0,1])) tNil) 2 2 (natX_ok c_sqlParse (natX_ok c_enReady (natX_ok c_sqlExit (nat0_ok _)))) [] (by kernel_rfl) (fun x=>f_enVerdict x.1 x.2.1 x.2.2.1) fun x=>by kernel_rfl
noncomputable def f_frNext (a0:Framer):Option ((Msg × (Bool × (Int × Unit))) × (Framer × Unit)) :=
 bnd (f_frPeek a0) fun y0 =>
 bif y0.1.2.1 then
  bif y0.2.1.typed then
   bif (inR (((1:Int)+(4:Int))+(Int.ofNat (List.length y0.1.1.body)))) then
    bnd (f_del y0.2.1.bytes (0:Int) (((1:Int)+(4:Int))+(Int.ofNat (List.length y0.1.1.body)))) fun y1 =>
    some ((y0.1.1,(y0.1.2.1,(y0.1.2.2.1,()))),({ y0.2.1 with bytes:=y1 },()))
   else none
  else bif (inR (((0:Int)+(4:Int))+(Int.ofNat (List.length y0.1.1.body)))) then
   bnd (f_del y0.2.1.bytes (0:Int) (((0:Int)+(4:Int))+(Int.ofNat (List.length y0.1.1.body)))) fun y2 =>
   some ((y0.1.1,(y0.1.2.1,(y0.1.2.2.1,()))),({ y0.2.1 with bytes:=y2 },()))
  else none
 else some ((y0.1.1,(y0.1.2.1,(y0.1.2.2.1,()))),(y0.2.1,()))
noncomputable def c_frNext:Go.RK.Fn Tryz.prog 79:=mkFn hm0 en0 (by kernel_rfl) [107] [58,4,49] (tC (qFr (nu 0)) tNil) (tC (qMsg (nu 2)) (tC (qB (nu 2)) (tC (qI (nu 2)) tNil))) (tC (qFr (nl [0,2])) tNil) 2 3 (natX_ok c_frPeek (natX_ok c_del (nat0_ok _))) [] (by kernel_rfl) (fun x=>f_frNext x.1) fun x=>by kernel_rfl
noncomputable def f_plHello  : Option ((Bs × Unit) × Unit) :=
 some ((((((((([]:Bs)++([]:Bs))++[(UInt8.ofNat (Int.toNat (IntKind.wrap .u8 (Int.tmod (Int.tdiv ((Int.ofNat (List.length ((((((((((([]:Bs)++([]:Bs))++[(UInt8.ofNat (Int.toNat (IntKind.wrap .u8 (Int.tmod (Int.tdiv (196608:Int) ((((1:Int) * (256:Int)) * (256:Int)) * (256:Int))) (256:Int)))))])++[(UInt8.ofNat (Int.toNat (IntKind.wrap .u8 (Int.tmod (Int.tdiv (196608:Int) (((1:Int) * (256:Int)) * (256:Int))) (256:Int)))))])++[(UInt8.ofNat (Int.toNat (IntKind.wrap .u8 (Int.tmod (Int.tdiv (196608:Int) ((1:Int) * (256:Int))) (256:Int)))))])++[(UInt8.ofNat (Int.toNat (IntKind.wrap .u8 (Int.tmod (Int.tdiv (196608:Int) (1:Int)) (256:Int)))))])++(getU (t:=Tm.pair) [(Pair.mk [(117:UInt8),(115:UInt8),(101:UInt8),(114:UInt8)] [(117:UInt8)])] (Int.ofNat (Int.toNat (0:Int)))).name)++[(UInt8.ofNat (Int.toNat (0:Int)))])++(getU (t:=Tm.pair) [(Pair.mk [(117:UInt8),(115:UInt8),(101:UInt8),(114:UInt8)] [(117:UInt8)])] (Int.ofNat (Int.toNat (0:Int)))).value)++[(UInt8.ofNat (Int.toNat (0:Int)))])++[(UInt8.ofNat (Int.toNat (0:Int)))])))+(4:Int)) ((((1:Int) * (256:Int)) * (256:Int)) * (256:Int))) (256:Int)))))])++[(UInt8.ofNat (Int.toNat (IntKind.wrap .u8 (Int.tmod (Int.tdiv ((Int.ofNat (List.length ((((((((((([]:Bs)++([]:Bs))++[(UInt8.ofNat (Int.toNat (IntKind.wrap .u8 (Int.tmod (Int.tdiv (196608:Int) ((((1:Int) * (256:Int)) * (256:Int)) * (256:Int))) (256:Int)))))])++[(UInt8.ofNat (Int.toNat (IntKind.wrap .u8 (Int.tmod (Int.tdiv (196608:Int) (((1:Int) * (256:Int)) * (256:Int))) (256:Int)))))])++[(UInt8.ofNat (Int.toNat (IntKind.wrap .u8 (Int.tmod (Int.tdiv (196608:Int) ((1:Int) * (256:Int))) (256:Int)))))])++[(UInt8.ofNat (Int.toNat (IntKind.wrap .u8 (Int.tmod (Int.tdiv (196608:Int) (1:Int)) (256:Int)))))])++(getU (t:=Tm.pair) [(Pair.mk [(117:UInt8),(115:UInt8),(101:UInt8),(114:UInt8)] [(117:UInt8)])] (Int.ofNat (Int.toNat (0:Int)))).name)++[(UInt8.ofNat (Int.toNat (0:Int)))])++(getU (t:=Tm.pair) [(Pair.mk [(117:UInt8),(115:UInt8),(101:UInt8),(114:UInt8)] [(117:UInt8)])] (Int.ofNat (Int.toNat (0:Int)))).value)++[(UInt8.ofNat (Int.toNat (0:Int)))])++[(UInt8.ofNat (Int.toNat (0:Int)))])))+(4:Int)) (((1:Int) * (256:Int)) * (256:Int))) (256:Int)))))])++[(UInt8.ofNat (Int.toNat (IntKind.wrap .u8 (Int.tmod (Int.tdiv ((Int.ofNat (List.length ((((((((((([]:Bs)++([]:Bs))++[(UInt8.ofNat (Int.toNat (IntKind.wrap .u8 (Int.tmod (Int.tdiv (196608:Int) ((((1:Int) * (256:Int)) * (256:Int)) * (256:Int))) (256:Int)))))])++[(UInt8.ofNat (Int.toNat (IntKind.wrap .u8 (Int.tmod (Int.tdiv (196608:Int) (((1:Int) * (256:Int)) * (256:Int))) (256:Int)))))])++[(UInt8.ofNat (Int.toNat (IntKind.wrap .u8 (Int.tmod (Int.tdiv (196608:Int) ((1:Int) * (256:Int))) (256:Int)))))])++[(UInt8.ofNat (Int.toNat (IntKind.wrap .u8 (Int.tmod (Int.tdiv (196608:Int) (1:Int)) (256:Int)))))])++(getU (t:=Tm.pair) [(Pair.mk [(117:UInt8),(115:UInt8),(101:UInt8),(114:UInt8)] [(117:UInt8)])] (Int.ofNat (Int.toNat (0:Int)))).name)++[(UInt8.ofNat (Int.toNat (0:Int)))])++(getU (t:=Tm.pair) [(Pair.mk [(117:UInt8),(115:UInt8),(101:UInt8),(114:UInt8)] [(117:UInt8)])] (Int.ofNat (Int.toNat (0:Int)))).value)++[(UInt8.ofNat (Int.toNat (0:Int)))])++[(UInt8.ofNat (Int.toNat (0:Int)))])))+(4:Int)) ((1:Int) * (256:Int))) (256:Int)))))])++[(UInt8.ofNat (Int.toNat (IntKind.wrap .u8 (Int.tmod (Int.tdiv ((Int.ofNat (List.length ((((((((((([]:Bs)++([]:Bs))++[(UInt8.ofNat (Int.toNat (IntKind.wrap .u8 (Int.tmod (Int.tdiv (196608:Int) ((((1:Int) * (256:Int)) * (256:Int)) * (256:Int))) (256:Int)))))])++[(UInt8.ofNat (Int.toNat (IntKind.wrap .u8 (Int.tmod (Int.tdiv (196608:Int) (((1:Int) * (256:Int)) * (256:Int))) (256:Int)))))])++[(UInt8.ofNat (Int.toNat (IntKind.wrap .u8 (Int.tmod (Int.tdiv (196608:Int) ((1:Int) * (256:Int))) (256:Int)))))])++[(UInt8.ofNat (Int.toNat (IntKind.wrap .u8 (Int.tmod (Int.tdiv (196608:Int) (1:Int)) (256:Int)))))])++(getU (t:=Tm.pair) [(Pair.mk [(117:UInt8),(115:UInt8),(101:UInt8),(114:UInt8)] [(117:UInt8)])] (Int.ofNat (Int.toNat (0:Int)))).name)++[(UInt8.ofNat (Int.toNat (0:Int)))])++(getU (t:=Tm.pair) [(Pair.mk [(117:UInt8),(115:UInt8),(101:UInt8),(114:UInt8)] [(117:UInt8)])] (Int.ofNat (Int.toNat (0:Int)))).value)++[(UInt8.ofNat (Int.toNat (0:Int)))])++[(UInt8.ofNat (Int.toNat (0:Int)))])))+(4:Int)) (1:Int)) (256:Int)))))])++((((((((((([]:Bs)++([]:Bs))++[(UInt8.ofNat (Int.toNat (IntKind.wrap .u8 (Int.tmod (Int.tdiv (196608:Int) ((((1:Int) * (256:Int)) * (256:Int)) * (256:Int))) (256:Int)))))])++[(UInt8.ofNat (Int.toNat (IntKind.wrap .u8 (Int.tmod (Int.tdiv (196608:Int) (((1:Int) * (256:Int)) * (256:Int))) (256:Int)))))])++[(UInt8.ofNat (Int.toNat (IntKind.wrap .u8 (Int.tmod (Int.tdiv (196608:Int) ((1:Int) * (256:Int))) (256:Int)))))])++[(UInt8.ofNat (Int.toNat (IntKind.wrap .u8 (Int.tmod (Int.tdiv (196608:Int) (1:Int)) (256:Int)))))])++(getU (t:=Tm.pair) [(Pair.mk [(117:UInt8),(115:UInt8),(101:UInt8),(114:UInt8)] [(117:UInt8)])] (Int.ofNat (Int.toNat (0:Int)))).name)++[(UInt8.ofNat (Int.toNat (0:Int)))])++(getU (t:=Tm.pair) [(Pair.mk [(117:UInt8),(115:UInt8),(101:UInt8),(114:UInt8)] [(117:UInt8)])] (Int.ofNat (Int.toNat (0:Int)))).value)++[(UInt8.ofNat (Int.toNat (0:Int)))])++[(UInt8.ofNat (Int.toNat (0:Int)))])),()),())
noncomputable def c_plHello:Go.RK.Fn Tryz.prog 11:=mkFn hm0 en0 (by kernel_rfl) [] [28] tNil (tC (qOb (nu 0)) tNil) tNil 0 1 (nat0_ok _) [] (by kernel_rfl) (fun x=>f_plHello ) fun x=>by kernel_rfl
noncomputable def s_ifFew_0 (s:List (Bs)) (f:(Unit × ((Int × Unit) × Unit))) (t7:Int) (t8:Int):Option ((List (Bs) × ((Unit × ((Int × Unit) × Unit)) × (Int × (Int × Unit)))) ⊕ (((Unit × ((Int × Unit) × Unit)) × Unit) ⊕ (Int × ((Unit × ((Int × Unit) × Unit)) × Unit)))) :=
 bif (ltI t8 t7) then
  bif (inB t8 (List.length s)) then
   bif (ltI f.2.1.1 (Int.ofNat (List.length (getU (t:=Tm.bs) s t8)))) then
    some (.inr (.inr (t8,(((),((f.2.1.1,()),())),()))))
   else bif (inR (t8+(1:Int))) then
    some (.inl (s,(((),((f.2.1.1,()),())),(t7,((t8+(1:Int)),())))))
   else none
  else none
 else some (.inr (.inl (((),((f.2.1.1,()),())),())))
noncomputable def l_ifFew_0:Lp Tryz.prog:=mkLp (P:=Tryz.prog) [0,1,7,8] [22,48,3,3] 1 [0] (tC (tRow Tm.bs) (tC (tFn 21 tNil (tC (tPtr 0 3 (tC tI tNil)) tNil)) (tC tI (tC tI tNil)))) [⟨.exit 0,[1],[48],1,(tC (tFn 21 tNil (tC (tPtr 0 3 (tC tI tNil)) tNil)) tNil)⟩,⟨.ret,[4,1],[3,48],1,(tC tI (tC (tFn 21 tNil (tC (tPtr 0 3 (tC tI tNil)) tNil)) tNil))⟩] (fun x=>s_ifFew_0 x.1 x.2.1 x.2.2.1 x.2.2.2.1)
noncomputable def u_ifFew_0 (s:List (Bs)) (f:(Unit × ((Int × Unit) × Unit))) (t7:Int) (t8:Int):Nat:=Int.toNat (t7 - t8)+1
noncomputable def k_ifFew_0:Lk Tryz.prog 34 0:=mkLk hm0 en0 l_ifFew_0 0 (fun x=>u_ifFew_0 x.1 x.2.1 x.2.2.1 x.2.2.2.1) (nat0_ok _) [] (by kernel_rfl) fun x=>by kernel_rfl
noncomputable def f_ifFew (a0:List (Bs)) (a1:(Unit × ((Int × Unit) × Unit))):Option ((Int × Unit) × Unit) :=
 bnd (lpF l_ifFew_0.step (u_ifFew_0 a0 ((),((a1.2.1.1,()),())) (Int.ofNat (List.length a0)) (0:Int)) (a0,(((),((a1.2.1.1,()),())),((Int.ofNat (List.length a0)),((0:Int),()))))) fun y0 =>
 match y0 with
 | .inl y1 =>
  some (((-(1:Int)),()),())
 | .inr y1 =>
  some ((y1.1,()),())
noncomputable def c_ifFew:Go.RK.Fn Tryz.prog 34:=mkFn hm0 en0 (by kernel_rfl) [22,48] [3] (tC (qR .bs (nu 0)) (tC ((fun n=>tFn 21 tNil (tC (tPtr (n 0) 3 (tC tI tNil)) tNil)) (nu 0)) tNil)) (tC (qI (nu 1)) tNil) tNil 1 1 (nat0_ok _) [⟨_,k_ifFew_0⟩] (by kernel_rfl) (fun x=>f_ifFew x.1 x.2.1) fun x=>by kernel_rfl
noncomputable def f_few (a0:List (Bs)) (a1:Int) (a2:Int):Option ((Bool × Unit) × Unit) :=
 bif (ltI a1 (Int.ofNat (List.length a0))) then
  some ((false,()),())
 else bnd (f_ifFew a0 ((),((a2,()),()))) fun y0 =>
 some (((!(leI (0:Int) y0.1.1)),()),())
noncomputable def c_few:Go.RK.Fn Tryz.prog 10:=mkFn hm0 en0 (by kernel_rfl) [22,3,3] [4] (tC (qR .bs (nu 0)) (tC (qI (nu 0)) (tC (qI (nu 0)) tNil))) (tC (qB (nu 0)) tNil) tNil 0 0 (natX_ok c_ifFew (nat0_ok _)) [] (by kernel_rfl) (fun x=>f_few x.1 x.2.1 x.2.2.1) fun x=>by kernel_rfl
end Go.Proofs.YtjgeofdgdlmcoaaGreatDoor
namespace Go.Proofs.YtjgeofdgdlmcoaaGreatDoor
open Go Go.RK
open Go.RK.Uni (Ty El)
open Go.RK.Byt (bT)
theorem t_frNext (a0:Framer) (h0:a0.bytes.length≤1000000):Tt (f_frNext a0) fun y=>y.2.1.bytes.length≤a0.bytes.length∧(y.1.2.1=true→y.2.1.bytes.length+4≤a0.bytes.length)∧y.2.1.typed=a0.typed∧y.2.1.room=a0.room∧y.2.1.most=a0.most∧y.1.1.body.length≤a0.bytes.length∧(∀ z,f_frPeek a0=some z→z.1.2.1=true→y.2.1.bytes.length+4≤a0.bytes.length):=by
 unfold f_frNext
 try dsimp only [El_by]
 refine Tt.bndE (t_frPeek _ (by grind)) fun y0 ey0 hy0=>?_
 refine Tt.bif (fun h=>?_) (fun h=>?_)
 refine Tt.bif (fun h=>?_) (fun h=>?_)
 refine Tt.ok (by grind) ?_
 refine Tt.bndE (t_del _ _ _ (by grind)) fun (y1:List UInt8) ey1 hy1=>?_
 exact Tt.ret (by grind)
 refine Tt.ok (by grind) ?_
 refine Tt.bndE (t_del _ _ _ (by grind)) fun (y2:List UInt8) ey2 hy2=>?_
 exact Tt.ret (by grind)
 exact Tt.ret (by grind)
theorem st_trimL_0 (L:Nat) (s:List (UInt8)) (c:UInt8) (h0:s.length≤L∧L≤1000000):Tt (s_trimL_0 s c) fun r=>match r with | .inl (s',c',_)=>((s'.length≤L∧L≤1000000))∧s'.length < s.length | .inr y=>y.1.length≤L:=by
 unfold s_trimL_0
 refine Tt.bif (fun h=>?_) (fun h=>?_)
 refine Tt.ok (by grind) ?_
 refine Tt.bif (fun h=>?_) (fun h=>?_)
 refine Tt.ok (by grind) ?_
 exact Tt.ret (by grind)
 exact Tt.ret (by grind)
 exact Tt.ret (by grind)
theorem lt_trimL_0 (L:Nat) (s:List (UInt8)) (c:UInt8) (h0:s.length≤L∧L≤1000000):Tt (α:=(List (UInt8) × Unit)) (lpF l_trimL_0.step (u_trimL_0 s c) (s,(c,()))) fun y=>y.1.length≤L:=by
 refine Tt.lp (fun x=>(x.1.length≤L∧L≤1000000)) (fun x=>x.1.length) (fun x h=>(st_trimL_0 L x.1 x.2.1 h).mono fun r hr=>?_) (by exact h0) (by unfold u_trimL_0;grind)
 rcases r with r | r <;> exact hr
theorem t_trimL (a0:List (UInt8)) (a1:UInt8) (h0:a0.length≤1000000):Tt (f_trimL a0 a1) fun y=>y.1.1.length≤a0.length:=by
 unfold f_trimL
 refine Tt.bnd (lt_trimL_0 (a0.length) _ _ (by grind)) fun (y0:(List (UInt8) × Unit)) hy0=>?_
 exact Tt.ret (by grind)
theorem st_trimR_0 (L:Nat) (s:List (UInt8)) (c:UInt8) (h0:s.length≤L∧L≤1000000):Tt (s_trimR_0 s c) fun r=>match r with | .inl (s',c',_)=>((s'.length≤L∧L≤1000000))∧s'.length < s.length | .inr y=>y.1.length≤L:=by
 unfold s_trimR_0
 refine Tt.bif (fun h=>?_) (fun h=>?_)
 refine Tt.ok (by first | omega | grind | (simp_all <;> omega) | (repeat' apply And.intro) <;> first | omega | grind | (simp_all <;> omega)) ?_
 refine Tt.ok (by first | omega | grind | (simp_all <;> omega) | (repeat' apply And.intro) <;> first | omega | grind | (simp_all <;> omega)) ?_
 refine Tt.bif (fun h=>?_) (fun h=>?_)
 refine Tt.ok (by first | omega | grind | (simp_all <;> omega) | (repeat' apply And.intro) <;> first | omega | grind | (simp_all <;> omega)) ?_
 refine Tt.ok (by first | omega | grind | (simp_all <;> omega) | (repeat' apply And.intro) <;> first | omega | grind | (simp_all <;> omega)) ?_
 exact Tt.ret (by first | omega | grind | (simp_all <;> omega) | (repeat' apply And.intro) <;> first | omega | grind | (simp_all <;> omega))
 exact Tt.ret (by first | omega | grind | (simp_all <;> omega) | (repeat' apply And.intro) <;> first | omega | grind | (simp_all <;> omega))
 exact Tt.ret (by first | omega | grind | (simp_all <;> omega) | (repeat' apply And.intro) <;> first | omega | grind | (simp_all <;> omega))
theorem lt_trimR_0 (L:Nat) (s:List (UInt8)) (c:UInt8) (h0:s.length≤L∧L≤1000000):Tt (α:=(List (UInt8) × Unit)) (lpF l_trimR_0.step (u_trimR_0 s c) (s,(c,()))) fun y=>y.1.length≤L:=by
 refine Tt.lp (fun x=>(x.1.length≤L∧L≤1000000)) (fun x=>x.1.length) (fun x h=>(st_trimR_0 L x.1 x.2.1 h).mono fun r hr=>?_) (by exact h0) (by unfold u_trimR_0;first | omega | grind | (simp_all <;> omega) | (repeat' apply And.intro) <;> first | omega | grind | (simp_all <;> omega))
 rcases r with r | r <;> exact hr
theorem t_trimR (a0:List (UInt8)) (a1:UInt8) (h0:a0.length≤1000000):Tt (f_trimR a0 a1) fun y=>y.1.1.length≤a0.length:=by
 unfold f_trimR
 refine Tt.bnd (lt_trimR_0 (a0.length) _ _ (by grind)) fun (y0:(List (UInt8) × Unit)) hy0=>?_
 exact Tt.ret (by grind)
theorem t_sqlParse (a0:List (UInt8)) (h0:a0.length≤4000):Tt (f_sqlParse a0) fun y=>0≤y.1.1.n∧y.1.1.code.length≤5:=by
 unfold f_sqlParse
 refine Tt.bif (fun h=>?_) (fun h=>?_)
 refine Tt.bnd (t_word _) fun y0 hy0=>?_
 refine Tt.bif (fun h=>?_) (fun h=>?_)
 exact Tt.ret (by grind)
 refine Tt.bif (fun h=>?_) (fun h=>?_)
 refine Tt.ok (by grind) ?_
 exact Tt.ret (by grind)
 refine Tt.bnd (t_ixS _ _) fun y1 hy1=>?_
 refine Tt.bif (fun h=>?_) (fun h=>?_)
 refine Tt.ok (by grind) ?_
 refine Tt.ok (by grind) ?_
 refine Tt.ok (by grind) ?_
 refine Tt.bnd (t_sqlPair _ _ (by grind)) fun y2 hy2=>?_
 exact Tt.ret (by grind)
 exact Tt.ret (by grind)
 refine Tt.bnd (t_trimR _ _ (by grind)) fun y3 hy3=>?_
 refine Tt.bnd (t_trimL _ _ (by grind)) fun y4 hy4=>?_
 refine Tt.bnd (t_word _) fun y5 hy5=>?_
 refine Tt.bif (fun h=>?_) (fun h=>?_)
 exact Tt.ret (by grind)
 refine Tt.bif (fun h=>?_) (fun h=>?_)
 refine Tt.ok (by grind) ?_
 exact Tt.ret (by grind)
 refine Tt.bnd (t_ixS _ _) fun y6 hy6=>?_
 refine Tt.bif (fun h=>?_) (fun h=>?_)
 refine Tt.ok (by grind) ?_
 refine Tt.ok (by grind) ?_
 refine Tt.ok (by grind) ?_
 refine Tt.bnd (t_sqlPair _ _ (by grind)) fun y7 hy7=>?_
 exact Tt.ret (by grind)
 exact Tt.ret (by grind)
theorem t_tExists (a0:List (UInt8)) (h0:a0.length≤4000):Tt (f_tExists a0) fun y=>y.1.1.length≤4300:=by
 unfold f_tExists
 refine Tt.bnd (t_says _ _ _ (by first | omega | grind | (simp_all <;> omega) | (repeat' apply And.intro) <;> first | omega | grind | (simp_all <;> omega)) (by first | omega | grind | (simp_all <;> omega) | (repeat' apply And.intro) <;> first | omega | grind | (simp_all <;> omega)) (by first | omega | grind | (simp_all <;> omega) | (repeat' apply And.intro) <;> first | omega | grind | (simp_all <;> omega))) fun y0 hy0=>?_
 exact Tt.ret (by first | omega | grind | (simp_all <;> omega) | (repeat' apply And.intro) <;> first | omega | grind | (simp_all <;> omega))
theorem t_tMissing (a0:List (UInt8)) (h0:a0.length≤4000):Tt (f_tMissing a0) fun y=>y.1.1.length≤4300:=by
 unfold f_tMissing
 refine Tt.bif (fun h=>?_) (fun h=>?_)
 exact Tt.ret (by first | omega | grind | (simp_all <;> omega) | (repeat' apply And.intro) <;> first | omega | grind | (simp_all <;> omega))
 refine Tt.bnd (t_says _ _ _ (by first | omega | grind | (simp_all <;> omega) | (repeat' apply And.intro) <;> first | omega | grind | (simp_all <;> omega)) (by first | omega | grind | (simp_all <;> omega) | (repeat' apply And.intro) <;> first | omega | grind | (simp_all <;> omega)) (by first | omega | grind | (simp_all <;> omega) | (repeat' apply And.intro) <;> first | omega | grind | (simp_all <;> omega))) fun y0 hy0=>?_
 exact Tt.ret (by first | omega | grind | (simp_all <;> omega) | (repeat' apply And.intro) <;> first | omega | grind | (simp_all <;> omega))
theorem t_tNeeds (a0:List (UInt8)) (h0:a0.length≤4000):Tt (f_tNeeds a0) fun y=>y.1.1.length≤4100:=by
 unfold f_tNeeds
 refine Tt.bnd (t_quote _ (by first | omega | grind | (simp_all <;> omega) | (repeat' apply And.intro) <;> first | omega | grind | (simp_all <;> omega))) fun y0 hy0=>?_
 refine Tt.ok (by first | omega | grind | (simp_all <;> omega) | (repeat' apply And.intro) <;> first | omega | grind | (simp_all <;> omega)) ?_
 refine Tt.ok (by first | omega | grind | (simp_all <;> omega) | (repeat' apply And.intro) <;> first | omega | grind | (simp_all <;> omega)) ?_
 exact Tt.ret (by first | omega | grind | (simp_all <;> omega) | (repeat' apply And.intro) <;> first | omega | grind | (simp_all <;> omega))
theorem t_tArity (a0:Int) (a1:List (UInt8)) (a2:Int) (h0:0≤a0∧a0≤1000000) (h1:a1.length≤4000) (h2:0≤a2∧a2≤1000000):Tt (f_tArity a0 a1 a2) fun y=>y.1.1.length≤4300:=by
 unfold f_tArity
 try dsimp only [El_by]
 refine Tt.bnd (t_text _ (by first | omega | grind | (simp_all <;> omega) | (repeat' apply And.intro) <;> first | omega | grind | (simp_all <;> omega))) fun (y0:List UInt8) hy0=>?_
 refine Tt.ok (by first | omega | grind | (simp_all <;> omega) | (repeat' apply And.intro) <;> first | omega | grind | (simp_all <;> omega)) ?_
 refine Tt.ok (by first | omega | grind | (simp_all <;> omega) | (repeat' apply And.intro) <;> first | omega | grind | (simp_all <;> omega)) ?_
 refine Tt.bnd (t_tNeeds _ (by first | omega | grind | (simp_all <;> omega) | (repeat' apply And.intro) <;> first | omega | grind | (simp_all <;> omega))) fun y1 hy1=>?_
 refine Tt.ok (by first | omega | grind | (simp_all <;> omega) | (repeat' apply And.intro) <;> first | omega | grind | (simp_all <;> omega)) ?_
 refine Tt.bnd (t_text _ (by first | omega | grind | (simp_all <;> omega) | (repeat' apply And.intro) <;> first | omega | grind | (simp_all <;> omega))) fun (y2:List UInt8) hy2=>?_
 refine Tt.ok (by first | omega | grind | (simp_all <;> omega) | (repeat' apply And.intro) <;> first | omega | grind | (simp_all <;> omega)) ?_
 exact Tt.ret (by first | omega | grind | (simp_all <;> omega) | (repeat' apply And.intro) <;> first | omega | grind | (simp_all <;> omega))
theorem t_tCursor (a0:List (UInt8)) (h0:a0.length≤4000):Tt (f_tCursor a0) fun y=>y.1.1.length≤4300:=by
 unfold f_tCursor
 refine Tt.bnd (t_says _ _ _ (by first | omega | grind | (simp_all <;> omega) | (repeat' apply And.intro) <;> first | omega | grind | (simp_all <;> omega)) (by first | omega | grind | (simp_all <;> omega) | (repeat' apply And.intro) <;> first | omega | grind | (simp_all <;> omega)) (by first | omega | grind | (simp_all <;> omega) | (repeat' apply And.intro) <;> first | omega | grind | (simp_all <;> omega))) fun y0 hy0=>?_
 exact Tt.ret (by first | omega | grind | (simp_all <;> omega) | (repeat' apply And.intro) <;> first | omega | grind | (simp_all <;> omega))
theorem t_tPortal (a0:List (UInt8)) (h0:a0.length≤4000):Tt (f_tPortal a0) fun y=>y.1.1.length≤4300:=by
 unfold f_tPortal
 refine Tt.bnd (t_says _ _ _ (by first | omega | grind | (simp_all <;> omega) | (repeat' apply And.intro) <;> first | omega | grind | (simp_all <;> omega)) (by first | omega | grind | (simp_all <;> omega) | (repeat' apply And.intro) <;> first | omega | grind | (simp_all <;> omega)) (by first | omega | grind | (simp_all <;> omega) | (repeat' apply And.intro) <;> first | omega | grind | (simp_all <;> omega))) fun y0 hy0=>?_
 exact Tt.ret (by first | omega | grind | (simp_all <;> omega) | (repeat' apply And.intro) <;> first | omega | grind | (simp_all <;> omega))
theorem t_enVerdict (a0:Engine) (a1:List (UInt8)) (a2:UInt8) (h0:a1.length≤4000):Tt (f_enVerdict a0 a1 a2) fun y=>y.2.1=a0∧y.1.1.length≤10∧y.1.2.1.length≤200:=by
 unfold f_enVerdict
 refine Tt.bnd (t_sqlParse _ (by first | omega | grind | (simp_all <;> omega) | (repeat' apply And.intro) <;> first | omega | grind | (simp_all <;> omega))) fun y0 hy0=>?_
 refine Tt.bif (fun h=>?_) (fun h=>?_)
 exact Tt.ret (by first | omega | grind | (simp_all <;> omega) | (repeat' apply And.intro) <;> first | omega | grind | (simp_all <;> omega))
 refine Tt.bif (fun h=>?_) (fun h=>?_)
 refine Tt.bnd (t_sqlExit _) fun y1 hy1=>?_
 refine Tt.bif (fun h=>?_) (fun h=>?_)
 exact Tt.ret (by first | omega | grind | (simp_all <;> omega) | (repeat' apply And.intro) <;> first | omega | grind | (simp_all <;> omega))
 refine Tt.bnd (t_sqlExit _) fun y2 hy2=>?_
 refine Tt.bif (fun h=>?_) (fun h=>?_)
 exact Tt.ret (by first | omega | grind | (simp_all <;> omega) | (repeat' apply And.intro) <;> first | omega | grind | (simp_all <;> omega))
 refine Tt.bif (fun h=>?_) (fun h=>?_)
 exact Tt.ret (by first | omega | grind | (simp_all <;> omega) | (repeat' apply And.intro) <;> first | omega | grind | (simp_all <;> omega))
 refine Tt.bif (fun h=>?_) (fun h=>?_)
 exact Tt.ret (by first | omega | grind | (simp_all <;> omega) | (repeat' apply And.intro) <;> first | omega | grind | (simp_all <;> omega))
 exact Tt.ret (by first | omega | grind | (simp_all <;> omega) | (repeat' apply And.intro) <;> first | omega | grind | (simp_all <;> omega))
 refine Tt.bnd (t_sqlExit _) fun y3 hy3=>?_
 refine Tt.bif (fun h=>?_) (fun h=>?_)
 exact Tt.ret (by first | omega | grind | (simp_all <;> omega) | (repeat' apply And.intro) <;> first | omega | grind | (simp_all <;> omega))
 refine Tt.bif (fun h=>?_) (fun h=>?_)
 exact Tt.ret (by first | omega | grind | (simp_all <;> omega) | (repeat' apply And.intro) <;> first | omega | grind | (simp_all <;> omega))
 refine Tt.bif (fun h=>?_) (fun h=>?_)
 exact Tt.ret (by first | omega | grind | (simp_all <;> omega) | (repeat' apply And.intro) <;> first | omega | grind | (simp_all <;> omega))
 exact Tt.ret (by first | omega | grind | (simp_all <;> omega) | (repeat' apply And.intro) <;> first | omega | grind | (simp_all <;> omega))
def Fw (s:List Bs) (n m:Int):Prop:=∀ j:Nat,(j:Int) < n→((s.getD j []).length:Int)≤m
@[grind =] theorem Fw_zero (s:List Bs) (m:Int):Fw s 0 m=True:=eq_true fun j h=>by omega
@[grind =] theorem Fw_succ {s:List Bs} {n m:Int} (h:Fw s n m) (h0:0≤n) (h1:((getU (t:=Tm.bs) s n:Bs).length:Int)≤m):Fw s (n+1) m=True:=eq_true fun j hj=>by
  by_cases e:(j:Int) < n
  · exact h j e
  · have:j=n.toNat:=by omega
    subst this
    exact h1
theorem st_ifFew_0 (S:List Bs) (X:Int) (s:List (List (UInt8))) (f:(Unit × ((Int × Unit) × Unit))) (t7:Int) (t8:Int) (h0:0≤t8∧t8≤t7∧t7≤1000000) (h1:t7≤(s.length:Int)) (h2:s=S∧f.2.1.1=X∧t7=(S.length:Int)) (h3:Fw S t8 X):Tt (s_ifFew_0 s f t7 t8) fun r=>match r with | .inl (s',f',t7',t8',_)=>((0≤t8'∧t8'≤t7'∧t7'≤1000000)∧(t7'≤(s'.length:Int))∧(s'=S∧f'.2.1.1=X∧t7'=(S.length:Int))∧(Fw S t8' X))∧(t7' - t8').toNat < (t7 - t8).toNat | .inr y=>match y with | .inl _=>Fw S (S.length:Int) X | .inr z=>0≤z.1:=by
 unfold s_ifFew_0
 try dsimp only [El_bs]
 refine Tt.bif (fun h=>?_) (fun h=>?_)
 refine Tt.ok (by grind) ?_
 refine Tt.bif (fun h=>?_) (fun h=>?_)
 exact Tt.ret (by grind)
 refine Tt.ok (by grind) ?_
 exact Tt.ret (by grind)
 exact Tt.ret (by grind)
theorem lt_ifFew_0 (S:List Bs) (X:Int) (s:List (List (UInt8))) (f:(Unit × ((Int × Unit) × Unit))) (t7:Int) (t8:Int) (h0:0≤t8∧t8≤t7∧t7≤1000000) (h1:t7≤(s.length:Int)) (h2:s=S∧f.2.1.1=X∧t7=(S.length:Int)) (h3:Fw S t8 X):Tt (α:=(((Unit × ((Int × Unit) × Unit)) × Unit) ⊕ (Int × ((Unit × ((Int × Unit) × Unit)) × Unit)))) (lpF l_ifFew_0.step (u_ifFew_0 s f t7 t8) (s,(f,(t7,(t8,()))))) fun y=>match y with | .inl _=>Fw S (S.length:Int) X | .inr z=>0≤z.1:=by
 refine Tt.lp (fun x=>(0≤x.2.2.2.1∧x.2.2.2.1≤x.2.2.1∧x.2.2.1≤1000000)∧(x.2.2.1≤(x.1.length:Int))∧(x.1=S∧x.2.1.2.1.1=X∧x.2.2.1=(S.length:Int))∧(Fw S x.2.2.2.1 X)) (fun x=>(x.2.2.1 - x.2.2.2.1).toNat) (fun x h=>(st_ifFew_0 S X x.1 x.2.1 x.2.2.1 x.2.2.2.1 h.1 h.2.1 h.2.2.1 h.2.2.2).mono fun r hr=>?_) (by exact ⟨h0,h1,h2,h3⟩) (by unfold u_ifFew_0;grind)
 rcases r with r | r <;> exact hr
theorem t_ifFew (a0:List (List (UInt8))) (a1:(Unit × ((Int × Unit) × Unit))) (h0:a0.length≤1000000):Tt (f_ifFew a0 a1) fun y=>(y.1.1 < 0→Fw a0 (a0.length:Int) a1.2.1.1):=by
 unfold f_ifFew
 refine Tt.bnd (lt_ifFew_0 (a0) (a1.2.1.1) _ _ _ _ (by grind) (by grind) (by grind) (by grind)) fun (y0:(((Unit × ((Int × Unit) × Unit)) × Unit) ⊕ (Int × ((Unit × ((Int × Unit) × Unit)) × Unit)))) hy0=>?_
 rcases y0 with y1 | y1
 exact Tt.ret (by grind)
 exact Tt.ret (by grind)
theorem t_few (a0:List (List (UInt8))) (a1:Int) (a2:Int) (h0:0≤a1∧a1≤1000):Tt (f_few a0 a1 a2) fun y=>y.1.1=true→(a0.length:Int)≤a1∧Fw a0 (a0.length:Int) a2:=by
 unfold f_few
 refine Tt.bif (fun h=>?_) (fun h=>?_)
 exact Tt.ret (by grind)
 refine Tt.bnd (t_ifFew _ _ (by grind)) fun y0 hy0=>?_
 exact Tt.ret (by grind)
end Go.Proofs.YtjgeofdgdlmcoaaGreatDoor
namespace Go.Proofs.YtjgeofdgdlmcoaaGreatDoor
open Go Go.RK
open Go.RK.Uni (Ty El)
open Go.RK.Byt (bT)
noncomputable def f_seReady (a0:Session):Option ((Bool × Unit) × (Session × Unit)) :=
 some (((!a0.over),()),(a0,()))
noncomputable def c_seReady:Go.RK.Fn Tryz.prog 81:=mkFn hm0 en0 (by kernel_rfl) [67] [4] (tC (qSe (nu 0)) tNil) (tC (qB (nu 6)) tNil) (tC (qSe (nl [0,1,2,3,4,5])) tNil) 6 6 (nat0_ok _) [] (by kernel_rfl) (fun x=>f_seReady x.1) fun x=>by kernel_rfl
noncomputable def f_seSync (a0:Session):Option ((Back × Unit) × (Session × Unit)) :=
 bif decide ((Int.ofNat (UInt8.toNat a0.status))=(73:Int)) then
  some (((Back.mk (UInt8.ofNat 90) a0.status ([]:Bs) ([]:Bs) ([]:Bs) (0:Int) (0:Int) ([]:List (Int)) ([]:List (Col)) ([]:List (Cell)) ([]:List (Field))),()),({ a0 with portals:=([]:List ((Bs × Portal))) },()))
 else some (((Back.mk (UInt8.ofNat 90) a0.status ([]:Bs) ([]:Bs) ([]:Bs) (0:Int) (0:Int) ([]:List (Int)) ([]:List (Col)) ([]:List (Cell)) ([]:List (Field))),()),(a0,()))
noncomputable def c_seSync:Go.RK.Fn Tryz.prog 82:=mkFn hm0 en0 (by kernel_rfl) [67] [78] (tC (qSe (nu 0)) tNil) (tC (qBk (nu 6)) tNil) (tC (qSe (nl [0,1,2,3,4,5])) tNil) 6 6 (natX_ok c_poClear (nat0_ok _)) [] (by kernel_rfl) (fun x=>f_seSync x.1) fun x=>by kernel_rfl
noncomputable def f_seStop (a0:Bs) (a1:Bs):Option ((Option ((Bs × Bs)) × Unit) × Unit) :=
 some (((some (a0,a1)),()),())
noncomputable def c_seStop:Go.RK.Fn Tryz.prog 134:=mkFn hm0 en0 (by kernel_rfl) [9,9] [153] (tC (qS (nu 0)) (tC (qS (nu 0)) tNil)) (tC (qEr (nu 0)) tNil) tNil 0 0 (nat0_ok _) [] (by kernel_rfl) (fun x=>f_seStop x.1 x.2.1) fun x=>by kernel_rfl
noncomputable def f_seRefused (a0:Session) (a1:Bs):Option ((Option ((Bs × Bs)) × Unit) × (Session × Unit)) :=
 bnd (f_enVerdict a0.engine a1 a0.status) fun y0 =>
 bif y0.1.2.2.1 then
  some (((some (y0.1.1,y0.1.2.1)),()),({ a0 with engine:=y0.2.1 },()))
 else some ((none,()),({ a0 with engine:=y0.2.1 },()))
noncomputable def c_seRefused:Go.RK.Fn Tryz.prog 133:=mkFn hm0 en0 (by kernel_rfl) [67,9] [153] (tC (qSe (nu 0)) (tC (qS (nu 6)) tNil)) (tC (qEr (nu 6)) tNil) (tC (qSe (nl [0,1,2,3,4,5])) tNil) 6 6 (natX_ok c_seStop (natX_ok c_enVerdict (nat0_ok _))) [] (by kernel_rfl) (fun x=>f_seRefused x.1 x.2.1) fun x=>by kernel_rfl
noncomputable def f_seAborted (a0:Session) (a1:Stmt):Option ((Option ((Bs × Bs)) × Unit) × (Session × Unit)) :=
 bif decide ((Int.ofNat (UInt8.toNat a0.status))=(69:Int)) then
  bnd (f_sqlParse a1.text) fun y0 =>
  bnd (f_sqlExit y0.1.1) fun y1 =>
  bif (!y1.1.1) then
   some (((some ([(50:UInt8),(53:UInt8),(80:UInt8),(48:UInt8),(50:UInt8)],([(99:UInt8),(117:UInt8),(114:UInt8),(114:UInt8),(101:UInt8),(110:UInt8),(116:UInt8),(32:UInt8),(116:UInt8),(114:UInt8),(97:UInt8),(110:UInt8),(115:UInt8),(97:UInt8),(99:UInt8),(116:UInt8),(105:UInt8),(111:UInt8),(110:UInt8),(32:UInt8),(105:UInt8),(115:UInt8),(32:UInt8),(97:UInt8),(98:UInt8),(111:UInt8),(114:UInt8),(116:UInt8),(101:UInt8),(100:UInt8),(44:UInt8),(32:UInt8),(99:UInt8),(111:UInt8),(109:UInt8),(109:UInt8),(97:UInt8),(110:UInt8),(100:UInt8)]++[(115:UInt8),(32:UInt8),(105:UInt8),(103:UInt8),(110:UInt8),(111:UInt8),(114:UInt8),(101:UInt8),(100:UInt8),(32:UInt8),(117:UInt8),(110:UInt8),(116:UInt8),(105:UInt8),(108:UInt8),(32:UInt8),(101:UInt8),(110:UInt8),(100:UInt8),(32:UInt8),(111:UInt8),(102:UInt8),(32:UInt8),(116:UInt8),(114:UInt8),(97:UInt8),(110:UInt8),(115:UInt8),(97:UInt8),(99:UInt8),(116:UInt8),(105:UInt8),(111:UInt8),(110:UInt8),(32:UInt8),(98:UInt8),(108:UInt8),(111:UInt8),(99:UInt8),(107:UInt8)]))),()),(a0,()))
  else some ((none,()),(a0,()))
 else some ((none,()),(a0,()))
noncomputable def c_seAborted:Go.RK.Fn Tryz.prog 188:=mkFn hm0 en0 (by kernel_rfl) [67,206] [153] (tC (qSe (nu 0)) (tC (qSt (nu 6)) tNil)) (tC (qEr (nu 6)) tNil) (tC (qSe (nl [0,1,2,3,4,5])) tNil) 6 6 (natX_ok c_seStop (natX_ok c_sqlParse (natX_ok c_sqlExit (natX_ok c_enAborted (nat0_ok _))))) [] (by kernel_rfl) (fun x=>f_seAborted x.1 x.2.1) fun x=>by kernel_rfl
noncomputable def f_seStmt (a0:Session) (a1:Bs):Option ((Stmt × (Option ((Bs × Bs)) × Unit)) × (Session × Unit)) :=
 bif (!(Option.isSome (mlook a0.stmts a1))) then
  bnd (f_tMissing a1) fun y0 =>
  some (((Stmt.mk ([]:Bs) ([]:List (Int))),((some ([(50:UInt8),(54:UInt8),(48:UInt8),(48:UInt8),(48:UInt8)],y0.1.1)),())),(a0,()))
 else bnd (f_seAborted a0 (Option.getD (mlook a0.stmts a1) (Stmt.mk ([]:Bs) ([]:List (Int))))) fun y1 =>
 match (Option.map (fun val=>((val.1,(val.2,())),())) y1.1.1) with
 | none=>some (((Option.getD (mlook a0.stmts a1) (Stmt.mk ([]:Bs) ([]:List (Int)))),(none,())),(y1.2.1,()))
 | some y2 =>
 some (((Option.getD (mlook a0.stmts a1) (Stmt.mk ([]:Bs) ([]:List (Int)))),((some (y2.1.1,y2.1.2.1)),())),(y1.2.1,()))
noncomputable def c_seStmt:Go.RK.Fn Tryz.prog 138:=mkFn hm0 en0 (by kernel_rfl) [67,9] [206,153] (tC (qSe (nu 0)) (tC (qS (nu 6)) tNil)) (tC (qSt (nu 6)) (tC (qEr (nu 6)) tNil)) (tC (qSe (nl [0,1,2,3,4,5])) tNil) 6 6 (natX_ok c_seStop (natX_ok c_tMissing (natX_ok c_seAborted (nat0_ok _)))) [] (by kernel_rfl) (fun x=>f_seStmt x.1 x.2.1) fun x=>by kernel_rfl
noncomputable def f_seParse (a0:Session) (a1:Front):Option ((List (Back) × (Option ((Bs × Bs)) × Unit)) × (Session × Unit)) :=
 bif decide (a1.name=([]:Bs)) then
  bnd (f_seRefused { a0 with stmts:=(mdel a0.stmts ([]:Bs)) } a1.text) fun y0 =>
  match (Option.map (fun val=>((val.1,(val.2,())),())) y0.1.1) with
  | none=>bif (Option.isSome (mlook y0.2.1.stmts a1.name)) then
    bnd (f_tExists a1.name) fun y2 =>
    some ((([]:List (Back)),((some ([(52:UInt8),(50:UInt8),(80:UInt8),(48:UInt8),(53:UInt8)],y2.1.1)),())),(y0.2.1,()))
   else bnd (f_clInt a1.oids) fun y3 =>
   some (([(Back.mk (UInt8.ofNat 49) (UInt8.ofNat (Int.toNat (0:Int))) ([]:Bs) ([]:Bs) ([]:Bs) (0:Int) (0:Int) ([]:List (Int)) ([]:List (Col)) ([]:List (Cell)) ([]:List (Field)))],(none,())),({ y0.2.1 with stmts:=(mput y0.2.1.stmts a1.name (Stmt.mk a1.text y3)) },()))
  | some y1 =>
  some ((([]:List (Back)),((some (y1.1.1,y1.1.2.1)),())),(y0.2.1,()))
 else bnd (f_seRefused a0 a1.text) fun y4 =>
 match (Option.map (fun val=>((val.1,(val.2,())),())) y4.1.1) with
 | none=>bif (Option.isSome (mlook y4.2.1.stmts a1.name)) then
   bnd (f_tExists a1.name) fun y6 =>
   some ((([]:List (Back)),((some ([(52:UInt8),(50:UInt8),(80:UInt8),(48:UInt8),(53:UInt8)],y6.1.1)),())),(y4.2.1,()))
  else bnd (f_clInt a1.oids) fun y7 =>
  some (([(Back.mk (UInt8.ofNat 49) (UInt8.ofNat (Int.toNat (0:Int))) ([]:Bs) ([]:Bs) ([]:Bs) (0:Int) (0:Int) ([]:List (Int)) ([]:List (Col)) ([]:List (Cell)) ([]:List (Field)))],(none,())),({ y4.2.1 with stmts:=(mput y4.2.1.stmts a1.name (Stmt.mk a1.text y7)) },()))
 | some y5 =>
 some ((([]:List (Back)),((some (y5.1.1,y5.1.2.1)),())),(y4.2.1,()))
noncomputable def c_seParse:Go.RK.Fn Tryz.prog 103:=mkFn hm0 en0 (by kernel_rfl) [67,119] [45,153] (tC (qSe (nu 0)) (tC (qFt (nu 6)) tNil)) (tC (qO .back 78 (nu 6)) (tC (qEr (nu 7)) tNil)) (tC (qSe (nl [0,1,2,3,4,5])) tNil) 6 7 (natX_ok c_seRefused (natX_ok c_seStop (natX_ok c_tExists (natX_ok c_clInt (natX_ok c_plain (nat0_ok _)))))) [] (by kernel_rfl) (fun x=>f_seParse x.1 x.2.1) fun x=>by kernel_rfl
noncomputable def f_seShape (a0:Stmt):Option ((Back × Unit) × Unit) :=
 bnd (f_sqlParse a0.text) fun y0 =>
 bnd (f_sqlRows y0.1.1) fun y1 =>
 bif (!y1.1.1) then
  some (((Back.mk (UInt8.ofNat 110) (UInt8.ofNat 0) ([]:Bs) ([]:Bs) ([]:Bs) (0:Int) (0:Int) ([]:List (Int)) ([]:List (Col)) ([]:List (Cell)) ([]:List (Field))),()),())
 else bnd (f_sqlColumns y0.1.1 (Int.ofNat (List.length a0.oids))) fun y2 =>
 bnd (f_coDescribe y2.1.1) fun y3 =>
 some ((y3.1.1,()),())
noncomputable def c_seShape:Go.RK.Fn Tryz.prog 142:=mkFn hm0 en0 (by kernel_rfl) [206] [78] (tC (qSt (nu 0)) tNil) (tC (qBk (nu 0)) tNil) tNil 0 0 (natX_ok c_sqlParse (natX_ok c_sqlRows (natX_ok c_coDescribe (natX_ok c_sqlColumns (nat0_ok _))))) [] (by kernel_rfl) (fun x=>f_seShape x.1) fun x=>by kernel_rfl
noncomputable def f_seBind (a0:Session) (a1:Front):Option ((List (Back) × (Option ((Bs × Bs)) × Unit)) × (Session × Unit)) :=
 bnd (f_seStmt a0 a1.name) fun y0 =>
 match (Option.map (fun val=>((val.1,(val.2,())),())) y0.1.2.1) with
 | none=>bif (!decide ((Int.ofNat (List.length a1.params))=(Int.ofNat (List.length y0.1.1.oids)))) then
   bnd (f_tArity (Int.ofNat (List.length a1.params)) a1.name (Int.ofNat (List.length y0.1.1.oids))) fun y2 =>
   some ((([]:List (Back)),((some ([(48:UInt8),(56:UInt8),(80:UInt8),(48:UInt8),(49:UInt8)],y2.1.1)),())),(y0.2.1,()))
  else bnd (f_poPut y0.2.1.portals a1.portal (Portal.mk y0.1.1 a1.params ([]:List (List (Cell))) false false)) fun y3 =>
  bif (!decide (y3.1.1=(0:Int))) then
   bnd (f_tCursor a1.portal) fun y4 =>
   some ((([]:List (Back)),((some ([(52:UInt8),(50:UInt8),(80:UInt8),(48:UInt8),(51:UInt8)],y4.1.1)),())),({ y0.2.1 with portals:=y3.2.1 },()))
  else some (([(Back.mk (UInt8.ofNat 50) (UInt8.ofNat (Int.toNat (0:Int))) ([]:Bs) ([]:Bs) ([]:Bs) (0:Int) (0:Int) ([]:List (Int)) ([]:List (Col)) ([]:List (Cell)) ([]:List (Field)))],(none,())),({ y0.2.1 with portals:=y3.2.1 },()))
 | some y1 =>
 some ((([]:List (Back)),((some (y1.1.1,y1.1.2.1)),())),(y0.2.1,()))
noncomputable def c_seBind:Go.RK.Fn Tryz.prog 104:=mkFn hm0 en0 (by kernel_rfl) [67,119] [45,153] (tC (qSe (nu 0)) (tC (qFt (nu 6)) tNil)) (tC (qO .back 78 (nu 6)) (tC (qEr (nu 7)) tNil)) (tC (qSe (nl [0,1,2,3,4,5])) tNil) 6 7 (natX_ok c_seStop (natX_ok c_plain (natX_ok c_seStmt (natX_ok c_tArity (natX_ok c_poPut (natX_ok c_tCursor (nat0_ok _))))))) [] (by kernel_rfl) (fun x=>f_seBind x.1 x.2.1) fun x=>by kernel_rfl
noncomputable def f_sePortal (a0:Session) (a1:Bs):Option ((Portal × (Option ((Bs × Bs)) × Unit)) × (Session × Unit)) :=
 bnd (f_poGet a0.portals a1) fun y0 =>
 bif (!y0.1.2.1) then
  bnd (f_tPortal a1) fun y1 =>
  some (((Portal.mk (Stmt.mk ([]:Bs) ([]:List (Int))) ([]:List (Cell)) ([]:List (List (Cell))) false false),((some ([(51:UInt8),(52:UInt8),(48:UInt8),(48:UInt8),(48:UInt8)],y1.1.1)),())),({ a0 with portals:=y0.2.1 },()))
 else bnd (f_seAborted { a0 with portals:=y0.2.1 } y0.1.1.stmt) fun y2 =>
 match (Option.map (fun val=>((val.1,(val.2,())),())) y2.1.1) with
 | none=>some ((y0.1.1,(none,())),(y2.2.1,()))
 | some y3 =>
 some ((y0.1.1,((some (y3.1.1,y3.1.2.1)),())),(y2.2.1,()))
noncomputable def c_sePortal:Go.RK.Fn Tryz.prog 143:=mkFn hm0 en0 (by kernel_rfl) [67,9] [218,153] (tC (qSe (nu 0)) (tC (qS (nu 6)) tNil)) (tC (qPo (nu 6)) (tC (qEr (nu 6)) tNil)) (tC (qSe (nl [0,1,2,3,4,5])) tNil) 6 6 (natX_ok c_seStop (natX_ok c_seAborted (natX_ok c_poGet (natX_ok c_tPortal (nat0_ok _))))) [] (by kernel_rfl) (fun x=>f_sePortal x.1 x.2.1) fun x=>by kernel_rfl
noncomputable def f_seDescribe (a0:Session) (a1:Front):Option ((List (Back) × (Option ((Bs × Bs)) × Unit)) × (Session × Unit)) :=
 bif decide ((Int.ofNat (UInt8.toNat a1.what))=(83:Int)) then
  bnd (f_seStmt a0 a1.name) fun y0 =>
  match (Option.map (fun val=>((val.1,(val.2,())),())) y0.1.2.1) with
  | none=>bnd (f_clInt y0.1.1.oids) fun y2 =>
   bnd (f_seShape y0.1.1) fun y3 =>
   some (([(Back.mk (UInt8.ofNat (Int.toNat (116:Int))) (UInt8.ofNat (Int.toNat (0:Int))) ([]:Bs) ([]:Bs) ([]:Bs) (0:Int) (0:Int) y2 ([]:List (Col)) ([]:List (Cell)) ([]:List (Field))),y3.1.1],(none,())),(y0.2.1,()))
  | some y1 =>
  some ((([]:List (Back)),((some (y1.1.1,y1.1.2.1)),())),(y0.2.1,()))
 else bnd (f_sePortal a0 a1.portal) fun y4 =>
 match (Option.map (fun val=>((val.1,(val.2,())),())) y4.1.2.1) with
 | none=>bnd (f_seShape y4.1.1.stmt) fun y6 =>
  some (([y6.1.1],(none,())),(y4.2.1,()))
 | some y5 =>
 some ((([]:List (Back)),((some (y5.1.1,y5.1.2.1)),())),(y4.2.1,()))
noncomputable def c_seDescribe:Go.RK.Fn Tryz.prog 105:=mkFn hm0 en0 (by kernel_rfl) [67,119] [45,153] (tC (qSe (nu 0)) (tC (qFt (nu 6)) tNil)) (tC (qO .back 78 (nu 6)) (tC (qEr (nu 7)) tNil)) (tC (qSe (nl [0,1,2,3,4,5])) tNil) 6 7 (natX_ok c_clInt (natX_ok c_seStmt (natX_ok c_seShape (natX_ok c_sePortal (nat0_ok _))))) [] (by kernel_rfl) (fun x=>f_seDescribe x.1 x.2.1) fun x=>by kernel_rfl
noncomputable def s_seRows_0 (l:List (List (Cell))) (more:Bool) (out:List (Back)) (t8:List (List (Cell))) (t9:Int) (t10:Int):Option ((List (List (Cell)) × (Bool × (List (Back) × (List (List (Cell)) × (Int × (Int × Unit)))))) ⊕ (List (List (Cell)) × (Bool × (List (Back) × Unit)))) :=
 bif (ltI t10 t9) then
  bif (inB t10 (List.length t8)) then
   bnd (f_colsRow (getU (t:=Tm.cells) t8 t10)) fun y1 =>
   bif (Nat.ble (((List.length out)+(List.length [y1.1.1])) * (168:Nat)) (140737488355328:Nat)) then
    bif (inR (t10+(1:Int))) then
     some (.inl (l,(more,((out++[y1.1.1]),(t8,(t9,((t10+(1:Int)),())))))))
    else none
   else none
  else none
 else some (.inr (l,(more,(out,()))))
noncomputable def l_seRows_0:Lp Tryz.prog:=mkLp (P:=Tryz.prog) [0,1,5,8,9,10] [216,4,45,216,3,3] 1 [] (tC (tRow Tm.cells) (tC tBool (tC (tOwn 0 Tm.back 78) (tC (tRow Tm.cells) (tC tI (tC tI tNil)))))) [⟨.exit 0,[0,1,5],[216,4,45],2,(tC (tRow Tm.cells) (tC tBool (tC (tOwn 1 Tm.back 78) tNil)))⟩] (fun x=>s_seRows_0 x.1 x.2.1 x.2.2.1 x.2.2.2.1 x.2.2.2.2.1 x.2.2.2.2.2.1)
noncomputable def u_seRows_0 (l:List (List (Cell))) (more:Bool) (out:List (Back)) (t8:List (List (Cell))) (t9:Int) (t10:Int):Nat:=Int.toNat (t9 - t10)+1
noncomputable def k_seRows_0:Lk Tryz.prog 148 0:=mkLk hm0 en0 l_seRows_0 0 (fun x=>u_seRows_0 x.1 x.2.1 x.2.2.1 x.2.2.2.1 x.2.2.2.2.1 x.2.2.2.2.2.1) (natX_ok c_colsRow (natX_ok c_coTag (nat0_ok _))) [] (by kernel_rfl) fun x=>by kernel_rfl
noncomputable def f_seRows (a0:List (List (Cell))) (a1:Bool):Option ((List (Back) × Unit) × Unit) :=
 bnd (lpF l_seRows_0.step (u_seRows_0 a0 a1 ([]:List (Back)) a0 (Int.ofNat (List.length a0)) (0:Int)) (a0,(a1,(([]:List (Back)),(a0,((Int.ofNat (List.length a0)),((0:Int),()))))))) fun y0 =>
 bif y0.2.1 then
  bif (Nat.ble (((List.length y0.2.2.1)+(List.length [(Back.mk (UInt8.ofNat (Int.toNat (115:Int))) (UInt8.ofNat (Int.toNat (0:Int))) ([]:Bs) ([]:Bs) ([]:Bs) (0:Int) (0:Int) ([]:List (Int)) ([]:List (Col)) ([]:List (Cell)) ([]:List (Field)))])) * (168:Nat)) (140737488355328:Nat)) then
   some (((y0.2.2.1++[(Back.mk (UInt8.ofNat (Int.toNat (115:Int))) (UInt8.ofNat (Int.toNat (0:Int))) ([]:Bs) ([]:Bs) ([]:Bs) (0:Int) (0:Int) ([]:List (Int)) ([]:List (Col)) ([]:List (Cell)) ([]:List (Field)))]),()),())
  else none
 else bnd (f_coTag (Int.ofNat (List.length y0.1))) fun y1 =>
 bif (Nat.ble (((List.length y0.2.2.1)+(List.length [(Back.mk (UInt8.ofNat (Int.toNat (67:Int))) (UInt8.ofNat (Int.toNat (0:Int))) y1.1.1 ([]:Bs) ([]:Bs) (0:Int) (0:Int) ([]:List (Int)) ([]:List (Col)) ([]:List (Cell)) ([]:List (Field)))])) * (168:Nat)) (140737488355328:Nat)) then
  some (((y0.2.2.1++[(Back.mk (UInt8.ofNat (Int.toNat (67:Int))) (UInt8.ofNat (Int.toNat (0:Int))) y1.1.1 ([]:Bs) ([]:Bs) (0:Int) (0:Int) ([]:List (Int)) ([]:List (Col)) ([]:List (Cell)) ([]:List (Field)))]),()),())
 else none
noncomputable def c_seRows:Go.RK.Fn Tryz.prog 148:=mkFn hm0 en0 (by kernel_rfl) [216,4] [45] (tC (qR .cells (nu 0)) (tC (qB (nu 0)) tNil)) (tC (qO .back 78 (nu 0)) tNil) tNil 0 1 (natX_ok c_colsRow (natX_ok c_coTag (nat0_ok _))) [⟨_,k_seRows_0⟩] (by kernel_rfl) (fun x=>f_seRows x.1 x.2.1) fun x=>by kernel_rfl
noncomputable def f_seTurn (a0:Session) (a1:Verb):Option ((List (Back) × (Option ((Bs × Bs)) × Unit)) × (Session × Unit)) :=
 bif decide (a1.kind=(1:Int)) then
  some (([(Back.mk (UInt8.ofNat 73) (UInt8.ofNat (Int.toNat (0:Int))) ([]:Bs) ([]:Bs) ([]:Bs) (0:Int) (0:Int) ([]:List (Int)) ([]:List (Col)) ([]:List (Cell)) ([]:List (Field)))],(none,())),(a0,()))
 else bif decide (a1.kind=(8:Int)) then
  some ((([]:List (Back)),((some (a1.code,[(102:UInt8),(97:UInt8),(105:UInt8),(108:UInt8),(101:UInt8),(100:UInt8),(32:UInt8),(111:UInt8),(110:UInt8),(32:UInt8),(112:UInt8),(117:UInt8),(114:UInt8),(112:UInt8),(111:UInt8),(115:UInt8),(101:UInt8)])),())),(a0,()))
 else bnd (f_txNext a0.status a1) fun y0 =>
 bnd (f_sqlExit a1) fun y1 =>
 bif y1.1.1 then
  some (([(Back.mk (UInt8.ofNat (Int.toNat (67:Int))) (UInt8.ofNat (Int.toNat (0:Int))) y0.1.2.1 ([]:Bs) ([]:Bs) (0:Int) (0:Int) ([]:List (Int)) ([]:List (Col)) ([]:List (Cell)) ([]:List (Field)))],(none,())),({ a0 with portals:=([]:List ((Bs × Portal))),status:=y0.1.1 },()))
 else some (([(Back.mk (UInt8.ofNat (Int.toNat (67:Int))) (UInt8.ofNat (Int.toNat (0:Int))) y0.1.2.1 ([]:Bs) ([]:Bs) (0:Int) (0:Int) ([]:List (Int)) ([]:List (Col)) ([]:List (Cell)) ([]:List (Field)))],(none,())),({ a0 with status:=y0.1.1 },()))
noncomputable def c_seTurn:Go.RK.Fn Tryz.prog 150:=mkFn hm0 en0 (by kernel_rfl) [67,223] [45,153] (tC (qSe (nu 0)) (tC (qVe (nu 6)) tNil)) (tC (qO .back 78 (nu 6)) (tC (qEr (nu 7)) tNil)) (tC (qSe (nl [0,1,2,3,4,5])) tNil) 6 7 (natX_ok c_poClear (natX_ok c_seStop (natX_ok c_plain (natX_ok c_txNext (natX_ok c_sqlExit (nat0_ok _)))))) [] (by kernel_rfl) (fun x=>f_seTurn x.1 x.2.1) fun x=>by kernel_rfl
noncomputable def f_seExecute (a0:Session) (a1:Front):Option ((List (Back) × (Option ((Bs × Bs)) × Unit)) × (Session × Unit)) :=
 bnd (f_sePortal a0 a1.portal) fun y0 =>
 match (Option.map (fun val=>((val.1,(val.2,())),())) y0.1.2.1) with
 | none=>bnd (f_sqlParse y0.1.1.stmt.text) fun y2 =>
  bnd (f_sqlRows y2.1.1) fun y3 =>
  bif y3.1.1 then
   bif (!y0.1.1.ran) then
    bnd (f_enRows y0.2.1.engine y2.1.1 y0.1.1.params) fun y4 =>
    bnd (f_poRan y0.2.1.portals a1.portal y4.1.1) fun y5 =>
    bnd (f_poFetch y5.2.1 a1.portal a1.max) fun y6 =>
    bnd (f_seRows y6.1.1 y6.1.2.1) fun y7 =>
    some ((y7.1.1,(none,())),({ y0.2.1 with portals:=y6.2.1,engine:=y4.2.1 },()))
   else bnd (f_poFetch y0.2.1.portals a1.portal a1.max) fun y8 =>
   bnd (f_seRows y8.1.1 y8.1.2.1) fun y9 =>
   some ((y9.1.1,(none,())),({ y0.2.1 with portals:=y8.2.1 },()))
  else bif y0.1.1.ran then
   bif (!decide (y2.1.1.kind=(1:Int))) then
    some ((([]:List (Back)),((some ([(53:UInt8),(53:UInt8),(48:UInt8),(48:UInt8),(48:UInt8)],[(112:UInt8),(111:UInt8),(114:UInt8),(116:UInt8),(97:UInt8),(108:UInt8),(32:UInt8),(99:UInt8),(97:UInt8),(110:UInt8),(110:UInt8),(111:UInt8),(116:UInt8),(32:UInt8),(98:UInt8),(101:UInt8),(32:UInt8),(114:UInt8),(117:UInt8),(110:UInt8)])),())),(y0.2.1,()))
   else bnd (f_seTurn y0.2.1 y2.1.1) fun y10 =>
   match (Option.map (fun val=>((val.1,(val.2,())),())) y10.1.2.1) with
   | none=>bnd (f_poRan y10.2.1.portals a1.portal ([]:List (List (Cell)))) fun y12 =>
    some ((y10.1.1,(none,())),({ y10.2.1 with portals:=y12.2.1 },()))
   | some y11 =>
   some ((y10.1.1,((some (y11.1.1,y11.1.2.1)),())),(y10.2.1,()))
  else bnd (f_seTurn y0.2.1 y2.1.1) fun y13 =>
  match (Option.map (fun val=>((val.1,(val.2,())),())) y13.1.2.1) with
  | none=>bnd (f_poRan y13.2.1.portals a1.portal ([]:List (List (Cell)))) fun y15 =>
   some ((y13.1.1,(none,())),({ y13.2.1 with portals:=y15.2.1 },()))
  | some y14 =>
  some ((y13.1.1,((some (y14.1.1,y14.1.2.1)),())),(y13.2.1,()))
 | some y1 =>
 some ((([]:List (Back)),((some (y1.1.1,y1.1.2.1)),())),(y0.2.1,()))
noncomputable def c_seExecute:Go.RK.Fn Tryz.prog 106:=mkFn hm0 en0 (by kernel_rfl) [67,119] [45,153] (tC (qSe (nu 0)) (tC (qFt (nu 6)) tNil)) (tC (qO .back 78 (nu 6)) (tC (qEr (nu 7)) tNil)) (tC (qSe (nl [0,1,2,3,4,5])) tNil) 6 7 (natX_ok c_seStop (natX_ok c_sePortal (natX_ok c_sqlParse (natX_ok c_sqlRows (natX_ok c_poRan (natX_ok c_enRows (natX_ok c_seRows (natX_ok c_poFetch (natX_ok c_seTurn (nat0_ok _)))))))))) [] (by kernel_rfl) (fun x=>f_seExecute x.1 x.2.1) fun x=>by kernel_rfl
noncomputable def f_seShut (a0:Session) (a1:Front):Option ((List (Back) × (Option ((Bs × Bs)) × Unit)) × (Session × Unit)) :=
 bif decide ((Int.ofNat (UInt8.toNat a1.what))=(83:Int)) then
  some (([(Back.mk (UInt8.ofNat 51) (UInt8.ofNat (Int.toNat (0:Int))) ([]:Bs) ([]:Bs) ([]:Bs) (0:Int) (0:Int) ([]:List (Int)) ([]:List (Col)) ([]:List (Cell)) ([]:List (Field)))],(none,())),({ a0 with stmts:=(mdel a0.stmts a1.name) },()))
 else bnd (f_poDelete a0.portals a1.portal) fun y0 =>
 some (([(Back.mk (UInt8.ofNat 51) (UInt8.ofNat (Int.toNat (0:Int))) ([]:Bs) ([]:Bs) ([]:Bs) (0:Int) (0:Int) ([]:List (Int)) ([]:List (Col)) ([]:List (Cell)) ([]:List (Field)))],(none,())),({ a0 with portals:=y0.2.1 },()))
noncomputable def c_seShut:Go.RK.Fn Tryz.prog 107:=mkFn hm0 en0 (by kernel_rfl) [67,119] [45,153] (tC (qSe (nu 0)) (tC (qFt (nu 6)) tNil)) (tC (qO .back 78 (nu 6)) (tC (qEr (nu 7)) tNil)) (tC (qSe (nl [0,1,2,3,4,5])) tNil) 6 7 (natX_ok c_plain (natX_ok c_poDelete (nat0_ok _))) [] (by kernel_rfl) (fun x=>f_seShut x.1 x.2.1) fun x=>by kernel_rfl
noncomputable def f_seQuery (a0:Session) (a1:Front):Option ((List (Back) × (Option ((Bs × Bs)) × Unit)) × (Session × Unit)) :=
 bnd (f_poDelete a0.portals ([]:Bs)) fun y0 =>
 bnd (f_seRefused { a0 with stmts:=(mdel a0.stmts ([]:Bs)),portals:=y0.2.1 } a1.text) fun y1 =>
 match (Option.map (fun val=>((val.1,(val.2,())),())) y1.1.1) with
 | none=>bnd (f_sqlParse a1.text) fun y3 =>
  bnd (f_sqlRows y3.1.1) fun y4 =>
  bif (!y4.1.1) then
   bnd (f_seTurn y1.2.1 y3.1.1) fun y5 =>
   match (Option.map (fun val=>((val.1,(val.2,())),())) y5.1.2.1) with
   | none=>some ((y5.1.1,(none,())),(y5.2.1,()))
   | some y6 =>
   some ((y5.1.1,((some (y6.1.1,y6.1.2.1)),())),(y5.2.1,()))
  else bnd (f_sqlColumns y3.1.1 (0:Int)) fun y7 =>
  bnd (f_coDescribe y7.1.1) fun y8 =>
  bnd (f_enRows y1.2.1.engine y3.1.1 ([]:List (Cell))) fun y9 =>
  bnd (f_seRows y9.1.1 false) fun y10 =>
  bif (Nat.ble (((List.length [y8.1.1])+(List.length y10.1.1)) * (168:Nat)) (140737488355328:Nat)) then
   some ((([y8.1.1]++y10.1.1),(none,())),({ y1.2.1 with engine:=y9.2.1 },()))
  else none
 | some y2 =>
 some ((([]:List (Back)),((some (y2.1.1,y2.1.2.1)),())),(y1.2.1,()))
noncomputable def c_seQuery:Go.RK.Fn Tryz.prog 108:=mkFn hm0 en0 (by kernel_rfl) [67,119] [45,153] (tC (qSe (nu 0)) (tC (qFt (nu 6)) tNil)) (tC (qO .back 78 (nu 6)) (tC (qEr (nu 7)) tNil)) (tC (qSe (nl [0,1,2,3,4,5])) tNil) 6 7 (natX_ok c_seRefused (natX_ok c_sqlParse (natX_ok c_sqlRows (natX_ok c_enRows (natX_ok c_seRows (natX_ok c_seTurn (natX_ok c_poDelete (natX_ok c_coDescribe (natX_ok c_sqlColumns (nat0_ok _)))))))))) [] (by kernel_rfl) (fun x=>f_seQuery x.1 x.2.1) fun x=>by kernel_rfl
noncomputable def f_seDeal (a0:Session) (a1:Front):Option ((List (Back) × (Option ((Bs × Bs)) × Unit)) × (Session × Unit)) :=
 bif decide ((Int.ofNat (UInt8.toNat a1.kind))=(80:Int)) then
  bnd (f_seParse a0 a1) fun y0 =>
  match (Option.map (fun val=>((val.1,(val.2,())),())) y0.1.2.1) with
  | none=>some ((y0.1.1,(none,())),(y0.2.1,()))
  | some y1 =>
  some ((y0.1.1,((some (y1.1.1,y1.1.2.1)),())),(y0.2.1,()))
 else bif decide ((Int.ofNat (UInt8.toNat a1.kind))=(66:Int)) then
  bnd (f_seBind a0 a1) fun y2 =>
  match (Option.map (fun val=>((val.1,(val.2,())),())) y2.1.2.1) with
  | none=>some ((y2.1.1,(none,())),(y2.2.1,()))
  | some y3 =>
  some ((y2.1.1,((some (y3.1.1,y3.1.2.1)),())),(y2.2.1,()))
 else bif decide ((Int.ofNat (UInt8.toNat a1.kind))=(68:Int)) then
  bnd (f_seDescribe a0 a1) fun y4 =>
  match (Option.map (fun val=>((val.1,(val.2,())),())) y4.1.2.1) with
  | none=>some ((y4.1.1,(none,())),(y4.2.1,()))
  | some y5 =>
  some ((y4.1.1,((some (y5.1.1,y5.1.2.1)),())),(y4.2.1,()))
 else bif decide ((Int.ofNat (UInt8.toNat a1.kind))=(69:Int)) then
  bnd (f_seExecute a0 a1) fun y6 =>
  match (Option.map (fun val=>((val.1,(val.2,())),())) y6.1.2.1) with
  | none=>some ((y6.1.1,(none,())),(y6.2.1,()))
  | some y7 =>
  some ((y6.1.1,((some (y7.1.1,y7.1.2.1)),())),(y6.2.1,()))
 else bif decide ((Int.ofNat (UInt8.toNat a1.kind))=(67:Int)) then
  bnd (f_seShut a0 a1) fun y8 =>
  match (Option.map (fun val=>((val.1,(val.2,())),())) y8.1.2.1) with
  | none=>some ((y8.1.1,(none,())),(y8.2.1,()))
  | some y9 =>
  some ((y8.1.1,((some (y9.1.1,y9.1.2.1)),())),(y8.2.1,()))
 else bif decide ((Int.ofNat (UInt8.toNat a1.kind))=(81:Int)) then
  bnd (f_seQuery a0 a1) fun y10 =>
  match (Option.map (fun val=>((val.1,(val.2,())),())) y10.1.2.1) with
  | none=>some ((y10.1.1,(none,())),(y10.2.1,()))
  | some y11 =>
  some ((y10.1.1,((some (y11.1.1,y11.1.2.1)),())),(y10.2.1,()))
 else some ((([]:List (Back)),(none,())),(a0,()))
noncomputable def c_seDeal:Go.RK.Fn Tryz.prog 83:=mkFn hm0 en0 (by kernel_rfl) [67,119] [45,153] (tC (qSe (nu 0)) (tC (qFt (nu 6)) tNil)) (tC (qO .back 78 (nu 6)) (tC (qEr (nu 7)) tNil)) (tC (qSe (nl [0,1,2,3,4,5])) tNil) 6 7 (natX_ok c_seParse (natX_ok c_seBind (natX_ok c_seDescribe (natX_ok c_seExecute (natX_ok c_seShut (natX_ok c_seQuery (nat0_ok _))))))) [] (by kernel_rfl) (fun x=>f_seDeal x.1 x.2.1) fun x=>by kernel_rfl
noncomputable def f_seFailed (a0:Session) (a1:(Bs × (Bs × Unit))):Option ((Back × Unit) × (Session × Unit)) :=
 bnd (f_txFail a0.status) fun y0 =>
 bif decide ((Int.ofNat (UInt8.toNat y0.1.1))=(69:Int)) then
  some (((Back.mk (UInt8.ofNat (69:Nat)) (UInt8.ofNat (0:Nat)) ([]:Bs) ([]:Bs) ([]:Bs) (0:Int) (0:Int) ([]:List (Int)) ([]:List (Col)) ([]:List (Cell)) ((((([]:List (Field))++[(Field.mk (getU (t:=Tm.by) [(UInt8.ofNat (Int.toNat (83:Int))),(UInt8.ofNat (Int.toNat (86:Int))),(UInt8.ofNat (Int.toNat (67:Int))),(UInt8.ofNat (Int.toNat (77:Int)))] (Int.ofNat (Int.toNat (0:Int)))) [(69:UInt8),(82:UInt8),(82:UInt8),(79:UInt8),(82:UInt8)])])++[(Field.mk (getU (t:=Tm.by) [(UInt8.ofNat (Int.toNat (83:Int))),(UInt8.ofNat (Int.toNat (86:Int))),(UInt8.ofNat (Int.toNat (67:Int))),(UInt8.ofNat (Int.toNat (77:Int)))] (Int.ofNat (Int.toNat ((0:Int)+(1:Int))))) [(69:UInt8),(82:UInt8),(82:UInt8),(79:UInt8),(82:UInt8)])])++[(Field.mk (getU (t:=Tm.by) [(UInt8.ofNat (Int.toNat (83:Int))),(UInt8.ofNat (Int.toNat (86:Int))),(UInt8.ofNat (Int.toNat (67:Int))),(UInt8.ofNat (Int.toNat (77:Int)))] (Int.ofNat (Int.toNat (((0:Int)+(1:Int))+(1:Int))))) a1.1)])++[(Field.mk (getU (t:=Tm.by) [(UInt8.ofNat (Int.toNat (83:Int))),(UInt8.ofNat (Int.toNat (86:Int))),(UInt8.ofNat (Int.toNat (67:Int))),(UInt8.ofNat (Int.toNat (77:Int)))] (Int.ofNat (Int.toNat ((((0:Int)+(1:Int))+(1:Int))+(1:Int))))) a1.2.1)])),()),({ a0 with portals:=([]:List ((Bs × Portal))),status:=y0.1.1 },()))
 else some (((Back.mk (UInt8.ofNat (69:Nat)) (UInt8.ofNat (0:Nat)) ([]:Bs) ([]:Bs) ([]:Bs) (0:Int) (0:Int) ([]:List (Int)) ([]:List (Col)) ([]:List (Cell)) ((((([]:List (Field))++[(Field.mk (getU (t:=Tm.by) [(UInt8.ofNat (Int.toNat (83:Int))),(UInt8.ofNat (Int.toNat (86:Int))),(UInt8.ofNat (Int.toNat (67:Int))),(UInt8.ofNat (Int.toNat (77:Int)))] (Int.ofNat (Int.toNat (0:Int)))) [(69:UInt8),(82:UInt8),(82:UInt8),(79:UInt8),(82:UInt8)])])++[(Field.mk (getU (t:=Tm.by) [(UInt8.ofNat (Int.toNat (83:Int))),(UInt8.ofNat (Int.toNat (86:Int))),(UInt8.ofNat (Int.toNat (67:Int))),(UInt8.ofNat (Int.toNat (77:Int)))] (Int.ofNat (Int.toNat ((0:Int)+(1:Int))))) [(69:UInt8),(82:UInt8),(82:UInt8),(79:UInt8),(82:UInt8)])])++[(Field.mk (getU (t:=Tm.by) [(UInt8.ofNat (Int.toNat (83:Int))),(UInt8.ofNat (Int.toNat (86:Int))),(UInt8.ofNat (Int.toNat (67:Int))),(UInt8.ofNat (Int.toNat (77:Int)))] (Int.ofNat (Int.toNat (((0:Int)+(1:Int))+(1:Int))))) a1.1)])++[(Field.mk (getU (t:=Tm.by) [(UInt8.ofNat (Int.toNat (83:Int))),(UInt8.ofNat (Int.toNat (86:Int))),(UInt8.ofNat (Int.toNat (67:Int))),(UInt8.ofNat (Int.toNat (77:Int)))] (Int.ofNat (Int.toNat ((((0:Int)+(1:Int))+(1:Int))+(1:Int))))) a1.2.1)])),()),({ a0 with status:=y0.1.1 },()))
noncomputable def c_seFailed:Go.RK.Fn Tryz.prog 85:=mkFn hm0 en0 (by kernel_rfl) [67,157] [78] (tC (qSe (nu 0)) (tC ((fun _=>tAgg (tC tStr (tC tStr tNil))) (nu 6)) tNil)) (tC (qBk (nu 6)) tNil) (tC (qSe (nl [0,1,2,3,4,5])) tNil) 6 6 (natX_ok c_poClear (natX_ok c_txFail (natX_ok c_ftError (nat0_ok _)))) [] (by kernel_rfl) (fun x=>f_seFailed x.1 x.2.1) fun x=>by kernel_rfl
noncomputable def f_seDo (a0:Session) (a1:Front):Option ((List (Back) × Unit) × (Session × Unit)) :=
 bif (!(!a0.over)) then
  some ((([]:List (Back)),()),(a0,()))
 else bif decide ((Int.ofNat (UInt8.toNat a1.kind))=(88:Int)) then
  some ((([]:List (Back)),()),({ a0 with over:=true },()))
 else bif decide ((Int.ofNat (UInt8.toNat a1.kind))=(83:Int)) then
  bnd (f_seSync { a0 with skips:=false }) fun y0 =>
  some (([y0.1.1],()),(y0.2.1,()))
 else bif a0.skips then
  some ((([]:List (Back)),()),(a0,()))
 else bnd (f_seDeal a0 a1) fun y1 =>
 match (Option.map (fun val=>((val.1,(val.2,())),())) y1.1.2.1) with
 | none=>bif decide ((Int.ofNat (UInt8.toNat a1.kind))=(81:Int)) then
   bnd (f_seSync y1.2.1) fun y5 =>
   bif (Nat.ble (((List.length y1.1.1)+(List.length [y5.1.1])) * (168:Nat)) (140737488355328:Nat)) then
    some (((y1.1.1++[y5.1.1]),()),(y5.2.1,()))
   else none
  else some ((y1.1.1,()),(y1.2.1,()))
 | some y2 =>
 bnd (f_seFailed { y1.2.1 with skips:=(!decide ((Int.ofNat (UInt8.toNat a1.kind))=(81:Int))) } (y2.1.1,(y2.1.2.1,()))) fun y3 =>
 bif (Nat.ble (((List.length y1.1.1)+(List.length [y3.1.1])) * (168:Nat)) (140737488355328:Nat)) then
  bif decide ((Int.ofNat (UInt8.toNat a1.kind))=(81:Int)) then
   bnd (f_seSync y3.2.1) fun y4 =>
   bif (Nat.ble (((List.length (y1.1.1++[y3.1.1]))+(List.length [y4.1.1])) * (168:Nat)) (140737488355328:Nat)) then
    some ((((y1.1.1++[y3.1.1])++[y4.1.1]),()),(y4.2.1,()))
   else none
  else some (((y1.1.1++[y3.1.1]),()),(y3.2.1,()))
 else none
noncomputable def c_seDo:Go.RK.Fn Tryz.prog 62:=mkFn hm0 en0 (by kernel_rfl) [67,119] [45] (tC (qSe (nu 0)) (tC (qFt (nu 6)) tNil)) (tC (qO .back 78 (nu 6)) tNil) (tC (qSe (nl [0,1,2,3,4,5])) tNil) 6 7 (natX_ok c_seReady (natX_ok c_seSync (natX_ok c_seDeal (n_as_ok (natX_ok c_seFailed (nat0_ok _)))))) [] (by kernel_rfl) (fun x=>f_seDo x.1 x.2.1) fun x=>by kernel_rfl
end Go.Proofs.YtjgeofdgdlmcoaaGreatDoor
namespace Go.Proofs.YtjgeofdgdlmcoaaGreatDoor
open Go Go.RK
open Go.RK.Uni (Ty El)
open Go.RK.Byt (bT)
def ErrB (e:Option (Bs × Bs)):Prop:=∀ v,e=some v→v.1.length≤100∧v.2.length≤4500
@[grind =] theorem ErrB_none:ErrB none=True:=eq_true fun _ h=>by cases h
@[grind =] theorem ErrB_some (v:Bs × Bs):ErrB (some v)=(v.1.length≤100∧v.2.length≤4500):=by
  rw [eq_iff_iff]
  exact ⟨fun h=>h v rfl,fun h w e=>by injection e with e;subst e;exact h⟩
@[grind →] theorem ErrB_map {o:Option (Bs × Bs)} {y:(Bs × (Bs × Unit)) × Unit} (e:Option.map (fun val=>((val.1,(val.2,())),())) o=some y) (h:ErrB o):y.1.1.length≤100∧y.1.2.1.length≤4500:=by
  cases o with
  | none=>cases e
  | some v=>injection e with e;subst e;exact h v rfl
def SessB (s:Session):Prop:=StmtsB s.stmts∧PortalsB s.portals∧0≤s.engine.count
attribute [grind =] SessB
theorem t_seSync (a0:Session) (h0:SessB a0):Tt (f_seSync a0) fun y=>BackB y.1.1∧SessB y.2.1∧y.2.1.engine=a0.engine:=by
 unfold f_seSync
 refine Tt.bif (fun h=>?_) (fun h=>?_)
 exact Tt.ret (by grind)
 exact Tt.ret (by grind)
theorem t_seRefused (a0:Session) (a1:List (UInt8)) (h0:SessB a0) (h1:a1.length≤4000):Tt (f_seRefused a0 a1) fun y=>ErrB y.1.1∧SessB y.2.1∧y.2.1.engine=a0.engine:=by
 unfold f_seRefused
 refine Tt.bnd (t_enVerdict _ _ _ (by first | omega | grind | (repeat' apply And.intro) <;> first | omega | grind | (simp [ErrB_some] <;> omega) | (simp_all <;> omega))) fun y0 hy0=>?_
 refine Tt.bif (fun h=>?_) (fun h=>?_)
 exact Tt.ret (by first | omega | grind | (repeat' apply And.intro) <;> first | omega | grind | (simp [ErrB_some] <;> omega) | (simp_all <;> omega))
 exact Tt.ret (by first | omega | grind | (repeat' apply And.intro) <;> first | omega | grind | (simp [ErrB_some] <;> omega) | (simp_all <;> omega))
theorem t_seAborted (a0:Session) (a1:Stmt) (h0:StmtB a1):Tt (f_seAborted a0 a1) fun y=>ErrB y.1.1∧y.2.1=a0:=by
 unfold f_seAborted
 refine Tt.bif (fun h=>?_) (fun h=>?_)
 refine Tt.bnd (t_sqlParse _ (by first | omega | grind | (repeat' apply And.intro) <;> first | omega | grind | (simp [ErrB_some] <;> omega) | (simp_all <;> omega))) fun y0 hy0=>?_
 refine Tt.bnd (t_sqlExit _) fun y1 hy1=>?_
 refine Tt.bif (fun h=>?_) (fun h=>?_)
 exact Tt.ret (by first | omega | grind | (repeat' apply And.intro) <;> first | omega | grind | (simp [ErrB_some] <;> omega) | (simp_all <;> omega))
 exact Tt.ret (by first | omega | grind | (repeat' apply And.intro) <;> first | omega | grind | (simp [ErrB_some] <;> omega) | (simp_all <;> omega))
 exact Tt.ret (by first | omega | grind | (repeat' apply And.intro) <;> first | omega | grind | (simp [ErrB_some] <;> omega) | (simp_all <;> omega))
theorem t_seStmt (a0:Session) (a1:List (UInt8)) (h0:SessB a0) (h1:a1.length≤4000):Tt (f_seStmt a0 a1) fun y=>StmtB y.1.1∧ErrB y.1.2.1∧y.2.1=a0:=by
 unfold f_seStmt
 refine Tt.bif (fun h=>?_) (fun h=>?_)
 refine Tt.bnd (t_tMissing _ (by first | omega | grind | (repeat' apply And.intro) <;> first | omega | grind | (simp [ErrB_some] <;> omega) | (simp_all <;> omega))) fun y0 hy0=>?_
 exact Tt.ret (by first | omega | grind | (repeat' apply And.intro) <;> first | omega | grind | (simp [ErrB_some] <;> omega) | (simp_all <;> omega))
 refine Tt.bnd (t_seAborted _ _ (by first | omega | grind | (repeat' apply And.intro) <;> first | omega | grind | (simp [ErrB_some] <;> omega) | (simp_all <;> omega))) fun y1 hy1=>?_
 split
 rename_i hn
 exact Tt.ret (by first | omega | grind | (repeat' apply And.intro) <;> first | omega | grind | (simp [ErrB_some] <;> omega) | (simp_all <;> omega))
 rename_i y2 hy2
 exact Tt.ret (by first | omega | grind | (repeat' apply And.intro) <;> first | omega | grind | (simp [ErrB_some] <;> omega) | (simp_all <;> omega))
theorem t_seParse (a0:Session) (a1:Front) (h0:SessB a0) (h1:FrontB a1):Tt (f_seParse a0 a1) fun y=>BacksB y.1.1∧y.1.1.length≤1∧ErrB y.1.2.1∧SessB y.2.1∧y.2.1.engine=a0.engine:=by
 unfold f_seParse
 try dsimp only [El_int]
 refine Tt.bif (fun h=>?_) (fun h=>?_)
 refine Tt.bnd (t_seRefused _ _ (by first | omega | grind | (repeat' apply And.intro) <;> first | omega | grind | (simp [ErrB_some] <;> omega) | (simp_all <;> omega)) (by first | omega | grind | (repeat' apply And.intro) <;> first | omega | grind | (simp [ErrB_some] <;> omega) | (simp_all <;> omega))) fun y0 hy0=>?_
 split
 rename_i hn
 refine Tt.bif (fun h=>?_) (fun h=>?_)
 refine Tt.bnd (t_tExists _ (by first | omega | grind | (repeat' apply And.intro) <;> first | omega | grind | (simp [ErrB_some] <;> omega) | (simp_all <;> omega))) fun y2 hy2=>?_
 exact Tt.ret (by first | omega | grind | (repeat' apply And.intro) <;> first | omega | grind | (simp [ErrB_some] <;> omega) | (simp_all <;> omega))
 refine Tt.bnd (t_clInt _ (by first | omega | grind | (repeat' apply And.intro) <;> first | omega | grind | (simp [ErrB_some] <;> omega) | (simp_all <;> omega))) fun (y3:List (Int)) hy3=>?_
 exact Tt.ret (by first | omega | grind | (repeat' apply And.intro) <;> first | omega | grind | (simp [ErrB_some] <;> omega) | (simp_all <;> omega))
 rename_i y1 hy1
 exact Tt.ret (by first | omega | grind | (repeat' apply And.intro) <;> first | omega | grind | (simp [ErrB_some] <;> omega) | (simp_all <;> omega))
 refine Tt.bnd (t_seRefused _ _ (by first | omega | grind | (repeat' apply And.intro) <;> first | omega | grind | (simp [ErrB_some] <;> omega) | (simp_all <;> omega)) (by first | omega | grind | (repeat' apply And.intro) <;> first | omega | grind | (simp [ErrB_some] <;> omega) | (simp_all <;> omega))) fun y4 hy4=>?_
 split
 rename_i hn
 refine Tt.bif (fun h=>?_) (fun h=>?_)
 refine Tt.bnd (t_tExists _ (by first | omega | grind | (repeat' apply And.intro) <;> first | omega | grind | (simp [ErrB_some] <;> omega) | (simp_all <;> omega))) fun y6 hy6=>?_
 exact Tt.ret (by first | omega | grind | (repeat' apply And.intro) <;> first | omega | grind | (simp [ErrB_some] <;> omega) | (simp_all <;> omega))
 refine Tt.bnd (t_clInt _ (by first | omega | grind | (repeat' apply And.intro) <;> first | omega | grind | (simp [ErrB_some] <;> omega) | (simp_all <;> omega))) fun (y7:List (Int)) hy7=>?_
 exact Tt.ret (by first | omega | grind | (repeat' apply And.intro) <;> first | omega | grind | (simp [ErrB_some] <;> omega) | (simp_all <;> omega))
 rename_i y5 hy5
 exact Tt.ret (by first | omega | grind | (repeat' apply And.intro) <;> first | omega | grind | (simp [ErrB_some] <;> omega) | (simp_all <;> omega))
theorem t_seShape (a0:Stmt) (h0:StmtB a0):Tt (f_seShape a0) fun y=>BackB y.1.1:=by
 unfold f_seShape
 refine Tt.bnd (t_sqlParse _ (by grind)) fun y0 hy0=>?_
 refine Tt.bnd (t_sqlRows _) fun y1 hy1=>?_
 refine Tt.bif (fun h=>?_) (fun h=>?_)
 exact Tt.ret (by grind)
 refine Tt.bnd (t_sqlColumns _ _) fun y2 hy2=>?_
 refine Tt.bnd (t_coDescribe _) fun y3 hy3=>?_
 exact Tt.ret (by grind)
theorem t_seBind (a0:Session) (a1:Front) (h0:SessB a0) (h1:FrontB a1):Tt (f_seBind a0 a1) fun y=>BacksB y.1.1∧y.1.1.length≤1∧ErrB y.1.2.1∧SessB y.2.1∧y.2.1.engine=a0.engine:=by
 unfold f_seBind
 refine Tt.bnd (t_seStmt _ _ (by first | omega | grind | (repeat' apply And.intro) <;> first | omega | grind | (simp [ErrB_some] <;> omega) | (simp_all <;> omega)) (by first | omega | grind | (repeat' apply And.intro) <;> first | omega | grind | (simp [ErrB_some] <;> omega) | (simp_all <;> omega))) fun y0 hy0=>?_
 split
 rename_i hn
 refine Tt.bif (fun h=>?_) (fun h=>?_)
 refine Tt.bnd (t_tArity _ _ _ (by first | omega | grind | (repeat' apply And.intro) <;> first | omega | grind | (simp [ErrB_some] <;> omega) | (simp_all <;> omega)) (by first | omega | grind | (repeat' apply And.intro) <;> first | omega | grind | (simp [ErrB_some] <;> omega) | (simp_all <;> omega)) (by first | omega | grind | (repeat' apply And.intro) <;> first | omega | grind | (simp [ErrB_some] <;> omega) | (simp_all <;> omega))) fun y2 hy2=>?_
 exact Tt.ret (by first | omega | grind | (repeat' apply And.intro) <;> first | omega | grind | (simp [ErrB_some] <;> omega) | (simp_all <;> omega))
 refine Tt.bnd (t_poPut _ _ _ (by first | omega | grind | (repeat' apply And.intro) <;> first | omega | grind | (simp [ErrB_some] <;> omega) | (simp_all <;> omega)) (by first | omega | grind | (repeat' apply And.intro) <;> first | omega | grind | (simp [ErrB_some] <;> omega) | (simp_all <;> omega))) fun y3 hy3=>?_
 refine Tt.bif (fun h=>?_) (fun h=>?_)
 refine Tt.bnd (t_tCursor _ (by first | omega | grind | (repeat' apply And.intro) <;> first | omega | grind | (simp [ErrB_some] <;> omega) | (simp_all <;> omega))) fun y4 hy4=>?_
 exact Tt.ret (by first | omega | grind | (repeat' apply And.intro) <;> first | omega | grind | (simp [ErrB_some] <;> omega) | (simp_all <;> omega))
 exact Tt.ret (by first | omega | grind | (repeat' apply And.intro) <;> first | omega | grind | (simp [ErrB_some] <;> omega) | (simp_all <;> omega))
 rename_i y1 hy1
 exact Tt.ret (by first | omega | grind | (repeat' apply And.intro) <;> first | omega | grind | (simp [ErrB_some] <;> omega) | (simp_all <;> omega))
theorem t_sePortal (a0:Session) (a1:List (UInt8)) (h0:SessB a0) (h1:a1.length≤4000):Tt (f_sePortal a0 a1) fun y=>PortalB y.1.1∧ErrB y.1.2.1∧SessB y.2.1∧y.2.1.engine=a0.engine:=by
 unfold f_sePortal
 refine Tt.bnd (t_poGet _ _ (by first | omega | grind | (repeat' apply And.intro) <;> first | omega | grind | (simp [ErrB_some] <;> omega) | (simp_all <;> omega))) fun y0 hy0=>?_
 refine Tt.bif (fun h=>?_) (fun h=>?_)
 refine Tt.bnd (t_tPortal _ (by first | omega | grind | (repeat' apply And.intro) <;> first | omega | grind | (simp [ErrB_some] <;> omega) | (simp_all <;> omega))) fun y1 hy1=>?_
 exact Tt.ret (by first | omega | grind | (repeat' apply And.intro) <;> first | omega | grind | (simp [ErrB_some] <;> omega) | (simp_all <;> omega))
 refine Tt.bnd (t_seAborted _ _ (by first | omega | grind | (repeat' apply And.intro) <;> first | omega | grind | (simp [ErrB_some] <;> omega) | (simp_all <;> omega))) fun y2 hy2=>?_
 split
 rename_i hn
 exact Tt.ret (by first | omega | grind | (repeat' apply And.intro) <;> first | omega | grind | (simp [ErrB_some] <;> omega) | (simp_all <;> omega))
 rename_i y3 hy3
 exact Tt.ret (by first | omega | grind | (repeat' apply And.intro) <;> first | omega | grind | (simp [ErrB_some] <;> omega) | (simp_all <;> omega))
theorem t_seDescribe (a0:Session) (a1:Front) (h0:SessB a0) (h1:FrontB a1):Tt (f_seDescribe a0 a1) fun y=>BacksB y.1.1∧y.1.1.length≤2∧ErrB y.1.2.1∧SessB y.2.1∧y.2.1.engine=a0.engine:=by
 unfold f_seDescribe
 try dsimp only [El_int]
 refine Tt.bif (fun h=>?_) (fun h=>?_)
 refine Tt.bnd (t_seStmt _ _ (by grind) (by grind)) fun y0 hy0=>?_
 split
 rename_i hn
 refine Tt.bnd (t_clInt _ (by grind)) fun (y2:List (Int)) hy2=>?_
 refine Tt.bnd (t_seShape _ (by grind)) fun y3 hy3=>?_
 exact Tt.ret (by grind)
 rename_i y1 hy1
 exact Tt.ret (by grind)
 refine Tt.bnd (t_sePortal _ _ (by grind) (by grind)) fun y4 hy4=>?_
 split
 rename_i hn
 refine Tt.bnd (t_seShape _ (by grind)) fun y6 hy6=>?_
 exact Tt.ret (by grind)
 rename_i y5 hy5
 exact Tt.ret (by grind)
theorem st_seRows_0 (l:List (List (Cell))) (more:Bool) (out:List (Back)) (t8:List (List (Cell))) (t9:Int) (t10:Int) (h0:0≤t10∧t10≤t9∧t9≤1000000) (h1:t9≤(t8.length:Int)) (h2:BacksB out∧RowsB t8∧(out.length:Int)=t10∧t9≤1000∧l.length≤1000):Tt (s_seRows_0 l more out t8 t9 t10) fun r=>match r with | .inl (l',more',out',t8',t9',t10',_)=>((0≤t10'∧t10'≤t9'∧t9'≤1000000)∧(t9'≤(t8'.length:Int))∧(BacksB out'∧RowsB t8'∧(out'.length:Int)=t10'∧t9'≤1000∧l'.length≤1000))∧(t9' - t10').toNat < (t9 - t10).toNat | .inr y=>BacksB y.2.2.1∧y.2.2.1.length≤1000∧y.1.length≤1000:=by
 unfold s_seRows_0
 try dsimp only [El_cells]
 refine Tt.bif (fun h=>?_) (fun h=>?_)
 refine Tt.ok (by grind) ?_
 refine Tt.bnd (t_colsRow _ (by grind) (by grind)) fun y1 hy1=>?_
 refine Tt.ok (by grind) ?_
 refine Tt.ok (by grind) ?_
 exact Tt.ret (by grind)
 exact Tt.ret (by grind)
theorem lt_seRows_0 (l:List (List (Cell))) (more:Bool) (out:List (Back)) (t8:List (List (Cell))) (t9:Int) (t10:Int) (h0:0≤t10∧t10≤t9∧t9≤1000000) (h1:t9≤(t8.length:Int)) (h2:BacksB out∧RowsB t8∧(out.length:Int)=t10∧t9≤1000∧l.length≤1000):Tt (α:=(List (List (Cell)) × (Bool × (List (Back) × Unit)))) (lpF l_seRows_0.step (u_seRows_0 l more out t8 t9 t10) (l,(more,(out,(t8,(t9,(t10,()))))))) fun y=>BacksB y.2.2.1∧y.2.2.1.length≤1000∧y.1.length≤1000:=by
 refine Tt.lp (fun x=>(0≤x.2.2.2.2.2.1∧x.2.2.2.2.2.1≤x.2.2.2.2.1∧x.2.2.2.2.1≤1000000)∧(x.2.2.2.2.1≤(x.2.2.2.1.length:Int))∧(BacksB x.2.2.1∧RowsB x.2.2.2.1∧(x.2.2.1.length:Int)=x.2.2.2.2.2.1∧x.2.2.2.2.1≤1000∧x.1.length≤1000)) (fun x=>(x.2.2.2.2.1 - x.2.2.2.2.2.1).toNat) (fun x h=>(st_seRows_0 x.1 x.2.1 x.2.2.1 x.2.2.2.1 x.2.2.2.2.1 x.2.2.2.2.2.1 h.1 h.2.1 h.2.2).mono fun r hr=>?_) (by exact ⟨h0,h1,h2⟩) (by unfold u_seRows_0;grind)
 rcases r with r | r <;> exact hr
theorem t_seRows (a0:List (List (Cell))) (a1:Bool) (h0:a0.length≤1000) (h1:RowsB a0):Tt (f_seRows a0 a1) fun y=>BacksB y.1.1∧y.1.1.length≤1001:=by
 unfold f_seRows
 refine Tt.bnd (lt_seRows_0 _ _ _ _ _ _ (by grind) (by grind) (by grind)) fun (y0:(List (List (Cell)) × (Bool × (List (Back) × Unit)))) hy0=>?_
 refine Tt.bif (fun h=>?_) (fun h=>?_)
 refine Tt.ok (by grind) ?_
 exact Tt.ret (by grind)
 refine Tt.bnd (t_coTag _ (by grind)) fun y1 hy1=>?_
 refine Tt.ok (by grind) ?_
 exact Tt.ret (by grind)
theorem t_seTurn (a0:Session) (a1:Verb) (h0:SessB a0) (h1:a1.code.length≤5):Tt (f_seTurn a0 a1) fun y=>BacksB y.1.1∧y.1.1.length≤1∧ErrB y.1.2.1∧SessB y.2.1∧y.2.1.engine=a0.engine:=by
 unfold f_seTurn
 refine Tt.bif (fun h=>?_) (fun h=>?_)
 exact Tt.ret (by first | omega | grind | (repeat' apply And.intro) <;> first | omega | grind | (simp [ErrB_some] <;> omega) | (simp_all <;> omega))
 refine Tt.bif (fun h=>?_) (fun h=>?_)
 exact Tt.ret (by first | omega | grind | (repeat' apply And.intro) <;> first | omega | grind | (simp [ErrB_some] <;> omega) | (simp_all <;> omega))
 refine Tt.bnd (t_txNext _ _) fun y0 hy0=>?_
 refine Tt.bnd (t_sqlExit _) fun y1 hy1=>?_
 refine Tt.bif (fun h=>?_) (fun h=>?_)
 exact Tt.ret (by first | omega | grind | (repeat' apply And.intro) <;> first | omega | grind | (simp [ErrB_some] <;> omega) | (simp_all <;> omega))
 exact Tt.ret (by first | omega | grind | (repeat' apply And.intro) <;> first | omega | grind | (simp [ErrB_some] <;> omega) | (simp_all <;> omega))
theorem t_seExecute (a0:Session) (a1:Front) (h0:SessB a0) (h1:a0.engine.count≤1000000) (h2:FrontB a1):Tt (f_seExecute a0 a1) fun y=>BacksB y.1.1∧y.1.1.length≤1001∧ErrB y.1.2.1∧SessB y.2.1∧y.2.1.engine.count≤a0.engine.count+1:=by
 unfold f_seExecute
 refine Tt.bnd (t_sePortal _ _ (by first | omega | grind | (repeat' apply And.intro) <;> first | omega | grind | (simp [ErrB_some] <;> omega) | (simp_all <;> omega)) (by first | omega | grind | (repeat' apply And.intro) <;> first | omega | grind | (simp [ErrB_some] <;> omega) | (simp_all <;> omega))) fun y0 hy0=>?_
 split
 rename_i hn
 refine Tt.bnd (t_sqlParse _ (by first | omega | grind | (repeat' apply And.intro) <;> first | omega | grind | (simp [ErrB_some] <;> omega) | (simp_all <;> omega))) fun y2 hy2=>?_
 refine Tt.bnd (t_sqlRows _) fun y3 hy3=>?_
 refine Tt.bif (fun h=>?_) (fun h=>?_)
 refine Tt.bif (fun h=>?_) (fun h=>?_)
 refine Tt.bnd (t_enRows _ _ _ (by first | omega | grind | (repeat' apply And.intro) <;> first | omega | grind | (simp [ErrB_some] <;> omega) | (simp_all <;> omega)) (by first | omega | grind | (repeat' apply And.intro) <;> first | omega | grind | (simp [ErrB_some] <;> omega) | (simp_all <;> omega)) (by first | omega | grind | (repeat' apply And.intro) <;> first | omega | grind | (simp [ErrB_some] <;> omega) | (simp_all <;> omega))) fun y4 hy4=>?_
 refine Tt.bnd (t_poRan _ _ _ (by first | omega | grind | (repeat' apply And.intro) <;> first | omega | grind | (simp [ErrB_some] <;> omega) | (simp_all <;> omega)) (by first | omega | grind | (repeat' apply And.intro) <;> first | omega | grind | (simp [ErrB_some] <;> omega) | (simp_all <;> omega)) (by first | omega | grind | (repeat' apply And.intro) <;> first | omega | grind | (simp [ErrB_some] <;> omega) | (simp_all <;> omega))) fun y5 hy5=>?_
 refine Tt.bnd (t_poFetch _ _ _ (by first | omega | grind | (repeat' apply And.intro) <;> first | omega | grind | (simp [ErrB_some] <;> omega) | (simp_all <;> omega))) fun y6 hy6=>?_
 refine Tt.bnd (t_seRows _ _ (by first | omega | grind | (repeat' apply And.intro) <;> first | omega | grind | (simp [ErrB_some] <;> omega) | (simp_all <;> omega)) (by first | omega | grind | (repeat' apply And.intro) <;> first | omega | grind | (simp [ErrB_some] <;> omega) | (simp_all <;> omega))) fun y7 hy7=>?_
 exact Tt.ret (by first | omega | grind | (repeat' apply And.intro) <;> first | omega | grind | (simp [ErrB_some] <;> omega) | (simp_all <;> omega))
 refine Tt.bnd (t_poFetch _ _ _ (by first | omega | grind | (repeat' apply And.intro) <;> first | omega | grind | (simp [ErrB_some] <;> omega) | (simp_all <;> omega))) fun y8 hy8=>?_
 refine Tt.bnd (t_seRows _ _ (by first | omega | grind | (repeat' apply And.intro) <;> first | omega | grind | (simp [ErrB_some] <;> omega) | (simp_all <;> omega)) (by first | omega | grind | (repeat' apply And.intro) <;> first | omega | grind | (simp [ErrB_some] <;> omega) | (simp_all <;> omega))) fun y9 hy9=>?_
 exact Tt.ret (by first | omega | grind | (repeat' apply And.intro) <;> first | omega | grind | (simp [ErrB_some] <;> omega) | (simp_all <;> omega))
 refine Tt.bif (fun h=>?_) (fun h=>?_)
 refine Tt.bif (fun h=>?_) (fun h=>?_)
 exact Tt.ret (by first | omega | grind | (repeat' apply And.intro) <;> first | omega | grind | (simp [ErrB_some] <;> omega) | (simp_all <;> omega))
 refine Tt.bnd (t_seTurn _ _ (by first | omega | grind | (repeat' apply And.intro) <;> first | omega | grind | (simp [ErrB_some] <;> omega) | (simp_all <;> omega)) (by first | omega | grind | (repeat' apply And.intro) <;> first | omega | grind | (simp [ErrB_some] <;> omega) | (simp_all <;> omega))) fun y10 hy10=>?_
 split
 rename_i hn
 refine Tt.bnd (t_poRan _ _ _ (by first | omega | grind | (repeat' apply And.intro) <;> first | omega | grind | (simp [ErrB_some] <;> omega) | (simp_all <;> omega)) (by first | omega | grind | (repeat' apply And.intro) <;> first | omega | grind | (simp [ErrB_some] <;> omega) | (simp_all <;> omega)) (by first | omega | grind | (repeat' apply And.intro) <;> first | omega | grind | (simp [ErrB_some] <;> omega) | (simp_all <;> omega))) fun y12 hy12=>?_
 exact Tt.ret (by first | omega | grind | (repeat' apply And.intro) <;> first | omega | grind | (simp [ErrB_some] <;> omega) | (simp_all <;> omega))
 rename_i y11 hy11
 exact Tt.ret (by first | omega | grind | (repeat' apply And.intro) <;> first | omega | grind | (simp [ErrB_some] <;> omega) | (simp_all <;> omega))
 refine Tt.bnd (t_seTurn _ _ (by first | omega | grind | (repeat' apply And.intro) <;> first | omega | grind | (simp [ErrB_some] <;> omega) | (simp_all <;> omega)) (by first | omega | grind | (repeat' apply And.intro) <;> first | omega | grind | (simp [ErrB_some] <;> omega) | (simp_all <;> omega))) fun y13 hy13=>?_
 split
 rename_i hn
 refine Tt.bnd (t_poRan _ _ _ (by first | omega | grind | (repeat' apply And.intro) <;> first | omega | grind | (simp [ErrB_some] <;> omega) | (simp_all <;> omega)) (by first | omega | grind | (repeat' apply And.intro) <;> first | omega | grind | (simp [ErrB_some] <;> omega) | (simp_all <;> omega)) (by first | omega | grind | (repeat' apply And.intro) <;> first | omega | grind | (simp [ErrB_some] <;> omega) | (simp_all <;> omega))) fun y15 hy15=>?_
 exact Tt.ret (by first | omega | grind | (repeat' apply And.intro) <;> first | omega | grind | (simp [ErrB_some] <;> omega) | (simp_all <;> omega))
 rename_i y14 hy14
 exact Tt.ret (by first | omega | grind | (repeat' apply And.intro) <;> first | omega | grind | (simp [ErrB_some] <;> omega) | (simp_all <;> omega))
 rename_i y1 hy1
 exact Tt.ret (by first | omega | grind | (repeat' apply And.intro) <;> first | omega | grind | (simp [ErrB_some] <;> omega) | (simp_all <;> omega))
theorem t_seShut (a0:Session) (a1:Front) (h0:SessB a0) (h1:FrontB a1):Tt (f_seShut a0 a1) fun y=>BacksB y.1.1∧y.1.1.length≤1∧ErrB y.1.2.1∧SessB y.2.1∧y.2.1.engine=a0.engine:=by
 unfold f_seShut
 refine Tt.bif (fun h=>?_) (fun h=>?_)
 exact Tt.ret (by grind)
 refine Tt.bnd (t_poDelete _ _ (by grind)) fun y0 hy0=>?_
 exact Tt.ret (by grind)
theorem t_seQuery (a0:Session) (a1:Front) (h0:SessB a0) (h1:a0.engine.count≤1000000) (h2:FrontB a1):Tt (f_seQuery a0 a1) fun y=>BacksB y.1.1∧y.1.1.length≤1002∧ErrB y.1.2.1∧SessB y.2.1∧y.2.1.engine.count≤a0.engine.count+1:=by
 unfold f_seQuery
 refine Tt.bnd (t_poDelete _ _ (by grind)) fun y0 hy0=>?_
 refine Tt.bnd (t_seRefused _ _ (by grind) (by grind)) fun y1 hy1=>?_
 split
 rename_i hn
 refine Tt.bnd (t_sqlParse _ (by grind)) fun y3 hy3=>?_
 refine Tt.bnd (t_sqlRows _) fun y4 hy4=>?_
 refine Tt.bif (fun h=>?_) (fun h=>?_)
 refine Tt.bnd (t_seTurn _ _ (by grind) (by grind)) fun y5 hy5=>?_
 split
 rename_i hn
 exact Tt.ret (by grind)
 rename_i y6 hy6
 exact Tt.ret (by grind)
 refine Tt.bnd (t_sqlColumns _ _) fun y7 hy7=>?_
 refine Tt.bnd (t_coDescribe _) fun y8 hy8=>?_
 refine Tt.bnd (t_enRows _ _ _ (by grind) (by grind) (by grind)) fun y9 hy9=>?_
 refine Tt.bnd (t_seRows _ _ (by grind) (by grind)) fun y10 hy10=>?_
 refine Tt.ok (by grind) ?_
 exact Tt.ret (by grind)
 rename_i y2 hy2
 exact Tt.ret (by grind)
theorem t_seDeal (a0:Session) (a1:Front) (h0:SessB a0) (h1:a0.engine.count≤1000000) (h2:FrontB a1):Tt (f_seDeal a0 a1) fun y=>BacksB y.1.1∧y.1.1.length≤1002∧ErrB y.1.2.1∧SessB y.2.1∧y.2.1.engine.count≤a0.engine.count+1:=by
 unfold f_seDeal
 refine Tt.bif (fun h=>?_) (fun h=>?_)
 refine Tt.bnd (t_seParse _ _ (by grind) (by grind)) fun y0 hy0=>?_
 split
 rename_i hn
 exact Tt.ret (by grind)
 rename_i y1 hy1
 exact Tt.ret (by grind)
 refine Tt.bif (fun h=>?_) (fun h=>?_)
 refine Tt.bnd (t_seBind _ _ (by grind) (by grind)) fun y2 hy2=>?_
 split
 rename_i hn
 exact Tt.ret (by grind)
 rename_i y3 hy3
 exact Tt.ret (by grind)
 refine Tt.bif (fun h=>?_) (fun h=>?_)
 refine Tt.bnd (t_seDescribe _ _ (by grind) (by grind)) fun y4 hy4=>?_
 split
 rename_i hn
 exact Tt.ret (by grind)
 rename_i y5 hy5
 exact Tt.ret (by grind)
 refine Tt.bif (fun h=>?_) (fun h=>?_)
 refine Tt.bnd (t_seExecute _ _ (by grind) (by grind) (by grind)) fun y6 hy6=>?_
 split
 rename_i hn
 exact Tt.ret (by grind)
 rename_i y7 hy7
 exact Tt.ret (by grind)
 refine Tt.bif (fun h=>?_) (fun h=>?_)
 refine Tt.bnd (t_seShut _ _ (by grind) (by grind)) fun y8 hy8=>?_
 split
 rename_i hn
 exact Tt.ret (by grind)
 rename_i y9 hy9
 exact Tt.ret (by grind)
 refine Tt.bif (fun h=>?_) (fun h=>?_)
 refine Tt.bnd (t_seQuery _ _ (by grind) (by grind) (by grind)) fun y10 hy10=>?_
 split
 rename_i hn
 exact Tt.ret (by grind)
 rename_i y11 hy11
 exact Tt.ret (by grind)
 exact Tt.ret (by grind)
theorem t_seFailed (a0:Session) (a1:(List (UInt8) × (List (UInt8) × Unit))) (h0:SessB a0) (h1:a1.1.length≤100∧a1.2.1.length≤4500):Tt (f_seFailed a0 a1) fun y=>BackB y.1.1∧SessB y.2.1∧y.2.1.engine=a0.engine:=by
 unfold f_seFailed
 try dsimp only [El_by]
 refine Tt.bnd (t_txFail _) fun y0 hy0=>?_
 refine Tt.bif (fun h=>?_) (fun h=>?_)
 exact Tt.ret (by grind)
 exact Tt.ret (by grind)
theorem t_seDo (a0:Session) (a1:Front) (h0:SessB a0) (h1:a0.engine.count≤1000000) (h2:FrontB a1):Tt (f_seDo a0 a1) fun y=>BacksB y.1.1∧y.1.1.length≤1010∧SessB y.2.1∧y.2.1.engine.count≤a0.engine.count+1:=by
 unfold f_seDo
 refine Tt.bif (fun h=>?_) (fun h=>?_)
 exact Tt.ret (by grind)
 refine Tt.bif (fun h=>?_) (fun h=>?_)
 exact Tt.ret (by grind)
 refine Tt.bif (fun h=>?_) (fun h=>?_)
 refine Tt.bnd (t_seSync _ (by grind)) fun y0 hy0=>?_
 exact Tt.ret (by grind)
 refine Tt.bif (fun h=>?_) (fun h=>?_)
 exact Tt.ret (by grind)
 refine Tt.bnd (t_seDeal _ _ (by grind) (by grind) (by grind)) fun y1 hy1=>?_
 split
 rename_i hn
 refine Tt.bif (fun h=>?_) (fun h=>?_)
 refine Tt.bnd (t_seSync _ (by grind)) fun y5 hy5=>?_
 refine Tt.ok (by grind) ?_
 exact Tt.ret (by grind)
 exact Tt.ret (by grind)
 rename_i y2 hy2
 refine Tt.bnd (t_seFailed _ _ (by grind) (by grind)) fun y3 hy3=>?_
 refine Tt.ok (by grind) ?_
 refine Tt.bif (fun h=>?_) (fun h=>?_)
 refine Tt.bnd (t_seSync _ (by grind)) fun y4 hy4=>?_
 refine Tt.ok (by grind) ?_
 exact Tt.ret (by grind)
 exact Tt.ret (by grind)
end Go.Proofs.YtjgeofdgdlmcoaaGreatDoor
namespace Go.Proofs.YtjgeofdgdlmcoaaGreatDoor
open Go Go.RK
open Go.RK.Uni (Ty El)
open Go.RK.Byt (bT)
noncomputable def f_clReady (a0:Client):Option ((Bool × Unit) × (Client × Unit)) :=
 some (((!false),()),(a0,()))
noncomputable def c_clReady:Go.RK.Fn Tryz.prog 57:=mkFn hm0 en0 (by kernel_rfl) [66] [4] (tC (qCl (nu 0)) tNil) (tC (qB (nu 3)) tNil) (tC (qCl (nl [0,1,3])) tNil) 3 4 (nat0_ok _) [] (by kernel_rfl) (fun x=>f_clReady x.1) fun x=>by kernel_rfl
noncomputable def f_clFeed (a0:Client) (a1:Bs):Option ((Int × Unit) × (Client × Unit)) :=
 bnd (f_frFeed a0.fr a1) fun y0 =>
 some ((y0.1.1,()),({ a0 with fr:=y0.2.1 },()))
noncomputable def c_clFeed:Go.RK.Fn Tryz.prog 40:=mkFn hm0 en0 (by kernel_rfl) [66,28] [49] (tC (qCl (nu 0)) (tC (qR .by (nu 3)) tNil)) (tC (qI (nu 3)) tNil) (tC (qCl (nl [0,1,3])) tNil) 3 4 (natX_ok c_clReady (natX_ok c_frFeed (nat0_ok _))) [] (by kernel_rfl) (fun x=>f_clFeed x.1 x.2.1) fun x=>by kernel_rfl
noncomputable def f_clPeek (a0:Client):Option ((Item × Unit) × (Client × Unit)) :=
 bnd (f_frPeek a0.fr) fun y0 =>
 bnd (f_clItem { a0 with fr:=y0.2.1 } y0.1.1 y0.1.2.1 y0.1.2.2.1) fun y1 =>
 some ((y1.1.1,()),(y1.2.1,()))
noncomputable def c_clPeek:Go.RK.Fn Tryz.prog 59:=mkFn hm0 en0 (by kernel_rfl) [66] [121] (tC (qCl (nu 0)) tNil) (tC (qIt (nu 3)) tNil) (tC (qCl (nl [0,1,3])) tNil) 3 4 (natX_ok c_clReady (natX_ok c_clItem (natX_ok c_frPeek (nat0_ok _)))) [] (by kernel_rfl) (fun x=>f_clPeek x.1) fun x=>by kernel_rfl
noncomputable def f_clTake (a0:Client):Option ((Item × Unit) × (Client × Unit)) :=
 bnd (f_frNext a0.fr) fun y0 =>
 bnd (f_clItem { a0 with fr:=y0.2.1 } y0.1.1 y0.1.2.1 y0.1.2.2.1) fun y1 =>
 some ((y1.1.1,()),(y1.2.1,()))
noncomputable def c_clTake:Go.RK.Fn Tryz.prog 60:=mkFn hm0 en0 (by kernel_rfl) [66] [121] (tC (qCl (nu 0)) tNil) (tC (qIt (nu 3)) tNil) (tC (qCl (nl [0,1,3])) tNil) 3 4 (natX_ok c_clReady (natX_ok c_clItem (natX_ok c_frNext (nat0_ok _)))) [] (by kernel_rfl) (fun x=>f_clTake x.1) fun x=>by kernel_rfl
noncomputable def f_clBegin (a0:Client):Option (Unit × (Client × Unit)) :=
 bnd (f_frBegin a0.fr) fun y0 =>
 some ((),((Client.mk y0.2.1 true),()))
noncomputable def c_clBegin:Go.RK.Fn Tryz.prog 80:=mkFn hm0 en0 (by kernel_rfl) [66] [] (tC (qCl (nu 0)) tNil) tNil (tC (qCl (nl [0,1,3])) tNil) 3 4 (natX_ok c_clReady (natX_ok c_frBegin (nat0_ok _))) [] (by kernel_rfl) (fun x=>f_clBegin x.1) fun x=>by kernel_rfl
noncomputable def f_soNew (a0:Engine) (a1:List (Pair)) (a2:Int):Option ((Solo × Unit) × Unit) :=
 bnd (f_clPair a1) fun y0 =>
 some (((Solo.mk (Client.mk (Framer.mk (!true) ([]:Bs) (65536:Int) (262144:Int) (0:Int)) false) (Session.mk ([]:List ((Bs × Stmt))) ([]:List ((Bs × Portal))) a0 (UInt8.ofNat 73) false false) y0 a2 ([]:Bs) (0:Int) false),()),())
noncomputable def c_soNew:Go.RK.Fn Tryz.prog 25:=mkFn hm0 en0 (by kernel_rfl) [59,37,3] [43] (tC (qEn (nu 0)) (tC (qR .pair (nu 2)) (tC (qI (nu 2)) tNil))) (tC (qSo (nl [2,3,4,5,6,7,8,9,0,1,10])) tNil) tNil 2 11 (natX_ok c_clPair (natX_ok c_poNew (nat0_ok _))) [] (by kernel_rfl) (fun x=>f_soNew x.1 x.2.1 x.2.2.1) fun x=>by kernel_rfl
noncomputable def f_soReady (a0:Solo):Option ((Bool × Unit) × (Solo × Unit)) :=
 some (((!false),()),(a0,()))
noncomputable def c_soReady:Go.RK.Fn Tryz.prog 30:=mkFn hm0 en0 (by kernel_rfl) [43] [4] (tC (qSo (nu 0)) tNil) (tC (qB (nu 11)) tNil) (tC (qSo (nl [0,1,2,11,4,5,6,7,8,9,12])) tNil) 11 13 (nat0_ok _) [] (by kernel_rfl) (fun x=>f_soReady x.1) fun x=>by kernel_rfl
noncomputable def f_soFeed (a0:Solo) (a1:Bs):Option ((Int × Unit) × (Solo × Unit)) :=
 bnd (f_clFeed a0.cl a1) fun y0 =>
 some ((y0.1.1,()),({ a0 with cl:=y0.2.1 },()))
noncomputable def c_soFeed:Go.RK.Fn Tryz.prog 26:=mkFn hm0 en0 (by kernel_rfl) [43,28] [49] (tC (qSo (nu 0)) (tC (qR .by (nu 11)) tNil)) (tC (qI (nu 11)) tNil) (tC (qSo (nl [0,1,2,11,4,5,6,7,8,9,12])) tNil) 11 13 (natX_ok c_soReady (natX_ok c_clFeed (nat0_ok _))) [] (by kernel_rfl) (fun x=>f_soFeed x.1 x.2.1) fun x=>by kernel_rfl
noncomputable def f_soOut (a0:Solo):Option ((Bs × Unit) × (Solo × Unit)) :=
 bnd (f_clBy a0.out) fun y0 =>
 some ((y0,()),(a0,()))
noncomputable def c_soOut:Go.RK.Fn Tryz.prog 16:=mkFn hm0 en0 (by kernel_rfl) [43] [28] (tC (qSo (nu 0)) tNil) (tC (qOb (nu 11)) tNil) (tC (qSo (nl [0,1,2,12,4,5,6,7,8,9,13])) tNil) 11 14 (natX_ok c_soReady (natX_ok c_clBy (nat0_ok _))) [] (by kernel_rfl) (fun x=>f_soOut x.1) fun x=>by kernel_rfl
noncomputable def f_soFirst (a0:Solo) (a1:Hello):Option (Unit × (Solo × Unit)) :=
 bif decide (a1.code=(80877102:Int)) then
  some ((),({ a0 with over:=true },()))
 else bif decide (a1.code=(80877103:Int)) then
  bif (Nat.ble (((List.length a0.out)+(List.length [(UInt8.ofNat (Int.toNat (78:Int)))])) * (1:Nat)) (140737488355328:Nat)) then
   some ((),({ a0 with out:=(a0.out++[(UInt8.ofNat (Int.toNat (78:Int)))]) },()))
  else none
 else bnd (f_greetBytes a0.params a0.id) fun y0 =>
 bif (Nat.ble (((List.length a0.out)+(List.length y0.1.1)) * (1:Nat)) (140737488355328:Nat)) then
  bnd (f_clBegin a0.cl) fun y1 =>
  some ((),({ a0 with cl:=y1.2.1,out:=(a0.out++y0.1.1) },()))
 else none
noncomputable def c_soFirst:Go.RK.Fn Tryz.prog 61:=mkFn hm0 en0 (by kernel_rfl) [43,55] [] (tC (qSo (nu 0)) (tC (qHe (nu 11)) tNil)) tNil (tC (qSo (nl [0,1,2,11,4,5,6,7,8,9,12])) tNil) 11 13 (natX_ok c_greetBytes (natX_ok c_clBegin (nat0_ok _))) [] (by kernel_rfl) (fun x=>f_soFirst x.1 x.2.1) fun x=>by kernel_rfl
noncomputable def f_mixPrefix (a0:Bs) (a1:Bs):Option ((Bool × Unit) × Unit) :=
 bnd (f_byHasPrefix a1 a0) fun y0 =>
 some ((y0.1.1,()),())
noncomputable def c_mixPrefix:Go.RK.Fn Tryz.prog 7:=mkFn hm0 en0 (by kernel_rfl) [28,28] [4] (tC (qR .by (nu 0)) (tC (qR .by (nu 0)) tNil)) (tC (qB (nu 0)) tNil) tNil 0 0 (natX_ok c_byHasPrefix (nat0_ok _)) [] (by kernel_rfl) (fun x=>f_mixPrefix x.1 x.2.1) fun x=>by kernel_rfl
end Go.Proofs.YtjgeofdgdlmcoaaGreatDoor
namespace Go.Proofs.YtjgeofdgdlmcoaaGreatDoor
open Go Go.RK
open Go.RK.Uni (Ty El)
open Go.RK.Byt (bT)
def ClB (c:Client):Prop:=c.fr.bytes.length≤3990∧0≤c.fr.room∧c.fr.room≤1000000
attribute [grind =] ClB
theorem t_clFeed (a0:Client) (a1:List (UInt8)) (h0:a0.fr.bytes.length≤1000000) (h1:a1.length≤1000000) (h2:0≤a0.fr.room∧a0.fr.room≤1000000):Tt (f_clFeed a0 a1) fun y=>y.2.1.fr.bytes.length≤a0.fr.bytes.length+a1.length∧y.2.1.fr.room=a0.fr.room∧y.2.1.begun=a0.begun:=by
 unfold f_clFeed
 refine Tt.bnd (t_frFeed _ _ (by grind) (by grind) (by grind)) fun y0 hy0=>?_
 exact Tt.ret (by grind)
theorem t_clPeek (a0:Client) (h0:ClB a0):Tt (f_clPeek a0) fun y=>ItemB y.1.1∧y.2.1.fr.bytes=a0.fr.bytes∧y.2.1.fr.room=a0.fr.room∧y.2.1.begun=a0.begun∧(y.1.1.kind=1→a0.begun=false)∧(y.1.1.kind=2→a0.begun=true)∧(y.1.1.kind=1∨y.1.1.kind=2→y.2.1=a0∧∃ z,f_frPeek a0.fr=some z∧z.1.2.1=true):=by
 unfold f_clPeek
 refine Tt.bndE (t_frPeek _ (by first | omega | grind | (rcases a0 with ⟨f,b⟩;grind))) fun y0 ey0 hy0=>?_
 refine Tt.bndE (t_clItem _ _ _ _ (by first | omega | grind | (rcases a0 with ⟨f,b⟩;grind))) fun y1 ey1 hy1=>?_
 exact Tt.ret (by first | omega | grind | (rcases a0 with ⟨f,b⟩;grind))
theorem t_clTake (a0:Client) (h0:ClB a0):Tt (f_clTake a0) fun y=>(∀ z,f_frPeek a0.fr=some z→z.1.2.1=true→y.2.1.fr.bytes.length+4≤a0.fr.bytes.length)∧y.2.1.fr.bytes.length≤a0.fr.bytes.length∧y.2.1.fr.room=a0.fr.room∧y.2.1.begun=a0.begun:=by
 unfold f_clTake
 refine Tt.bnd (t_frNext _ (by grind)) fun y0 hy0=>?_
 refine Tt.bnd (t_clItem _ _ _ _ (by grind)) fun y1 hy1=>?_
 exact Tt.ret (by grind)
theorem t_clBegin (a0:Client):Tt (f_clBegin a0) fun y=>y.2.1.fr.bytes=a0.fr.bytes∧y.2.1.fr.room=a0.fr.room∧y.2.1.begun=true:=by
 unfold f_clBegin
 refine Tt.bnd (t_frBegin _) fun y0 hy0=>?_
 exact Tt.ret (by grind)
theorem t_soOut (a0:Solo) (h0:a0.out.length≤140737488355328):Tt (f_soOut a0) fun y=>y.1.1=a0.out∧y.2.1=a0:=by
 unfold f_soOut
 try dsimp only [El_by]
 refine Tt.bnd (t_clBy _ (by grind)) fun (y0:List (UInt8)) hy0=>?_
 exact Tt.ret (by grind)
theorem t_soFeed (a0:Solo) (a1:List (UInt8)) (h0:a0.cl.fr.bytes.length≤1000000) (h1:a1.length≤1000000) (h2:0≤a0.cl.fr.room∧a0.cl.fr.room≤1000000):Tt (f_soFeed a0 a1) fun y=>y.2.1.cl.fr.bytes.length≤a0.cl.fr.bytes.length+a1.length∧y.2.1.cl.fr.room=a0.cl.fr.room∧y.2.1.cl.begun=a0.cl.begun∧y.2.1.se=a0.se∧y.2.1.params=a0.params∧y.2.1.id=a0.id∧y.2.1.out=a0.out∧y.2.1.done=a0.done∧y.2.1.over=a0.over:=by
 unfold f_soFeed
 refine Tt.bnd (t_clFeed _ _ (by grind) (by grind) (by grind)) fun y0 hy0=>?_
 exact Tt.ret (by grind)
theorem t_mixPrefix (a0:List (UInt8)) (a1:List (UInt8)):Tt (f_mixPrefix a0 a1) fun y=>True:=by
 unfold f_mixPrefix
 refine Tt.bnd (t_byHasPrefix _ _) fun y0 hy0=>?_
 exact Tt.ret (by grind)
end Go.Proofs.YtjgeofdgdlmcoaaGreatDoor
namespace Go.Proofs.YtjgeofdgdlmcoaaGreatDoor
open Go Go.RK
open Go.RK.Uni (Ty El)
open Go.RK.Byt (bT)
noncomputable def f_soStep (a0:Solo):Option ((Bool × Unit) × (Solo × Unit)) :=
 bif a0.over then
  some ((false,()),(a0,()))
 else bnd (f_clPeek a0.cl) fun y0 =>
 bif decide (y0.1.1.kind=(1:Int)) then
  bnd (f_clTake y0.2.1) fun y1 =>
  bnd (f_soFirst { a0 with cl:=y1.2.1 } y0.1.1.hello) fun y2 =>
  some ((true,()),(y2.2.1,()))
 else bif decide (y0.1.1.kind=(2:Int)) then
  bnd (f_clTake y0.2.1) fun y3 =>
  bnd (f_seDo a0.se y0.1.1.front) fun y4 =>
  bnd (f_bkBytes y4.1.1) fun y5 =>
  bif (Nat.ble (((List.length a0.out)+(List.length y5.1.1)) * (1:Nat)) (140737488355328:Nat)) then
   bif (inR (a0.done+(1:Int))) then
    some ((true,()),((Solo.mk y3.2.1 y4.2.1 a0.params a0.id (a0.out++y5.1.1) (a0.done+(1:Int)) a0.over),()))
   else none
  else none
 else some ((false,()),({ a0 with cl:=y0.2.1 },()))
noncomputable def c_soStep:Go.RK.Fn Tryz.prog 42:=mkFn hm0 en0 (by kernel_rfl) [43] [4] (tC (qSo (nu 0)) tNil) (tC (qB (nu 11)) tNil) (tC (qSo (nl [0,1,2,11,4,5,6,7,8,9,12])) tNil) 11 13 (natX_ok c_soReady (natX_ok c_bkBytes (natX_ok c_clPeek (natX_ok c_clTake (natX_ok c_soFirst (natX_ok c_seDo (nat0_ok _))))))) [] (by kernel_rfl) (fun x=>f_soStep x.1) fun x=>by kernel_rfl
noncomputable def f_soDone (a0:Solo):Option ((Int × Unit) × (Solo × Unit)) :=
 some ((a0.done,()),(a0,()))
noncomputable def c_soDone:Go.RK.Fn Tryz.prog 43:=mkFn hm0 en0 (by kernel_rfl) [43] [3] (tC (qSo (nu 0)) tNil) (tC (qI (nu 11)) tNil) (tC (qSo (nl [0,1,2,11,4,5,6,7,8,9,12])) tNil) 11 13 (natX_ok c_soReady (nat0_ok _)) [] (by kernel_rfl) (fun x=>f_soDone x.1) fun x=>by kernel_rfl
noncomputable def s_mixBegin_0 (s:Solo) (first:Bs):Option ((Solo × (Bs × Unit)) ⊕ ((Solo × Unit) ⊕ (Solo × Unit))) :=
 bnd (f_soOut s) fun y6 =>
 bnd (f_byHasSuffix y6.1.1 first) fun y7 =>
 bif (!y7.1.1) then
  bnd (f_soStep y6.2.1) fun y8 =>
  bif y8.1.1 then
   bif (ltI (0:Int) y8.2.1.done) then
    some (.inr (.inr (y8.2.1,())))
   else some (.inl (y8.2.1,(first,())))
  else some (.inr (.inl (y8.2.1,())))
 else some (.inr (.inl (y6.2.1,())))
noncomputable def l_mixBegin_0:Lp Tryz.prog:=mkLp (P:=Tryz.prog) [0,1] [43,28] 11 [0,1,2,4,5,6,7,8,9] (tC (qSo (nl [0,1,2,3,4,5,6,7,8,9,10])) (tC (tRow Tm.by) tNil)) [⟨.exit 0,[0],[43],13,(tC (qSo (nl [0,1,2,11,4,5,6,7,8,9,12])) tNil)⟩,⟨.ret,[0],[43],13,(tC (qSo (nl [0,1,2,11,4,5,6,7,8,9,12])) tNil)⟩] (fun x=>s_mixBegin_0 x.1 x.2.1)
noncomputable def u_mixBegin_0 (s:Solo) (first:Bs):Nat:=List.length s.cl.fr.bytes+1
noncomputable def k_mixBegin_0:Lk Tryz.prog 27 0:=mkLk hm0 en0 l_mixBegin_0 0 (fun x=>u_mixBegin_0 x.1 x.2.1) (natX_ok c_soOut (natX_ok c_byHasSuffix (natX_ok c_soStep (natX_ok c_soDone (nat0_ok _))))) [] (by kernel_rfl) fun x=>by kernel_rfl
noncomputable def f_mixBegin (a0:Solo) (a1:Bs):Option (Unit × (Solo × Unit)) :=
 bnd (lpF l_mixBegin_0.step (u_mixBegin_0 a0 a1) (a0,(a1,()))) fun y0 =>
 match y0 with
 | .inl y1 =>
  some ((),(y1.1,()))
 | .inr y1 =>
  some ((),(y1.1,()))
noncomputable def c_mixBegin:Go.RK.Fn Tryz.prog 27:=mkFn hm0 en0 (by kernel_rfl) [43,28] [] (tC (qSo (nu 0)) (tC (qR .by (nu 11)) tNil)) tNil (tC (qSo (nl [0,1,2,11,4,5,6,7,8,9,12])) tNil) 11 13 (natX_ok c_soOut (natX_ok c_byHasSuffix (natX_ok c_soStep (natX_ok c_soDone (nat0_ok _))))) [⟨_,k_mixBegin_0⟩] (by kernel_rfl) (fun x=>f_mixBegin x.1 x.2.1) fun x=>by kernel_rfl
noncomputable def s_mixUpto_0 (s:Solo) (many:Int):Option ((Solo × (Int × Unit)) ⊕ (Solo × Unit)) :=
 bif (ltI s.done many) then
  bnd (f_soStep s) fun y1 =>
  bif y1.1.1 then
   some (.inl (y1.2.1,(many,())))
  else some (.inr (y1.2.1,()))
 else some (.inr (s,()))
noncomputable def l_mixUpto_0:Lp Tryz.prog:=mkLp (P:=Tryz.prog) [0,1] [43,3] 11 [0,1,2,4,5,6,7,8,9] (tC (qSo (nl [0,1,2,3,4,5,6,7,8,9,10])) (tC tI tNil)) [⟨.exit 0,[0],[43],13,(tC (qSo (nl [0,1,2,11,4,5,6,7,8,9,12])) tNil)⟩] (fun x=>s_mixUpto_0 x.1 x.2.1)
noncomputable def u_mixUpto_0 (s:Solo) (many:Int):Nat:=List.length s.cl.fr.bytes+1
noncomputable def k_mixUpto_0:Lk Tryz.prog 29 0:=mkLk hm0 en0 l_mixUpto_0 0 (fun x=>u_mixUpto_0 x.1 x.2.1) (natX_ok c_soStep (natX_ok c_soDone (nat0_ok _))) [] (by kernel_rfl) fun x=>by kernel_rfl
noncomputable def f_mixUpto (a0:Solo) (a1:Int):Option (Unit × (Solo × Unit)) :=
 bnd (lpF l_mixUpto_0.step (u_mixUpto_0 a0 a1) (a0,(a1,()))) fun y0 =>
 some ((),(y0.1,()))
noncomputable def c_mixUpto:Go.RK.Fn Tryz.prog 29:=mkFn hm0 en0 (by kernel_rfl) [43,3] [] (tC (qSo (nu 0)) (tC (qI (nu 11)) tNil)) tNil (tC (qSo (nl [0,1,2,11,4,5,6,7,8,9,12])) tNil) 11 13 (natX_ok c_soStep (natX_ok c_soDone (nat0_ok _))) [⟨_,k_mixUpto_0⟩] (by kernel_rfl) (fun x=>f_mixUpto x.1 x.2.1) fun x=>by kernel_rfl
end Go.Proofs.YtjgeofdgdlmcoaaGreatDoor
namespace Go.Proofs.YtjgeofdgdlmcoaaGreatDoor
open Go Go.RK
open Go.RK.Uni (Ty El)
open Go.RK.Byt (bT)
def gB (n k2 k1 k0:UInt8):Bs:=[82,0,0,0,8,0,0,0,0,75,0,0,0,12,0,0,0,n,0,k2,k1,k0,90,0,0,0,5,73]
theorem greet0:f_greetBytes [] (0:Int)=some (((gB 1 0 30 239),()),()):=by kernel_rfl
theorem greet1:f_greetBytes [] (1:Int)=some (((gB 2 0 61 222),()),()):=by kernel_rfl
theorem greet2:f_greetBytes [] (2:Int)=some (((gB 3 0 92 205),()),()):=by kernel_rfl
theorem greet3:f_greetBytes [] (3:Int)=some (((gB 4 0 123 188),()),()):=by kernel_rfl
theorem greet4:f_greetBytes [] (4:Int)=some (((gB 5 0 154 171),()),()):=by kernel_rfl
theorem greet5:f_greetBytes [] (5:Int)=some (((gB 6 0 185 154),()),()):=by kernel_rfl
noncomputable abbrev a_ref:Tp:=(tC (qR .pair (nu 0)) (tC (qI (nu 0)) tNil))
theorem r_ref0:runB Tryz.prog nat0 (blkL (P:=Tryz.prog) (k:=9) []) 100 9 (encV a_ref.s (a_ref.op ([],((0:Int),())))) (hpS 0 (blks a_ref.s (a_ref.op ([],((0:Int),()))))) (outY Tryz.prog [28] 0 0 (tC (qR .by (nu 0)) tNil).s tNil.s fun q=>((tC (qR .by (nu 0)) tNil).cl q.1,tNil.cl q.2))=some (((gB 1 0 30 239),()),()):=by kernel_rfl
theorem r_ref1:runB Tryz.prog nat0 (blkL (P:=Tryz.prog) (k:=9) []) 100 9 (encV a_ref.s (a_ref.op ([],((1:Int),())))) (hpS 0 (blks a_ref.s (a_ref.op ([],((1:Int),()))))) (outY Tryz.prog [28] 0 0 (tC (qR .by (nu 0)) tNil).s tNil.s fun q=>((tC (qR .by (nu 0)) tNil).cl q.1,tNil.cl q.2))=some (((gB 2 0 61 222),()),()):=by kernel_rfl
theorem r_ref2:runB Tryz.prog nat0 (blkL (P:=Tryz.prog) (k:=9) []) 100 9 (encV a_ref.s (a_ref.op ([],((2:Int),())))) (hpS 0 (blks a_ref.s (a_ref.op ([],((2:Int),()))))) (outY Tryz.prog [28] 0 0 (tC (qR .by (nu 0)) tNil).s tNil.s fun q=>((tC (qR .by (nu 0)) tNil).cl q.1,tNil.cl q.2))=some (((gB 3 0 92 205),()),()):=by kernel_rfl
theorem r_ref3:runB Tryz.prog nat0 (blkL (P:=Tryz.prog) (k:=9) []) 100 9 (encV a_ref.s (a_ref.op ([],((3:Int),())))) (hpS 0 (blks a_ref.s (a_ref.op ([],((3:Int),()))))) (outY Tryz.prog [28] 0 0 (tC (qR .by (nu 0)) tNil).s tNil.s fun q=>((tC (qR .by (nu 0)) tNil).cl q.1,tNil.cl q.2))=some (((gB 4 0 123 188),()),()):=by kernel_rfl
theorem r_ref4:runB Tryz.prog nat0 (blkL (P:=Tryz.prog) (k:=9) []) 100 9 (encV a_ref.s (a_ref.op ([],((4:Int),())))) (hpS 0 (blks a_ref.s (a_ref.op ([],((4:Int),()))))) (outY Tryz.prog [28] 0 0 (tC (qR .by (nu 0)) tNil).s tNil.s fun q=>((tC (qR .by (nu 0)) tNil).cl q.1,tNil.cl q.2))=some (((gB 5 0 154 171),()),()):=by kernel_rfl
theorem r_ref5:runB Tryz.prog nat0 (blkL (P:=Tryz.prog) (k:=9) []) 100 9 (encV a_ref.s (a_ref.op ([],((5:Int),())))) (hpS 0 (blks a_ref.s (a_ref.op ([],((5:Int),()))))) (outY Tryz.prog [28] 0 0 (tC (qR .by (nu 0)) tNil).s tNil.s fun q=>((tC (qR .by (nu 0)) tNil).cl q.1,tNil.cl q.2))=some (((gB 6 0 185 154),()),()):=by kernel_rfl
noncomputable def f_refB:a_ref.α→Option ((Bs × Unit) × Unit)
  | ([],(i,()))=>bif decide (i=(0:Int)) then some (((gB 1 0 30 239),()),()) else bif decide (i=(1:Int)) then some (((gB 2 0 61 222),()),()) else bif decide (i=(2:Int)) then some (((gB 3 0 92 205),()),()) else bif decide (i=(3:Int)) then some (((gB 4 0 123 188),()),()) else bif decide (i=(4:Int)) then some (((gB 5 0 154 171),()),()) else bif decide (i=(5:Int)) then some (((gB 6 0 185 154),()),()) else none
  | _=>none
theorem r_ref:∀ x y,f_refB x=some y→runB Tryz.prog nat0 (blkL (P:=Tryz.prog) (k:=9) []) 100 9 (encV a_ref.s (a_ref.op x)) (hpS 0 (blks a_ref.s (a_ref.op x))) (outY Tryz.prog [28] 0 0 (tC (qR .by (nu 0)) tNil).s tNil.s fun q=>((tC (qR .by (nu 0)) tNil).cl q.1,tNil.cl q.2))=some y
  | (_ :: _,_),_,e=>by cases e
  | ([],(i,())),y,e=>by
    simp only [f_refB] at e
    cases h0:decide (i=(0:Int)) with
    | true =>
      rw [h0] at e
      have:=of_decide_eq_true h0
      subst this
      exact r_ref0.trans e
    | false =>
    rw [h0] at e
    simp only [cond_false] at e
    cases h1:decide (i=(1:Int)) with
    | true =>
      rw [h1] at e
      have:=of_decide_eq_true h1
      subst this
      exact r_ref1.trans e
    | false =>
    rw [h1] at e
    simp only [cond_false] at e
    cases h2:decide (i=(2:Int)) with
    | true =>
      rw [h2] at e
      have:=of_decide_eq_true h2
      subst this
      exact r_ref2.trans e
    | false =>
    rw [h2] at e
    simp only [cond_false] at e
    cases h3:decide (i=(3:Int)) with
    | true =>
      rw [h3] at e
      have:=of_decide_eq_true h3
      subst this
      exact r_ref3.trans e
    | false =>
    rw [h3] at e
    simp only [cond_false] at e
    cases h4:decide (i=(4:Int)) with
    | true =>
      rw [h4] at e
      have:=of_decide_eq_true h4
      subst this
      exact r_ref4.trans e
    | false =>
    rw [h4] at e
    simp only [cond_false] at e
    cases h5:decide (i=(5:Int)) with
    | true =>
      rw [h5] at e
      have:=of_decide_eq_true h5
      subst this
      exact r_ref5.trans e
    | false =>
    rw [h5] at e
    simp only [cond_false] at e
    cases e
noncomputable def c_refB:Go.RK.Fn Tryz.prog 9:=mkFnP hm0 en0 (by kernel_rfl) [37,3] [28] a_ref (tC (qR .by (nu 0)) tNil) tNil 0 0 (nat0_ok _) [] (by kernel_rfl) f_refB r_ref
end Go.Proofs.YtjgeofdgdlmcoaaGreatDoor
