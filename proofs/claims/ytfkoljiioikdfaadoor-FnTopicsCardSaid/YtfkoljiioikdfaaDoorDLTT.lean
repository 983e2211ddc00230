/- What functions of the program do, by the machine: LTT. -/
import Derived.Test.YtfkoljiioikdfaaDoorDTop11
import Derived.KernelRfl
import Derived.Test.YtfkoljiioikdfaaDoorRows
namespace Go.Proofs.YtfkoljiioikdfaaDoor.Den
open Go.Proofs
set_option maxRecDepth 100000
theorem law_tree (l r : List Int) : funK Tryd.prog (look [(5, .rd1 dtfG), (6, .rd1 tfitsG), (7, .rd1 tfitsG), (8, .rd1 gtopG), (9, .rd1 gtopG), (10, .rd1 gpatG), (11, .rd1 gpatG), (12, .rd1 dpcG), (13, .rd1 pcovG), (14, .rd1 pcovG), (15, .rd1 pmeetG), (16, .rd1 pmeetG)]) (look []) Tryd.f3 [.sl (.int .u8) l, .sl (.int .u8) r] [] =
  ((ifB (decide (IntKind.i64.wrap ((↑l.length : Int) + (↑r.length : Int)) > (1048576 : Int))) (some (V.b true, []))
  (ifT (decide ((Cur.mk l (0 : Int) (0 : Int)).good (0 : Int)))
  (ifT
  (decide
  ((Cur.mk l (0 : Int) (0 : Int)).pat.fst.length ≤ (4000000000 : Nat) ∧
  (Cur.mk l (0 : Int) (0 : Int)).pat.snd.top.fst.length ≤ (4000000000 : Nat)))
  (ifT
  (decide
  ((Cur.mk l (0 : Int) (0 : Int)).pat.fst.length ≤ (4000000000 : Nat) ∧
  (Cur.mk l (0 : Int) (0 : Int)).pat.snd.top.fst.length ≤ (4000000000 : Nat)))
  (ifB
  (!(lvB (cut (47 : UInt8) (Cur.mk l (0 : Int) (0 : Int)).pat.fst) &&
  tpB (cut (47 : UInt8) (Cur.mk l (0 : Int) (0 : Int)).pat.snd.top.fst)) ==
  (lvB (cut (47 : UInt8) (Cur.mk l (0 : Int) (0 : Int)).pat.fst) &&
  tpB (cut (47 : UInt8) (Cur.mk l (0 : Int) (0 : Int)).pat.snd.top.fst)))
  (some (V.b false, []))
  (ifB
  (!(lvB (cut (47 : UInt8) (Cur.mk l (0 : Int) (0 : Int)).pat.fst) &&
  tpB (cut (47 : UInt8) (Cur.mk l (0 : Int) (0 : Int)).pat.snd.top.fst) &&
  tk inL (cut (47 : UInt8) (Cur.mk l (0 : Int) (0 : Int)).pat.fst)
  (cut (47 : UInt8) (Cur.mk l (0 : Int) (0 : Int)).pat.snd.top.fst)) ==
  (lvB (cut (47 : UInt8) (Cur.mk l (0 : Int) (0 : Int)).pat.fst) &&
  tpB (cut (47 : UInt8) (Cur.mk l (0 : Int) (0 : Int)).pat.snd.top.fst) &&
  tk inL (cut (47 : UInt8) (Cur.mk l (0 : Int) (0 : Int)).pat.fst)
  (cut (47 : UInt8) (Cur.mk l (0 : Int) (0 : Int)).pat.snd.top.fst)))
  (some (V.b false, []))
  (ifT (decide ((Cur.mk l (0 : Int) (0 : Int)).pat.snd.top.fst.length ≤ (4000000000 : Nat)))
  (ifT (decide ((Cur.mk l (0 : Int) (0 : Int)).pat.snd.top.fst.length ≤ (4000000000 : Nat)))
  (ifB
  (!tpB (cut (47 : UInt8) (Cur.mk l (0 : Int) (0 : Int)).pat.snd.top.fst) ==
  tpB (cut (47 : UInt8) (Cur.mk l (0 : Int) (0 : Int)).pat.snd.top.fst))
  (some (V.b false, []))
  (ifT (decide ((Cur.mk l (0 : Int) (0 : Int)).pat.fst.length ≤ (4000000000 : Nat)))
  (ifT (decide ((Cur.mk l (0 : Int) (0 : Int)).pat.fst.length ≤ (4000000000 : Nat)))
  (ifB
  (!lvB (cut (47 : UInt8) (Cur.mk l (0 : Int) (0 : Int)).pat.fst) ==
  lvB (cut (47 : UInt8) (Cur.mk l (0 : Int) (0 : Int)).pat.fst))
  (some (V.b false, []))
  (ifT (decide ((Cur.mk r (0 : Int) (0 : Int)).good (0 : Int)))
  (ifT
  (decide
  ((Cur.mk r (0 : Int) (0 : Int)).pat.fst.length ≤ (4000000000 : Nat) ∧
  (dpc2 r).length ≤ (4000000000 : Nat)))
  (ifT
  (decide
  ((Cur.mk r (0 : Int) (0 : Int)).pat.fst.length ≤ (4000000000 : Nat) ∧
  (dpc2 r).length ≤ (4000000000 : Nat)))
  (ifT
  (decide
  ((Cur.mk r (0 : Int) (0 : Int)).pat.fst.length ≤ (4000000000 : Nat) ∧
  (dpc2 r).length ≤ (4000000000 : Nat)))
  (ifT
  (decide
  ((Cur.mk r (0 : Int) (0 : Int)).pat.fst.length ≤ (4000000000 : Nat) ∧
  (dpc2 r).length ≤ (4000000000 : Nat)))
  (ifB
  (!(lvB (cut (47 : UInt8) (Cur.mk r (0 : Int) (0 : Int)).pat.fst) &&
  lvB (cut (47 : UInt8) (dpc2 r))) ==
  (lvB (cut (47 : UInt8) (Cur.mk r (0 : Int) (0 : Int)).pat.fst) &&
  lvB (cut (47 : UInt8) (dpc2 r))))
  (some (V.b false, []))
  (ifB
  (!(lvB (cut (47 : UInt8) (Cur.mk r (0 : Int) (0 : Int)).pat.fst) &&
  lvB (cut (47 : UInt8) (dpc2 r)) &&
  tk inL (cut (47 : UInt8) (Cur.mk r (0 : Int) (0 : Int)).pat.fst)
  (cut (47 : UInt8) (dpc2 r))) ==
  (lvB (cut (47 : UInt8) (Cur.mk r (0 : Int) (0 : Int)).pat.fst) &&
  lvB (cut (47 : UInt8) (dpc2 r)) &&
  tk inL (cut (47 : UInt8) (Cur.mk r (0 : Int) (0 : Int)).pat.fst)
  (cut (47 : UInt8) (dpc2 r))))
  (some (V.b false, []))
  (ifB
  (!(lvB (cut (47 : UInt8) (Cur.mk r (0 : Int) (0 : Int)).pat.fst) &&
  lvB (cut (47 : UInt8) (dpc2 r))) ==
  (lvB (cut (47 : UInt8) (Cur.mk r (0 : Int) (0 : Int)).pat.fst) &&
  lvB (cut (47 : UInt8) (dpc2 r))))
  (some (V.b false, []))
  (ifB
  (!(lvB (cut (47 : UInt8) (Cur.mk r (0 : Int) (0 : Int)).pat.fst) &&
  lvB (cut (47 : UInt8) (dpc2 r)) &&
  Den.mt (cut (47 : UInt8) (Cur.mk r (0 : Int) (0 : Int)).pat.fst)
  (cut (47 : UInt8) (dpc2 r))) ==
  (lvB (cut (47 : UInt8) (Cur.mk r (0 : Int) (0 : Int)).pat.fst) &&
  lvB (cut (47 : UInt8) (dpc2 r)) &&
  Den.mt (cut (47 : UInt8) (Cur.mk r (0 : Int) (0 : Int)).pat.fst)
  (cut (47 : UInt8) (dpc2 r))))
  (some (V.b false, []))
  (ifB
  (lvB (cut (47 : UInt8) (Cur.mk r (0 : Int) (0 : Int)).pat.fst) &&
  lvB (cut (47 : UInt8) (dpc2 r)))
  (ifT
  (decide
  ((Cur.mk r (0 : Int) (0 : Int)).pat.fst.length ≤ (4000000000 : Nat) ∧
  (Cur.mk r (0 : Int) (0 : Int)).pat.fst.length ≤ (4000000000 : Nat)))
  (ifT
  (decide
  ((dpc2 r).length ≤ (4000000000 : Nat) ∧
  (Cur.mk r (0 : Int) (0 : Int)).pat.fst.length ≤ (4000000000 : Nat)))
  (ifB
  (!(lvB (cut (47 : UInt8) (Cur.mk r (0 : Int) (0 : Int)).pat.fst) &&
  lvB (cut (47 : UInt8) (Cur.mk r (0 : Int) (0 : Int)).pat.fst)))
  (some (V.b false, []))
  (ifB
  (!(lvB (cut (47 : UInt8) (Cur.mk r (0 : Int) (0 : Int)).pat.fst) &&
  lvB
  (cut (47 : UInt8) (Cur.mk r (0 : Int) (0 : Int)).pat.fst) &&
  tk inL (cut (47 : UInt8) (Cur.mk r (0 : Int) (0 : Int)).pat.fst)
  (cut (47 : UInt8) (Cur.mk r (0 : Int) (0 : Int)).pat.fst)))
  (some (V.b false, []))
  (ifB
  (!(lvB (cut (47 : UInt8) (dpc2 r)) &&
  lvB
  (cut (47 : UInt8) (Cur.mk r (0 : Int) (0 : Int)).pat.fst)))
  (some (V.b false, []))
  (ifB
  (!(lvB (cut (47 : UInt8) (dpc2 r)) &&
  lvB
  (cut (47 : UInt8)
  (Cur.mk r (0 : Int) (0 : Int)).pat.fst) &&
  Den.mt (cut (47 : UInt8) (dpc2 r))
  (cut (47 : UInt8)
  (Cur.mk r (0 : Int) (0 : Int)).pat.fst)) ==
  (lvB
  (cut (47 : UInt8)
  (Cur.mk r (0 : Int) (0 : Int)).pat.fst) &&
  lvB (cut (47 : UInt8) (dpc2 r)) &&
  Den.mt
  (cut (47 : UInt8)
  (Cur.mk r (0 : Int) (0 : Int)).pat.fst)
  (cut (47 : UInt8) (dpc2 r))))
  (some (V.b false, []))
  (ifB
  (lvB
  (cut (47 : UInt8)
  (Cur.mk r (0 : Int) (0 : Int)).pat.fst) &&
  lvB (cut (47 : UInt8) (dpc2 r)) &&
  tk inL
  (cut (47 : UInt8) (Cur.mk r (0 : Int) (0 : Int)).pat.fst)
  (cut (47 : UInt8) (dpc2 r)))
  (ifB
  (!(lvB
  (cut (47 : UInt8)
  (Cur.mk r (0 : Int) (0 : Int)).pat.fst) &&
  lvB (cut (47 : UInt8) (dpc2 r)) &&
  Den.mt
  (cut (47 : UInt8)
  (Cur.mk r (0 : Int) (0 : Int)).pat.fst)
  (cut (47 : UInt8) (dpc2 r))))
  (some (V.b false, []))
  (ifB
  (!(lvB
  (cut (47 : UInt8)
  (Cur.mk r (0 : Int) (0 : Int)).pat.fst) &&
  lvB (cut (47 : UInt8) (dpc2 r))))
  (some (V.b true, []))
  (ifT
  (decide
  ((Cur.mk l (0 : Int)
  (0 : Int)).pat.snd.top.fst.length ≤
  (4000000000 : Nat)))
  (ifB
  (!tpB
  (cut (47 : UInt8)
  (Cur.mk l (0 : Int) (0 : Int)).pat.snd.top.fst))
  (some (V.b true, []))
  (ifT
  (decide
  ((Cur.mk r (0 : Int) (0 : Int)).pat.fst.length ≤
  (4000000000 : Nat) ∧
  (Cur.mk l (0 : Int)
  (0 :
  Int)).pat.snd.top.fst.length ≤
  (4000000000 : Nat)))
  (ifT
  (decide
  ((dpc2 r).length ≤ (4000000000 : Nat) ∧
  (Cur.mk l (0 : Int)
  (0 :
  Int)).pat.snd.top.fst.length ≤
  (4000000000 : Nat)))
  (ifB
  (lvB
  (cut (47 : UInt8)
  (Cur.mk r (0 : Int) (0 : Int)).pat.fst) &&
  tpB
  (cut (47 : UInt8)
  (Cur.mk l (0 : Int)
  (0 : Int)).pat.snd.top.fst))
  (ifB
  (lvB (cut (47 : UInt8) (dpc2 r)) &&
  tpB
  (cut (47 : UInt8)
  (Cur.mk l (0 : Int)
  (0 : Int)).pat.snd.top.fst))
  (ifB
  (lvB
  (cut (47 : UInt8)
  (Cur.mk r (0 : Int)
  (0 : Int)).pat.fst) &&
  lvB (cut (47 : UInt8) (dpc2 r)) &&
  tk inL
  (cut (47 : UInt8)
  (Cur.mk r (0 : Int)
  (0 : Int)).pat.fst)
  (cut (47 : UInt8) (dpc2 r)))
  (ifB
  (lvB (cut (47 : UInt8) (dpc2 r)) &&
  tpB
  (cut (47 : UInt8)
  (Cur.mk l (0 : Int)
  (0 :
  Int)).pat.snd.top.fst) &&
  tk inL (cut (47 : UInt8) (dpc2 r))
  (cut (47 : UInt8)
  (Cur.mk l (0 : Int)
  (0 :
  Int)).pat.snd.top.fst))
  (ifB
  (!!(lvB
  (cut (47 : UInt8)
  (Cur.mk r (0 : Int)
  (0 : Int)).pat.fst) &&
  tpB
  (cut (47 : UInt8)
  (Cur.mk l (0 : Int)
  (0 :
  Int)).pat.snd.top.fst) &&
  tk inL
  (cut (47 : UInt8)
  (Cur.mk r (0 : Int)
  (0 : Int)).pat.fst)
  (cut (47 : UInt8)
  (Cur.mk l (0 : Int)
  (0 :
  Int)).pat.snd.top.fst)))
  (ifB
  (lvB
  (cut (47 : UInt8)
  (Cur.mk r (0 : Int)
  (0 : Int)).pat.fst) &&
  tpB
  (cut (47 : UInt8)
  (Cur.mk l (0 : Int)
  (0 :
  Int)).pat.snd.top.fst) &&
  tk inL
  (cut (47 : UInt8)
  (Cur.mk r (0 : Int)
  (0 : Int)).pat.fst)
  (cut (47 : UInt8)
  (Cur.mk l (0 : Int)
  (0 :
  Int)).pat.snd.top.fst))
  (ifB
  (lvB (cut (47 : UInt8) (dpc2 r)) &&
  tpB
  (cut (47 : UInt8)
  (Cur.mk l (0 : Int)
  (0 :
  Int)).pat.snd.top.fst) &&
  tk inL (cut (47 : UInt8) (dpc2 r))
  (cut (47 : UInt8)
  (Cur.mk l (0 : Int)
  (0 :
  Int)).pat.snd.top.fst))
  (some
  (V.b
  !!(lvB
  (cut (47 : UInt8)
  (Cur.mk r
  (0 : Int)
  (0 :
  Int)).pat.fst) &&
  lvB
  (cut (47 : UInt8)
  (dpc2 r)) &&
  Den.mt
  (cut (47 : UInt8)
  (Cur.mk r (0 : Int)
  (0 :
  Int)).pat.fst)
  (cut (47 : UInt8)
  (dpc2 r))),
  []))
  (some (V.b true, [])))
  (some (V.b true, [])))
  (some (V.b false, [])))
  (ifB
  (lvB
  (cut (47 : UInt8)
  (Cur.mk r (0 : Int)
  (0 : Int)).pat.fst) &&
  tpB
  (cut (47 : UInt8)
  (Cur.mk l (0 : Int)
  (0 :
  Int)).pat.snd.top.fst) &&
  tk inL
  (cut (47 : UInt8)
  (Cur.mk r (0 : Int)
  (0 : Int)).pat.fst)
  (cut (47 : UInt8)
  (Cur.mk l (0 : Int)
  (0 :
  Int)).pat.snd.top.fst))
  (ifB
  (lvB (cut (47 : UInt8) (dpc2 r)) &&
  tpB
  (cut (47 : UInt8)
  (Cur.mk l (0 : Int)
  (0 :
  Int)).pat.snd.top.fst) &&
  tk inL (cut (47 : UInt8) (dpc2 r))
  (cut (47 : UInt8)
  (Cur.mk l (0 : Int)
  (0 :
  Int)).pat.snd.top.fst))
  (some
  (V.b
  !!(lvB
  (cut (47 : UInt8)
  (Cur.mk r (0 : Int)
  (0 :
  Int)).pat.fst) &&
  lvB
  (cut (47 : UInt8)
  (dpc2 r)) &&
  Den.mt
  (cut (47 : UInt8)
  (Cur.mk r (0 : Int)
  (0 :
  Int)).pat.fst)
  (cut (47 : UInt8)
  (dpc2 r))),
  []))
  (some (V.b true, [])))
  (some (V.b true, []))))
  (ifB
  (lvB
  (cut (47 : UInt8)
  (Cur.mk r (0 : Int)
  (0 : Int)).pat.fst) &&
  tpB
  (cut (47 : UInt8)
  (Cur.mk l (0 : Int)
  (0 :
  Int)).pat.snd.top.fst) &&
  tk inL
  (cut (47 : UInt8)
  (Cur.mk r (0 : Int)
  (0 : Int)).pat.fst)
  (cut (47 : UInt8)
  (Cur.mk l (0 : Int)
  (0 :
  Int)).pat.snd.top.fst))
  (ifB
  (lvB (cut (47 : UInt8) (dpc2 r)) &&
  tpB
  (cut (47 : UInt8)
  (Cur.mk l (0 : Int)
  (0 :
  Int)).pat.snd.top.fst) &&
  tk inL (cut (47 : UInt8) (dpc2 r))
  (cut (47 : UInt8)
  (Cur.mk l (0 : Int)
  (0 :
  Int)).pat.snd.top.fst))
  (some
  (V.b
  !!(lvB
  (cut (47 : UInt8)
  (Cur.mk r (0 : Int)
  (0 :
  Int)).pat.fst) &&
  lvB
  (cut (47 : UInt8)
  (dpc2 r)) &&
  Den.mt
  (cut (47 : UInt8)
  (Cur.mk r (0 : Int)
  (0 :
  Int)).pat.fst)
  (cut (47 : UInt8)
  (dpc2 r))),
  []))
  (some (V.b true, [])))
  (some (V.b true, []))))
  (some (V.b false, [])))
  (some (V.b false, [])))))))))
  (ifB
  (!(lvB
  (cut (47 : UInt8)
  (Cur.mk r (0 : Int) (0 : Int)).pat.fst) &&
  lvB (cut (47 : UInt8) (dpc2 r))))
  (some (V.b true, []))
  (ifT
  (decide
  ((Cur.mk l (0 : Int) (0 : Int)).pat.snd.top.fst.length ≤
  (4000000000 : Nat)))
  (ifB
  (!tpB
  (cut (47 : UInt8)
  (Cur.mk l (0 : Int) (0 : Int)).pat.snd.top.fst))
  (some (V.b true, []))
  (ifT
  (decide
  ((Cur.mk r (0 : Int) (0 : Int)).pat.fst.length ≤
  (4000000000 : Nat) ∧
  (Cur.mk l (0 : Int)
  (0 : Int)).pat.snd.top.fst.length ≤
  (4000000000 : Nat)))
  (ifT
  (decide
  ((dpc2 r).length ≤ (4000000000 : Nat) ∧
  (Cur.mk l (0 : Int)
  (0 :
  Int)).pat.snd.top.fst.length ≤
  (4000000000 : Nat)))
  (ifB
  (lvB
  (cut (47 : UInt8)
  (Cur.mk r (0 : Int) (0 : Int)).pat.fst) &&
  tpB
  (cut (47 : UInt8)
  (Cur.mk l (0 : Int)
  (0 : Int)).pat.snd.top.fst))
  (ifB
  (lvB (cut (47 : UInt8) (dpc2 r)) &&
  tpB
  (cut (47 : UInt8)
  (Cur.mk l (0 : Int)
  (0 : Int)).pat.snd.top.fst))
  (ifB
  (lvB
  (cut (47 : UInt8)
  (Cur.mk r (0 : Int)
  (0 : Int)).pat.fst) &&
  lvB (cut (47 : UInt8) (dpc2 r)) &&
  tk inL
  (cut (47 : UInt8)
  (Cur.mk r (0 : Int) (0 : Int)).pat.fst)
  (cut (47 : UInt8) (dpc2 r)))
  (ifB
  (lvB (cut (47 : UInt8) (dpc2 r)) &&
  tpB
  (cut (47 : UInt8)
  (Cur.mk l (0 : Int)
  (0 :
  Int)).pat.snd.top.fst) &&
  tk inL (cut (47 : UInt8) (dpc2 r))
  (cut (47 : UInt8)
  (Cur.mk l (0 : Int)
  (0 : Int)).pat.snd.top.fst))
  (ifB
  (!!(lvB
  (cut (47 : UInt8)
  (Cur.mk r (0 : Int)
  (0 : Int)).pat.fst) &&
  tpB
  (cut (47 : UInt8)
  (Cur.mk l (0 : Int)
  (0 :
  Int)).pat.snd.top.fst) &&
  tk inL
  (cut (47 : UInt8)
  (Cur.mk r (0 : Int)
  (0 : Int)).pat.fst)
  (cut (47 : UInt8)
  (Cur.mk l (0 : Int)
  (0 :
  Int)).pat.snd.top.fst)))
  (ifB
  (lvB
  (cut (47 : UInt8)
  (Cur.mk r (0 : Int)
  (0 : Int)).pat.fst) &&
  tpB
  (cut (47 : UInt8)
  (Cur.mk l (0 : Int)
  (0 :
  Int)).pat.snd.top.fst) &&
  tk inL
  (cut (47 : UInt8)
  (Cur.mk r (0 : Int)
  (0 : Int)).pat.fst)
  (cut (47 : UInt8)
  (Cur.mk l (0 : Int)
  (0 :
  Int)).pat.snd.top.fst))
  (ifB
  (lvB (cut (47 : UInt8) (dpc2 r)) &&
  tpB
  (cut (47 : UInt8)
  (Cur.mk l (0 : Int)
  (0 :
  Int)).pat.snd.top.fst) &&
  tk inL (cut (47 : UInt8) (dpc2 r))
  (cut (47 : UInt8)
  (Cur.mk l (0 : Int)
  (0 :
  Int)).pat.snd.top.fst))
  (some
  (V.b
  !!(lvB
  (cut (47 : UInt8)
  (Cur.mk r (0 : Int)
  (0 :
  Int)).pat.fst) &&
  lvB
  (cut (47 : UInt8)
  (dpc2 r)) &&
  Den.mt
  (cut (47 : UInt8)
  (Cur.mk r (0 : Int)
  (0 :
  Int)).pat.fst)
  (cut (47 : UInt8)
  (dpc2 r))),
  []))
  (some (V.b true, [])))
  (some (V.b true, [])))
  (some (V.b false, [])))
  (ifB
  (lvB
  (cut (47 : UInt8)
  (Cur.mk r (0 : Int)
  (0 : Int)).pat.fst) &&
  tpB
  (cut (47 : UInt8)
  (Cur.mk l (0 : Int)
  (0 :
  Int)).pat.snd.top.fst) &&
  tk inL
  (cut (47 : UInt8)
  (Cur.mk r (0 : Int)
  (0 : Int)).pat.fst)
  (cut (47 : UInt8)
  (Cur.mk l (0 : Int)
  (0 :
  Int)).pat.snd.top.fst))
  (ifB
  (lvB (cut (47 : UInt8) (dpc2 r)) &&
  tpB
  (cut (47 : UInt8)
  (Cur.mk l (0 : Int)
  (0 :
  Int)).pat.snd.top.fst) &&
  tk inL (cut (47 : UInt8) (dpc2 r))
  (cut (47 : UInt8)
  (Cur.mk l (0 : Int)
  (0 :
  Int)).pat.snd.top.fst))
  (some
  (V.b
  !!(lvB
  (cut (47 : UInt8)
  (Cur.mk r (0 : Int)
  (0 :
  Int)).pat.fst) &&
  lvB
  (cut (47 : UInt8)
  (dpc2 r)) &&
  Den.mt
  (cut (47 : UInt8)
  (Cur.mk r (0 : Int)
  (0 :
  Int)).pat.fst)
  (cut (47 : UInt8)
  (dpc2 r))),
  []))
  (some (V.b true, [])))
  (some (V.b true, []))))
  (ifB
  (lvB
  (cut (47 : UInt8)
  (Cur.mk r (0 : Int)
  (0 : Int)).pat.fst) &&
  tpB
  (cut (47 : UInt8)
  (Cur.mk l (0 : Int)
  (0 :
  Int)).pat.snd.top.fst) &&
  tk inL
  (cut (47 : UInt8)
  (Cur.mk r (0 : Int)
  (0 : Int)).pat.fst)
  (cut (47 : UInt8)
  (Cur.mk l (0 : Int)
  (0 : Int)).pat.snd.top.fst))
  (ifB
  (lvB (cut (47 : UInt8) (dpc2 r)) &&
  tpB
  (cut (47 : UInt8)
  (Cur.mk l (0 : Int)
  (0 :
  Int)).pat.snd.top.fst) &&
  tk inL (cut (47 : UInt8) (dpc2 r))
  (cut (47 : UInt8)
  (Cur.mk l (0 : Int)
  (0 :
  Int)).pat.snd.top.fst))
  (some
  (V.b
  !!(lvB
  (cut (47 : UInt8)
  (Cur.mk r (0 : Int)
  (0 :
  Int)).pat.fst) &&
  lvB
  (cut (47 : UInt8)
  (dpc2 r)) &&
  Den.mt
  (cut (47 : UInt8)
  (Cur.mk r (0 : Int)
  (0 : Int)).pat.fst)
  (cut (47 : UInt8)
  (dpc2 r))),
  []))
  (some (V.b true, [])))
  (some (V.b true, []))))
  (some (V.b false, [])))
  (some (V.b false, [])))))))))))))))
  (ifB
  (!(lvB (cut (47 : UInt8) (Cur.mk r (0 : Int) (0 : Int)).pat.fst) &&
  lvB (cut (47 : UInt8) (dpc2 r))))
  (some (V.b true, []))
  (ifT
  (decide
  ((Cur.mk l (0 : Int) (0 : Int)).pat.snd.top.fst.length ≤
  (4000000000 : Nat)))
  (ifB
  (!tpB
  (cut (47 : UInt8) (Cur.mk l (0 : Int) (0 : Int)).pat.snd.top.fst))
  (some (V.b true, []))
  (ifT
  (decide
  ((Cur.mk r (0 : Int) (0 : Int)).pat.fst.length ≤
  (4000000000 : Nat) ∧
  (Cur.mk l (0 : Int) (0 : Int)).pat.snd.top.fst.length ≤
  (4000000000 : Nat)))
  (ifT
  (decide
  ((dpc2 r).length ≤ (4000000000 : Nat) ∧
  (Cur.mk l (0 : Int) (0 : Int)).pat.snd.top.fst.length ≤
  (4000000000 : Nat)))
  (ifB
  (lvB
  (cut (47 : UInt8) (Cur.mk r (0 : Int) (0 : Int)).pat.fst) &&
  tpB
  (cut (47 : UInt8)
  (Cur.mk l (0 : Int) (0 : Int)).pat.snd.top.fst))
  (ifB
  (lvB (cut (47 : UInt8) (dpc2 r)) &&
  tpB
  (cut (47 : UInt8)
  (Cur.mk l (0 : Int) (0 : Int)).pat.snd.top.fst))
  (ifB
  (lvB
  (cut (47 : UInt8)
  (Cur.mk r (0 : Int) (0 : Int)).pat.fst) &&
  lvB (cut (47 : UInt8) (dpc2 r)) &&
  tk inL
  (cut (47 : UInt8)
  (Cur.mk r (0 : Int) (0 : Int)).pat.fst)
  (cut (47 : UInt8) (dpc2 r)))
  (ifB
  (lvB (cut (47 : UInt8) (dpc2 r)) &&
  tpB
  (cut (47 : UInt8)
  (Cur.mk l (0 : Int) (0 : Int)).pat.snd.top.fst) &&
  tk inL (cut (47 : UInt8) (dpc2 r))
  (cut (47 : UInt8)
  (Cur.mk l (0 : Int) (0 : Int)).pat.snd.top.fst))
  (ifB
  (!!(lvB
  (cut (47 : UInt8)
  (Cur.mk r (0 : Int) (0 : Int)).pat.fst) &&
  tpB
  (cut (47 : UInt8)
  (Cur.mk l (0 : Int)
  (0 : Int)).pat.snd.top.fst) &&
  tk inL
  (cut (47 : UInt8)
  (Cur.mk r (0 : Int) (0 : Int)).pat.fst)
  (cut (47 : UInt8)
  (Cur.mk l (0 : Int)
  (0 : Int)).pat.snd.top.fst)))
  (ifB
  (lvB
  (cut (47 : UInt8)
  (Cur.mk r (0 : Int) (0 : Int)).pat.fst) &&
  tpB
  (cut (47 : UInt8)
  (Cur.mk l (0 : Int)
  (0 : Int)).pat.snd.top.fst) &&
  tk inL
  (cut (47 : UInt8)
  (Cur.mk r (0 : Int) (0 : Int)).pat.fst)
  (cut (47 : UInt8)
  (Cur.mk l (0 : Int) (0 : Int)).pat.snd.top.fst))
  (ifB
  (lvB (cut (47 : UInt8) (dpc2 r)) &&
  tpB
  (cut (47 : UInt8)
  (Cur.mk l (0 : Int)
  (0 : Int)).pat.snd.top.fst) &&
  tk inL (cut (47 : UInt8) (dpc2 r))
  (cut (47 : UInt8)
  (Cur.mk l (0 : Int)
  (0 : Int)).pat.snd.top.fst))
  (some
  (V.b
  !!(lvB
  (cut (47 : UInt8)
  (Cur.mk r (0 : Int)
  (0 : Int)).pat.fst) &&
  lvB (cut (47 : UInt8) (dpc2 r)) &&
  Den.mt
  (cut (47 : UInt8)
  (Cur.mk r (0 : Int)
  (0 : Int)).pat.fst)
  (cut (47 : UInt8) (dpc2 r))),
  []))
  (some (V.b true, [])))
  (some (V.b true, [])))
  (some (V.b false, [])))
  (ifB
  (lvB
  (cut (47 : UInt8)
  (Cur.mk r (0 : Int) (0 : Int)).pat.fst) &&
  tpB
  (cut (47 : UInt8)
  (Cur.mk l (0 : Int)
  (0 : Int)).pat.snd.top.fst) &&
  tk inL
  (cut (47 : UInt8)
  (Cur.mk r (0 : Int) (0 : Int)).pat.fst)
  (cut (47 : UInt8)
  (Cur.mk l (0 : Int) (0 : Int)).pat.snd.top.fst))
  (ifB
  (lvB (cut (47 : UInt8) (dpc2 r)) &&
  tpB
  (cut (47 : UInt8)
  (Cur.mk l (0 : Int)
  (0 : Int)).pat.snd.top.fst) &&
  tk inL (cut (47 : UInt8) (dpc2 r))
  (cut (47 : UInt8)
  (Cur.mk l (0 : Int) (0 : Int)).pat.snd.top.fst))
  (some
  (V.b
  !!(lvB
  (cut (47 : UInt8)
  (Cur.mk r (0 : Int)
  (0 : Int)).pat.fst) &&
  lvB (cut (47 : UInt8) (dpc2 r)) &&
  Den.mt
  (cut (47 : UInt8)
  (Cur.mk r (0 : Int)
  (0 : Int)).pat.fst)
  (cut (47 : UInt8) (dpc2 r))),
  []))
  (some (V.b true, [])))
  (some (V.b true, []))))
  (ifB
  (lvB
  (cut (47 : UInt8)
  (Cur.mk r (0 : Int) (0 : Int)).pat.fst) &&
  tpB
  (cut (47 : UInt8)
  (Cur.mk l (0 : Int) (0 : Int)).pat.snd.top.fst) &&
  tk inL
  (cut (47 : UInt8)
  (Cur.mk r (0 : Int) (0 : Int)).pat.fst)
  (cut (47 : UInt8)
  (Cur.mk l (0 : Int) (0 : Int)).pat.snd.top.fst))
  (ifB
  (lvB (cut (47 : UInt8) (dpc2 r)) &&
  tpB
  (cut (47 : UInt8)
  (Cur.mk l (0 : Int)
  (0 : Int)).pat.snd.top.fst) &&
  tk inL (cut (47 : UInt8) (dpc2 r))
  (cut (47 : UInt8)
  (Cur.mk l (0 : Int) (0 : Int)).pat.snd.top.fst))
  (some
  (V.b
  !!(lvB
  (cut (47 : UInt8)
  (Cur.mk r (0 : Int)
  (0 : Int)).pat.fst) &&
  lvB (cut (47 : UInt8) (dpc2 r)) &&
  Den.mt
  (cut (47 : UInt8)
  (Cur.mk r (0 : Int) (0 : Int)).pat.fst)
  (cut (47 : UInt8) (dpc2 r))),
  []))
  (some (V.b true, [])))
  (some (V.b true, []))))
  (some (V.b false, [])))
  (some (V.b false, [])))))))))))))))))))))))))))))) : _) := by kernel_rfl
theorem law_knows : Knows Tryd.prog (look [(5, .rd1 dtfG), (6, .rd1 tfitsG), (7, .rd1 tfitsG), (8, .rd1 gtopG), (9, .rd1 gtopG), (10, .rd1 gpatG), (11, .rd1 gpatG), (12, .rd1 dpcG), (13, .rd1 pcovG), (14, .rd1 pcovG), (15, .rd1 pmeetG), (16, .rd1 pmeetG)]) := KnowsL.knows (KnowsL.cons (enters_fn Tryd.func5 (by kernel_rfl) (by kernel_rfl)) dtf (KnowsL.cons (enters_fn Tryd.func6 (by kernel_rfl) (by kernel_rfl)) itfits (KnowsL.cons (enters_fn Tryd.func7 (by kernel_rfl) (by kernel_rfl)) stfits (KnowsL.cons (enters_fn Tryd.func8 (by kernel_rfl) (by kernel_rfl)) igtop (KnowsL.cons (enters_fn Tryd.func9 (by kernel_rfl) (by kernel_rfl)) sgtop (KnowsL.cons (enters_fn Tryd.func10 (by kernel_rfl) (by kernel_rfl)) igpat (KnowsL.cons (enters_fn Tryd.func11 (by kernel_rfl) (by kernel_rfl)) sgpat (KnowsL.cons (enters_fn Tryd.func12 (by kernel_rfl) (by kernel_rfl)) dpc (KnowsL.cons (enters_fn Tryd.func13 (by kernel_rfl) (by kernel_rfl)) ipcov (KnowsL.cons (enters_fn Tryd.func14 (by kernel_rfl) (by kernel_rfl)) spcov (KnowsL.cons (enters_fn Tryd.func15 (by kernel_rfl) (by kernel_rfl)) ipmeet (KnowsL.cons (enters_fn Tryd.func16 (by kernel_rfl) (by kernel_rfl)) spmeet KnowsL.nil))))))))))))
theorem law_loops : LoopsOk Tryd.prog (look [(5, .rd1 dtfG), (6, .rd1 tfitsG), (7, .rd1 tfitsG), (8, .rd1 gtopG), (9, .rd1 gtopG), (10, .rd1 gpatG), (11, .rd1 gpatG), (12, .rd1 dpcG), (13, .rd1 pcovG), (14, .rd1 pcovG), (15, .rd1 pmeetG), (16, .rd1 pmeetG)]) (look []) 0 (Tryd.f3.body.getD .skip) := loopsOk_nil _
end Go.Proofs.YtfkoljiioikdfaaDoor.Den
