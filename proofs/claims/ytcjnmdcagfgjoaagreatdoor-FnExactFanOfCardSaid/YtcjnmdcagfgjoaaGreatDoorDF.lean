/- What functions of the program do, by the machine: LFof. -/
import Derived.Test.YtcjnmdcagfgjoaaGreatDoorDE
import Derived.KernelRfl
import Derived.Test.YtcjnmdcagfgjoaaGreatDoorRows
namespace Go.Proofs.YtcjnmdcagfgjoaaGreatDoor.Den
open Go.Proofs.Tryz
open List (all_eq_true drop take)
open Nat (le_refl)
open Go.Proofs
set_option maxRecDepth 100000

abbrev ZD:FuncId->Option Ent:=Ab [(9,.rd1 VO),(11,.rd1 VG),(27,.rd1 foG),(28,.rd1 foG),(13,.rd1 XI),(29,.rd1 Lt),(25,.own WR),(30,.own WO),(31,.rd1 X0)]
theorem Uo (ts:List Tp) (fs:List Fa) (w:Int):Aw prog ZD (Ab []) f6 [.agg [.sl TPd ts,.sl FNd fs],.j w] [] =
 ((ifT (decide ((0:Int)<=(1048576:Int)/\(1048576:Int)<=(1048576:Int))&&NX (ts,fs,())) (ifB (decide ((1048576:Int)-(↑(wBk (ts,fs,())):Int)<(0 :
 Int))) (some (V.b true,[])) (ifB (decide ((1048576:Int)-(↑(wBk (ts,fs,())):Int)<(0:Int))) (some (V.b true,[])) (ifT (decide (ts.length<=1000000000)
 && ts.all DL&&(decide (fs.length<=1000000000)&&fs.all D0)) (ifT (PU (take ts.length (drop 0 ts)) (take fs.length (drop (0
 : Nat) fs))) (ifT (decide (ts.length<=1000000000)&&ts.all DL&&(decide (fs.length<=1000000000)&&fs.all D0)) (ifT (PU (take ts.length
 (drop 0 ts)) (take fs.length (drop 0 fs))) (ifT (Dv ((foF (take ts.length (drop 0 ts)) (take fs.length (drop
 0 fs)) w).fst,(foF (take ts.length (drop 0 ts)) (take fs.length (drop 0 fs)) w).snd.fst,(take (foF (take ts.length
 (drop 0 ts)) (take fs.length (drop 0 fs)) w).snd.snd.fst.fst.length (drop 0 (foF (take ts.length (drop 0
 ts)) (take fs.length (drop 0 fs)) w).snd.snd.fst.fst),()),(take (foF (take ts.length (drop 0 ts)) (take fs.length
 (drop 0 fs)) w).snd.snd.snd.fst.fst.length (drop 0 (foF (take ts.length (drop 0 ts)) (take fs.length (drop 0
 fs)) w).snd.snd.snd.fst.fst),()),take (foF (take ts.length (drop 0 ts)) (take fs.length (drop 0 fs))
 w).snd.snd.snd.snd.fst.length (drop 0 (foF (take ts.length (drop 0 ts)) (take fs.length (drop 0 fs))
 w).snd.snd.snd.snd.fst),(foF (take ts.length (drop 0 ts)) (take fs.length (drop 0 fs)) w).snd.snd.snd.snd.snd.fst,())) (ifB (!EX
 ((foF (take ts.length (drop 0 ts)) (take fs.length (drop 0 fs)) w).fst,(foF (take ts.length (drop 0 ts)) (take
 fs.length (drop 0 fs)) w).snd.fst,(take (foF (take ts.length (drop 0 ts)) (take fs.length (drop 0 fs))
 w).snd.snd.fst.fst.length (drop 0 (foF (take ts.length (drop 0 ts)) (take fs.length (drop 0 fs)) w).snd.snd.fst.fst),
 ()),(take (foF (take ts.length (drop 0 ts)) (take fs.length (drop 0 fs)) w).snd.snd.snd.fst.fst.length (drop 0 (foF
 (take ts.length (drop 0 ts)) (take fs.length (drop 0 fs)) w).snd.snd.snd.fst.fst),()),take (foF (take ts.length (drop
 0 ts)) (take fs.length (drop 0 fs)) w).snd.snd.snd.snd.fst.length (drop 0 (foF (take ts.length (drop 0 ts))
 (take fs.length (drop 0 fs)) w).snd.snd.snd.snd.fst),(foF (take ts.length (drop 0 ts)) (take fs.length (drop 0 fs))
 w).snd.snd.snd.snd.snd.fst,()) ((foF (take ts.length (drop 0 ts)) (take fs.length (drop 0 fs)) w).fst,(foF (take ts.length
 (drop 0 ts)) (take fs.length (drop 0 fs)) w).snd.fst,(take (foF (take ts.length (drop 0 ts)) (take fs.length
 (drop 0 fs)) w).snd.snd.fst.fst.length (drop 0 (foF (take ts.length (drop 0 ts)) (take fs.length (drop 0
 fs)) w).snd.snd.fst.fst),()),(take (foF (take ts.length (drop 0 ts)) (take fs.length (drop 0 fs)) w).snd.snd.snd.fst.fst.length
 (drop 0 (foF (take ts.length (drop 0 ts)) (take fs.length (drop 0 fs)) w).snd.snd.snd.fst.fst),()),take (foF
 (take ts.length (drop 0 ts)) (take fs.length (drop 0 fs)) w).snd.snd.snd.snd.fst.length (drop 0 (foF (take ts.length
 (drop 0 ts)) (take fs.length (drop 0 fs)) w).snd.snd.snd.snd.fst),(foF (take ts.length (drop 0 ts)) (take fs.length
 (drop 0 fs)) w).snd.snd.snd.snd.snd.fst,())) (some (V.b false,[])) (ifB (!DD (take ts.length (drop 0 ts)) (take fs.length
 (drop 0 fs)) w==DD (take ts.length (drop 0 ts)) (take fs.length (drop 0 fs)) w) (some (V.b false,[])) (ifT (decide
 (ts.length<=1000000000)&&ts.all DL&&(decide (fs.length<=1000000000)&&fs.all D0)) (ifT (Na (take ts.length (drop 0 ts),
 take fs.length (drop 0 fs),())) (ifB (!XJ (take ts.length (drop 0 ts),take fs.length (drop 0 fs),()) (take
 ts.length (drop 0 ts),take fs.length (drop 0 fs),())) (some (V.b false,[])) (ifT (decide (ts.length=ts.length/\fs.length=fs.length
 /\ (0:Int)<=(1:Int)/\(1:Int)+LG ts fs<=lim)) (ifB (decide ((1:Int)+LG ts fs<(0:Int))) (some (V.b false,[])) (ifT (Dv ((foF (take ts.length
 (drop 0 ts)) (take fs.length (drop 0 fs)) w).fst,(foF (take ts.length (drop 0 ts)) (take fs.length (drop (0 :
 Nat) fs)) w).snd.fst,(take (foF (take ts.length (drop 0 ts)) (take fs.length (drop 0 fs)) w).snd.snd.fst.fst.length (drop
 0 (foF (take ts.length (drop 0 ts)) (take fs.length (drop 0 fs)) w).snd.snd.fst.fst),()),(take (foF (take
 ts.length (drop 0 ts)) (take fs.length (drop 0 fs)) w).snd.snd.snd.fst.fst.length (drop 0 (foF (take ts.length (drop
 0 ts)) (take fs.length (drop 0 fs)) w).snd.snd.snd.fst.fst),()),take (foF (take ts.length (drop 0 ts)) (take
 fs.length (drop 0 fs)) w).snd.snd.snd.snd.fst.length (drop 0 (foF (take ts.length (drop 0 ts)) (take fs.length (drop
 0 fs)) w).snd.snd.snd.snd.fst),(foF (take ts.length (drop 0 ts)) (take fs.length (drop 0 fs)) w).snd.snd.snd.snd.snd.fst,
 ())) (ifB (!EX ((foF (take ts.length (drop 0 ts)) (take fs.length (drop 0 fs)) w).fst,(foF (take ts.length (drop (0 :
 Nat) ts)) (take fs.length (drop 0 fs)) w).snd.fst,(take (foF (take ts.length (drop 0 ts)) (take fs.length (drop (0 :
 Nat) fs)) w).snd.snd.fst.fst.length (drop 0 (foF (take ts.length (drop 0 ts)) (take fs.length (drop 0 fs))
 w).snd.snd.fst.fst),()),(take (foF (take ts.length (drop 0 ts)) (take fs.length (drop 0 fs)) w).snd.snd.snd.fst.fst.length
 (drop 0 (foF (take ts.length (drop 0 ts)) (take fs.length (drop 0 fs)) w).snd.snd.snd.fst.fst),()),take (foF
 (take ts.length (drop 0 ts)) (take fs.length (drop 0 fs)) w).snd.snd.snd.snd.fst.length (drop 0 (foF (take ts.length
 (drop 0 ts)) (take fs.length (drop 0 fs)) w).snd.snd.snd.snd.fst),(foF (take ts.length (drop 0 ts)) (take fs.length
 (drop 0 fs)) w).snd.snd.snd.snd.snd.fst,()) ((foF (take ts.length (drop 0 ts)) (take fs.length (drop 0 fs)) w).fst,(foF
 (take ts.length (drop 0 ts)) (take fs.length (drop 0 fs)) w).snd.fst,(take (foF (take ts.length (drop 0 ts))
 (take fs.length (drop 0 fs)) w).snd.snd.fst.fst.length (drop 0 (foF (take ts.length (drop 0 ts)) (take fs.length
 (drop 0 fs)) w).snd.snd.fst.fst),()),(take (foF (take ts.length (drop 0 ts)) (take fs.length (drop 0 fs))
 w).snd.snd.snd.fst.fst.length (drop 0 (foF (take ts.length (drop 0 ts)) (take fs.length (drop 0 fs))
 w).snd.snd.snd.fst.fst),()),take (foF (take ts.length (drop 0 ts)) (take fs.length (drop 0 fs)) w).snd.snd.snd.snd.fst.length
 (drop 0 (foF (take ts.length (drop 0 ts)) (take fs.length (drop 0 fs)) w).snd.snd.snd.snd.fst),(foF (take ts.length
 (drop 0 ts)) (take fs.length (drop 0 fs)) w).snd.snd.snd.snd.snd.fst,())) (some (V.b false,[])) (ifB (!DD (take ts.length
 (drop 0 ts)) (take fs.length (drop 0 fs)) w==DD (take ts.length (drop 0 ts)) (take fs.length (drop (0 :
 Nat) fs)) w) (some (V.b false,[])) (ifT (decide ((foF (take ts.length (drop 0 ts)) (take fs.length (drop 0 fs))
 w).snd.snd.fst.fst.length=(foF (take ts.length (drop 0 ts)) (take fs.length (drop 0 fs)) w).snd.snd.fst.fst.length/\(foF (take
 ts.length (drop 0 ts)) (take fs.length (drop 0 fs)) w).snd.snd.snd.fst.fst.length=(foF (take ts.length (drop 0 ts))
 (take fs.length (drop 0 fs)) w).snd.snd.snd.fst.fst.length/\(foF (take ts.length (drop 0 ts)) (take fs.length (drop (0 :
 Nat) fs)) w).snd.snd.snd.snd.fst.length=(foF (take ts.length (drop 0 ts)) (take fs.length (drop 0 fs)) w).snd.snd.snd.snd.fst.length
 /\ (0:Int)<=(1:Int)/\(1:Int)+Es (foF (take ts.length (drop 0 ts)) (take fs.length (drop 0 fs)) w).snd.snd.fst.fst (foF
 (take ts.length (drop 0 ts)) (take fs.length (drop 0 fs)) w).snd.snd.snd.fst.fst (foF (take ts.length (drop 0 ts))
 (take fs.length (drop 0 fs)) w).snd.snd.snd.snd.fst<=lim)) (ifT (decide ((0:Int)<=(1:Int)/\(1:Int)+Es (take (foF (take ts.length
 (drop 0 ts)) (take fs.length (drop 0 fs)) w).snd.snd.fst.fst.length (drop 0 (mfW (1:Int) (foF (take ts.length
 (drop 0 ts)) (take fs.length (drop 0 fs)) w).snd.snd.fst.fst))) (take (foF (take ts.length (drop 0 ts)) (take
 fs.length (drop 0 fs)) w).snd.snd.snd.fst.fst.length (drop 0 (mfT (1:Int) (foF (take ts.length (drop 0 ts)) (take
 fs.length (drop 0 fs)) w).snd.snd.fst.fst (foF (take ts.length (drop 0 ts)) (take fs.length (drop 0 fs))
 w).snd.snd.snd.fst.fst))) (take (foF (take ts.length (drop 0 ts)) (take fs.length (drop 0 fs)) w).snd.snd.snd.snd.fst.length
 (drop 0 (mfN (1:Int) (foF (take ts.length (drop 0 ts)) (take fs.length (drop 0 fs)) w).snd.snd.fst.fst (foF (take
 ts.length (drop 0 ts)) (take fs.length (drop 0 fs)) w).snd.snd.snd.fst.fst (foF (take ts.length (drop 0 ts)) (take
 fs.length (drop 0 fs)) w).snd.snd.snd.snd.fst)))<=lim)) (ifB (hfB (1:Int) (take (foF (take ts.length (drop 0 ts)) (take
 fs.length (drop 0 fs)) w).snd.snd.fst.fst.length (drop 0 (mfW (1:Int) (foF (take ts.length (drop 0 ts)) (take fs.length
 (drop 0 fs)) w).snd.snd.fst.fst))) (take (foF (take ts.length (drop 0 ts)) (take fs.length (drop 0 fs))
 w).snd.snd.snd.fst.fst.length (drop 0 (mfT (1:Int) (foF (take ts.length (drop 0 ts)) (take fs.length (drop 0 fs))
 w).snd.snd.fst.fst (foF (take ts.length (drop 0 ts)) (take fs.length (drop 0 fs)) w).snd.snd.snd.fst.fst))) (take (foF (take
 ts.length (drop 0 ts)) (take fs.length (drop 0 fs)) w).snd.snd.snd.snd.fst.length (drop 0 (mfN (1:Int) (foF (take
 ts.length (drop 0 ts)) (take fs.length (drop 0 fs)) w).snd.snd.fst.fst (foF (take ts.length (drop 0 ts)) (take
 fs.length (drop 0 fs)) w).snd.snd.snd.fst.fst (foF (take ts.length (drop 0 ts)) (take fs.length (drop 0 fs))
 w).snd.snd.snd.snd.fst)))) (ifB ((1:Int)+Es (take (foF (take ts.length (drop 0 ts)) (take fs.length (drop 0 fs))
 w).snd.snd.fst.fst.length (drop 0 (mfW (1:Int) (foF (take ts.length (drop 0 ts)) (take fs.length (drop 0 fs))
 w).snd.snd.fst.fst))) (take (foF (take ts.length (drop 0 ts)) (take fs.length (drop 0 fs)) w).snd.snd.snd.fst.fst.length
 (drop 0 (mfT (1:Int) (foF (take ts.length (drop 0 ts)) (take fs.length (drop 0 fs)) w).snd.snd.fst.fst (foF (take
 ts.length (drop 0 ts)) (take fs.length (drop 0 fs)) w).snd.snd.snd.fst.fst))) (take (foF (take ts.length (drop 0
 ts)) (take fs.length (drop 0 fs)) w).snd.snd.snd.snd.fst.length (drop 0 (mfN (1:Int) (foF (take ts.length (drop 0 ts))
 (take fs.length (drop 0 fs)) w).snd.snd.fst.fst (foF (take ts.length (drop 0 ts)) (take fs.length (drop 0 fs))
 w).snd.snd.snd.fst.fst (foF (take ts.length (drop 0 ts)) (take fs.length (drop 0 fs)) w).snd.snd.snd.snd.fst))) != (1:Int)+Es
 (foF (take ts.length (drop 0 ts)) (take fs.length (drop 0 fs)) w).snd.snd.fst.fst (foF (take ts.length (drop 0 ts))
 (take fs.length (drop 0 fs)) w).snd.snd.snd.fst.fst (foF (take ts.length (drop 0 ts)) (take fs.length (drop 0 fs))
 w).snd.snd.snd.snd.fst) (some (V.b false,[])) (ifT (decide (ts.length<=1000000000)&&ts.all DL&&(decide (fs.length<=1000000000)&&fs.all D0))
 (ifT (PU (take ts.length (drop 0 ts)) (take fs.length (drop 0 fs))) (ifT (Dv ((foF (take ts.length (drop 0 ts))
 (take fs.length (drop 0 fs)) w).fst,(foF (take ts.length (drop 0 ts)) (take fs.length (drop 0 fs)) w).snd.fst,
 (take (foF (take ts.length (drop 0 ts)) (take fs.length (drop 0 fs)) w).snd.snd.fst.fst.length (drop 0 (foF
 (take ts.length (drop 0 ts)) (take fs.length (drop 0 fs)) w).snd.snd.fst.fst),()),(take (foF (take ts.length (drop (0
 : Nat) ts)) (take fs.length (drop 0 fs)) w).snd.snd.snd.fst.fst.length (drop 0 (foF (take ts.length (drop 0 ts))
 (take fs.length (drop 0 fs)) w).snd.snd.snd.fst.fst),()),take (foF (take ts.length (drop 0 ts)) (take fs.length (drop
 0 fs)) w).snd.snd.snd.snd.fst.length (drop 0 (foF (take ts.length (drop 0 ts)) (take fs.length (drop 0 fs))
 w).snd.snd.snd.snd.fst),(foF (take ts.length (drop 0 ts)) (take fs.length (drop 0 fs)) w).snd.snd.snd.snd.snd.fst,())) (ifB (!EX
 ((foF (take ts.length (drop 0 ts)) (take fs.length (drop 0 fs)) w).fst,(foF (take ts.length (drop 0 ts)) (take
 fs.length (drop 0 fs)) w).snd.fst,(take (foF (take ts.length (drop 0 ts)) (take fs.length (drop 0 fs))
 w).snd.snd.fst.fst.length (drop 0 (foF (take ts.length (drop 0 ts)) (take fs.length (drop 0 fs)) w).snd.snd.fst.fst),
 ()),(take (foF (take ts.length (drop 0 ts)) (take fs.length (drop 0 fs)) w).snd.snd.snd.fst.fst.length (drop 0 (foF
 (take ts.length (drop 0 ts)) (take fs.length (drop 0 fs)) w).snd.snd.snd.fst.fst),()),take (foF (take ts.length (drop
 0 ts)) (take fs.length (drop 0 fs)) w).snd.snd.snd.snd.fst.length (drop 0 (foF (take ts.length (drop 0 ts))
 (take fs.length (drop 0 fs)) w).snd.snd.snd.snd.fst),(foF (take ts.length (drop 0 ts)) (take fs.length (drop 0 fs))
 w).snd.snd.snd.snd.snd.fst,()) ((foF (take ts.length (drop 0 ts)) (take fs.length (drop 0 fs)) w).fst,(foF (take ts.length
 (drop 0 ts)) (take fs.length (drop 0 fs)) w).snd.fst,(take (foF (take ts.length (drop 0 ts)) (take fs.length
 (drop 0 fs)) w).snd.snd.fst.fst.length (drop 0 (foF (take ts.length (drop 0 ts)) (take fs.length (drop 0
 fs)) w).snd.snd.fst.fst),()),(take (foF (take ts.length (drop 0 ts)) (take fs.length (drop 0 fs)) w).snd.snd.snd.fst.fst.length
 (drop 0 (foF (take ts.length (drop 0 ts)) (take fs.length (drop 0 fs)) w).snd.snd.snd.fst.fst),()),take (foF
 (take ts.length (drop 0 ts)) (take fs.length (drop 0 fs)) w).snd.snd.snd.snd.fst.length (drop 0 (foF (take ts.length
 (drop 0 ts)) (take fs.length (drop 0 fs)) w).snd.snd.snd.snd.fst),(foF (take ts.length (drop 0 ts)) (take fs.length
 (drop 0 fs)) w).snd.snd.snd.snd.snd.fst,())) (some (V.b false,[])) (ifB (!DD (take ts.length (drop 0 ts)) (take fs.length
 (drop 0 fs)) w==DD (take ts.length (drop 0 ts)) (take fs.length (drop 0 fs)) w) (some (V.b false,[])) (ifT (decide
 ((0:Int)<=(1:Int)/\(1:Int)+Es (take (foF (take ts.length (drop 0 ts)) (take fs.length (drop 0 fs))
 w).snd.snd.fst.fst.length (drop 0 (mfW (1:Int) (foF (take ts.length (drop 0 ts)) (take fs.length (drop 0 fs))
 w).snd.snd.fst.fst))) (take (foF (take ts.length (drop 0 ts)) (take fs.length (drop 0 fs)) w).snd.snd.snd.fst.fst.length
 (drop 0 (mfT (1:Int) (foF (take ts.length (drop 0 ts)) (take fs.length (drop 0 fs)) w).snd.snd.fst.fst (foF (take
 ts.length (drop 0 ts)) (take fs.length (drop 0 fs)) w).snd.snd.snd.fst.fst))) (take (foF (take ts.length (drop 0
 ts)) (take fs.length (drop 0 fs)) w).snd.snd.snd.snd.fst.length (drop 0 (mfN (1:Int) (foF (take ts.length (drop 0 ts))
 (take fs.length (drop 0 fs)) w).snd.snd.fst.fst (foF (take ts.length (drop 0 ts)) (take fs.length (drop 0 fs))
 w).snd.snd.snd.fst.fst (foF (take ts.length (drop 0 ts)) (take fs.length (drop 0 fs)) w).snd.snd.snd.snd.fst)))<=lim)) (ifB (hfB (1 :
 Int) (take (foF (take ts.length (drop 0 ts)) (take fs.length (drop 0 fs)) w).snd.snd.fst.fst.length (drop 0 (mfW (1
 : Int) (foF (take ts.length (drop 0 ts)) (take fs.length (drop 0 fs)) w).snd.snd.fst.fst))) (take (foF (take ts.length
 (drop 0 ts)) (take fs.length (drop 0 fs)) w).snd.snd.snd.fst.fst.length (drop 0 (mfT (1:Int) (foF (take ts.length
 (drop 0 ts)) (take fs.length (drop 0 fs)) w).snd.snd.fst.fst (foF (take ts.length (drop 0 ts)) (take fs.length
 (drop 0 fs)) w).snd.snd.snd.fst.fst))) (take (foF (take ts.length (drop 0 ts)) (take fs.length (drop 0 fs))
 w).snd.snd.snd.snd.fst.length (drop 0 (mfN (1:Int) (foF (take ts.length (drop 0 ts)) (take fs.length (drop 0 fs))
 w).snd.snd.fst.fst (foF (take ts.length (drop 0 ts)) (take fs.length (drop 0 fs)) w).snd.snd.snd.fst.fst (foF (take ts.length
 (drop 0 ts)) (take fs.length (drop 0 fs)) w).snd.snd.snd.snd.fst)))) (ifB ((1:Int)+Es (take (foF (take ts.length (drop
 0 ts)) (take fs.length (drop 0 fs)) w).snd.snd.fst.fst.length (drop 0 (mfW (1:Int) (foF (take ts.length (drop 0
 ts)) (take fs.length (drop 0 fs)) w).snd.snd.fst.fst))) (take (foF (take ts.length (drop 0 ts)) (take fs.length (drop
 0 fs)) w).snd.snd.snd.fst.fst.length (drop 0 (mfT (1:Int) (foF (take ts.length (drop 0 ts)) (take fs.length (drop (0 :
 Nat) fs)) w).snd.snd.fst.fst (foF (take ts.length (drop 0 ts)) (take fs.length (drop 0 fs)) w).snd.snd.snd.fst.fst))) (take (foF
 (take ts.length (drop 0 ts)) (take fs.length (drop 0 fs)) w).snd.snd.snd.snd.fst.length (drop 0 (mfN (1:Int) (foF
 (take ts.length (drop 0 ts)) (take fs.length (drop 0 fs)) w).snd.snd.fst.fst (foF (take ts.length (drop 0 ts))
 (take fs.length (drop 0 fs)) w).snd.snd.snd.fst.fst (foF (take ts.length (drop 0 ts)) (take fs.length (drop 0 fs))
 w).snd.snd.snd.snd.fst))) != (1:Int)+Es (foF (take ts.length (drop 0 ts)) (take fs.length (drop 0 fs)) w).snd.snd.fst.fst (foF
 (take ts.length (drop 0 ts)) (take fs.length (drop 0 fs)) w).snd.snd.snd.fst.fst (foF (take ts.length (drop 0 ts))
 (take fs.length (drop 0 fs)) w).snd.snd.snd.snd.fst) (some (V.b false,[])) (some (V.b true,[]))) (some (V.b false,[])))))))))) (some (V.b false,
 []))))))))))))))))))))))):_):=by kernel_rfl
theorem SR (k:Int) (ws:List Wt):(mfW k ws).length=ws.length:=By _ _
theorem SS (k:Int) (ws:List Wt) (v:List Ty):(mfT k ws v).length=v.length:=By _ _
theorem ST (k:Int) (ws:List Wt) (v:List Ty) (b:List Nt):(mfN k ws v b).length=b.length:=By _ _
theorem Aby (k:Int) (ws:List Wt) (v:List Ty) (b:List Nt):hfB k (mfW k ws) (mfT k ws v) (mfN k ws v b)=true:=by
 have e1:mfW k (mfW k ws)=mfW k ws:=by unfold mfW; rw [By]
 have e2:mfT k (mfW k ws) (mfT k ws v)=mfT k ws v:=by unfold mfT mfW; rw [By,By]
 have e3:mfN k (mfW k ws) (mfT k ws v) (mfN k ws v b)=mfN k ws v b:=by unfold mfN mfT mfW; rw [By,By,By]
 unfold hfB Em En
 rw [e1,e2,e3]; simp
theorem YK (k:Int) (ws:List Wt) (v:List Ty) (b:List Nt):Es (mfW k ws) (mfT k ws v) (mfN k ws v b)=Es ws v b:=by unfold Es; rw [SR,SS,ST]
theorem YJ {ts:List Tp} {fs:List Fa} (hw:wBk (ts,fs,())<=1048576):LG ts fs<=20000000:=by
 have n1:=Pg ts
 have n2:=Ph fs
 unfold wBk Hk JL at hw
 dsimp only at hw
 unfold LG
 omega
theorem X6 {ts:List Tp} {fs:List Fa} (w:Int) (ho:NX (ts,fs,())=true) (hw:wBk (ts,fs,())<=1048576):Dv (foF ts fs w)=true/\Es (foF ts fs w).2.2.1.1 (foF ts fs w).2.2.2.1.1 (foF ts fs w).2.2.2.2.1<=100000000:=by
 obtain ⟨h1,h2,h3⟩:=Qm ho hw
 have key:foF ts fs w=faZ\/foF ts fs w∈fs:=by
  unfold foF
  cases e1:DD ts fs w
  ·exact .inl rfl
  ·have e3:=e1
   unfold DD at e3
   rw [anE] at e3
   have hw : ¬atW fs w<0:=of_decide_eq_false (by simpa using e3.2)
   obtain ⟨i,hi,e0⟩:=S7 hw
   rw [e0,ntN,gtE hi]
   exact .inr (List.getElem_mem hi)
 rcases key with e | e
 ·rw [e]; exact ⟨by decide,by decide⟩
 ·generalize foF ts fs w=f at e ⊢
  unfold Na at h2
  simp only [anE,dcE,all_eq_true] at h2
  refine ⟨h2.2.2 f e,?_⟩
  have hs:=Ho wFa e
  unfold wBk Hk JL Cj at hw
  dsimp only at hw
  unfold wFa Ef E7 Hj Jt HZ at hs
  unfold wFa Ef E7 Hj Jt HZ at hw
  unfold Es
  omega
theorem law_knows:Knows prog ZD:=(kc func9 VN (kc func11 VF (kc func27 fos (kc func28 foi (kc func13 XH (kc func29 PY (kc func25 WQ (kc func30 WN (kc func31 Xz KnowsL.nil))))))))).knows
theorem law_fun (ts:List Tp) (fs:List Fa) (w:Int) (ho:NX (ts,fs,())=true):Aw prog ZD (Ab []) f6 [.agg [.sl TPd ts,.sl FNd fs],.j w] []=some (.b true,[]):=by
 rw [Uo,Aa (by rw [anE]; exact ⟨dcT ⟨by omega,by omega⟩,ho⟩)]
 try dsimp only [shr]
 by_cases q:1048576-(wBk (ts,fs,()):Int)<0
 ·rw [Ag (dcT q)]
 ·have hM:maxI=9223372036854775807:=rfl
  have hw:wBk (ts,fs,())<=1048576:=by omega
  obtain ⟨b1,b2,h3⟩:=Qm ho hw
  obtain ⟨he,k1⟩:=X6 w ho hw
  have hk:=YJ hw
  have k2:0<=LG ts fs:=by have:=M3 ts; have:=M4 fs; unfold LG; omega
  have hnd:PU ts fs=true:=by
   have l1:fs.length<=maxI:=by unfold wBk JL at hw; dsimp only at hw; omega
   have h4:=h3
   rw [anE,anE,anE] at h4
   unfold PU; rw [b1,h4.2.2,dcT l1]; rfl
  have hl:lim=1000000000000:=rfl
  rw [Ac (dcF q),Ac (dcF q)]
  simp only [List.drop_zero,List.take_length]
  generalize foF ts fs w=f at he k1 ⊢
  obtain ⟨w0,p,⟨ws,⟨⟩⟩,⟨v,⟨⟩⟩,b,c,⟨⟩⟩:=f
  dsimp only at k1 ⊢
  have k0:0<=Es ws v b:=by unfold Es; omega
  have t1:take ws.length (mfW 1 ws)=mfW 1 ws:=List.take_of_length_le (by rw [SR]; exact le_refl _)
  have t2:take v.length (mfT 1 ws v)=mfT 1 ws v:=List.take_of_length_le (by rw [SS]; exact le_refl _)
  have t3:take b.length (mfN 1 ws v b)=mfN 1 ws v b:=List.take_of_length_le (by rw [ST]; exact le_refl _)
  simp only [List.take_length,t1,t2,t3,Aby,YK,UW,Nk,beq_self_eq_true,Bool.not_true,AQ,Bc,bne_self_eq_false]
  rw [Aa h3,Aa hnd,Aa h3,Aa hnd,Aa he,Aa h3,Aa b2,Aa (dcT ⟨by first | rfl | trivial,by first | rfl | trivial,by first | omega | trivial,by omega⟩),Ac (dcF (show ¬1+LG ts fs<0 by omega)),Aa he,Aa (dcT ⟨by first | rfl | trivial,by first | rfl | trivial,by first | rfl | trivial,by first | omega | trivial,by omega⟩),Aa (dcT ⟨by first | omega | trivial,by omega⟩),Aa h3,Aa hnd,Aa he,Aa (dcT ⟨by first | omega | trivial,by omega⟩)]
theorem law_loops:As prog ZD (Ab []) 0 (f6.body.getD .skip):=Ai _
theorem ok_of {z:(Cd.den (.pair (.slice TPd) (.pair (.slice FNd) .unit)))} (g:IF (.pair (.slice TPd) (.pair (.slice FNd) .unit)) z):NX (z.1,z.2.1,())=true:=by
 have hT : ∀ l:List Ty,IF (.slice TCd) l->G0 l=true:=fun l h=>by
  unfold G0
  rw [anE,dcE,all_eq_true]
  refine ⟨h.1,fun x hx=>?_⟩
  unfold Pe
  exact dcT (h.2 x hx).2.1
 have hW : ∀ l:List Wt,IF (.slice WCd) l->Hv l=true:=fun l h=>by
  unfold Hv
  rw [anE,dcE,all_eq_true]
  refine ⟨h.1,fun x hx=>?_⟩
  unfold Rs
  exact dcT (h.2 x hx).2.2.2.1
 have hN : ∀ l:List Nt,IF (.slice NTd) l->Hw l=true:=fun l h=>by
  unfold Hw
  rw [anE,dcE,all_eq_true]
  refine ⟨h.1,fun x hx=>?_⟩
  unfold Rt
  exact dcT ⟨(h.2 x hx).1,(h.2 x hx).2.2.1⟩
 unfold NX IW IX
 simp only [anE,dcE,all_eq_true]
 refine ⟨⟨g.1.1,fun t ht=>?_⟩,g.2.1.1,fun f hf=>?_⟩
 ·have h:=g.1.2 t ht
  unfold NV G1
  rw [anE,dcE]
  exact ⟨h.1,hT _ h.2.1.1⟩
 ·have h:=g.2.1.2 f hf
  unfold NW M2 G1
  simp only [anE,dcE]
  exact ⟨h.2.1,hW _ h.2.2.1.1,hT _ h.2.2.2.1.1,hN _ h.2.2.2.2.1⟩
end Go.Proofs.YtcjnmdcagfgjoaaGreatDoor.Den
