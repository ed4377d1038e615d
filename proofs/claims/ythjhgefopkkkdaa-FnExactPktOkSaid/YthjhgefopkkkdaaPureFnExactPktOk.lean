/- The law on PktOk, as plain Lean: program and reference answer alike at every packet. -/
import Derived.Test.YthjhgefopkkkdaaAx16
import Derived.Test.YthjhgefopkkkdaaEvPkt
namespace Go.Proofs.Ythjhgefopkkkdaa.Pure
open Go.RowKit Go.Proofs.YthjhgefopkkkdaaW.PrintWords Go.Proofs.Ythjhgefopkkkdaa.Plain Go.Proofs.Ythjhgefopkkkdaa.A
theorem FnExactPktOk (k a p b q n : Int) (s : ByteArray) (_ : (Lit.int .i64 k).wf = true) (_ : (Lit.int .i64 a).wf = true) (_ : (Lit.int .i64 p).wf = true) (_ : (Lit.int .i64 b).wf = true) (_ : (Lit.int .i64 q).wf = true) (_ : (Lit.int .i64 n).wf = true) (hs : s.size ≤ maxLen) : ∃ r, laws_FnExactPktOk.f r k a p b q n s = some true := by
  apply Ev.rounds
  unfold laws_FnExactPktOk.f
  obtain ⟨t, e, ht⟩ := szPkt_eq k a p b q n s hs
  refine Ev.call e ?_
  refine Ev.ite (fun _ => Ev.now _) (fun h => ?_)
  have hs2 := ht h
  refine Ev.call (toPkt_eq k a p b q n s) ?_
  refine Ev.bind (sPktOk k a p b q n s (by omega)) ?_
  refine Ev.call (toPkt_eq k a p b q n s) ?_
  refine Ev.call (iPktOk k a p b q n s (by omega)) ?_
  exact Ev.neg (by simp) (Ev.now _)
end Go.Proofs.Ythjhgefopkkkdaa.Pure
