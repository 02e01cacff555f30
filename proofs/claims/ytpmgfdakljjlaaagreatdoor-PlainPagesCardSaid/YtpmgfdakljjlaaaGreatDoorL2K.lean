/- Contracts of functions of numbers: words of calls, rights, entries as words. -/
import Derived.Test.YtpmgfdakljjlaaaGreatDoorL2Cfg
import Derived.Test.YtpmgfdakljjlaaaGreatDoorSxM7
namespace Go.Sx.L2
abbrev rI : Nat → SV := fun n => .i .i64 (.v n)
abbrev rB : Nat → SV := fun n => .b (.v n)
abbrev kind_ (f : FuncId) : FSpec := fnSpec f [parCall] 2 (fun n => .tup [.i .i64 (.v n), .b (.v (n + 1))]) (fun n => [(n, 0, 23), (n + 1, 0, 1)]) fun is => [callN (is.getD 0 0), b2i (callOk (is.getD 0 0))]
abbrev check_ (f : FuncId) : FSpec := fnSpec f [parCall, parI] 1 rI (fun n => [(n, 0, 2)]) fun is => [checkN (is.getD 0 0) (is.getD 1 0) (is.getD 2 0) (is.getD 3 0) (is.getD 4 0) (is.getD 5 0)]
abbrev args_ (f : FuncId) : FSpec := fnSpec f [parI] 1 rI (fun n => [(n, 0, 4)]) fun is => [nargs (is.getD 0 0)]
abbrev within_ (f : FuncId) : FSpec := fnSpec f [parI, parI] 1 rB (fun n => [(n, 0, 1)]) fun is => [b2i (withinB (is.getD 0 0) (is.getD 1 0))]
abbrev lets_ (f : FuncId) : FSpec := fnSpec f [parI, parI] 1 rB (fun n => [(n, 0, 1)]) fun is => [b2i (letsB (is.getD 0 0) (is.getD 1 0))]
abbrev put_ (f : FuncId) : FSpec := fnSpec f [parPte] 2 (fun n => .tup [.i .u64 (.v n), .b (.v (n + 1))]) (fun n => [(n, 0, 65535), (n + 1, 0, 1)]) fun is => [pteN (is.getD 0 0) (is.getD 1 0) (is.getD 2 0), b2i (pteOk (is.getD 0 0) (is.getD 1 0) (is.getD 2 0))]
abbrev get_ (f : FuncId) : FSpec := fnSpec f [parU] 4 (fun n => .tup [.agg [.i .i64 (.v n), .i .i64 (.v (n + 1)), .i .i64 (.v (n + 2))], .b (.v (n + 3))]) (fun n => [(n, 0, 15), (n + 1, 0, 7), (n + 2, 0, 3), (n + 3, 0, 1)]) fun is =>
  [getF (is.getD 0 0), getS (is.getD 0 0), getR (is.getD 0 0), b2i (getOk (is.getD 0 0))]
end Go.Sx.L2
