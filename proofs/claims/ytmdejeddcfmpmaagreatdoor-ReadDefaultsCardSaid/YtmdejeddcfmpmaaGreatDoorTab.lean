/- The tables of this seat's types and functions; the entries for what Go's library does; told() of layer 15 answers true; no condition. -/
import Derived.Test.YtmdejeddcfmpmaaGreatDoorChecked
import Derived.KernelRfl
import Derived.Test.YtmdejeddcfmpmaaGreatDoorEvC
namespace Go.Proofs.YtmdejeddcfmpmaaGreatDoor
open Go Go.Ev
def ti0 : TI := ⟨.tuple #[], 1, 0, some (some (.tup [])), false⟩
def ti1 : TI := ⟨.func #[] #[] false, 1, 8, some (some (.nilf)), false⟩
def ti2 : TI := ⟨.int .i64, 1, 8, some (some (.int .i64 (.ofNat 0))), false⟩
def ti3 : TI := ⟨.int .i64, 1, 8, some (some (.int .i64 (.ofNat 0))), false⟩
def ti4 : TI := ⟨.bool, 1, 1, some (some (.bool false)), false⟩
def ti5 : TI := ⟨.int .u8, 1, 1, some (some (.int .u8 (.ofNat 0))), false⟩
def ti6 : TI := ⟨.int .u8, 1, 1, some (some (.int .u8 (.ofNat 0))), false⟩
def ti7 : TI := ⟨.struct #[⟨"x", 2, 0, false, "", "runtime", 0⟩, ⟨"y", 3, 1, false, "", "runtime", 8⟩, ⟨"signed", 4, 2, false, "", "runtime", 16⟩, ⟨"code", 6, 3, false, "", "runtime", 17⟩], 4, 24, some (some (.agg [.int .i64 (.ofNat 0), .int .i64 (.ofNat 0), .bool false, .int .u8 (.ofNat 0)])), true⟩
def ti8 : TI := ⟨.struct #[⟨"x", 2, 0, false, "", "runtime", 0⟩, ⟨"y", 3, 1, false, "", "runtime", 8⟩, ⟨"signed", 4, 2, false, "", "runtime", 16⟩, ⟨"code", 6, 3, false, "", "runtime", 17⟩], 4, 24, some (some (.agg [.int .i64 (.ofNat 0), .int .i64 (.ofNat 0), .bool false, .int .u8 (.ofNat 0)])), true⟩
def ti9 : TI := ⟨.string, 1, 16, some (some (.str [])), false⟩
def ti10 : TI := ⟨.string, 1, 16, some (some (.str [])), false⟩
def ti11 : TI := ⟨.string, 1, 16, some (some (.str [])), false⟩
def ti12 : TI := ⟨.int .u64, 1, 8, some (some (.int .u64 (.ofNat 0))), false⟩
def ti13 : TI := ⟨.struct #[⟨"msg", 9, 0, false, "", "runtime", 0⟩, ⟨"addr", 12, 1, false, "", "runtime", 16⟩], 2, 24, some (some (.agg [.str [], .int .u64 (.ofNat 0)])), true⟩
def ti14 : TI := ⟨.struct #[⟨"msg", 9, 0, false, "", "runtime", 0⟩, ⟨"addr", 12, 1, false, "", "runtime", 16⟩], 2, 24, some (some (.agg [.str [], .int .u64 (.ofNat 0)])), true⟩
def ti15 : TI := ⟨.pointer 235, 1, 8, some (some (.nilp)), false⟩
def ti16 : TI := ⟨.pointer 238, 1, 8, some (some (.nilp)), false⟩
def ti17 : TI := ⟨.pointer 245, 1, 8, some (some (.nilp)), false⟩
def ti18 : TI := ⟨.struct #[⟨"typ", 17, 0, false, "", "internal/runtime/maps", 0⟩], 1, 8, some (some (.agg [.nilp])), true⟩
def ti19 : TI := ⟨.struct #[⟨"typ", 17, 0, false, "", "internal/runtime/maps", 0⟩], 1, 8, some (some (.agg [.nilp])), true⟩
def ti20 : TI := ⟨.interface #[], 1, 16, some (some (.nili)), false⟩
def ti21 : TI := ⟨.int .i32, 1, 4, some (some (.int .i32 (.ofNat 0))), false⟩
def ti22 : TI := ⟨.slice 3, 1, 24, some (some (.nils)), false⟩
def ti23 : TI := ⟨.slice 9, 1, 24, some (some (.nils)), false⟩
def ti24 : TI := ⟨.int .u64, 1, 8, some (some (.int .u64 (.ofNat 0))), false⟩
def ti25 : TI := ⟨.slice 36, 1, 24, some (some (.nils)), false⟩
def ti26 : TI := ⟨.slice 36, 1, 24, some (some (.nils)), false⟩
def ti27 : TI := ⟨.tuple #[26, 3], 1, 0, some (some (.tup [.nils, .int .i64 (.ofNat 0)])), false⟩
def ti28 : TI := ⟨.func #[29, 31] #[26, 3] false, 1, 8, some (some (.nilf)), false⟩
def ti29 : TI := ⟨.slice 5, 1, 24, some (some (.nils)), false⟩
def ti30 : TI := ⟨.struct #[⟨"Bytes", 3, 0, false, "", "", 0⟩, ⟨"Depth", 3, 1, false, "", "", 8⟩, ⟨"Expand", 3, 2, false, "", "", 16⟩, ⟨"Attrs", 3, 3, false, "", "", 24⟩], 4, 32, some (some (.agg [.int .i64 (.ofNat 0), .int .i64 (.ofNat 0), .int .i64 (.ofNat 0), .int .i64 (.ofNat 0)])), true⟩
def ti31 : TI := ⟨.struct #[⟨"Bytes", 3, 0, false, "", "", 0⟩, ⟨"Depth", 3, 1, false, "", "", 8⟩, ⟨"Expand", 3, 2, false, "", "", 16⟩, ⟨"Attrs", 3, 3, false, "", "", 24⟩], 4, 32, some (some (.agg [.int .i64 (.ofNat 0), .int .i64 (.ofNat 0), .int .i64 (.ofNat 0), .int .i64 (.ofNat 0)])), true⟩
def ti32 : TI := ⟨.func #[] #[4] false, 1, 8, some (some (.nilf)), false⟩
def ti33 : TI := ⟨.func #[22, 22] #[4] false, 1, 8, some (some (.nilf)), false⟩
def ti34 : TI := ⟨.slice 42, 1, 24, some (some (.nils)), false⟩
def ti35 : TI := ⟨.struct #[⟨"Kind", 3, 0, false, "", "", 0⟩, ⟨"Depth", 3, 1, false, "", "", 8⟩, ⟨"Prefix", 9, 2, false, "", "", 16⟩, ⟨"Local", 9, 3, false, "", "", 32⟩, ⟨"URI", 9, 4, false, "", "", 48⟩, ⟨"Value", 9, 5, false, "", "", 64⟩, ⟨"Attrs", 34, 6, false, "", "", 80⟩], 7, 104, some (some (.agg [.int .i64 (.ofNat 0), .int .i64 (.ofNat 0), .str [], .str [], .str [], .str [], .nils])), true⟩
def ti36 : TI := ⟨.struct #[⟨"Kind", 3, 0, false, "", "", 0⟩, ⟨"Depth", 3, 1, false, "", "", 8⟩, ⟨"Prefix", 9, 2, false, "", "", 16⟩, ⟨"Local", 9, 3, false, "", "", 32⟩, ⟨"URI", 9, 4, false, "", "", 48⟩, ⟨"Value", 9, 5, false, "", "", 64⟩, ⟨"Attrs", 34, 6, false, "", "", 80⟩], 7, 104, some (some (.agg [.int .i64 (.ofNat 0), .int .i64 (.ofNat 0), .str [], .str [], .str [], .str [], .nils])), true⟩
def ti37 : TI := ⟨.func #[3, 3] #[4] false, 1, 8, some (some (.nilf)), false⟩
def ti38 : TI := ⟨.func #[3, 3, 4] #[4] false, 1, 8, some (some (.nilf)), false⟩
def ti39 : TI := ⟨.func #[22] #[4] false, 1, 8, some (some (.nilf)), false⟩
def ti40 : TI := ⟨.func #[26] #[4] false, 1, 8, some (some (.nilf)), false⟩
def ti41 : TI := ⟨.struct #[⟨"Prefix", 9, 0, false, "", "", 0⟩, ⟨"Local", 9, 1, false, "", "", 16⟩, ⟨"URI", 9, 2, false, "", "", 32⟩, ⟨"Value", 9, 3, false, "", "", 48⟩], 4, 64, some (some (.agg [.str [], .str [], .str [], .str []])), true⟩
def ti42 : TI := ⟨.struct #[⟨"Prefix", 9, 0, false, "", "", 0⟩, ⟨"Local", 9, 1, false, "", "", 16⟩, ⟨"URI", 9, 2, false, "", "", 32⟩, ⟨"Value", 9, 3, false, "", "", 48⟩], 4, 64, some (some (.agg [.str [], .str [], .str [], .str []])), true⟩
def ti43 : TI := ⟨.func #[4, 3, 3, 3] #[4] false, 1, 8, some (some (.nilf)), false⟩
def ti44 : TI := ⟨.func #[31] #[4] false, 1, 8, some (some (.nilf)), false⟩
def ti45 : TI := ⟨.tuple #[9, 3], 1, 0, some (some (.tup [.str [], .int .i64 (.ofNat 0)])), false⟩
def ti46 : TI := ⟨.func #[29] #[9, 3] false, 1, 8, some (some (.nilf)), false⟩
def ti47 : TI := ⟨.pointer 60, 1, 8, some (some (.nilp)), false⟩
def ti48 : TI := ⟨.pointer 76, 1, 8, some (some (.nilp)), false⟩
def ti49 : TI := ⟨.func #[53] #[48] false, 1, 8, some (some (.nilf)), false⟩
def ti50 : TI := ⟨.slice 78, 1, 24, some (some (.nils)), false⟩
def ti51 : TI := ⟨.slice 161, 1, 24, some (some (.nils)), false⟩
def ti52 : TI := ⟨.struct #[⟨"Name", 9, 0, false, "", "", 0⟩, ⟨"Entities", 50, 1, false, "", "", 16⟩, ⟨"Atts", 51, 2, false, "", "", 40⟩], 3, 64, some (some (.agg [.str [], .nils, .nils])), true⟩
def ti53 : TI := ⟨.struct #[⟨"Name", 9, 0, false, "", "", 0⟩, ⟨"Entities", 50, 1, false, "", "", 16⟩, ⟨"Atts", 51, 2, false, "", "", 40⟩], 3, 64, some (some (.agg [.str [], .nils, .nils])), true⟩
def ti54 : TI := ⟨.pointer 82, 1, 8, some (some (.nilp)), false⟩
def ti55 : TI := ⟨.func #[] #[54] false, 1, 8, some (some (.nilf)), false⟩
def ti56 : TI := ⟨.pointer 58, 1, 8, some (some (.nilp)), false⟩
def ti57 : TI := ⟨.struct #[⟨"addr", 56, 0, false, "", "strings", 0⟩, ⟨"buf", 29, 1, false, "", "strings", 8⟩], 2, 32, some (some (.agg [.nilp, .nils])), true⟩
def ti58 : TI := ⟨.struct #[⟨"addr", 56, 0, false, "", "strings", 0⟩, ⟨"buf", 29, 1, false, "", "strings", 8⟩], 2, 32, some (some (.agg [.nilp, .nils])), true⟩
def ti59 : TI := ⟨.struct #[⟨"t", 26, 0, false, "", "bracken/read", 0⟩, ⟨"l", 31, 1, false, "", "bracken/read", 24⟩, ⟨"d", 53, 5, false, "", "bracken/read", 56⟩, ⟨"r", 48, 8, false, "", "bracken/read", 120⟩, ⟨"sc", 54, 9, false, "", "bracken/read", 128⟩, ⟨"open", 58, 10, false, "", "bracken/read", 136⟩, ⟨"root", 4, 12, false, "", "bracken/read", 168⟩], 13, 176, some (some (.agg [.nils, .int .i64 (.ofNat 0), .int .i64 (.ofNat 0), .int .i64 (.ofNat 0), .int .i64 (.ofNat 0), .str [], .nils, .nils, .nilp, .nilp, .nilp, .nils, .bool false])), true⟩
def ti60 : TI := ⟨.struct #[⟨"t", 26, 0, false, "", "bracken/read", 0⟩, ⟨"l", 31, 1, false, "", "bracken/read", 24⟩, ⟨"d", 53, 5, false, "", "bracken/read", 56⟩, ⟨"r", 48, 8, false, "", "bracken/read", 120⟩, ⟨"sc", 54, 9, false, "", "bracken/read", 128⟩, ⟨"open", 58, 10, false, "", "bracken/read", 136⟩, ⟨"root", 4, 12, false, "", "bracken/read", 168⟩], 13, 176, some (some (.agg [.nils, .int .i64 (.ofNat 0), .int .i64 (.ofNat 0), .int .i64 (.ofNat 0), .int .i64 (.ofNat 0), .str [], .nils, .nils, .nilp, .nilp, .nilp, .nils, .bool false])), true⟩
def ti61 : TI := ⟨.func #[9] #[3] false, 1, 8, some (some (.nilf)), false⟩
def ti62 : TI := ⟨.func #[29, 31] #[3] false, 1, 8, some (some (.nilf)), false⟩
def ti63 : TI := ⟨.func #[36, 36] #[4] false, 1, 8, some (some (.nilf)), false⟩
def ti64 : TI := ⟨.pointer 67, 1, 8, some (some (.nilp)), false⟩
def ti65 : TI := ⟨.slice 34, 1, 24, some (some (.nils)), false⟩
def ti66 : TI := ⟨.struct #[⟨"L", 65, 0, false, "", "", 0⟩], 1, 24, some (some (.agg [.nils])), true⟩
def ti67 : TI := ⟨.struct #[⟨"L", 65, 0, false, "", "", 0⟩], 1, 24, some (some (.agg [.nils])), true⟩
def ti68 : TI := ⟨.func #[64, 36] #[4] false, 1, 8, some (some (.nilf)), false⟩
def ti69 : TI := ⟨.func #[36] #[4] false, 1, 8, some (some (.nilf)), false⟩
def ti70 : TI := ⟨.func #[3, 3, 3] #[4] false, 1, 8, some (some (.nilf)), false⟩
def ti71 : TI := ⟨.func #[29, 29] #[29] false, 1, 8, some (some (.nilf)), false⟩
def ti72 : TI := ⟨.func #[29] #[4] false, 1, 8, some (some (.nilf)), false⟩
def ti73 : TI := ⟨.func #[9] #[9] false, 1, 8, some (some (.nilf)), false⟩
def ti74 : TI := ⟨.map 9 20, 1, 8, some (some (.nilm)), false⟩
def ti75 : TI := ⟨.struct #[⟨"l", 74, 0, false, "", "bracken/refs", 0⟩, ⟨"open", 23, 1, false, "", "bracken/refs", 8⟩, ⟨"spent", 3, 2, false, "", "bracken/refs", 32⟩], 3, 40, some (some (.agg [.nilm, .nils, .int .i64 (.ofNat 0)])), true⟩
def ti76 : TI := ⟨.struct #[⟨"l", 74, 0, false, "", "bracken/refs", 0⟩, ⟨"open", 23, 1, false, "", "bracken/refs", 8⟩, ⟨"spent", 3, 2, false, "", "bracken/refs", 32⟩], 3, 40, some (some (.agg [.nilm, .nils, .int .i64 (.ofNat 0)])), true⟩
def ti77 : TI := ⟨.struct #[⟨"Name", 9, 0, false, "", "", 0⟩, ⟨"Value", 9, 1, false, "", "", 16⟩, ⟨"External", 4, 2, false, "", "", 32⟩], 3, 40, some (some (.agg [.str [], .str [], .bool false])), true⟩
def ti78 : TI := ⟨.struct #[⟨"Name", 9, 0, false, "", "", 0⟩, ⟨"Value", 9, 1, false, "", "", 16⟩, ⟨"External", 4, 2, false, "", "", 32⟩], 3, 40, some (some (.agg [.str [], .str [], .bool false])), true⟩
def ti79 : TI := ⟨.tuple #[20, 4], 1, 0, some (some (.tup [.nili, .bool false])), false⟩
def ti80 : TI := ⟨.slice 20, 1, 24, some (some (.nils)), false⟩
def ti81 : TI := ⟨.struct #[⟨"l", 80, 0, false, "", "bracken/scope", 0⟩], 1, 24, some (some (.agg [.nils])), true⟩
def ti82 : TI := ⟨.struct #[⟨"l", 80, 0, false, "", "bracken/scope", 0⟩], 1, 24, some (some (.agg [.nils])), true⟩
def ti83 : TI := ⟨.tuple #[3, 3], 1, 0, some (some (.tup [.int .i64 (.ofNat 0), .int .i64 (.ofNat 0)])), false⟩
def ti84 : TI := ⟨.func #[9] #[3, 3] false, 1, 8, some (some (.nilf)), false⟩
def ti85 : TI := ⟨.func #[9, 3] #[3] false, 1, 8, some (some (.nilf)), false⟩
def ti86 : TI := ⟨.tuple #[53, 3, 3], 1, 0, some (some (.tup [.agg [.str [], .nils, .nils], .int .i64 (.ofNat 0), .int .i64 (.ofNat 0)])), false⟩
def ti87 : TI := ⟨.func #[9, 3] #[53, 3, 3] false, 1, 8, some (some (.nilf)), false⟩
def ti88 : TI := ⟨.func #[9, 3] #[3, 3] false, 1, 8, some (some (.nilf)), false⟩
def ti89 : TI := ⟨.func #[34, 34] #[4] false, 1, 8, some (some (.nilf)), false⟩
def ti90 : TI := ⟨.func #[9, 9] #[4] false, 1, 8, some (some (.nilf)), false⟩
def ti91 : TI := ⟨.func #[9] #[4] false, 1, 8, some (some (.nilf)), false⟩
def ti92 : TI := ⟨.func #[34] #[3] false, 1, 8, some (some (.nilf)), false⟩
def ti93 : TI := ⟨.func #[64, 94] #[4] false, 1, 8, some (some (.nilf)), false⟩
def ti94 : TI := ⟨.pointer 36, 1, 8, some (some (.nilp)), false⟩
def ti95 : TI := ⟨.func #[21] #[4] false, 1, 8, some (some (.nilf)), false⟩
def ti96 : TI := ⟨.func #[29, 29] #[4] false, 1, 8, some (some (.nilf)), false⟩
def ti97 : TI := ⟨.func #[9, 9, 9] #[9] false, 1, 8, some (some (.nilf)), false⟩
def ti98 : TI := ⟨.pointer 100, 1, 8, some (some (.nilp)), false⟩
def ti99 : TI := ⟨.struct #[⟨"s", 9, 0, false, "", "bracken/decl", 0⟩, ⟨"at", 3, 1, false, "", "bracken/decl", 16⟩, ⟨"bad", 4, 2, false, "", "bracken/decl", 24⟩, ⟨"d", 53, 3, false, "", "bracken/decl", 32⟩], 6, 96, some (some (.agg [.str [], .int .i64 (.ofNat 0), .bool false, .str [], .nils, .nils])), true⟩
def ti100 : TI := ⟨.struct #[⟨"s", 9, 0, false, "", "bracken/decl", 0⟩, ⟨"at", 3, 1, false, "", "bracken/decl", 16⟩, ⟨"bad", 4, 2, false, "", "bracken/decl", 24⟩, ⟨"d", 53, 3, false, "", "bracken/decl", 32⟩], 6, 96, some (some (.agg [.str [], .int .i64 (.ofNat 0), .bool false, .str [], .nils, .nils])), true⟩
def ti101 : TI := ⟨.func #[9] #[] false, 1, 8, some (some (.nilf)), false⟩
def ti102 : TI := ⟨.func #[] #[9] false, 1, 8, some (some (.nilf)), false⟩
def ti103 : TI := ⟨.func #[91] #[9] false, 1, 8, some (some (.nilf)), false⟩
def ti104 : TI := ⟨.slice 171, 1, 24, some (some (.nils)), false⟩
def ti105 : TI := ⟨.struct #[⟨"Kind", 3, 0, false, "", "", 0⟩, ⟨"Name", 9, 1, false, "", "", 8⟩, ⟨"Text", 9, 2, false, "", "", 24⟩, ⟨"Attrs", 104, 3, false, "", "", 40⟩, ⟨"Empty", 4, 4, false, "", "", 64⟩], 5, 72, some (some (.agg [.int .i64 (.ofNat 0), .str [], .str [], .nils, .bool false])), true⟩
def ti106 : TI := ⟨.struct #[⟨"Kind", 3, 0, false, "", "", 0⟩, ⟨"Name", 9, 1, false, "", "", 8⟩, ⟨"Text", 9, 2, false, "", "", 24⟩, ⟨"Attrs", 104, 3, false, "", "", 40⟩, ⟨"Empty", 4, 4, false, "", "", 64⟩], 5, 72, some (some (.agg [.int .i64 (.ofNat 0), .str [], .str [], .nils, .bool false])), true⟩
def ti107 : TI := ⟨.tuple #[106, 3, 3], 1, 0, some (some (.tup [.agg [.int .i64 (.ofNat 0), .str [], .str [], .nils, .bool false], .int .i64 (.ofNat 0), .int .i64 (.ofNat 0)])), false⟩
def ti108 : TI := ⟨.func #[9, 3] #[106, 3, 3] false, 1, 8, some (some (.nilf)), false⟩
def ti109 : TI := ⟨.func #[106, 3] #[3] false, 1, 8, some (some (.nilf)), false⟩
def ti110 : TI := ⟨.func #[106, 9, 3, 3] #[3, 3] false, 1, 8, some (some (.nilf)), false⟩
def ti111 : TI := ⟨.tuple #[9, 9, 4], 1, 0, some (some (.tup [.str [], .str [], .bool false])), false⟩
def ti112 : TI := ⟨.func #[9] #[9, 9, 4] false, 1, 8, some (some (.nilf)), false⟩
def ti113 : TI := ⟨.func #[9, 9] #[9] false, 1, 8, some (some (.nilf)), false⟩
def ti114 : TI := ⟨.tuple #[21, 3], 1, 0, some (some (.tup [.int .i32 (.ofNat 0), .int .i64 (.ofNat 0)])), false⟩
def ti115 : TI := ⟨.func #[9, 3] #[21, 3] false, 1, 8, some (some (.nilf)), false⟩
def ti116 : TI := ⟨.tuple #[9, 4], 1, 0, some (some (.tup [.str [], .bool false])), false⟩
def ti117 : TI := ⟨.func #[42] #[9, 4] false, 1, 8, some (some (.nilf)), false⟩
def ti118 : TI := ⟨.func #[9] #[9, 4] false, 1, 8, some (some (.nilf)), false⟩
def ti119 : TI := ⟨.func #[21, 120] #[4] false, 1, 8, some (some (.nilf)), false⟩
def ti120 : TI := ⟨.slice 141, 1, 24, some (some (.nils)), false⟩
def ti121 : TI := ⟨.func #[] #[120] false, 1, 8, some (some (.nilf)), false⟩
def ti122 : TI := ⟨.func #[29] #[12] false, 1, 8, some (some (.nilf)), false⟩
def ti123 : TI := ⟨.array 256 5, 256, 256, none, true⟩
def ti124 : TI := ⟨.struct #[⟨"lo", 5, 0, false, "", "unicode/utf8", 0⟩, ⟨"hi", 5, 1, false, "", "unicode/utf8", 1⟩], 2, 2, some (some (.agg [.int .u8 (.ofNat 0), .int .u8 (.ofNat 0)])), true⟩
def ti125 : TI := ⟨.struct #[⟨"lo", 5, 0, false, "", "unicode/utf8", 0⟩, ⟨"hi", 5, 1, false, "", "unicode/utf8", 1⟩], 2, 2, some (some (.agg [.int .u8 (.ofNat 0), .int .u8 (.ofNat 0)])), true⟩
def ti126 : TI := ⟨.array 16 125, 32, 32, some (some (.agg [.int .u8 (.ofNat 0), .int .u8 (.ofNat 0), .int .u8 (.ofNat 0), .int .u8 (.ofNat 0), .int .u8 (.ofNat 0), .int .u8 (.ofNat 0), .int .u8 (.ofNat 0), .int .u8 (.ofNat 0), .int .u8 (.ofNat 0), .int .u8 (.ofNat 0), .int .u8 (.ofNat 0), .int .u8 (.ofNat 0), .int .u8 (.ofNat 0), .int .u8 (.ofNat 0), .int .u8 (.ofNat 0), .int .u8 (.ofNat 0), .int .u8 (.ofNat 0), .int .u8 (.ofNat 0), .int .u8 (.ofNat 0), .int .u8 (.ofNat 0), .int .u8 (.ofNat 0), .int .u8 (.ofNat 0), .int .u8 (.ofNat 0), .int .u8 (.ofNat 0), .int .u8 (.ofNat 0), .int .u8 (.ofNat 0), .int .u8 (.ofNat 0), .int .u8 (.ofNat 0), .int .u8 (.ofNat 0), .int .u8 (.ofNat 0), .int .u8 (.ofNat 0), .int .u8 (.ofNat 0)])), true⟩
def ti127 : TI := ⟨.func #[9, 9, 9, 3] #[9] false, 1, 8, some (some (.nilf)), false⟩
def ti128 : TI := ⟨.tuple #[9, 3, 4], 1, 0, some (some (.tup [.str [], .int .i64 (.ofNat 0), .bool false])), false⟩
def ti129 : TI := ⟨.func #[9, 3] #[9, 3, 4] false, 1, 8, some (some (.nilf)), false⟩
def ti130 : TI := ⟨.func #[9, 9] #[9, 4] false, 1, 8, some (some (.nilf)), false⟩
def ti131 : TI := ⟨.func #[9] #[21, 3] false, 1, 8, some (some (.nilf)), false⟩
def ti132 : TI := ⟨.func #[21] #[21] false, 1, 8, some (some (.nilf)), false⟩
def ti133 : TI := ⟨.tuple #[106, 3, 4], 1, 0, some (some (.tup [.agg [.int .i64 (.ofNat 0), .str [], .str [], .nils, .bool false], .int .i64 (.ofNat 0), .bool false])), false⟩
def ti134 : TI := ⟨.func #[9, 3] #[106, 3, 4] false, 1, 8, some (some (.nilf)), false⟩
def ti135 : TI := ⟨.func #[3] #[] false, 1, 8, some (some (.nilf)), false⟩
def ti136 : TI := ⟨.tuple #[36, 3], 1, 0, some (some (.tup [.agg [.int .i64 (.ofNat 0), .int .i64 (.ofNat 0), .str [], .str [], .str [], .str [], .nils], .int .i64 (.ofNat 0)])), false⟩
def ti137 : TI := ⟨.func #[106, 53, 48, 54, 31] #[36, 3] false, 1, 8, some (some (.nilf)), false⟩
def ti138 : TI := ⟨.func #[9, 3, 3, 9] #[3, 3] false, 1, 8, some (some (.nilf)), false⟩
def ti139 : TI := ⟨.func #[21, 21, 21] #[4] false, 1, 8, some (some (.nilf)), false⟩
def ti140 : TI := ⟨.struct #[⟨"lo", 21, 0, false, "", "bracken/runes", 0⟩, ⟨"hi", 21, 1, false, "", "bracken/runes", 4⟩], 2, 8, some (some (.agg [.int .i32 (.ofNat 0), .int .i32 (.ofNat 0)])), true⟩
def ti141 : TI := ⟨.struct #[⟨"lo", 21, 0, false, "", "bracken/runes", 0⟩, ⟨"hi", 21, 1, false, "", "bracken/runes", 4⟩], 2, 8, some (some (.agg [.int .i32 (.ofNat 0), .int .i32 (.ofNat 0)])), true⟩
def ti142 : TI := ⟨.int .u64, 1, 8, some (some (.int .u64 (.ofNat 0))), false⟩
def ti143 : TI := ⟨.func #[9, 9] #[3] false, 1, 8, some (some (.nilf)), false⟩
def ti144 : TI := ⟨.interface #[("Error", 102)], 1, 16, some (some (.nili)), false⟩
def ti145 : TI := ⟨.interface #[("Error", 102)], 1, 16, some (some (.nili)), false⟩
def ti146 : TI := ⟨.tuple #[3, 145], 1, 0, some (some (.tup [.int .i64 (.ofNat 0), .nili])), false⟩
def ti147 : TI := ⟨.func #[9] #[3, 145] false, 1, 8, some (some (.nilf)), false⟩
def ti148 : TI := ⟨.func #[9, 9] #[9, 9, 4] false, 1, 8, some (some (.nilf)), false⟩
def ti149 : TI := ⟨.int .u16, 1, 2, some (some (.int .u16 (.ofNat 0))), false⟩
def ti150 : TI := ⟨.array 128 149, 128, 256, none, true⟩
def ti151 : TI := ⟨.slice 153, 1, 24, some (some (.nils)), false⟩
def ti152 : TI := ⟨.struct #[⟨"From", 149, 0, false, "", "", 0⟩, ⟨"To", 149, 1, false, "", "", 2⟩], 2, 4, some (some (.agg [.int .u16 (.ofNat 0), .int .u16 (.ofNat 0)])), true⟩
def ti153 : TI := ⟨.struct #[⟨"From", 149, 0, false, "", "", 0⟩, ⟨"To", 149, 1, false, "", "", 2⟩], 2, 4, some (some (.agg [.int .u16 (.ofNat 0), .int .u16 (.ofNat 0)])), true⟩
def ti154 : TI := ⟨.pointer 179, 1, 8, some (some (.nilp)), false⟩
def ti155 : TI := ⟨.func #[21, 156] #[154] false, 1, 8, some (some (.nilf)), false⟩
def ti156 : TI := ⟨.slice 179, 1, 24, some (some (.nils)), false⟩
def ti157 : TI := ⟨.func #[3, 21, 154] #[21] false, 1, 8, some (some (.nilf)), false⟩
def ti158 : TI := ⟨.func #[50, 159] #[4] false, 1, 8, some (some (.nilf)), false⟩
def ti159 : TI := ⟨.func #[78] #[4] false, 1, 8, some (some (.nilf)), false⟩
def ti160 : TI := ⟨.struct #[⟨"Elem", 9, 0, false, "", "", 0⟩, ⟨"Name", 9, 1, false, "", "", 16⟩, ⟨"Type", 3, 2, false, "", "", 32⟩, ⟨"Has", 4, 3, false, "", "", 40⟩, ⟨"Value", 9, 4, false, "", "", 48⟩], 5, 64, some (some (.agg [.str [], .str [], .int .i64 (.ofNat 0), .bool false, .str []])), true⟩
def ti161 : TI := ⟨.struct #[⟨"Elem", 9, 0, false, "", "", 0⟩, ⟨"Name", 9, 1, false, "", "", 16⟩, ⟨"Type", 3, 2, false, "", "", 32⟩, ⟨"Has", 4, 3, false, "", "", 40⟩, ⟨"Value", 9, 4, false, "", "", 48⟩], 5, 64, some (some (.agg [.str [], .str [], .int .i64 (.ofNat 0), .bool false, .str []])), true⟩
def ti162 : TI := ⟨.func #[] #[3] false, 1, 8, some (some (.nilf)), false⟩
def ti163 : TI := ⟨.func #[164] #[] false, 1, 8, some (some (.nilf)), false⟩
def ti164 : TI := ⟨.pointer 161, 1, 8, some (some (.nilp)), false⟩
def ti165 : TI := ⟨.func #[51, 166] #[4] false, 1, 8, some (some (.nilf)), false⟩
def ti166 : TI := ⟨.func #[161] #[4] false, 1, 8, some (some (.nilf)), false⟩
def ti167 : TI := ⟨.func #[106] #[4] false, 1, 8, some (some (.nilf)), false⟩
def ti168 : TI := ⟨.tuple #[104, 3], 1, 0, some (some (.tup [.nils, .int .i64 (.ofNat 0)])), false⟩
def ti169 : TI := ⟨.func #[106, 53, 48, 31] #[104, 3] false, 1, 8, some (some (.nilf)), false⟩
def ti170 : TI := ⟨.struct #[⟨"Name", 9, 0, false, "", "", 0⟩, ⟨"Value", 9, 1, false, "", "", 16⟩], 2, 32, some (some (.agg [.str [], .str []])), true⟩
def ti171 : TI := ⟨.struct #[⟨"Name", 9, 0, false, "", "", 0⟩, ⟨"Value", 9, 1, false, "", "", 16⟩], 2, 32, some (some (.agg [.str [], .str []])), true⟩
def ti172 : TI := ⟨.func #[94] #[3] false, 1, 8, some (some (.nilf)), false⟩
def ti173 : TI := ⟨.func #[9, 5] #[3] false, 1, 8, some (some (.nilf)), false⟩
def ti174 : TI := ⟨.pointer 5, 1, 8, some (some (.nilp)), false⟩
def ti175 : TI := ⟨.int .u32, 1, 4, some (some (.int .u32 (.ofNat 0))), false⟩
def ti176 : TI := ⟨.array 3 21, 3, 12, some (some (.agg [.int .i32 (.ofNat 0), .int .i32 (.ofNat 0), .int .i32 (.ofNat 0)])), true⟩
def ti177 : TI := ⟨.array 3 21, 3, 12, some (some (.agg [.int .i32 (.ofNat 0), .int .i32 (.ofNat 0), .int .i32 (.ofNat 0)])), true⟩
def ti178 : TI := ⟨.struct #[⟨"Lo", 175, 0, false, "", "", 0⟩, ⟨"Hi", 175, 1, false, "", "", 4⟩, ⟨"Delta", 177, 2, false, "", "", 8⟩], 5, 20, some (some (.agg [.int .u32 (.ofNat 0), .int .u32 (.ofNat 0), .int .i32 (.ofNat 0), .int .i32 (.ofNat 0), .int .i32 (.ofNat 0)])), true⟩
def ti179 : TI := ⟨.struct #[⟨"Lo", 175, 0, false, "", "", 0⟩, ⟨"Hi", 175, 1, false, "", "", 4⟩, ⟨"Delta", 177, 2, false, "", "", 8⟩], 5, 20, some (some (.agg [.int .u32 (.ofNat 0), .int .u32 (.ofNat 0), .int .i32 (.ofNat 0), .int .i32 (.ofNat 0), .int .i32 (.ofNat 0)])), true⟩
def ti180 : TI := ⟨.tuple #[21, 4], 1, 0, some (some (.tup [.int .i32 (.ofNat 0), .bool false])), false⟩
def ti181 : TI := ⟨.func #[9] #[21, 4] false, 1, 8, some (some (.nilf)), false⟩
def ti182 : TI := ⟨.func #[21] #[3, 145] false, 1, 8, some (some (.nilf)), false⟩
def ti183 : TI := ⟨.func #[5] #[145] false, 1, 8, some (some (.nilf)), false⟩
def ti184 : TI := ⟨.func #[50, 159] #[3] false, 1, 8, some (some (.nilf)), false⟩
def ti185 : TI := ⟨.func #[51, 166] #[3] false, 1, 8, some (some (.nilf)), false⟩
def ti186 : TI := ⟨.func #[9, 3, 9] #[9, 3, 4] false, 1, 8, some (some (.nilf)), false⟩
def ti187 : TI := ⟨.tuple #[171, 3, 4], 1, 0, some (some (.tup [.agg [.str [], .str []], .int .i64 (.ofNat 0), .bool false])), false⟩
def ti188 : TI := ⟨.func #[9, 3] #[171, 3, 4] false, 1, 8, some (some (.nilf)), false⟩
def ti189 : TI := ⟨.map 9 4, 1, 8, some (some (.nilm)), false⟩
def ti190 : TI := ⟨.func #[48, 9, 3, 3] #[9, 3] false, 1, 8, some (some (.nilf)), false⟩
def ti191 : TI := ⟨.func #[53, 9, 9] #[3] false, 1, 8, some (some (.nilf)), false⟩
def ti192 : TI := ⟨.func #[104, 193] #[4] false, 1, 8, some (some (.nilf)), false⟩
def ti193 : TI := ⟨.func #[171] #[4] false, 1, 8, some (some (.nilf)), false⟩
def ti194 : TI := ⟨.func #[3, 3] #[3] false, 1, 8, some (some (.nilf)), false⟩
def ti195 : TI := ⟨.map 196 4, 1, 8, some (some (.nilm)), false⟩
def ti196 : TI := ⟨.array 2 9, 2, 32, some (some (.agg [.str [], .str []])), true⟩
def ti197 : TI := ⟨.func #[9, 3] #[9, 3] false, 1, 8, some (some (.nilf)), false⟩
def ti198 : TI := ⟨.unsafePointer, 1, 8, some (some (.nilp)), false⟩
def ti199 : TI := ⟨.func #[198] #[198] false, 1, 8, some (some (.nilf)), false⟩
def ti200 : TI := ⟨.func #[3] #[29] false, 1, 8, some (some (.nilf)), false⟩
def ti201 : TI := ⟨.func #[3] #[3] false, 1, 8, some (some (.nilf)), false⟩
def ti202 : TI := ⟨.func #[9, 21] #[3] false, 1, 8, some (some (.nilf)), false⟩
def ti203 : TI := ⟨.func #[29, 21] #[29] false, 1, 8, some (some (.nilf)), false⟩
def ti204 : TI := ⟨.func #[3] #[4] false, 1, 8, some (some (.nilf)), false⟩
def ti205 : TI := ⟨.array 256 4, 256, 256, none, true⟩
def ti206 : TI := ⟨.array 256 4, 256, 256, none, true⟩
def ti207 : TI := ⟨.tuple #[206, 4], 1, 0, some (some (.tup [.agg [.bool false, .bool false, .bool false, .bool false, .bool false, .bool false, .bool false, .bool false, .bool false, .bool false, .bool false, .bool false, .bool false, .bool false, .bool false, .bool false, .bool false, .bool false, .bool false, .bool false, .bool false, .bool false, .bool false, .bool false, .bool false, .bool false, .bool false, .bool false, .bool false, .bool false, .bool false, .bool false, .bool false, .bool false, .bool false, .bool false, .bool false, .bool false, .bool false, .bool false, .bool false, .bool false, .bool false, .bool false, .bool false, .bool false, .bool false, .bool false, .bool false, .bool false, .bool false, .bool false, .bool false, .bool false, .bool false, .bool false, .bool false, .bool false, .bool false, .bool false, .bool false, .bool false, .bool false, .bool false, .bool false, .bool false, .bool false, .bool false, .bool false, .bool false, .bool false, .bool false, .bool false, .bool false, .bool false, .bool false, .bool false, .bool false, .bool false, .bool false, .bool false, .bool false, .bool false, .bool false, .bool false, .bool false, .bool false, .bool false, .bool false, .bool false, .bool false, .bool false, .bool false, .bool false, .bool false, .bool false, .bool false, .bool false, .bool false, .bool false, .bool false, .bool false, .bool false, .bool false, .bool false, .bool false, .bool false, .bool false, .bool false, .bool false, .bool false, .bool false, .bool false, .bool false, .bool false, .bool false, .bool false, .bool false, .bool false, .bool false, .bool false, .bool false, .bool false, .bool false, .bool false, .bool false, .bool false, .bool false, .bool false, .bool false, .bool false, .bool false, .bool false, .bool false, .bool false, .bool false, .bool false, .bool false, .bool false, .bool false, .bool false, .bool false, .bool false, .bool false, .bool false, .bool false, .bool false, .bool false, .bool false, .bool false, .bool false, .bool false, .bool false, .bool false, .bool false, .bool false, .bool false, .bool false, .bool false, .bool false, .bool false, .bool false, .bool false, .bool false, .bool false, .bool false, .bool false, .bool false, .bool false, .bool false, .bool false, .bool false, .bool false, .bool false, .bool false, .bool false, .bool false, .bool false, .bool false, .bool false, .bool false, .bool false, .bool false, .bool false, .bool false, .bool false, .bool false, .bool false, .bool false, .bool false, .bool false, .bool false, .bool false, .bool false, .bool false, .bool false, .bool false, .bool false, .bool false, .bool false, .bool false, .bool false, .bool false, .bool false, .bool false, .bool false, .bool false, .bool false, .bool false, .bool false, .bool false, .bool false, .bool false, .bool false, .bool false, .bool false, .bool false, .bool false, .bool false, .bool false, .bool false, .bool false, .bool false, .bool false, .bool false, .bool false, .bool false, .bool false, .bool false, .bool false, .bool false, .bool false, .bool false, .bool false, .bool false, .bool false, .bool false, .bool false, .bool false, .bool false, .bool false, .bool false, .bool false, .bool false, .bool false, .bool false, .bool false, .bool false, .bool false, .bool false, .bool false, .bool false, .bool false, .bool false, .bool false, .bool false], .bool false])), false⟩
def ti208 : TI := ⟨.func #[9] #[206, 4] false, 1, 8, some (some (.nilf)), false⟩
def ti209 : TI := ⟨.func #[5] #[4] false, 1, 8, some (some (.nilf)), false⟩
def ti210 : TI := ⟨.pointer 212, 1, 8, some (some (.nilp)), false⟩
def ti211 : TI := ⟨.struct #[⟨"b", 58, 0, false, "", "bracken/value", 0⟩, ⟨"r", 48, 2, false, "", "bracken/value", 32⟩, ⟨"most", 3, 3, false, "", "bracken/value", 40⟩], 4, 48, some (some (.agg [.nilp, .nils, .nilp, .int .i64 (.ofNat 0)])), true⟩
def ti212 : TI := ⟨.struct #[⟨"b", 58, 0, false, "", "bracken/value", 0⟩, ⟨"r", 48, 2, false, "", "bracken/value", 32⟩, ⟨"most", 3, 3, false, "", "bracken/value", 40⟩], 4, 48, some (some (.agg [.nilp, .nils, .nilp, .int .i64 (.ofNat 0)])), true⟩
def ti213 : TI := ⟨.func #[9, 4] #[3] false, 1, 8, some (some (.nilf)), false⟩
def ti214 : TI := ⟨.func #[104, 193] #[3] false, 1, 8, some (some (.nilf)), false⟩
def ti215 : TI := ⟨.func #[42] #[4] false, 1, 8, some (some (.nilf)), false⟩
def ti216 : TI := ⟨.func #[34, 215] #[4] false, 1, 8, some (some (.nilf)), false⟩
def ti217 : TI := ⟨.func #[3] #[34] false, 1, 8, some (some (.nilf)), false⟩
def ti218 : TI := ⟨.tuple #[78, 3], 1, 0, some (some (.tup [.agg [.str [], .str [], .bool false], .int .i64 (.ofNat 0)])), false⟩
def ti219 : TI := ⟨.func #[9] #[78, 3] false, 1, 8, some (some (.nilf)), false⟩
def ti220 : TI := ⟨.func #[23, 9] #[4] false, 1, 8, some (some (.nilf)), false⟩
def ti221 : TI := ⟨.tuple #[175, 175], 1, 0, some (some (.tup [.int .u32 (.ofNat 0), .int .u32 (.ofNat 0)])), false⟩
def ti222 : TI := ⟨.func #[9] #[175, 175] false, 1, 8, some (some (.nilf)), false⟩
def ti223 : TI := ⟨.func #[9] #[12] false, 1, 8, some (some (.nilf)), false⟩
def ti224 : TI := ⟨.pointer 206, 1, 8, some (some (.nilp)), false⟩
def ti225 : TI := ⟨.func #[23, 9] #[9] false, 1, 8, some (some (.nilf)), false⟩
def ti226 : TI := ⟨.func #[9, 95] #[23] false, 1, 8, some (some (.nilf)), false⟩
def ti227 : TI := ⟨.func #[34, 215] #[3] false, 1, 8, some (some (.nilf)), false⟩
def ti228 : TI := ⟨.tuple #[34, 4], 1, 0, some (some (.tup [.nils, .bool false])), false⟩
def ti229 : TI := ⟨.tuple #[78, 4], 1, 0, some (some (.tup [.agg [.str [], .str [], .bool false], .bool false])), false⟩
def ti230 : TI := ⟨.func #[23, 9] #[3] false, 1, 8, some (some (.nilf)), false⟩
def ti231 : TI := ⟨.slice 233, 1, 24, some (some (.nils)), false⟩
def ti232 : TI := ⟨.struct #[⟨"start", 3, 0, false, "", "strings", 0⟩, ⟨"end", 3, 1, false, "", "strings", 8⟩], 2, 16, some (some (.agg [.int .i64 (.ofNat 0), .int .i64 (.ofNat 0)])), true⟩
def ti233 : TI := ⟨.struct #[⟨"start", 3, 0, false, "", "strings", 0⟩, ⟨"end", 3, 1, false, "", "strings", 8⟩], 2, 16, some (some (.agg [.int .i64 (.ofNat 0), .int .i64 (.ofNat 0)])), true⟩
def ti234 : TI := ⟨.struct #[⟨"_interface", 17, 0, false, "", "runtime", 0⟩, ⟨"concrete", 17, 1, false, "", "runtime", 8⟩, ⟨"asserted", 17, 2, false, "", "runtime", 16⟩, ⟨"missingMethod", 9, 3, false, "", "runtime", 24⟩], 4, 40, some (some (.agg [.nilp, .nilp, .nilp, .str []])), true⟩
def ti235 : TI := ⟨.struct #[⟨"_interface", 17, 0, false, "", "runtime", 0⟩, ⟨"concrete", 17, 1, false, "", "runtime", 8⟩, ⟨"asserted", 17, 2, false, "", "runtime", 16⟩, ⟨"missingMethod", 9, 3, false, "", "runtime", 24⟩], 4, 40, some (some (.agg [.nilp, .nilp, .nilp, .str []])), true⟩
def ti236 : TI := ⟨.array 0 16, 0, 0, some (some (.agg [])), true⟩
def ti237 : TI := ⟨.struct #[⟨"_", 236, 0, false, "", "runtime", 0⟩], 0, 0, some (some (.agg [])), true⟩
def ti238 : TI := ⟨.struct #[⟨"_", 236, 0, false, "", "runtime", 0⟩], 0, 0, some (some (.agg [])), true⟩
def ti239 : TI := ⟨.int .u8, 1, 1, some (some (.int .u8 (.ofNat 0))), false⟩
def ti240 : TI := ⟨.int .u8, 1, 1, some (some (.int .u8 (.ofNat 0))), false⟩
def ti241 : TI := ⟨.func #[198, 198] #[4] false, 1, 8, some (some (.nilf)), false⟩
def ti242 : TI := ⟨.int .i32, 1, 4, some (some (.int .i32 (.ofNat 0))), false⟩
def ti243 : TI := ⟨.int .i32, 1, 4, some (some (.int .i32 (.ofNat 0))), false⟩
def ti244 : TI := ⟨.struct #[⟨"Size_", 12, 0, false, "", "", 0⟩, ⟨"PtrBytes", 12, 1, false, "", "", 8⟩, ⟨"Hash", 175, 2, false, "", "", 16⟩, ⟨"TFlag", 239, 3, false, "", "", 20⟩, ⟨"Align_", 5, 4, false, "", "", 21⟩, ⟨"FieldAlign_", 5, 5, false, "", "", 22⟩, ⟨"Kind_", 240, 6, false, "", "", 23⟩, ⟨"Equal", 241, 7, false, "", "", 24⟩, ⟨"GCData", 174, 8, false, "", "", 32⟩, ⟨"Str", 242, 9, false, "", "", 40⟩, ⟨"PtrToThis", 243, 10, false, "", "", 44⟩], 11, 48, some (some (.agg [.int .u64 (.ofNat 0), .int .u64 (.ofNat 0), .int .u32 (.ofNat 0), .int .u8 (.ofNat 0), .int .u8 (.ofNat 0), .int .u8 (.ofNat 0), .int .u8 (.ofNat 0), .nilf, .nilp, .int .i32 (.ofNat 0), .int .i32 (.ofNat 0)])), true⟩
def ti245 : TI := ⟨.struct #[⟨"Size_", 12, 0, false, "", "", 0⟩, ⟨"PtrBytes", 12, 1, false, "", "", 8⟩, ⟨"Hash", 175, 2, false, "", "", 16⟩, ⟨"TFlag", 239, 3, false, "", "", 20⟩, ⟨"Align_", 5, 4, false, "", "", 21⟩, ⟨"FieldAlign_", 5, 5, false, "", "", 22⟩, ⟨"Kind_", 240, 6, false, "", "", 23⟩, ⟨"Equal", 241, 7, false, "", "", 24⟩, ⟨"GCData", 174, 8, false, "", "", 32⟩, ⟨"Str", 242, 9, false, "", "", 40⟩, ⟨"PtrToThis", 243, 10, false, "", "", 44⟩], 11, 48, some (some (.agg [.int .u64 (.ofNat 0), .int .u64 (.ofNat 0), .int .u32 (.ofNat 0), .int .u8 (.ofNat 0), .int .u8 (.ofNat 0), .int .u8 (.ofNat 0), .int .u8 (.ofNat 0), .nilf, .nilp, .int .i32 (.ofNat 0), .int .i32 (.ofNat 0)])), true⟩
def tiTab : Tr TI := .n (some ti0) (.n (some ti1) (.n (some ti3) (.n (some ti7) (.n (some ti15) (.n (some ti31) (.n (some ti63) (.n (some ti127) .e .e) (.n (some ti191) .e .e)) (.n (some ti95) (.n (some ti159) .e .e) (.n (some ti223) .e .e))) (.n (some ti47) (.n (some ti79) (.n (some ti143) .e .e) (.n (some ti207) .e .e)) (.n (some ti111) (.n (some ti175) .e .e) (.n (some ti239) .e .e)))) (.n (some ti23) (.n (some ti39) (.n (some ti71) (.n (some ti135) .e .e) (.n (some ti199) .e .e)) (.n (some ti103) (.n (some ti167) .e .e) (.n (some ti231) .e .e))) (.n (some ti55) (.n (some ti87) (.n (some ti151) .e .e) (.n (some ti215) .e .e)) (.n (some ti119) (.n (some ti183) .e .e) .e)))) (.n (some ti11) (.n (some ti19) (.n (some ti35) (.n (some ti67) (.n (some ti131) .e .e) (.n (some ti195) .e .e)) (.n (some ti99) (.n (some ti163) .e .e) (.n (some ti227) .e .e))) (.n (some ti51) (.n (some ti83) (.n (some ti147) .e .e) (.n (some ti211) .e .e)) (.n (some ti115) (.n (some ti179) .e .e) (.n (some ti243) .e .e)))) (.n (some ti27) (.n (some ti43) (.n (some ti75) (.n (some ti139) .e .e) (.n (some ti203) .e .e)) (.n (some ti107) (.n (some ti171) .e .e) (.n (some ti235) .e .e))) (.n (some ti59) (.n (some ti91) (.n (some ti155) .e .e) (.n (some ti219) .e .e)) (.n (some ti123) (.n (some ti187) .e .e) .e))))) (.n (some ti5) (.n (some ti9) (.n (some ti17) (.n (some ti33) (.n (some ti65) (.n (some ti129) .e .e) (.n (some ti193) .e .e)) (.n (some ti97) (.n (some ti161) .e .e) (.n (some ti225) .e .e))) (.n (some ti49) (.n (some ti81) (.n (some ti145) .e .e) (.n (some ti209) .e .e)) (.n (some ti113) (.n (some ti177) .e .e) (.n (some ti241) .e .e)))) (.n (some ti25) (.n (some ti41) (.n (some ti73) (.n (some ti137) .e .e) (.n (some ti201) .e .e)) (.n (some ti105) (.n (some ti169) .e .e) (.n (some ti233) .e .e))) (.n (some ti57) (.n (some ti89) (.n (some ti153) .e .e) (.n (some ti217) .e .e)) (.n (some ti121) (.n (some ti185) .e .e) .e)))) (.n (some ti13) (.n (some ti21) (.n (some ti37) (.n (some ti69) (.n (some ti133) .e .e) (.n (some ti197) .e .e)) (.n (some ti101) (.n (some ti165) .e .e) (.n (some ti229) .e .e))) (.n (some ti53) (.n (some ti85) (.n (some ti149) .e .e) (.n (some ti213) .e .e)) (.n (some ti117) (.n (some ti181) .e .e) (.n (some ti245) .e .e)))) (.n (some ti29) (.n (some ti45) (.n (some ti77) (.n (some ti141) .e .e) (.n (some ti205) .e .e)) (.n (some ti109) (.n (some ti173) .e .e) (.n (some ti237) .e .e))) (.n (some ti61) (.n (some ti93) (.n (some ti157) .e .e) (.n (some ti221) .e .e)) (.n (some ti125) (.n (some ti189) .e .e) .e)))))) (.n (some ti2) (.n (some ti4) (.n (some ti8) (.n (some ti16) (.n (some ti32) (.n (some ti64) (.n (some ti128) .e .e) (.n (some ti192) .e .e)) (.n (some ti96) (.n (some ti160) .e .e) (.n (some ti224) .e .e))) (.n (some ti48) (.n (some ti80) (.n (some ti144) .e .e) (.n (some ti208) .e .e)) (.n (some ti112) (.n (some ti176) .e .e) (.n (some ti240) .e .e)))) (.n (some ti24) (.n (some ti40) (.n (some ti72) (.n (some ti136) .e .e) (.n (some ti200) .e .e)) (.n (some ti104) (.n (some ti168) .e .e) (.n (some ti232) .e .e))) (.n (some ti56) (.n (some ti88) (.n (some ti152) .e .e) (.n (some ti216) .e .e)) (.n (some ti120) (.n (some ti184) .e .e) .e)))) (.n (some ti12) (.n (some ti20) (.n (some ti36) (.n (some ti68) (.n (some ti132) .e .e) (.n (some ti196) .e .e)) (.n (some ti100) (.n (some ti164) .e .e) (.n (some ti228) .e .e))) (.n (some ti52) (.n (some ti84) (.n (some ti148) .e .e) (.n (some ti212) .e .e)) (.n (some ti116) (.n (some ti180) .e .e) (.n (some ti244) .e .e)))) (.n (some ti28) (.n (some ti44) (.n (some ti76) (.n (some ti140) .e .e) (.n (some ti204) .e .e)) (.n (some ti108) (.n (some ti172) .e .e) (.n (some ti236) .e .e))) (.n (some ti60) (.n (some ti92) (.n (some ti156) .e .e) (.n (some ti220) .e .e)) (.n (some ti124) (.n (some ti188) .e .e) .e))))) (.n (some ti6) (.n (some ti10) (.n (some ti18) (.n (some ti34) (.n (some ti66) (.n (some ti130) .e .e) (.n (some ti194) .e .e)) (.n (some ti98) (.n (some ti162) .e .e) (.n (some ti226) .e .e))) (.n (some ti50) (.n (some ti82) (.n (some ti146) .e .e) (.n (some ti210) .e .e)) (.n (some ti114) (.n (some ti178) .e .e) (.n (some ti242) .e .e)))) (.n (some ti26) (.n (some ti42) (.n (some ti74) (.n (some ti138) .e .e) (.n (some ti202) .e .e)) (.n (some ti106) (.n (some ti170) .e .e) (.n (some ti234) .e .e))) (.n (some ti58) (.n (some ti90) (.n (some ti154) .e .e) (.n (some ti218) .e .e)) (.n (some ti122) (.n (some ti186) .e .e) .e)))) (.n (some ti14) (.n (some ti22) (.n (some ti38) (.n (some ti70) (.n (some ti134) .e .e) (.n (some ti198) .e .e)) (.n (some ti102) (.n (some ti166) .e .e) (.n (some ti230) .e .e))) (.n (some ti54) (.n (some ti86) (.n (some ti150) .e .e) (.n (some ti214) .e .e)) (.n (some ti118) (.n (some ti182) .e .e) .e))) (.n (some ti30) (.n (some ti46) (.n (some ti78) (.n (some ti142) .e .e) (.n (some ti206) .e .e)) (.n (some ti110) (.n (some ti174) .e .e) (.n (some ti238) .e .e))) (.n (some ti62) (.n (some ti94) (.n (some ti158) .e .e) (.n (some ti222) .e .e)) (.n (some ti126) (.n (some ti190) .e .e) .e))))))
noncomputable def fnTab : Tr Func := .n (some Tryz.f0) (.n (some Tryz.f1) (.n (some Tryz.f3) (.n (some Tryz.f7) (.n (some Tryz.f15) (.n (some Tryz.f31) (.n (some Tryz.f63) (.n (some Tryz.f127) .e .e) (.n (some Tryz.f191) .e .e)) (.n (some Tryz.f95) (.n (some Tryz.f159) .e .e) .e)) (.n (some Tryz.f47) (.n (some Tryz.f79) (.n (some Tryz.f143) .e .e) (.n (some Tryz.f207) .e .e)) (.n (some Tryz.f111) (.n (some Tryz.f175) .e .e) .e))) (.n (some Tryz.f23) (.n (some Tryz.f39) (.n (some Tryz.f71) (.n (some Tryz.f135) .e .e) (.n (some Tryz.f199) .e .e)) (.n (some Tryz.f103) (.n (some Tryz.f167) .e .e) .e)) (.n (some Tryz.f55) (.n (some Tryz.f87) (.n (some Tryz.f151) .e .e) (.n (some Tryz.f215) .e .e)) (.n (some Tryz.f119) (.n (some Tryz.f183) .e .e) .e)))) (.n (some Tryz.f11) (.n (some Tryz.f19) (.n (some Tryz.f35) (.n (some Tryz.f67) (.n (some Tryz.f131) .e .e) (.n (some Tryz.f195) .e .e)) (.n (some Tryz.f99) (.n (some Tryz.f163) .e .e) .e)) (.n (some Tryz.f51) (.n (some Tryz.f83) (.n (some Tryz.f147) .e .e) (.n (some Tryz.f211) .e .e)) (.n (some Tryz.f115) (.n (some Tryz.f179) .e .e) .e))) (.n (some Tryz.f27) (.n (some Tryz.f43) (.n (some Tryz.f75) (.n (some Tryz.f139) .e .e) (.n (some Tryz.f203) .e .e)) (.n (some Tryz.f107) (.n (some Tryz.f171) .e .e) .e)) (.n (some Tryz.f59) (.n (some Tryz.f91) (.n (some Tryz.f155) .e .e) (.n (some Tryz.f219) .e .e)) (.n (some Tryz.f123) (.n (some Tryz.f187) .e .e) .e))))) (.n (some Tryz.f5) (.n (some Tryz.f9) (.n (some Tryz.f17) (.n (some Tryz.f33) (.n (some Tryz.f65) (.n (some Tryz.f129) .e .e) (.n (some Tryz.f193) .e .e)) (.n (some Tryz.f97) (.n (some Tryz.f161) .e .e) .e)) (.n (some Tryz.f49) (.n (some Tryz.f81) (.n (some Tryz.f145) .e .e) (.n (some Tryz.f209) .e .e)) (.n (some Tryz.f113) (.n (some Tryz.f177) .e .e) .e))) (.n (some Tryz.f25) (.n (some Tryz.f41) (.n (some Tryz.f73) (.n (some Tryz.f137) .e .e) (.n (some Tryz.f201) .e .e)) (.n (some Tryz.f105) (.n (some Tryz.f169) .e .e) .e)) (.n (some Tryz.f57) (.n (some Tryz.f89) (.n (some Tryz.f153) .e .e) (.n (some Tryz.f217) .e .e)) (.n (some Tryz.f121) (.n (some Tryz.f185) .e .e) .e)))) (.n (some Tryz.f13) (.n (some Tryz.f21) (.n (some Tryz.f37) (.n (some Tryz.f69) (.n (some Tryz.f133) .e .e) (.n (some Tryz.f197) .e .e)) (.n (some Tryz.f101) (.n (some Tryz.f165) .e .e) .e)) (.n (some Tryz.f53) (.n (some Tryz.f85) (.n (some Tryz.f149) .e .e) (.n (some Tryz.f213) .e .e)) (.n (some Tryz.f117) (.n (some Tryz.f181) .e .e) .e))) (.n (some Tryz.f29) (.n (some Tryz.f45) (.n (some Tryz.f77) (.n (some Tryz.f141) .e .e) (.n (some Tryz.f205) .e .e)) (.n (some Tryz.f109) (.n (some Tryz.f173) .e .e) .e)) (.n (some Tryz.f61) (.n (some Tryz.f93) (.n (some Tryz.f157) .e .e) (.n (some Tryz.f221) .e .e)) (.n (some Tryz.f125) (.n (some Tryz.f189) .e .e) .e)))))) (.n (some Tryz.f2) (.n (some Tryz.f4) (.n (some Tryz.f8) (.n (some Tryz.f16) (.n (some Tryz.f32) (.n (some Tryz.f64) (.n (some Tryz.f128) .e .e) (.n (some Tryz.f192) .e .e)) (.n (some Tryz.f96) (.n (some Tryz.f160) .e .e) .e)) (.n (some Tryz.f48) (.n (some Tryz.f80) (.n (some Tryz.f144) .e .e) (.n (some Tryz.f208) .e .e)) (.n (some Tryz.f112) (.n (some Tryz.f176) .e .e) .e))) (.n (some Tryz.f24) (.n (some Tryz.f40) (.n (some Tryz.f72) (.n (some Tryz.f136) .e .e) (.n (some Tryz.f200) .e .e)) (.n (some Tryz.f104) (.n (some Tryz.f168) .e .e) .e)) (.n (some Tryz.f56) (.n (some Tryz.f88) (.n (some Tryz.f152) .e .e) (.n (some Tryz.f216) .e .e)) (.n (some Tryz.f120) (.n (some Tryz.f184) .e .e) .e)))) (.n (some Tryz.f12) (.n (some Tryz.f20) (.n (some Tryz.f36) (.n (some Tryz.f68) (.n (some Tryz.f132) .e .e) (.n (some Tryz.f196) .e .e)) (.n (some Tryz.f100) (.n (some Tryz.f164) .e .e) .e)) (.n (some Tryz.f52) (.n (some Tryz.f84) (.n (some Tryz.f148) .e .e) (.n (some Tryz.f212) .e .e)) (.n (some Tryz.f116) (.n (some Tryz.f180) .e .e) .e))) (.n (some Tryz.f28) (.n (some Tryz.f44) (.n (some Tryz.f76) (.n (some Tryz.f140) .e .e) (.n (some Tryz.f204) .e .e)) (.n (some Tryz.f108) (.n (some Tryz.f172) .e .e) .e)) (.n (some Tryz.f60) (.n (some Tryz.f92) (.n (some Tryz.f156) .e .e) (.n (some Tryz.f220) .e .e)) (.n (some Tryz.f124) (.n (some Tryz.f188) .e .e) .e))))) (.n (some Tryz.f6) (.n (some Tryz.f10) (.n (some Tryz.f18) (.n (some Tryz.f34) (.n (some Tryz.f66) (.n (some Tryz.f130) .e .e) (.n (some Tryz.f194) .e .e)) (.n (some Tryz.f98) (.n (some Tryz.f162) .e .e) .e)) (.n (some Tryz.f50) (.n (some Tryz.f82) (.n (some Tryz.f146) .e .e) (.n (some Tryz.f210) .e .e)) (.n (some Tryz.f114) (.n (some Tryz.f178) .e .e) .e))) (.n (some Tryz.f26) (.n (some Tryz.f42) (.n (some Tryz.f74) (.n (some Tryz.f138) .e .e) (.n (some Tryz.f202) .e .e)) (.n (some Tryz.f106) (.n (some Tryz.f170) .e .e) .e)) (.n (some Tryz.f58) (.n (some Tryz.f90) (.n (some Tryz.f154) .e .e) (.n (some Tryz.f218) .e .e)) (.n (some Tryz.f122) (.n (some Tryz.f186) .e .e) .e)))) (.n (some Tryz.f14) (.n (some Tryz.f22) (.n (some Tryz.f38) (.n (some Tryz.f70) (.n (some Tryz.f134) .e .e) (.n (some Tryz.f198) .e .e)) (.n (some Tryz.f102) (.n (some Tryz.f166) .e .e) .e)) (.n (some Tryz.f54) (.n (some Tryz.f86) (.n (some Tryz.f150) .e .e) (.n (some Tryz.f214) .e .e)) (.n (some Tryz.f118) (.n (some Tryz.f182) .e .e) .e))) (.n (some Tryz.f30) (.n (some Tryz.f46) (.n (some Tryz.f78) (.n (some Tryz.f142) .e .e) (.n (some Tryz.f206) .e .e)) (.n (some Tryz.f110) (.n (some Tryz.f174) .e .e) .e)) (.n (some Tryz.f62) (.n (some Tryz.f94) (.n (some Tryz.f158) .e .e) .e) (.n (some Tryz.f126) (.n (some Tryz.f190) .e .e) .e))))))
noncomputable def look : Look := lookBy Tryz.prog 246 tiTab 222 fnTab
theorem ti_ok : tiChk Tryz.prog tiTab 246 = tiAll Tryz.prog 246 := by kernel_rfl
theorem fn_ok : (List.range 222).map fnTab.get = (List.range 222).map (fun f => Tryz.prog.funcs[f]?) := by kernel_rfl
theorem look_eq : look = lookOf Tryz.prog := lookBy_eq ti_ok fn_ok
theorem all_ok : allOk Tryz.prog = true := by kernel_rfl
theorem count_ok : noCount Tryz.prog = true := by kernel_rfl
end Go.Proofs.YtmdejeddcfmpmaaGreatDoor

namespace Go.Proofs.YtmdejeddcfmpmaaGreatDoor
open Go Go.Ev

def ren : Shelf.Ren := ⟨fun | 217 => 159 | 219 => 129 | 224 => 161 | 225 => 160 | 266 => 182 | 267 => 162 | 314 => 183 | n => n, fun | 46 => 24 | 51 => 175 | 146 => 221 | n => n, fun | 1 => 5 | n => n⟩
theorem lays : Lays.n219 Tryz.prog ren := {
  mixed := by kernel_rfl
  f217 := by kernel_rfl
  f219 := by kernel_rfl
  f224 := by kernel_rfl
  f225 := by kernel_rfl
  f266 := by kernel_rfl
  f267 := by kernel_rfl
  f314 := by kernel_rfl
  t3 := Tryz.underlying3
  a3 := Tryz.isAgg3
  z3 := Tryz.sizeOf3
  v3 := Tryz.zeroValue3
  t4 := Tryz.underlying4
  a4 := Tryz.isAgg4
  z4 := Tryz.sizeOf4
  v4 := Tryz.zeroValue4
  t5 := Tryz.underlying5
  a5 := Tryz.isAgg5
  z5 := Tryz.sizeOf5
  v5 := Tryz.zeroValue5
  t9 := Tryz.underlying9
  a9 := Tryz.isAgg9
  z9 := Tryz.sizeOf9
  v9 := Tryz.zeroValue9
  t46 := Tryz.underlying24
  a46 := Tryz.isAgg24
  z46 := Tryz.sizeOf24
  v46 := Tryz.zeroValue24
  t51 := Tryz.underlying175
  a51 := Tryz.isAgg175
  z51 := Tryz.sizeOf175
  v51 := Tryz.zeroValue175
  t146 := Tryz.underlying221
  a146 := Tryz.isAgg221
  z146 := Tryz.sizeOf221
  v146 := Tryz.zeroValue221
  g1 := by kernel_rfl }

theorem ext157 : IsExt Tryz.prog 157 Extern.AbiNoEscape.same := ⟨run_callFunc_extern Tryz.func157 (by kernel_rfl) (by kernel_rfl) (by kernel_rfl) (by kernel_rfl)⟩
theorem ext182 : IsExt Tryz.prog 182 Extern.BytealgIndexByte.indexByte := ⟨run_callFunc_extern Tryz.func182 (by kernel_rfl) (by kernel_rfl) (by kernel_rfl) (by kernel_rfl)⟩
theorem ext126 : IsExt Tryz.prog 126 Extern.BytealgCount.count := ⟨run_callFunc_extern Tryz.func126 (by kernel_rfl) (by kernel_rfl) (by kernel_rfl) (by kernel_rfl)⟩
theorem ext158 : IsExt Tryz.prog 158 (Extern.BytealgMakeNoZero.makeNoZero Tryz.f158.params #[29]) := ⟨run_callFunc_extern Tryz.func158 (by kernel_rfl) (by kernel_rfl) (by kernel_rfl) (by kernel_rfl)⟩

def base : List (Nat × Ent) := [(129, kIndex 5), (157, kNoEsc), (182, kIdxByte), (126, kCount), (158, kNoZero 5)]
theorem base_ok : ∀ p ∈ base, EntryOk Tryz.prog p.1 p.2 := by
  intro p hp
  simp only [base, List.mem_cons, List.mem_nil_iff, or_false] at hp
  rcases hp with rfl | rfl | rfl | rfl | rfl
  · exact kIndex_ok lays rfl rfl (of_decide_eq_true (by kernel_rfl))
  · exact kNoEsc_ok ext157
  · exact kIdxByte_ok ext182
  · exact kCount_ok ext126
  · exact kNoZero_ok ext158 Tryz.underlying29
end Go.Proofs.YtmdejeddcfmpmaaGreatDoor

namespace Go.Proofs.YtmdejeddcfmpmaaGreatDoor
open Go Go.Ev
noncomputable def pur (X : List (Nat × Ent)) (l : List Nat) : List (Nat × Ent) := pu Tryz.prog look 100000 100 5 3 [] X l
theorem lt5 : 5 < Tryz.prog.globals.size := of_decide_eq_true (by kernel_rfl)
theorem pur_ok {X : List (Nat × Ent)} (hX : ∀ p ∈ X, EntryOk Tryz.prog p.1 p.2) (l : List Nat) : ∀ p ∈ pur X l, EntryOk Tryz.prog p.1 p.2 :=
  pu_ok look_eq count_ok all_ok (fun _ h => by cases h) (fun _ h => by cases h) lt5 hX l
noncomputable def X1 := pur base [131, 39]
noncomputable def X2 := pur X1 [101]
noncomputable def X3 := pur X2 [133, 77, 27]
noncomputable def X4 := pur X3 [102]
noncomputable def X5 := pur X4 [78]
theorem X5_ok : ∀ p ∈ X5, EntryOk Tryz.prog p.1 p.2 := pur_ok (pur_ok (pur_ok (pur_ok (pur_ok base_ok _) _) _) _) _
theorem told15 (m : Int) : isTrue ((evF Tryz.prog look (ovr X5) 100000 100 10).run [] (tabs (mxTab 5 3 m []) .e) Tryz.prog.globals.size) = true := by kernel_rfl
noncomputable def XT : List (Nat × Ent) := (10, kTrue 5 3 []) :: X5
theorem XT_ok : ∀ p ∈ XT, EntryOk Tryz.prog p.1 p.2 := by
  intro p hp
  rcases List.mem_cons.1 hp with rfl | hp
  · exact kTrue_ok (evF_sound look_eq (ovr_sound X5_ok) count_ok all_ok 100000 100) (fun _ h => by cases h) (fun _ h => by cases h) lt5 told15
  · exact X5_ok p hp

noncomputable def lawRun (m : Int) (f : Nat) (args : List AV) : Bool := isTrue ((evF Tryz.prog look (ovr XT) 100000 101 f).run args (tabs (mxTab 5 3 m []) .e) Tryz.prog.globals.size)
end Go.Proofs.YtmdejeddcfmpmaaGreatDoor

