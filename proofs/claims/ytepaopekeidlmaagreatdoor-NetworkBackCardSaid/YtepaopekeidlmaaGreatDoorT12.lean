/-
The parts NetTab of one proof, joined: each begins with a remark that says what it shows.
-/
import Derived.Test.YtepaopekeidlmaaGreatDoorT11
import Derived.Test.YtepaopekeidlmaaGreatDoorProg
set_option linter.unusedSimpArgs false
set_option linter.unusedVariables false

/-
The tables of this program for the abstract interpreter, written by a program of ours.
-/
namespace Go.Sim
open Go
def goodM:Nat:=1093625378559466833139976508660432722384927521438983352066118272077749426469605369703411856604921852
def freshM:Nat:=113078218885803314146952482708172940630289903696786620755382452966416973824
def freeM:Nat:=1989323388770270841389497811087130431698287666672354701643696097616915186092615791542272
def twiceM:Nat:=113078212145816647310144923140992895699274355061370942138626352595003768832
def refM:Nat:=6845299008673042991079710027741475110042770018234049245195309940736
def refT:Nat:=492116379259015079716850915033715280487132116720507264054648438642234676477952
abbrev oD (m:Nat):OpI:=⟨.data,0,m,[]⟩
abbrev oA (k m:Nat):OpI:=⟨.data,k,m,[]⟩
abbrev oL (k m:Nat):OpI:=⟨.load,k,m,[]⟩
abbrev oR (k m:Nat):OpI:=⟨.read,k,m,[]⟩
abbrev oW (k m:Nat):OpI:=⟨.writeAt,k,m,[]⟩
abbrev oF (k m:Nat):OpI:=⟨.fresh,k,m,[]⟩
noncomputable def planT:TT (List (Nat × List OpI)) :=
 (.node [] (.node [] (.node [(3,[oL 0 0,oR 0 1,oD 0,oL 0 4,oR 0 15,oD 31,oD 63,oD 63,oD 127,oD 511]),(4,[oL 0 0,oR 0 1,oL 0 0,oR 0 7,oD 15,oD 31,oD 31,oF 0 0,oW 1 191,oA 2 511]),(5,[oL 0 0,oR 0 1,oL 0 0,oR 0 7,oD 15,oD 31,oD 31,oF 0 0,oW 1 191,oA 2 511]),(12,[oL 0 0,oD 0,oL 0 2,oR 0 7,oL 0 0,oL 0 0,oR 0 63,oD 127,oD 255]),(15,[oD 0,oL 0 1,oL 0 0,oD 0,oL 0 8,oR 0 28,oD 63,oL 0 127,oR 0 255,oD 511])] (.node [] (.node [(13,[oD 0,oD 1,oD 3,oD 7,oD 15,oD 31,oD 63,oD 127,oD 255,oD 511,oD 1023,oL 0 2047,oR 0 4095,oL 0 2047,oR 0 16383,oD 32767,oD 65535,oD 131071,oD 262143,oR 0 524287,oR 0 1048575,oD 262143,oD 2359295,oD 8388607,oD 16777215])] (.node [] (.node [] (.node [(1,[oD 0,oL 0 1,oR 0 3,oD 7,oR 0 15,oD 0,oL 0 32,oR 0 127,oD 255,oR 0 511,oD 0,oL 0 1024,oR 0 4095,oD 0,oL 0 8192,oR 0 32767,oD 0,oL 0 65536,oR 0 262143,oD 524287,oR 0 1048575,oD 2097151])] .leaf
 .leaf)
 .leaf)
 .leaf)
 (.node [] (.node [] (.node [] (.node [(1,[oD 0,oD 0,oD 0,oD 0,oD 0,oD 0,oD 48,oL 0 112,oD 0,oD 0,oD 768,oL 0 1792,oD 4083,oW 0 8179,oA 1 16383,oW 1 32767]),(3,[oD 0,oD 0,oD 3,oD 7,oD 15,oD 15,oD 15,oD 111,oL 0 239,oD 15,oD 15,oD 1551,oL 0 3599,⟨.write,0,8191,[]⟩,oA 1 16383,oA 1 32767]),(5,[oD 0,oD 0,oD 3,oD 7,oD 15,oD 15,oD 15,oD 111,oL 0 239,oD 15,oD 15,oD 1551,oL 0 3599,⟨.write,0,8191,[]⟩,oA 1 16383,oA 1 32767,oA 1 65535]),(8,[oD 0,oD 0,oD 0,oD 0,oD 0,oD 0,oD 48,oL 0 112,oD 0,oD 0,oD 768,oL 0 1792,oD 4083,oW 0 8179,oA 1 16383,oW 1 32767]),(10,[oD 0,oD 0,oD 0,oD 0,oD 0,oD 0,oD 48,oL 0 112,oD 0,oD 0,oD 768,oL 0 1792,oD 4083,oW 0 8179,oA 1 16383,oW 1 32767]),(13,[oD 0,oD 0,oD 3,oD 7,oD 15,oD 15,oD 15,oD 111,oL 0 239,oD 15,oD 15,oD 1551,oL 0 3599,⟨.write,0,8191,[]⟩,oA 1 16383,oA 1 32767]),(15,[oD 0,oD 0,oD 3,oD 7,oD 15,oD 15,oD 15,oD 111,oL 0 239,oD 15,oD 15,oD 1551,oL 0 3599,⟨.write,0,8191,[]⟩,oA 1 16383,oA 1 32767,oA 1 65535]),(18,[oD 0,oD 0,oD 0,oD 0,oD 0,oD 0,oD 48,oL 0 112,oD 0,oD 0,oD 768,oL 0 1792,oD 4083,oW 0 8179,oA 1 16383,oW 1 32767]),(21,[oD 0,oD 0,oD 0,oD 0,oD 0,oD 0,oD 48,oL 0 112,oD 0,oD 0,oD 768,oL 0 1792,oD 4083,oW 0 8179,oA 1 16383,oW 1 32767])] .leaf
 .leaf)
 .leaf)
 (.node [(3,[oD 0,oL 0 1,oL 0 0,oD 0,oL 0 8,oR 0 28,oD 63,oL 0 127,oR 0 255,oD 511,oD 1023])] .leaf
 .leaf))
 .leaf))
 (.node [] (.node [(6,[oD 0,oD 0,oD 3,oL 0 7,oD 0,oD 0,oD 48,oL 0 112,oD 255])] (.node [(7,[oD 0,oL 0 1,oD 0,oL 0 4,oD 3,oD 31,oD 63])] (.node [(10,[oD 0,oL 0 1,oD 0,oL 0 4,oD 15,oD 31,oD 63,oL 0 127,oD 63,oL 0 319,oD 1023,oD 2047,oD 4095,oD 8191,oL 0 16383,oL 0 8191,oR 0 40959,oD 131071,oD 262143]),(11,[oL 0 0,oD 0,oL 0 2,oR 0 7,oL 0 0,oL 0 0,oR 0 47,oD 111,oR 0 255,oD 511,oD 1023])] .leaf
 .leaf)
 .leaf)
 (.node [(2,[oD 0,oL 0 1,oR 0 3,oL 0 0,oD 0,oL 0 16,oR 0 63,oD 0,oD 255,oR 0 511,oD 0,oL 0 1024,oR 0 3072,oD 7168,oR 0 16383,oD 0,oL 0 32768,oR 0 98304,oD 229376,oR 0 524287,oD 1048575,oR 0 2097151,oD 4194303])] .leaf
 (.node [(10,[oD 0,oD 0,oD 0,oD 0,oD 0,oD 24,oD 0,oD 0,oD 0,oD 384,oD 960,oL 0 1984,oD 0,oD 0,oD 12288,oL 0 28672,oD 65475,oW 0 131011,oA 1 262143,oW 1 524287])] .leaf
 .leaf)))
 (.node [] (.node [(13,[oD 0,oD 0,oL 0 2,oR 0 6,oD 0,oL 0 16,oR 0 62,oL 0 0,oD 0,oL 0 256,oR 0 1022,oD 2046,⟨.write,0,4095,[]⟩]),(19,[oD 0,oD 0,oL 0 2,oD 0,oL 0 8,oD 0,oL 0 32,oR 0 96,oD 0,oL 0 256,oL 0 0,oD 0,oL 0 2048,oR 0 7392,oD 16382,⟨.write,0,32767,[]⟩]),(24,[oD 0,oD 0,oL 0 2,oD 0,oL 0 8,oD 0,oL 0 32,oD 0,oD 128,oL 0 384,oR 0 896,oD 0,oD 2048,oL 0 6144,oR 0 16256,oD 32766,⟨.write,0,65535,[]⟩])] .leaf
 .leaf)
 (.node [] (.node [(1,[oD 0,oL 0 1,oD 0,oL 0 4,oD 15,oD 31,oL 0 63,oD 63,oL 0 191,oR 0 511,oD 1023,oD 2047,oD 4095,oD 8191,oL 0 16383,oL 0 8191,oR 0 40959,oD 131071,oD 262143,oR 0 524287,oD 1048575])] .leaf
 .leaf)
 .leaf))))
 (.node [(9,[oL 0 0,oR 0 1,oD 0,oL 0 4,oD 0,oL 0 16,oR 0 63,oD 127,oD 255,oD 255,oD 255,oD 511,oD 3071,oD 8191]),(10,[oL 0 0,oR 0 1,oD 0,oL 0 4,oD 0,oL 0 16,oD 0,oR 0 67,oR 0 255,oD 511,oD 1023,oD 1023,oD 2047,oD 8191]),(13,[oL 0 0,oD 0,oL 0 2,oR 0 7,oL 0 0,oD 0,oL 0 32,oR 0 127,oD 255,oR 0 511,oD 1023])] (.node [] (.node [] (.node [] (.node [] (.node [(3,[oD 0,oD 1,oD 0,oD 7,oD 15,oD 31,oD 31,oD 31,oD 31,oD 415,oD 991,oL 0 2015,oD 31,oD 31,oD 31,oD 24607,oD 57375,oD 127007,oL 0 258079,⟨.write,0,524287,[]⟩,oA 1 1048575,oA 1 2097151]),(5,[oD 0,oD 0,oD 0,oD 0,oD 12,oD 30,oL 0 62,oD 0,oD 0,oD 0,oD 768,oD 1920,oL 0 3968,⟨.write,0,8191,[]⟩,oA 1 16383,oA 1 32767]),(6,[oD 0,oD 0,oD 0,oD 6,oD 0,oD 0,oD 0,oD 96,oD 0,oD 0,oD 0,oD 1536,oD 3840,oL 0 7936,oD 0,oD 0,oD 0,oD 98304,oD 245760,oL 0 507904,oD 1048335,oW 0 2096911,oA 1 4194303,oW 1 8388607])] .leaf
 .leaf)
 .leaf)
 .leaf)
 .leaf)
 (.node [] (.node [(8,[oL 0 0,oD 0,oL 0 2,oD 0,oD 14,oL 0 30,oD 0,oR 0 127,oD 255]),(16,[oL 0 0,oD 0,oL 0 2,oD 0,oD 14,oL 0 30,oD 0,oR 0 127,oD 0,oD 511])] (.node [(3,[oD 0,oD 0,oD 0,oW 0 6,oD 0,⟨.load,0,16,[3]⟩,oD 0,⟨.load,0,64,[3]⟩,oD 0,⟨.load,0,256,[3]⟩,oD 1008,oD 2032,oW 1 4094,oA 2 8190,oW 2 16383,oA 3 32767]),(7,[oL 0 0,oD 0,oL 0 2,oD 0,oD 14,oL 0 30,oR 0 63,oF 0 0,oW 1 255]),(11,[oD 0,oD 0,oD 3,oL 0 7,oD 15,oD 31,oD 63,oD 127,oL 0 255,oD 31,oL 0 543,oD 2047,oD 4095]),(14,[oD 0,oD 0,oW 0 3,oD 0,⟨.load,0,8,[2]⟩,oD 0,⟨.load,0,32,[2]⟩,oD 0,oD 128,oD 384,⟨.load,0,896,[2]⟩,oD 2040,oD 4088,oW 1 8191,oA 2 16383]),(15,[oD 0,oL 0 0,oD 0,oD 0,oD 8,oD 24,oL 0 56,oL 0 0,oD 0,oR 0 510,oW 0 1023,oA 1 2047])] .leaf
 .leaf)
 .leaf)
 (.node [] (.node [(1,[oD 0,oL 0 1,oR 0 3,oD 0,oL 0 8,oR 0 31,oD 63,oR 0 127,oD 255])] .leaf
 .leaf)
 .leaf)))
 (.node [] (.node [] (.node [(1,[oL 0 0,oL 0 0,oL 0 0,oD 0,oL 0 8,oR 0 24,oF 0 56,oR 1 127,oA 1 255]),(8,[oL 0 0,oD 0,oD 0,oD 6,oL 0 14,oD 0,oR 0 63])] (.node [(7,[oD 0,oD 1,oD 3,oD 7,oL 0 15,oD 7,oD 7,oD 71,oD 231,oD 487,oL 0 999,oR 0 2047,oD 4095])] .leaf
 .leaf)
 (.node [(1,[oD 0,oL 0 1,oD 0,oL 0 4,oR 0 15,oD 0,oL 0 32,oR 0 96,oD 0,oL 0 256,oR 0 768,oR 0 2047,oD 0,oL 0 4096,oD 0,oL 0 16384,oD 0,oR 0 131071,oD 262143,oR 0 524287,oD 1048575])] .leaf
 .leaf))
 (.node [] (.node [] (.node [(1,[oD 0,oD 0,oD 0,oD 6,oL 0 14,oD 0,oD 0,oD 96,oL 0 224,⟨.write,0,511,[]⟩,oA 1 1023])] .leaf
 .leaf)
 .leaf)
 (.node [(5,[oD 0,oD 0,oD 3,oD 7,oD 15,oD 15,oD 15,oD 111,oL 0 239,oD 15,oD 15,oD 1039,oD 3599,oL 0 7695,⟨.write,0,16383,[]⟩,oA 1 32767,oA 1 65535,oA 1 131071]),(11,[oD 0,oD 0,oD 0,oD 0,oD 8,oD 0,oD 0,oD 64,oD 224,oL 0 480,oD 0,oD 0,oD 3072,oL 0 7168,oD 16355,oW 0 32739,oA 1 65535,oW 1 131071]),(16,[oD 0,oD 0,oD 0,oD 6,oL 0 14,oD 0,oD 0,oD 64,oD 224,oL 0 480,⟨.write,0,1023,[]⟩,oA 1 2047,oA 1 4095]),(17,[oD 0,oD 0,oD 0,oD 0,oD 8,oD 0,oD 0,oD 64,oD 224,oL 0 480,oD 0,oD 0,oD 3072,oL 0 7168,oD 16355,oW 0 32739,oA 1 65535,oW 1 131071]),(22,[oD 0,oD 0,oD 0,oD 6,oL 0 14,oD 0,oD 0,oD 64,oD 224,oL 0 480,⟨.write,0,1023,[]⟩,oA 1 2047,oA 1 4095]),(23,[oD 0,oD 0,oD 0,oD 0,oD 8,oD 0,oD 0,oD 64,oD 224,oL 0 480,oD 0,oD 0,oD 3072,oL 0 7168,oD 16355,oW 0 32739,oA 1 65535,oW 1 131071])] .leaf
 .leaf)))
 (.node [(8,[oD 0,oD 0,oD 0,oD 6,oD 14,oL 0 30,oL 0 0,oD 126,oD 254,oW 0 511,oA 1 1023])] (.node [(6,[oD 0,oL 0 1,oD 0,oD 7,oD 15,oL 0 31,oD 0,oL 0 64,oD 0,oD 448,oD 960,oL 0 1984,oD 4095,oD 8191,oD 16383,oL 0 32767,oD 16383,oD 131071,oD 262143,oL 0 524287,oR 0 1048575,oD 16383,oL 0 2113535,oD 16383,oD 14696447,oD 31473663,oL 0 65028095,oR 0 132136959,oD 268435455,oD 536870911]),(11,[oD 0,oL 0 1,oD 0,oD 7,oD 15,oL 0 31,oD 0,oD 127,oL 0 255,oD 0,oL 0 512,oD 0,oD 3584,oD 7680,oL 0 15872,oD 0,oD 65024,oL 0 130560,oD 262143]),(16,[oD 0,oL 0 1,oD 0,oD 7,oL 0 15,oD 0,oL 0 32,oD 0,oD 224,oL 0 480,oD 1023]),(21,[oD 0,oL 0 1,oD 0,oD 7,oL 0 15,oD 0,oL 0 32,oD 0,oD 224,oL 0 480,oD 1023])] .leaf
 .leaf)
 (.node [(1,[oD 0,oL 0 1,oL 0 0,oD 0,oR 0 12,oD 31,oL 0 63,oF 0 0,oW 1 255]),(8,[oL 0 0,oD 0,oL 0 2,oD 0,oD 14,oL 0 30,oD 0,oR 0 127,oD 255]),(21,[oD 0,oD 0,oD 3,oL 0 7,oD 0,oD 0,oD 0,oD 96,oL 0 224,oD 496,oR 0 1008,oD 2047,oD 4095])] .leaf
 .leaf)))))
 (.node [(3,[oD 0,oR 0 1,oL 0 0,oR 0 7,oD 15,oD 31,oD 31,oF 0 0,oW 1 191,oA 2 511]),(5,[oD 0,oD 0,oL 0 2,oR 0 6,oD 0,oL 0 16,oR 0 62,oD 127,oR 0 255,oD 511]),(12,[oL 0 0,oD 0,oD 2,oR 0 6,oW 0 15,oA 1 31]),(13,[oD 0,oR 0 1,oR 0 3,oD 0,oD 15,oD 31,oD 63,oR 0 127,oD 63,oL 0 319,oR 0 1023,oD 63,oL 0 2111,oR 0 8191,oR 0 16383,oD 63,oD 65535,oD 131071,oD 262143,oL 0 524287,oL 0 524287,oD 2097151,oD 4194303,oD 8388607,oD 16777215,oD 16777215,oD 67108863,oD 134217727,oD 268435455])] (.node [(23,[oD 0,oR 0 1,oL 0 0,oR 0 7,oD 15,oD 31,oD 31,oF 0 0,oW 1 191,oA 2 511]),(24,[oD 0,oR 0 1,oR 0 3,oL 0 0,oR 0 15,oD 31,oD 63,oD 63,oF 0 0,oW 1 383,oA 2 1023]),(25,[oD 0,oR 0 1,oR 0 3,oL 0 0,oR 0 15,oD 31,oD 63,oD 63,oF 0 0,oW 1 383,oA 2 1023]),(26,[oD 0,oR 0 1,oR 0 3,oL 0 0,oR 0 15,oD 31,oD 63,oD 63,oF 0 0,oW 1 383,oA 2 1023]),(29,[oD 0,oR 0 1,oL 0 0,oR 0 7,oD 15,oD 31,oD 31,oF 0 0,oW 1 191,oA 2 511]),(30,[oD 0,oR 0 1,oR 0 3,oL 0 0,oR 0 15,oD 31,oD 63,oD 63,oF 0 0,oW 1 383,oA 2 1023]),(53,[oD 0,oR 0 1,oD 0,oL 0 4,oD 0,oL 0 16,oD 0,oD 112,oD 252,oR 0 511,oD 1023,oD 2047,oD 2047,oF 0 0,oW 1 12287,oA 2 32767])] (.node [] (.node [] (.node [(7,[oD 0,oD 0,oD 3,oD 7,oL 0 15,oL 0 0,oR 0 63,oD 127,oD 255,oD 255,oF 0 0,oW 1 1535,oA 2 4095]),(27,[oD 0,oD 0,oD 3,oD 7,oL 0 15,oL 0 0,oR 0 63,oW 0 127,oA 1 255])] .leaf
 .leaf)
 .leaf)
 (.node [(11,[oD 0,oL 0 1,oD 0,oL 0 4,oD 15,oD 31,oD 63,oL 0 127,oD 63,oL 0 319,oD 1023,oD 2047,oD 4095,oL 0 8191,oL 0 4095,oR 0 20479,oD 65535,oD 131071,oD 262143])] .leaf
 (.node [(8,[oD 0,oL 0 1,oR 0 3,oD 0,oD 0,oL 0 16,oR 0 56,oR 0 127,oD 0,oL 0 256,oR 0 1023,oD 2047,oR 0 4095,oD 0,oD 8192,oR 0 32767,oL 0 0,oD 0,oL 0 131072,oR 0 524287,oD 1048575,oR 0 2097151,oD 4194303])] .leaf
 .leaf)))
 (.node [(9,[oD 0,oL 0 1,oL 0 0,oD 0,oL 0 8,oD 0,oL 0 32,oR 0 124,oD 255,oW 0 511,oA 1 1023])] (.node [] (.node [] (.node [(1,[oD 0,oL 0 1,oD 0,oL 0 4,oD 15,oD 0,oL 0 32,oD 0,oL 0 128,oD 480,oL 0 0,oR 0 1024,oD 4064,oD 3103,oD 16383])] (.node [(10,[oD 0,oD 0,oD 0,oD 0,oD 0,oD 24,oD 0,oD 0,oD 0,oD 384,oD 960,oL 0 1984,oD 0,oD 0,oD 12288,oL 0 28672,oD 65475,oW 0 131011,oA 1 262143,oW 1 524287])] .leaf
 .leaf)
 .leaf)
 .leaf)
 (.node [(8,[oD 0,oL 0 1,oD 0,oD 7,oD 15,oL 0 31,oD 0,oL 0 64,oD 255]),(10,[oD 0,oL 0 1,oR 0 3,oD 7,oR 0 15,oL 0 0,oD 0,oL 0 64,oD 0,oL 0 256,oR 0 1023,oD 2047,oR 0 4095,oD 8191])] .leaf
 .leaf))
 (.node [(8,[oD 0,oD 0,oD 3,oD 7,oL 0 15,oD 0,oD 0,oD 96,oD 224,oL 0 480,oD 0,oD 2016,oD 4095,oF 0 0,oW 1 16383])] (.node [(10,[oD 0,oD 1,oD 0,oL 0 4,oR 0 12,oD 31,oD 63,oD 0,oL 0 128,oR 0 412,oD 1023,oD 2047,oD 0,oL 0 4096,oR 0 13212,oD 32767,oD 65535,oD 131071]),(15,[oD 0,oD 1,oD 0,oL 0 4,oD 15,oD 31,oD 0,oL 0 64,oD 255,oD 511,oD 0,oL 0 1024,oR 0 3072,oD 8191,oD 16383,oD 0,oL 0 32768,oD 131071,oD 262143,oD 0,oL 0 524288,oR 0 1580032,oD 4194303,oD 8388607,oD 16777215]),(20,[oD 0,oD 1,oD 0,oL 0 4,oD 15,oD 31,oD 0,oL 0 64,oD 255,oD 511,oD 0,oL 0 1024,oD 4095,oD 8191,oD 0,oD 16384,oL 0 49152,oR 0 114688,oD 262143,oD 524287,oD 0,oD 1048576,oL 0 3145728,oR 0 7585792,oD 16777215,oD 33554431,oD 67108863])] .leaf
 (.node [(6,[oD 0,oD 1,oD 3,oL 0 7,oD 0,oD 16,oD 48,oL 0 112,oR 0 240,oD 496,oD 1023,oD 2047]),(7,[oD 0,oD 0,oD 2,oD 6,oL 0 14,oL 0 0,oD 32,oW 0 126,oA 1 255,oA 1 511,oW 1 1023])] .leaf
 .leaf))
 (.node [] .leaf
 (.node [(5,[oD 0,oD 0,oD 0,oD 6,oL 0 14,oD 0,oD 0,oD 96,oL 0 224,⟨.write,0,511,[]⟩,oA 1 1023]),(11,[oD 0,oD 0,oD 0,oD 0,oD 8,oD 0,oD 0,oD 64,oD 224,oL 0 480,oD 0,oD 0,oD 3072,oL 0 7168,oD 16355,oW 0 32739,oA 1 65535,oW 1 131071]),(17,[oD 0,oD 0,oD 0,oD 6,oL 0 14,oD 0,oD 0,oD 96,oL 0 224,⟨.write,0,511,[]⟩,oA 1 1023,oA 1 2047]),(23,[oD 0,oD 0,oD 0,oD 0,oD 8,oD 0,oD 0,oD 64,oD 224,oL 0 480,oD 0,oD 0,oD 3072,oL 0 7168,oD 16355,oW 0 32739,oA 1 65535,oW 1 131071]),(35,[oD 0,oD 0,oD 0,oD 0,oD 12,oD 30,oL 0 62,oD 0,oD 0,oD 384,oL 0 896,⟨.write,0,2047,[]⟩,oA 1 4095,oA 1 8191])] .leaf
 .leaf)))))
 (.node [] (.node [] (.node [(5,[oL 0 0,oL 0 0,oD 0,oL 0 4,oD 0,oD 28,oD 60,oL 0 124,oR 0 255,oD 511])] (.node [(8,[oD 0,oL 0 1,oR 0 3,oD 0,oL 0 8,oD 0,oD 56,oR 0 127,oD 0,oL 0 256,oR 0 1023,oD 0,oL 0 2048,oR 0 8191,oD 16383,oR 0 32767,oD 65535]),(14,[oD 0,oL 0 1,oD 0,oD 0,oD 8,oD 28,oD 60,oL 0 124,oD 0,oL 0 256,oR 0 1023,oD 2047])] (.node [(2,[oD 0,oD 1,oR 0 3,oL 0 0,oL 0 0,oR 0 31,oD 63,oR 0 127,oD 255])] (.node [(1,[oD 0,oD 1,oL 0 3,oD 0,oD 8,oL 0 24,oD 56,oD 127,oD 255,oW 0 511]),(2,[oD 0,oD 1,oL 0 3,oD 0,oD 8,oL 0 24,oD 56,oD 127,oD 255,oW 0 511]),(3,[oD 0,oD 1,oL 0 3,oD 0,oD 8,oL 0 24,oD 56,oD 127,oD 255,oW 0 511])] .leaf
 .leaf)
 .leaf)
 (.node [(1,[oD 0,oL 0 1,oD 0,oL 0 4,oR 0 15,oD 0,oL 0 32,oD 0,oL 0 128,oR 0 511,oD 1023,oR 0 2047,oD 4095])] .leaf
 .leaf))
 (.node [(8,[oL 0 0,oD 0,oL 0 2,oL 0 0,oR 0 8,oD 0,oL 0 32,oD 0,oD 224,oD 504,oD 1022,oD 1,⟨.writeAt,0,2073,[6,2]⟩,oA 1 8191,oW 1 16383])] .leaf
 .leaf))
 (.node [] (.node [] (.node [(4,[oL 0 0,oD 0,oL 0 2,oD 0,oD 14,oL 0 30,oR 0 63,oF 0 0,oW 1 255])] .leaf
 .leaf)
 .leaf)
 .leaf))
 (.node [(4,[oL 0 0,oR 0 1,oL 0 0,oR 0 7,oD 15,oR 0 31,oD 63])] (.node [(5,[oL 0 0,oD 0,oL 0 2,oD 0,oL 0 8,oD 0,oL 0 32,oD 0,oL 0 128,oD 480,oD 1016,oR 0 2047,oL 0 0,oD 0,oL 0 8192,oD 0,oL 0 32768,oD 0,oL 0 131072,oD 0,oL 0 524288,oD 1966080,oD 4161536,oR 0 8388607,oD 16777215,oR 0 33554431,oD 67108863])] (.node [(5,[oD 0,oD 0,oD 0,oD 6,oD 14,oL 0 30,oD 0,oD 0,oD 192,oD 448,oL 0 960,oD 2046,oR 0 4094,oD 8191,oD 16383])] (.node [] (.node [(5,[oD 0,oD 0,oD 3,oD 7,oD 15,oD 15,oD 15,oD 111,oL 0 239,oD 15,oD 15,oD 1039,oD 3599,oL 0 7695,⟨.write,0,16383,[]⟩,oA 1 32767,oA 1 65535,oA 1 131071]),(11,[oD 0,oD 0,oD 0,oD 0,oD 8,oD 0,oD 0,oD 64,oD 224,oL 0 480,oD 0,oD 0,oD 3072,oL 0 7168,oD 16355,oW 0 32739,oA 1 65535,oW 1 131071]),(16,[oD 0,oD 0,oD 0,oD 6,oL 0 14,oD 0,oD 0,oD 64,oD 224,oL 0 480,⟨.write,0,1023,[]⟩,oA 1 2047,oA 1 4095]),(17,[oD 0,oD 0,oD 0,oD 0,oD 8,oD 0,oD 0,oD 64,oD 224,oL 0 480,oD 0,oD 0,oD 3072,oL 0 7168,oD 16355,oW 0 32739,oA 1 65535,oW 1 131071]),(22,[oD 0,oD 0,oD 0,oD 6,oL 0 14,oD 0,oD 0,oD 64,oD 224,oL 0 480,⟨.write,0,1023,[]⟩,oA 1 2047,oA 1 4095]),(23,[oD 0,oD 0,oD 0,oD 0,oD 8,oD 0,oD 0,oD 64,oD 224,oL 0 480,oD 0,oD 0,oD 3072,oL 0 7168,oD 16355,oW 0 32739,oA 1 65535,oW 1 131071])] .leaf
 .leaf)
 .leaf)
 .leaf)
 (.node [] (.node [(5,[oD 0,oL 0 1,oD 0,oD 4,oL 0 12,oD 28,oD 60,oW 0 127,oA 1 255,oW 1 511]),(11,[oD 0,oL 0 1,oD 0,oD 0,oL 0 8,oD 0,oD 56,oD 120,oL 0 248,oD 0,oD 0,oD 0,oD 2048,oL 0 6144,oD 14336,oD 32256,oD 65024,⟨.writeAt,0,131064,[1]⟩,oA 1 262143,oA 1 524287,oW 1 1048575]),(12,[oL 0 0,oD 0,oD 2,oD 6,oD 14,oD 30,oD 62,oD 126,oL 0 254,oD 510,oD 1022,oD 2046,oD 4094,oL 0 8190,oD 16382,oD 32766,oD 65534,⟨.writeAt,0,2047,[13]⟩,oA 1 133119,oA 1 524287]),(15,[oD 0,oL 0 1,oD 0,oD 4,oL 0 12,oD 0,oD 32,oL 0 96,oD 0,oD 0,oD 512,oL 0 1536,oD 0,oD 4096,oL 0 12288,oD 28672,oD 65532,oD 131068,oW 0 262143,oA 1 524287,oW 1 1048575]),(16,[oL 0 0,oD 0,oD 2,oD 6,oD 14,oL 0 30,oD 62,oD 126,oD 254,oD 510,oL 0 1022,oD 2046,oD 4094,oD 8190,⟨.writeAt,0,255,[10]⟩,oA 1 16639,oA 1 65535]),(20,[oD 0,oL 0 1,oD 0,oD 4,oL 0 12,oD 0,oD 32,oL 0 96,oD 0,oD 256,oL 0 768,oD 0,oD 0,oD 6144,oD 16380,oD 32764,oW 0 65535,oA 1 131071,oW 1 262143])] .leaf
 .leaf)
 (.node [(1,[oD 0,oD 0,oD 0,oD 0,oD 0,oD 0,oD 48,oL 0 112,oD 0,oD 0,oD 768,oL 0 1792,oD 4083,oW 0 8179,oA 1 16383,oW 1 32767]),(3,[oD 0,oD 0,oD 3,oD 7,oD 15,oD 15,oD 15,oD 111,oL 0 239,oD 15,oD 15,oD 1551,oL 0 3599,⟨.write,0,8191,[]⟩,oA 1 16383,oA 1 32767]),(5,[oD 0,oD 0,oD 3,oD 7,oD 15,oD 15,oD 15,oD 111,oL 0 239,oD 15,oD 15,oD 1551,oL 0 3599,⟨.write,0,8191,[]⟩,oA 1 16383,oA 1 32767,oA 1 65535]),(8,[oD 0,oD 0,oD 0,oD 0,oD 0,oD 0,oD 48,oL 0 112,oD 0,oD 0,oD 768,oL 0 1792,oD 4083,oW 0 8179,oA 1 16383,oW 1 32767]),(10,[oD 0,oD 0,oD 0,oD 0,oD 0,oD 0,oD 48,oL 0 112,oD 0,oD 0,oD 768,oL 0 1792,oD 4083,oW 0 8179,oA 1 16383,oW 1 32767]),(13,[oD 0,oD 0,oD 3,oD 7,oD 15,oD 15,oD 15,oD 111,oL 0 239,oD 15,oD 15,oD 1551,oL 0 3599,⟨.write,0,8191,[]⟩,oA 1 16383,oA 1 32767]),(15,[oD 0,oD 0,oD 3,oD 7,oD 15,oD 15,oD 15,oD 111,oL 0 239,oD 15,oD 15,oD 1551,oL 0 3599,⟨.write,0,8191,[]⟩,oA 1 16383,oA 1 32767,oA 1 65535]),(18,[oD 0,oD 0,oD 0,oD 0,oD 0,oD 0,oD 48,oL 0 112,oD 0,oD 0,oD 768,oL 0 1792,oD 4083,oW 0 8179,oA 1 16383,oW 1 32767]),(21,[oD 0,oD 0,oD 0,oD 0,oD 0,oD 0,oD 48,oL 0 112,oD 0,oD 0,oD 768,oL 0 1792,oD 4083,oW 0 8179,oA 1 16383,oW 1 32767])] .leaf
 .leaf)))
 (.node [] (.node [] (.node [(6,[oD 0,oD 0,oD 3,oL 0 7,oD 0,oD 0,oD 48,oL 0 112,oD 255])] (.node [(1,[oD 0,oD 0,oD 0,oD 6,oL 0 14,oD 0,oD 0,oD 96,oL 0 224,⟨.write,0,511,[]⟩,oA 1 1023])] .leaf
 .leaf)
 .leaf)
 (.node [(5,[oD 0,oD 0,oD 2,oD 6,oL 0 14,oL 0 0,oD 32,oW 0 126,oA 1 255,oA 1 511,oW 1 1023])] .leaf
 .leaf))
 .leaf)))))
 (.node [] (.node [(3,[oL 0 0,oR 0 1,oL 0 0,oD 0,oL 0 8,oF 0 31,oA 1 63,oA 1 127,oA 1 127,oA 1 255,oA 1 1023]),(4,[oL 0 0,oR 0 1,oL 0 0,oD 0,oL 0 8,oR 0 31,oD 63,oD 127,oD 127,oD 127,oD 255,oD 1535,oD 4095])] (.node [(3,[oD 0,oR 0 1,oD 0,oL 0 4,oR 0 15,oD 31,oD 63,oD 63,oD 127,oD 511]),(4,[oD 0,oR 0 1,oD 0,oL 0 4,oL 0 0,oD 0,oL 0 32,oR 0 127,oD 255,oD 511,oD 511,oF 0 0,oW 1 3071,oA 2 8191])] (.node [] (.node [(15,[oD 0,oD 0,oD 2,oL 0 6,oD 0,oD 30,oD 62,oL 0 0,oR 0 128,oD 0,oD 512,oL 0 1536,oD 0,oD 7680,oD 15872,oD 32640,oD 65534,oD 131070,oW 0 262143,oA 1 524287]),(23,[oD 0,oD 0,oD 3,oD 7,oD 15,oL 0 31,oD 15,oD 15,oD 207,oD 463,oD 975,oL 0 1999,oD 4095,oD 8191]),(24,[oD 0,oD 0,oD 0,oD 0,oD 12,oD 28,oD 60,oL 0 124,oD 0,oL 0 256,oD 1020,oD 2047,oD 4095,oD 8191,oW 0 16383])] (.node [(5,[oD 0,oD 0,oL 0 2,oD 0,oL 0 8,oR 0 24,oD 0,oL 0 64,oR 0 248,oD 510,oD 1022,oW 0 2047,oA 1 4095])] .leaf
 .leaf)
 .leaf)
 (.node [] (.node [] (.node [(1,[oL 0 0,oD 0,oL 0 2,oD 0,oL 0 8,oD 30,oR 0 63,oL 0 0,oD 0,oL 0 256,oD 0,oL 0 1024,oD 3840,oR 0 8191,oD 16383,oR 0 32767,oD 65535])] .leaf
 .leaf)
 .leaf)
 (.node [(9,[oD 0,oL 0 1,oR 0 3,oD 0,oD 0,oL 0 16,oR 0 56,oR 0 127,oD 0,oD 256,oR 0 1023,oL 0 0,oD 0,oL 0 4096,oR 0 16383,oD 32767,oR 0 65535,oD 0,oD 131072,oR 0 524287,oD 0,oL 0 1048576,oD 0,oL 0 4194304,oD 15728640,oR 0 33554431,oD 67108863,oR 0 134217727,oD 268435455])] .leaf
 (.node [(17,[oD 0,oD 1,oD 3,oD 7,oD 7,oD 7,oD 39,oD 119,oL 0 247,oD 7,oD 7,oD 1543,oL 0 3591,⟨.write,0,8191,[]⟩,oA 1 16383,oA 1 32767,oA 1 65535])] .leaf
 .leaf))))
 (.node [] (.node [] (.node [(10,[oL 0 0,oF 0 0,oA 1 2,oW 1 7]),(17,[oD 0,oL 0 0,oR 0 2,oD 7,oD 0,oL 0 16,oD 0,oL 0 64,oD 240,oD 15,oW 0 1023])] (.node [] (.node [(4,[oD 0,oD 0,oD 3,oD 7,oD 15,oD 15,oD 15,oD 111,oL 0 239,oD 15,oD 15,oD 1039,oD 3599,oL 0 7695,⟨.write,0,16383,[]⟩,oA 1 32767,oA 1 65535]),(6,[oD 0,oD 0,oD 0,oD 0,oD 8,oD 0,oD 0,oD 64,oD 224,oL 0 480,oD 0,oD 0,oD 3072,oL 0 7168,oD 16355,oW 0 32739,oA 1 65535,oW 1 131071])] .leaf
 .leaf)
 .leaf)
 .leaf)
 (.node [(8,[oD 0,oL 0 1,oD 0,oD 7,oD 15,oL 0 31,oD 0,oL 0 64,oD 255]),(10,[oL 0 0,oD 0,oL 0 2,oD 0,oL 0 8,oR 0 31,oL 0 0,oD 0,oL 0 128,oR 0 511,oD 1023,oR 0 2047,oD 0,oL 0 4096,oD 0,oL 0 16384,oD 61440,oR 0 131071,oD 262143,oR 0 524287,oD 1048575])] .leaf
 (.node [(10,[oD 0,oD 0,oD 0,oD 0,oD 0,oD 24,oD 0,oD 0,oD 0,oD 384,oD 960,oL 0 1984,oD 0,oD 0,oD 12288,oL 0 28672,oD 65475,oW 0 131011,oA 1 262143,oW 1 524287])] .leaf
 .leaf)))
 (.node [(5,[oD 0,oD 1,oD 0,oR 0 4,oD 15,oD 31,oD 63,oD 63,oD 255,oL 0 511,oD 63,oD 63,oD 2111,oD 7231,oL 0 15423,oR 0 32767,oD 65535]),(8,[oD 0,oD 0,oD 3,oD 0,oR 0 8,oD 31,oD 63,oD 127,oD 127,oD 127,oD 895,oD 1919,oD 4095,oL 0 8191,oD 127,oD 127,oD 127,oD 98431,oD 245887,oL 0 508031,oD 127,oR 0 2097151,oD 4194303]),(10,[oD 0,oD 0,oD 3,oD 7,oD 15,oL 0 31,oD 0,oD 0,oD 192,oD 448,oD 960,oL 0 1984,oD 0,oD 0,oD 0,oD 24576,oD 57344,oD 122880,oL 0 253952,oD 0,oD 0,oD 1572864,oD 3670016,oD 7864320,oL 0 16252928,oD 0,oD 33554432,oD 134217727,oF 0 0,oW 1 536870911])] (.node [(11,[oD 0,oD 1,oD 3,oD 7,oD 15,oD 31,oD 63,oR 0 127,oD 127,oD 511,oD 1023,oL 0 2047,oL 0 127,oD 8191,oD 16383]),(12,[oD 0,oL 0 0,⟨.writeAt,0,1,[1]⟩,oW 1 7,oW 2 15]),(16,[oD 0,oL 0 0,⟨.writeAt,0,1,[1]⟩,oW 1 7,oW 2 15]),(20,[oD 0,oL 0 0,oD 0,⟨.writeAt,0,1,[1]⟩,oW 1 11,oW 2 31])] .leaf
 .leaf)
 (.node [] .leaf
 (.node [(4,[oD 0,oD 0,oD 3,oD 7,oD 15,oD 15,oD 15,oD 111,oL 0 239,oD 15,oD 15,oD 1039,oD 3599,oL 0 7695,⟨.write,0,16383,[]⟩,oA 1 32767,oA 1 65535]),(6,[oD 0,oD 0,oD 0,oD 0,oD 8,oD 0,oD 0,oD 64,oD 224,oL 0 480,oD 0,oD 0,oD 3072,oL 0 7168,oD 16355,oW 0 32739,oA 1 65535,oW 1 131071])] .leaf
 .leaf)))))
 (.node [(7,[oD 0,oL 0 1,oD 0,oD 4,oD 12,oL 0 28,oD 60,oD 0,oL 0 128,oR 0 384,oD 1020,oD 2047,oL 0 4095,oF 0 0,oW 1 16383]),(8,[oD 0,oD 0,oL 0 2,oD 0,oD 8,oD 24,oL 0 56,oD 120,oL 0 0,oR 0 256,oD 1016,oD 2046,oD 4095,oW 0 8191]),(10,[oL 0 0,oR 0 1,oD 0,oL 0 4,oD 0,oL 0 16,oR 0 63,oD 127,oD 255,oD 255,oD 255,oD 511,oD 3071,oD 8191]),(11,[oL 0 0,oR 0 1,oD 0,oL 0 4,oD 0,oL 0 16,oR 0 63,oD 127,oD 255,oD 255,oD 255,oD 511,oD 3071,oD 8191]),(23,[oL 0 0,oR 0 1,oD 0,oL 0 4,oD 0,oL 0 16,oD 0,oR 0 67,oR 0 195,oR 0 511,oD 1023,oD 2047,oD 2047,oD 4095,oD 16383]),(24,[oL 0 0,oR 0 1,oD 0,oL 0 4,oD 0,oL 0 16,oD 0,oR 0 127,oD 255,oD 511,oD 511,oD 1023,oD 4095]),(27,[oL 0 0,oR 0 1,oD 0,oL 0 4,oD 0,oL 0 16,oD 0,oR 0 67,oR 0 255,oD 511,oD 1023,oD 1023,oD 2047,oD 8191]),(33,[oL 0 0,oR 0 1,oD 0,oL 0 4,oD 0,oL 0 16,oR 0 63,oD 127,oD 255,oD 255,oD 255,oD 511,oD 3071,oD 8191]),(34,[oL 0 0,oR 0 1,oD 0,oL 0 4,oD 0,oL 0 16,oR 0 63,oD 127,oD 255,oD 255,oD 255,oD 511,oD 3071,oD 8191]),(37,[oL 0 0,oR 0 1,oD 0,oL 0 4,oD 0,oF 0 31,oA 1 63,oA 1 127,oA 1 127,oA 1 255,oA 1 1023]),(42,[oL 0 0,oR 0 1,oD 0,oL 0 4,oD 0,oD 16,oF 0 63,oA 1 127,oA 1 255,oA 1 255,oA 1 511,oA 1 2047])] (.node [] (.node [] (.node [(4,[oD 0,oD 0,oD 3,oD 7,oL 0 15,oL 0 0,oR 0 63,oD 127,oD 255,oD 255,oF 0 0,oW 1 1535,oA 2 4095]),(14,[oD 0,oD 0,oD 3,oD 7,oL 0 15,oL 0 0,oR 0 63,oD 127,oD 255,oD 255,oW 0 511,oA 1 2047]),(15,[oD 0,oD 0,oD 3,oD 7,oL 0 15,oL 0 0,oR 0 63,oD 127,oD 255,oD 255,oW 0 511,oA 1 2047]),(19,[oD 0,oD 0,oD 3,oD 7,oL 0 15,oL 0 0,oR 0 63,oW 0 127,oA 1 255])] (.node [(1,[oL 0 0,oD 0,oL 0 2,oD 0,oL 0 8,oL 0 0,oR 0 32,oD 120,oR 0 255,oL 0 0,oD 0,oL 0 1024,oD 0,oL 0 4096,oD 0,oL 0 16384,oD 0,oL 0 65536,oD 245760,oD 520192,oR 0 1048575,oD 2097151,oR 0 4194303,oD 8388607])] .leaf
 .leaf)
 .leaf)
 (.node [(2,[oD 0,oD 1,oR 0 3,oL 0 0,oD 0,oL 0 16,oR 0 63,oD 127,oR 0 255,oD 511,oR 0 1023,oD 2047])] .leaf
 .leaf))
 (.node [] (.node [(6,[oD 0,oD 0,oD 3,oL 0 7,oD 0,oD 0,oD 48,oL 0 112,oD 255])] (.node [(8,[oD 0,oD 0,oD 3,oD 7,oL 0 15,oD 0,oD 0,oD 96,oD 224,oL 0 480,oD 1023]),(9,[oL 0 0,oD 0,oD 0,oD 6,oD 14,oL 0 30,oR 0 63,oL 0 0,oD 0,oD 0,oD 768,oD 1792,oL 0 3840,oR 0 8191,oD 16383,oD 32767]),(10,[oD 0,oD 0,oD 3,oD 7,oL 0 15,oD 0,oD 0,oD 96,oD 224,oL 0 480,oD 1023]),(11,[oD 0,oD 0,oD 3,oD 7,oL 0 15,oD 0,oD 0,oD 96,oD 224,oL 0 480,oD 1023,oD 2047]),(12,[oD 0,oD 0,oD 3,oD 7,oL 0 15,oD 0,oD 0,oD 96,oD 224,oL 0 480,oD 1023]),(13,[oD 0,oD 0,oD 3,oD 7,oL 0 15,oD 0,oD 0,oD 96,oD 224,oL 0 480,oD 1023,oD 2047])] .leaf
 .leaf)
 (.node [(4,[oL 0 0,oD 0,oD 2,oD 7,oL 0 0,oD 0,oD 32,oD 112,oD 15,oW 0 511])] .leaf
 .leaf))
 (.node [] (.node [(1,[oD 0,oL 0 1,oR 0 3,oD 0,oL 0 8,oR 0 31,oL 0 0,oR 0 127,oD 255,oD 511,oL 0 1023,oR 0 2047,oD 4095,oD 8191,oR 0 16383,oD 32767,oR 0 65535,oD 131071])] .leaf
 .leaf)
 (.node [(1,[oL 0 0,oD 0,oL 0 2,oR 0 7,oL 0 0,oD 0,oL 0 32,oR 0 127,oR 0 255,oD 0,oL 0 512,oD 0,oL 0 2048,oR 0 8191,oD 0,oL 0 16384,oD 0,oL 0 65536,oR 0 262143,oD 524287,oR 0 1048575,oD 2097151])] .leaf
 .leaf))))
 (.node [(1,[oD 0,oL 0 1,oL 0 0,oD 0,oL 0 8,oR 0 28,oD 63,oL 0 127,oF 0 0,oW 1 511]),(5,[oD 0,oL 0 1,oL 0 0,oD 0,oR 0 12,oD 31,oD 63]),(7,[oD 0,oL 0 1,oD 0,oD 0,oL 0 8,oD 0,oD 56,oL 0 120,oD 0,oR 0 504,oD 1023,oW 0 2047])] (.node [(7,[oD 0,oL 0 1,oR 0 3,oD 0,oL 0 8,oR 0 31,oD 0,oL 0 64,oR 0 255,oD 0,oL 0 512,oR 0 2047,oD 0,oL 0 4096,oR 0 16383,oD 32767,oR 0 65535,oD 131071]),(19,[oD 0,oD 0,oD 3,oL 0 7,oL 0 0,oR 0 31])] (.node [(2,[oD 0,oD 1,oD 3,oL 0 7,oD 0,oD 16,oD 48,oL 0 112,oD 255,oL 0 0,oD 1023,oD 2047,oD 4095,oL 0 8191,oD 4095,oL 0 20479,oD 65535,oL 0 4095,oD 262143,oD 524287]),(7,[oL 0 0,oD 0,oD 0,oD 4,oD 14,oD 30,oL 0 62,oD 0,oD 0,oD 256,oD 896,oD 1920,oL 0 3968,oD 8190,oD 0,oD 0,oD 49152,oD 114688,oL 0 245760,oD 0,oD 0,oD 1572864,oD 3670016,oL 0 7864320,oD 16760832,oR 0 33554431,oD 67108863])] (.node [] (.node [(3,[oD 0,oD 0,oD 0,oD 0,oD 0,oD 0,oD 48,oL 0 112,oD 0,oD 0,oD 768,oL 0 1792,oD 4083,oW 0 8179,oA 1 16383,oW 1 32767])] .leaf
 .leaf)
 .leaf)
 (.node [(1,[oD 0,oL 0 1,oF 0 3,oL 0 0,oD 8,oW 1 31,oD 0,⟨.load,0,64,[5]⟩,⟨.load,0,0,[5]⟩,oR 2 319,oA 2 1023,oA 2 2047,oW 2 4095])] .leaf
 .leaf))
 (.node [] .leaf
 (.node [(1,[oD 0,oD 0,oD 0,oD 0,oD 0,oD 0,oD 48,oL 0 112,oD 0,oD 0,oD 768,oL 0 1792,oD 4083,oW 0 8179,oA 1 16383,oW 1 32767]),(3,[oD 0,oD 0,oD 3,oD 7,oD 15,oD 15,oD 15,oD 111,oL 0 239,oD 15,oD 15,oD 1551,oL 0 3599,⟨.write,0,8191,[]⟩,oA 1 16383,oA 1 32767,oA 1 65535]),(5,[oD 0,oD 0,oD 3,oD 7,oD 15,oD 15,oD 15,oD 111,oL 0 239,oD 15,oD 15,oD 1551,oL 0 3599,⟨.write,0,8191,[]⟩,oA 1 16383,oA 1 32767]),(8,[oD 0,oD 0,oD 0,oD 0,oD 0,oD 0,oD 48,oL 0 112,oD 0,oD 0,oD 768,oL 0 1792,oD 4083,oW 0 8179,oA 1 16383,oW 1 32767])] .leaf
 .leaf)))
 (.node [(6,[oD 0,oD 0,oD 3,oL 0 7,oD 0,oD 0,oD 48,oL 0 112,oD 255])] (.node [] .leaf
 (.node [(5,[oD 0,oD 0,oD 2,oD 6,oL 0 14,oL 0 0,oD 32,oW 0 126,oA 1 255,oA 1 511,oW 1 1023])] .leaf
 .leaf))
 (.node [(4,[oD 0,oL 0 1,oD 0,oL 0 4,oD 15,oD 31,oD 63,oL 0 127,oD 63,oL 0 319,oD 1023,oD 2047,oD 4095,oD 8191,oL 0 16383,oL 0 8191,oR 0 40959,oD 131071,oD 262143]),(5,[oD 0,oL 0 1,oL 0 0,oD 0,oL 0 8,oR 0 28,oD 63,oW 0 127,oA 1 255])] .leaf
 .leaf)))))
 (.node [(6,[oL 0 0,oR 0 1,oD 0,oL 0 4,oR 0 15,oD 31,oD 63,oD 63,oD 127,oD 511]),(16,[oL 0 0,oR 0 1,oL 0 0,oR 0 7,oD 15,oD 31,oD 31,oF 0 0,oW 1 191,oA 2 511]),(17,[oL 0 0,oR 0 1,oL 0 0,oR 0 7,oD 15,oD 31,oD 31,oF 0 0,oW 1 191,oA 2 511]),(23,[oD 0,oD 1,oD 3,oD 7,oL 0 15,oD 7,oL 0 39,oD 127,oD 255,oD 511,oD 1023,oL 0 2047,oD 1023,oL 0 5119,oD 13311,oD 32767,oD 65535,oD 131071,oL 0 262143,oD 131071,oL 0 655359,oD 131071,oL 0 2228223,oD 7995391,oD 16383999,oL 0 33161215,oD 67108863,oD 134217727,oD 268435455,oD 536870911,oD 1073741823,oD 2147483647,oD 4294967295,oD 8589934591,oL 0 17179869183,oD 8589934591,oL 0 42949672959,oD 137438953471,oD 274877906943,oD 549755813887,oD 1099511627775,oL 0 2199023255551,oD 1099511627775,oL 0 5497558138879,oD 1099511627775,oD 31885837205503,oD 70368744177663,oD 140737488355327,oD 281474976710655]),(25,[oD 0,oL 0 0,oL 0 0,⟨.writeAt,0,3,[2]⟩,oW 1 15]),(29,[oL 0 0,oR 0 1,oD 0,oL 0 4,oD 0,oD 16,oR 0 63,oD 127,oD 255,oD 255,oD 511,oD 2047]),(41,[oL 0 0,oR 0 1,oD 0,oL 0 4,oD 0,oD 28,oR 0 63,oD 127,oD 255,oD 255,oF 0 0,oW 1 1535,oA 2 4095])] (.node [(9,[oD 0,oR 0 1,oD 0,oL 0 4,oR 0 15,oD 31,oD 63,oD 63,oD 127,oD 511]),(11,[oD 0,oD 1,oD 3,oD 7,oL 0 15,oD 7,oD 39,oD 103,oL 0 231,oD 511,oD 1023,oD 2047]),(12,[oD 0,oD 1,oD 3,oD 7,oD 7,oR 0 23,oD 63,oD 127,oD 255,oD 511,oD 511,oD 2047,oD 4095,oL 0 8191,oD 511,oL 0 16895,oD 65535,oD 131071,oD 262143,oD 524287,oD 1048575,oD 524287,oR 0 2621439,oD 8388607,oD 16777215,oD 33554431,oD 33554431,oD 100663295,oD 268435455,oD 536870911,oL 0 1073741823,oD 33554431,oL 0 2181038079,oD 8589934591,oD 17179869183,oD 34359738367]),(16,[oD 0,oD 0,oD 3,oD 7,oD 15,oL 0 31,oD 0,oL 0 64,oD 192,oD 0,oD 0,oD 1536,oD 3584,oD 7680,oL 0 15872,oR 0 32256,oD 65472,oD 131071,oL 0 262143,oF 0 0,oW 1 1048575]),(17,[oD 0,oD 0,oD 3,oD 7,oL 0 15,oR 0 31,oD 0,oL 0 64,oD 0,oL 0 256,oD 768,oL 0 0,oR 0 2111,oD 7999,oD 16383,oR 0 32767,oD 65535,oD 131071,oD 131071,oF 0 0,oW 1 786431,oA 2 2097151]),(20,[oD 0,oR 0 1,oD 0,oL 0 4,oL 0 0,oD 0,oL 0 32,oR 0 127,oD 255,oD 511,oD 511,oF 0 0,oW 1 3071,oA 2 8191]),(23,[oD 0,oR 0 1,oD 0,oL 0 4,oL 0 0,oD 0,oL 0 32,oR 0 127,oD 255,oD 511,oD 511,oF 0 0,oW 1 3071,oA 2 8191]),(26,[oD 0,oR 0 1,oD 0,oL 0 4,oL 0 0,oD 0,oL 0 32,oR 0 127,oD 255,oD 511,oD 511,oF 0 0,oW 1 3071,oA 2 8191]),(29,[oD 0,oR 0 1,oD 0,oL 0 4,oL 0 0,oD 0,oL 0 32,oR 0 127,oD 255,oD 511,oD 511,oF 0 0,oW 1 3071,oA 2 8191]),(30,[oD 0,oR 0 1,oD 0,oL 0 4,oL 0 0,oD 0,oL 0 32,oR 0 127,oD 255,oD 511,oD 511,oF 0 0,oW 1 3071,oA 2 8191])] (.node [] (.node [] (.node [(7,[oD 0,oD 0,oD 3,oD 7,oL 0 15,oR 0 31,oD 0,oD 64,oD 255,oD 511,oD 511,oD 2047,oD 4095,oL 0 8191,oD 511,oD 511,oD 33279,oD 98815,oD 246271,oD 508415,oL 0 1032703,oD 2097151,oD 4194303,oR 0 8388607,oD 0,oD 0,oD 50331648,oD 117440512,oL 0 251658240,oR 0 536870911,oD 0,oD 0,oD 3221225472,oD 7516192768,oL 0 16106127360,oR 0 34359738367,oD 68719476735,oR 0 137438953471,oD 274877906943]),(13,[oD 0,oD 0,oD 3,oD 7,oL 0 15,oD 0,oD 0,oD 64,oD 224,oD 480,oL 0 992,oD 0,oD 0,oD 6144,oD 14336,oL 0 30720,oR 0 65535,oD 131071])] (.node [] (.node [(8,[oD 0,oD 0,oD 2,oD 6,oD 14,oR 0 30,oD 62,oD 126,oD 254,oD 510,oD 1022,oD 2046,oD 4094,oD 255,oD 16383])] .leaf
 .leaf)
 .leaf)
 .leaf)
 (.node [] (.node [] (.node [(3,[oD 0,oD 0,oD 0,oD 6,oD 0,oD 0,oD 0,oD 96,oD 0,oD 0,oD 0,oD 1536,oD 3840,oL 0 7936,oD 0,oD 0,oD 0,oD 98304,oD 245760,oL 0 507904,oD 1048335,oW 0 2096911,oA 1 4194303,oW 1 8388607])] .leaf
 .leaf)
 .leaf)
 (.node [(1,[oD 0,oL 0 1,oL 0 0,oR 0 4,oD 0,oL 0 16,oD 48,oD 124,oD 255,oD 511])] .leaf
 .leaf)))
 (.node [(1,[oD 0,oR 0 1,oL 0 0,oR 0 7,oL 0 0,oR 0 31,oD 63,oR 0 127,oD 255])] (.node [(1,[oD 0,oL 0 1,oL 0 0,oD 0,oR 0 12,oD 31,oL 0 63,oF 0 0,oW 1 255])] .leaf
 .leaf)
 .leaf))
 (.node [] (.node [(1,[oD 0,oR 0 1,oD 0,oL 0 4,oR 0 15,oD 0,oL 0 32,oR 0 127,oD 255,oR 0 511,oD 1023]),(5,[oL 0 0,oD 0,oD 2,oR 0 6,oW 0 15,oA 1 31])] (.node [(7,[oL 0 0,oD 0,oD 0,oD 6,oD 14,oL 0 30,oD 0,oD 0,oD 192,oD 448,oL 0 960,oR 0 2047,oL 0 0,oD 0,oD 0,oD 24576,oD 57344,oL 0 122880,oD 0,oD 0,oD 786432,oD 1835008,oL 0 3932160,oR 0 8388607,oD 16777215,oR 0 33554431,oD 67108863])] (.node [] (.node [(10,[oD 0,oD 0,oD 0,oD 0,oD 0,oD 24,oD 0,oD 0,oD 0,oD 384,oD 960,oL 0 1984,oD 0,oD 0,oD 12288,oL 0 28672,oD 65475,oW 0 131011,oA 1 262143,oW 1 524287])] .leaf
 .leaf)
 .leaf)
 .leaf)
 (.node [] .leaf
 (.node [(3,[oD 0,oD 0,oD 0,oD 0,oD 0,oD 0,oD 48,oL 0 112,oD 0,oD 0,oD 768,oL 0 1792,oD 4083,oW 0 8179,oA 1 16383,oW 1 32767])] .leaf
 .leaf)))
 (.node [(5,[oD 0,oD 0,oD 0,oD 0,oD 12,oD 28,oL 0 60,oD 0,oD 0,oD 384,oD 896,oL 0 1920,oD 4092,oD 8191,oW 0 16383])] .leaf
 (.node [] (.node [(17,[oD 0,oD 1,oD 3,oD 7,oD 7,oD 7,oD 39,oD 119,oL 0 247,oD 7,oD 7,oD 1543,oL 0 3591,⟨.write,0,8191,[]⟩,oA 1 16383,oA 1 32767,oA 1 65535])] .leaf
 .leaf)
 .leaf))))
 (.node [(10,[oD 0,oD 0,oD 3,oD 7,oD 15,oD 15,oD 63,oD 127,oD 255,oL 0 511,oR 0 1023,oL 0 511,oR 0 4095,oD 8191,oD 16383,oD 32767,oD 32767,oD 131071,oD 262143,oD 524287,oD 1048575,oD 1048575,oD 4194303,oD 8388607,oD 16777215])] (.node [] (.node [(14,[oD 0,oL 0 1,oD 0,oD 0,oD 12,oL 0 28,oD 3,oD 127])] (.node [] (.node [(1,[oD 0,oD 0,oL 0 2,oD 7,oL 0 0,oR 0 16,oD 63,oD 127]),(2,[oD 0,oD 0,oD 2,oD 6,oD 14,oD 14,oL 0 46,oD 126,oD 254,oD 15,oD 1023])] .leaf
 .leaf)
 (.node [(3,[oL 0 0,oD 0,oR 0 3,oL 0 0,oD 0,oD 0,oD 48,oD 112,oR 0 255,oD 511,oD 1023,oW 0 2047])] .leaf
 .leaf))
 (.node [(2,[oD 0,oD 1,oR 0 3,oD 0,oL 0 8,oD 24,oD 63,oD 127,oL 0 255,oD 127,oL 0 639,oR 0 1663,oD 4095,oD 8191,oR 0 16383,oD 32767,oR 0 65535,oD 131071])] .leaf
 (.node [(4,[oD 0,oD 0,oD 3,oD 7,oD 15,oD 15,oD 15,oD 111,oL 0 239,oD 15,oD 15,oD 1039,oD 3599,oL 0 7695,⟨.write,0,16383,[]⟩,oA 1 32767,oA 1 65535]),(6,[oD 0,oD 0,oD 0,oD 0,oD 8,oD 0,oD 0,oD 64,oD 224,oL 0 480,oD 0,oD 0,oD 3072,oL 0 7168,oD 16355,oW 0 32739,oA 1 65535,oW 1 131071])] .leaf
 .leaf)))
 (.node [] (.node [] (.node [] (.node [(7,[oD 0,oD 0,oD 2,oD 0,oD 0,oD 16,oD 0,oD 64,oD 192,oD 0,oD 512,oD 455,oW 0 2503,oA 1 8191,oW 1 16383]),(8,[oD 0,oD 0,oD 2,oD 0,oD 0,oD 16,oD 0,oD 64,oD 192,oD 0,oD 512,oD 455,oW 0 2503,oA 1 8191,oW 1 16383]),(9,[oD 0,oD 0,oD 2,oD 0,oD 0,oD 16,oD 0,oD 64,oD 192,oD 0,oD 512,oD 455,oW 0 2503,oA 1 8191,oW 1 16383]),(10,[oD 0,oD 0,oD 2,oD 0,oD 0,oD 16,oD 0,oD 64,oD 192,oD 0,oD 512,oD 455,oW 0 2503,oA 1 8191,oW 1 16383]),(17,[oD 0,oD 0,oD 2,oD 0,oD 0,oD 16,oD 0,oD 64,oD 192,oD 0,oD 512,oD 455,oW 0 2503,oA 1 8191,oW 1 16383]),(18,[oD 0,oD 0,oD 2,oD 0,oD 0,oD 16,oD 0,oD 64,oD 192,oD 0,oD 512,oD 455,oW 0 2503,oA 1 8191,oW 1 16383]),(23,[oD 0,oD 0,oD 2,oD 0,oD 0,oD 16,oD 0,oD 64,oD 192,oD 0,oD 512,oD 455,oW 0 2503,oA 1 8191,oW 1 16383])] .leaf
 .leaf)
 .leaf)
 .leaf)
 .leaf))
 (.node [] (.node [(1,[oD 0,oL 0 1,oR 0 3,oD 0,oL 0 8,oR 0 31,oD 63,oR 0 127,oD 255])] (.node [(6,[oD 0,oD 0,oD 3,oL 0 7,oD 0,oD 0,oD 48,oL 0 112,oD 255])] (.node [(19,[oL 0 0,oL 0 0,⟨.writeAt,0,1,[1]⟩,oA 1 7])] (.node [(1,[oD 0,oD 0,oD 0,oD 0,oD 0,oD 0,oD 48,oL 0 112,oD 0,oD 0,oD 768,oL 0 1792,oD 4083,oW 0 8179,oA 1 16383,oW 1 32767]),(3,[oD 0,oD 0,oD 3,oD 7,oD 15,oD 15,oD 15,oD 111,oL 0 239,oD 15,oD 15,oD 1551,oL 0 3599,⟨.write,0,8191,[]⟩,oA 1 16383,oA 1 32767,oA 1 65535]),(5,[oD 0,oD 0,oD 3,oD 7,oD 15,oD 15,oD 15,oD 111,oL 0 239,oD 15,oD 15,oD 1551,oL 0 3599,⟨.write,0,8191,[]⟩,oA 1 16383,oA 1 32767]),(8,[oD 0,oD 0,oD 0,oD 0,oD 0,oD 0,oD 48,oL 0 112,oD 0,oD 0,oD 768,oL 0 1792,oD 4083,oW 0 8179,oA 1 16383,oW 1 32767])] .leaf
 .leaf)
 .leaf)
 .leaf)
 (.node [(8,[oD 0,oL 0 1,oR 0 3,oD 0,oD 0,oL 0 16,oR 0 56,oR 0 127,oD 0,oL 0 256,oR 0 768,oD 1792,oR 0 4095,oD 0,oL 0 8192,oR 0 24576,oD 57344,oR 0 131071,oD 262143,oR 0 524287,oD 1048575])] .leaf
 .leaf))
 (.node [] (.node [] (.node [] (.node [(3,[oD 0,oD 1,oD 0,oD 7,oD 15,oD 31,oD 31,oD 31,oD 31,oD 415,oD 991,oL 0 2015,oD 31,oD 31,oD 31,oD 24607,oD 57375,oD 127007,oL 0 258079,⟨.write,0,524287,[]⟩,oA 1 1048575,oA 1 2097151]),(5,[oD 0,oD 0,oD 0,oD 0,oD 12,oD 30,oL 0 62,oD 0,oD 0,oD 0,oD 768,oD 1920,oL 0 3968,⟨.write,0,8191,[]⟩,oA 1 16383,oA 1 32767]),(6,[oD 0,oD 0,oD 0,oD 6,oD 0,oD 0,oD 0,oD 96,oD 0,oD 0,oD 0,oD 1536,oD 3840,oL 0 7936,oD 0,oD 0,oD 0,oD 98304,oD 245760,oL 0 507904,oD 1048335,oW 0 2096911,oA 1 4194303,oW 1 8388607])] .leaf
 .leaf)
 .leaf)
 (.node [(5,[oD 0,oL 0 1,oD 0,oL 0 4,oD 0,oD 28,oD 60,oL 0 124,oD 0,oD 0,oL 0 512,oD 0,oD 3584,oD 7680,oL 0 15872,⟨.writeAt,0,32512,[7,3,1]⟩,oA 1 65532,oA 1 131068,oW 1 262143,oA 2 524287,oW 2 1048575])] .leaf
 .leaf))
 (.node [(4,[oD 0,oL 0 1,oD 3,oD 7,oD 15,oL 0 31,oD 15,oL 0 79,oD 255,oD 511,oD 1023,oD 2047,oL 0 4095,oD 2047,oL 0 10239,oD 2047,oD 59391,oL 0 124927,oR 0 255999,oD 524287,oD 1048575,oR 0 2097151,oD 4194303])] .leaf
 .leaf)))))))
def look2 {α:Type}:List (Nat × List α)→Nat→List α
 | [],_=>[]
 | (i,x)::r,n=>cond (Nat.beq i n) x (look2 r n)
noncomputable def NC:Cfg where
 P:=Proofs.Tryz.prog
 good:=fun f=>goodM.testBit f
 mode:=fun f=>cond (freshM.testBit f) .fresh (cond (freeM.testBit f) .free .pure)
 refApp:=fun f t=>refM.testBit f && refT.testBit t
 frz:=fun _ _=>false
 glob:=fun x=>cond (Nat.beq x 0) (some [.str [117,112],.str [100,111,119,110]]) (cond (Nat.beq x 1) (some [.str [102,105,114,115,116],.str [108,97,115,116]]) (cond (Nat.beq x 3) (some powsAV) none))
 memo:=fun _ _=>none
 prim:=fun f=>cond (Nat.beq f 242) (some pCompare) (cond (Nat.beq f 161) (some pItoa) (cond (Nat.beq f 160) (some pJoin) none))
 hprim:=fun f=>cond (Nat.beq f 209) (some (hCopyCheck 272)) (cond (Nat.beq f 163) (some (hString 272 5)) none)
 twice:=fun f=>twiceM.testBit f
 plans:=fun f id=>look2 (planT.get [] f) id
end Go.Sim
