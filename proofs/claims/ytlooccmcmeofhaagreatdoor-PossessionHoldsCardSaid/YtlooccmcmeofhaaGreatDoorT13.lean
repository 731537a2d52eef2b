/-
Lemmas of one proof, the texts Tab to Tab joined.
-/
import Derived.Test.YtlooccmcmeofhaaGreatDoorT12
import Derived.Test.YtlooccmcmeofhaaGreatDoorProg
set_option linter.unusedSimpArgs false
set_option linter.unusedVariables false
set_option maxRecDepth 100000
set_option maxHeartbeats 32000000
noncomputable section
open Go

namespace Go.Sim
def Vf:Nat:=17915745044488776595438390877676562681553192066841090040078264846031167151799917649936088416525456752672
def R8:Nat:=130370799930060325072041174314463467760378379992160525124871703460869248034329975413943566336
def freeM:Nat:=260788348760364594591014119474739710318023557534404862798999545044263161365374990058996629504
def R9:Nat:=130370302485418225561747306412960865121854811233773833959240890252828191112918308856182865920
def refM:Nat:=130370303335324764343948147249989214488958121879714823758681841116627646930292995012817846272
def refT:Nat:=904625697166532776746648320380374323659814722348090830098441615794111512576
abbrev oD (k m:Nat):OpI:=⟨.data,k,m,[]⟩
abbrev oL (k m:Nat):OpI:=⟨.load,k,m,[]⟩
abbrev oR (k m:Nat):OpI:=⟨.read,k,m,[]⟩
abbrev oF (k m:Nat):OpI:=⟨.fresh,k,m,[]⟩
abbrev oW (k m:Nat):OpI:=⟨.writeAt,k,m,[]⟩
def FD:List OpI:=[oL 0 0,oD 0 0,oF 0 3,oD 1 7,oD 0 0,oL 0 16,oD 1 63,oW 1 127]
def BS:List OpI:=[oF 0 0,oD 0 0,oL 0 2,oR 1 7,oD 1 15,oL 0 0,⟨.write,1,63,[]⟩]
def BT:List OpI:=[oD 0 0,oD 0 0,oD 0 3,oD 0 7,oL 0 15,oD 0 0,oD 0 0,oD 0 96,oD 0 224,oL 0 480,oD 0 1023,oD 0 2047,oD 0 4095,oD 0 4095,oD 0 16383,oD 0 32767,oL 0 65535,oD 0 4095,oD 0 4095,oD 0 397311,oD 0 921599,oL 0 1970175,oD 0 4194303,oD 0 8388607,oD 0 16777215,oD 0 33554431,oD 0 33554431,oD 0 134217727,oD 0 268435455,oL 0 536870911,oD 0 33554431,oD 0 33554431,oD 0 3254779903,oD 0 7549747199,oL 0 16139681791,oR 0 34359738367,oD 0 68719476735,oD 0 137438953471,oD 0 274877906943,oD 0 549755813887,oD 0 549755813887,oD 0 2199023255551,oD 0 4398046511103,oL 0 8796093022207,oD 0 549755813887,oD 0 549755813887,oD 0 53326313947135,oD 0 123695058124799,oL 0 264432546480127,oR 0 562949953421311,oD 0 1125899906842623,oD 0 2251799813685247,oD 0 4503599627370495,oD 0 9007199254740991,oD 0 9007199254740991,oD 0 36028797018963967,oD 0 72057594037927935,oL 0 144115188075855871,oD 0 9007199254740991,oD 0 9007199254740991,oD 0 873698327709876223,oD 0 2026619832316723199,oL 0 4332462841530417151,oD 0 9223372036854775807,oD 0 18446744073709551615]
def FE:List OpI:=[oD 0 0,oD 0 0,oD 0 3,oL 0 7,oD 0 0,oD 0 0,oD 0 48,oL 0 112,oD 0 255]
def BU:List OpI:=[oF 0 0,oD 0 0,oD 0 2,oL 0 6,oR 1 15,oD 1 31,oD 1 63,oD 1 63,oF 0 0,oW 2 383,oD 3 1023]
def BV:List OpI:=[oD 0 0,oL 0 0,oD 0 0,oD 0 4,oR 0 15,oD 0 31,oD 0 31,oD 0 127,oD 0 255]
def BW:List OpI:=[oF 0 0,oD 0 0,oD 0 2,oL 0 6,oR 1 15,oD 1 31,oD 1 63,oD 1 63,oF 0 0,oW 2 383,oD 3 1023]
def BX:List OpI:=[oD 0 0,oD 0 1,oR 0 3,oD 0 0,oD 0 8,oD 0 24,oD 0 56,oL 0 120,oD 0 248,oD 0 504,oR 0 1023,oD 0 2047,oR 0 4095,oD 0 8191]
def BY:List OpI:=[oD 0 0,oD 0 1,oD 0 3,oL 0 0,oR 0 15,oD 0 31]
def BZ:List OpI:=[oD 0 0,oD 0 1,oD 0 3,oL 0 0,⟨.write,0,15,[]⟩]
def FF:List OpI:=[oD 0 0,oL 0 1,oL 0 0,oD 0 0,oR 0 12,oD 0 31,oD 0 63,oL 0 127,oD 0 255]
def E0:List OpI:=[oD 0 0,oD 0 0,oD 0 3,oL 0 7,oD 0 0,oD 0 0,oD 0 48,oL 0 112,oD 0 255]
def FG:List OpI:=[oF 0 0,oD 0 0,oL 0 2,oR 1 7,oD 1 15,oD 1 31,oD 1 31,oF 0 0,oW 2 191,oD 3 511]
def FH:List OpI:=[oD 0 0,oL 0 1,oR 0 3,oD 0 0,oD 0 8,oR 0 31,oD 0 0,oL 0 64,oD 0 192,oD 0 0,oL 0 512,oD 0 1536,oD 0 4032,oD 0 8191,oD 0 16383,oL 0 32767,oD 0 65535,oD 0 16383,oL 0 147455,oD 0 524287,oD 0 1048575,oR 0 2097151,oD 0 4194303,oR 0 8388607,oD 0 16777215]
def FI:List OpI:=[oD 0 0,oD 0 1,oD 0 3,oD 0 0,oD 0 8,oD 0 24,oD 0 0,oR 0 120,oD 0 0,oR 0 504,oD 0 1016,oR 0 2040,oD 0 4095,oD 0 8191]
def E1:List OpI:=[oD 0 0,oD 0 1,oD 0 3,oL 0 7,oD 0 0,oR 0 16,oD 0 0,oL 0 64,oD 0 192,oL 0 448,oR 0 1008,oD 0 2047,oD 0 4095,oL 0 8191,oD 0 16383]
def E2:List OpI:=[oD 0 0,oD 0 0,oD 0 2,oD 0 6,oL 0 14,oD 0 0,oR 0 32,oD 0 0,oL 0 128,oD 0 384,oL 0 896,oR 0 2016,oD 0 4094,oD 0 8190,oL 0 16382,oF 0 32767,oD 1 65535,oD 1 131071,oL 1 262143,oD 1 524287]
def FJ:List OpI:=[oD 0 0,oL 0 1,oD 0 3,oF 0 7,oD 0 0,oL 0 16,oD 0 48,oF 0 112,oD 1 15,oD 2 511]
def FK:List OpI:=[oD 0 0,oD 0 0,oD 0 2,oD 0 7,oD 0 0,oD 0 0,oD 0 48,oD 0 15,oD 0 255]
def FM:List OpI:=[oD 0 0,oD 0 0,oD 0 3,oL 0 7,oD 0 0,oD 0 0,oD 0 48,oL 0 112,oR 0 255,oD 0 511,oD 0 1023,oD 0 1023,oW 0 2047,oD 1 8191]
def FN:List OpI:=[oD 0 0,oD 0 0,oW 0 3,oD 0 0,oD 0 0,oD 0 24,⟨.load,0,56,[2]⟩,oD 0 120,oW 1 255,oD 2 511]
def FO:List OpI:=[oD 0 0,oD 0 0,oW 0 3,⟨.load,0,0,[2]⟩,oD 0 8,oW 1 31,oD 2 63]
def E3:List OpI:=[oD 0 0,oD 0 0,oD 0 3,oL 0 7,oD 0 0,oD 0 0,oD 0 48,oL 0 112,oD 0 255]
def FP:List OpI:=[oD 0 0,oD 0 1,oD 0 3,oL 0 7,oD 0 0,oR 0 16,oD 0 0,oR 0 112,oD 0 255,oD 0 511]
def E4:List OpI:=[oD 0 0,oD 0 0,oD 0 3,oR 0 7,oD 0 0,oD 0 0,oD 0 32,oD 0 112,oD 0 255]
def E5:List OpI:=[oL 0 0,oD 0 0,oD 0 0,oD 0 6,oR 0 14,oW 0 31,oD 1 63]
def E6:List OpI:=[oD 0 0,oD 0 1,oD 0 3,oD 0 7,oD 0 0,oL 0 16,oR 0 63,oD 0 0,oR 0 255,oD 0 511]
def E7:List OpI:=[oD 0 0,oL 0 1,oD 0 0,oD 0 4,oD 0 12,oD 0 28,oD 0 0,⟨.write,0,127,[]⟩,oD 1 255]
def E8:List OpI:=[oF 0 0,oD 0 0,oL 0 2,oR 1 7,oD 1 15,oD 1 31,oD 1 31,oF 0 0,oW 2 191,oD 3 511]
def E9:List OpI:=[oL 0 0,oD 0 0,oD 0 2,oD 0 6,oL 0 14,oD 0 30,oD 0 62,oD 0 126,oD 0 254,oD 0 510,oL 0 1022,oD 0 2046,oD 0 4094,oD 0 8190,⟨.writeAt,0,127,[10]⟩,oD 1 32767]
def FQ:List OpI:=[oD 0 0,oL 0 1,oD 0 0,oD 0 4,oD 0 12,oL 0 28,oD 0 60,oD 0 124,oD 0 255]
def FR:List OpI:=[oD 0 0,oD 0 1,oD 0 3,oL 0 7,oD 0 0,oD 0 16,oD 0 48,oL 0 112,oD 0 240,oD 0 496,oD 0 1023,oD 0 2047,oL 0 4095,oD 0 8191]
def FT:List OpI:=[oD 0 0,oL 0 1,oD 0 3,oL 0 7,oD 0 0,oD 0 16,oD 0 48,oD 0 112,oL 0 240,oD 0 511]
def FU:List OpI:=[oF 0 0,oD 0 0,oL 0 2,oR 1 7,oF 0 0,oW 2 31]
def FV:List OpI:=[oD 0 0,oD 0 1,oD 0 3,oL 0 0,oL 0 0,oR 0 31,oD 0 63]
def FW:List OpI:=[oD 0 0,oL 0 1,oD 0 0,oD 0 4,oD 0 12,oL 0 0,⟨.write,0,63,[]⟩,oD 1 127]
def FX:List OpI:=[oD 0 0,oD 0 0,oD 0 2,oD 0 6,oL 0 14,oL 0 0,oD 0 32,oW 0 126,oD 1 255,oD 1 511,oW 1 1023]
def FY:List OpI:=[oD 0 0,oD 0 0,oD 0 2,oD 0 6,oL 0 14,oD 0 0,oD 0 32,oD 0 96,oL 0 224,oD 0 480,oD 0 992,oD 0 2046,oD 0 4095,oD 0 8191,oW 0 16383]
def FZ:List OpI:=[oD 0 0,oD 0 0,oD 0 2,oD 0 6,oL 0 14,oL 0 0,oD 0 32,oW 0 126,oD 1 255,oD 1 511,oW 1 1023]
def D0:List OpI:=[oF 0 0,oD 0 0,oL 0 2,oR 1 7,oD 1 15,oD 0 0,oD 0 32,oD 0 96,oL 0 0,⟨.write,1,511,[]⟩]
def D1:List OpI:=[oF 0 0,oD 0 0,oL 0 2,oR 1 7,oD 1 15,oL 0 0,⟨.write,1,63,[]⟩]
def D2:List OpI:=[oD 0 0,oD 0 1,oD 0 3,oL 0 7,oD 0 0,oR 0 16,oD 0 0,oR 0 112,oD 0 255,oD 0 511]
def D3:List OpI:=[oD 0 0,oL 0 1,oD 0 3,oL 0 7,oR 0 15,oD 0 0,oD 0 32,oD 0 96,oL 0 224,oD 0 480,oD 0 992,oR 0 2047,oD 0 4095,oR 0 8191,oD 0 16383]
def D4:List OpI:=[oD 0 0,oD 0 0,oD 0 2,oD 0 6,oL 0 14,oD 0 0,oL 0 32,oD 0 96,oL 0 224,oD 0 0,oL 0 512,oD 0 1536,oL 0 3584,oD 0 8160,oD 0 16352,oW 0 32766,oD 1 65535,oD 1 131071,oW 1 262143]
def D5:List OpI:=[oD 0 0,oD 0 0,oL 0 2,oD 0 6,oL 0 14,oR 0 30,oD 0 0,oD 0 64,oD 0 192,oL 0 448,oD 0 960,oD 0 1984,oR 0 4094,oD 0 8191,oR 0 16383,oD 0 32767]
def D6:List OpI:=[oD 0 0,oL 0 1,oD 0 3,oL 0 7,oD 0 0,oL 0 16,oD 0 48,oL 0 112,oD 0 255,oF 0 0,oW 1 1023]
def D7:List OpI:=[oL 0 0,oD 0 0,oL 0 2,oD 0 0,oL 0 8,oD 0 30,oD 0 62,oD 0 126,oL 0 254,oD 0 510,oD 0 1022,oR 0 2046,oW 0 4095,oD 1 8191]
def D8:List OpI:=[oD 0 0,oD 0 0,oD 0 2,oD 0 6,oL 0 14,oD 0 0,oL 0 32,oD 0 96,oL 0 224,oD 0 0,oL 0 512,oD 0 1536,oL 0 3584,oL 0 0,oD 0 0,oL 0 16384,oD 0 49152,oL 0 114688,oD 0 262112,oD 0 524256,oW 0 1048574,oD 1 2097151,oD 1 4194303,oW 1 8388607]
def D9:List OpI:=[oD 0 0,oD 0 1,oD 0 3,oL 0 7,oR 0 15,oD 0 0,oD 0 32,oD 0 96,oL 0 224,oR 0 511,oD 0 1023,oR 0 2047,oD 0 4095]
def Da:List OpI:=[oD 0 0,oD 0 0,oL 0 2,oD 0 6,oL 0 14,oF 0 31,oD 0 0,oD 0 0,oL 0 128,oD 0 384,oL 0 896,oF 1 2047,oD 2 4095,oD 2 8191]
def Db:List OpI:=[oD 0 0,oD 0 1,oD 0 3,oD 0 7,oL 0 15,oD 0 0,oD 0 32,oD 0 96,oD 0 224,oL 0 480,oD 0 1023,oD 0 2047,oD 0 4095,oD 0 8191,oD 0 16383,oD 0 32767,oL 0 65535,oD 0 4095,oD 0 135167,oD 0 397311,oD 0 921599,oL 0 1970175,oD 0 4194303,oD 0 8388607,oD 0 16777215]
def Dc:List OpI:=[oD 0 0,oD 0 1,oD 0 3,oL 0 7,oR 0 15,oD 0 0,oD 0 32,oD 0 96,oL 0 224,oD 0 511,oD 0 1023,oD 0 2047,oD 0 4095,oL 0 8191,oD 0 1023,oD 0 17407,oD 0 50175,oL 0 115711,oD 0 262143,oD 0 524287,oD 0 1048575,oD 0 2097151,oD 0 4194303,oR 0 8388607,oD 0 0,oD 0 0,oD 0 33554432,oD 0 100663296,oL 0 234881024,oR 0 536870911,oD 0 0,oD 0 2147483647,oR 0 4294967295,oD 0 8589934591,oR 0 17179869183,oD 0 34359738367]
def Dd:List OpI:=[oD 0 0,oL 0 1,oD 0 3,oL 0 7,oD 0 0,oL 0 16,oD 0 48,oL 0 112,oD 0 15,oD 0 511]
def De:List OpI:=[oD 0 0,oD 0 0,oR 0 3,oR 0 7,oD 0 0,oD 0 0,oR 0 63,oR 0 127,oD 0 0,oD 0 256,oD 0 1023,oD 0 2047,oD 0 2047,oD 0 2047,oR 0 14335,oD 0 32767,oD 0 65535,oR 0 131071,oD 0 0,oD 0 262144,oD 0 786432,oL 0 1835008,oD 0 3932160,oD 0 8126464,oR 0 16777215,oD 0 33554431,oR 0 67108863,oD 0 134217727]
def Df:List OpI:=[oD 0 0,oD 0 0,oD 0 2,oD 0 6,oL 0 14,oD 0 0,oL 0 32,oD 0 96,oL 0 224,oD 0 0,oL 0 512,oD 0 1536,oL 0 3584,oD 0 0,oL 0 8192,oD 0 24576,oL 0 57344,oD 0 131040,oD 0 262112,oW 0 524286,oD 1 1048575,oD 1 2097151,oW 1 4194303]
def Dg:List OpI:=[oD 0 0,oL 0 1,oD 0 0,oL 0 4,oD 0 12,oL 0 28,oD 0 63,oD 0 127]
def Dh:List OpI:=[oD 0 0,oD 0 0,oR 0 2,oD 0 0,oL 0 0,oL 0 0,oR 0 62,oR 0 126,oD 0 0,oD 0 256,oD 0 768,oL 0 1792,oD 0 3840,oD 0 7936,oR 0 16382,oD 0 32767,oR 0 65535,oD 0 131071]
def Di:List OpI:=[oD 0 0,oD 0 0,oD 0 2,oD 0 6,oL 0 14,oD 0 0,oL 0 32,oD 0 96,oL 0 224,oD 0 0,oL 0 512,oD 0 1536,oL 0 3584,oL 0 0,oD 0 16352,oD 0 32736,oW 0 65534,oD 1 131071,oD 1 262143,oW 1 524287]
def Dj:List OpI:=[oD 0 0,oD 0 1,oD 0 3,oL 0 7,oD 0 15,oR 0 31,oD 0 0,oD 0 0,oD 0 128,oD 0 384,oL 0 896,oR 0 2047,oD 0 0,oD 0 8191,oR 0 16383,oD 0 32767,oR 0 65535,oD 0 131071]
def Dk:List OpI:=[oD 0 0,oD 0 1,oD 0 3,oL 0 7,oD 0 15,oR 0 31,oD 0 0,oD 0 64,oD 0 192,oL 0 448,oD 0 960,oD 0 1984,oR 0 4095,oD 0 8191,oR 0 16383,oD 0 32767]
def Dl:List OpI:=[oD 0 0,oD 0 0,oD 0 2,oD 0 6,oL 0 14,oD 0 0,oL 0 32,oD 0 96,oL 0 224,oD 0 0,oL 0 512,oD 0 1536,oL 0 3584,oD 0 8160,oD 0 16352,oW 0 32766,oD 1 65535,oD 1 131071,oW 1 262143]
def Dm:List OpI:=[oD 0 0,oL 0 1,oD 0 0,oL 0 4,oD 0 12,oL 0 28,oD 0 63,oD 0 127]
def Do:List OpI:=[oD 0 0,oL 0 1,oD 0 3,oL 0 7,oR 0 15,oD 0 0,oD 0 32,oD 0 96,oL 0 224,oD 0 480,oR 0 1023,oD 0 0,oD 0 2048,oD 0 6144,oL 0 14336,oD 0 0,oL 0 32768,oD 0 98304,oL 0 229376,oD 0 522240,oD 0 1046528,oR 0 2097151,oD 0 4194303,oR 0 8388607,oD 0 16777215]
def Dp:List OpI:=[oD 0 0,oD 0 1,oD 0 3,oL 0 7,oD 0 0,oL 0 16,oD 0 48,oL 0 112,oD 0 255,oD 0 511,oD 0 1023,oW 0 2047]
def Dq:List OpI:=[oD 0 0,oL 0 1,oD 0 3,oL 0 7,oR 0 15,oD 0 0,oD 0 32,oD 0 96,oL 0 224,oD 0 0,oL 0 512,oD 0 1536,oL 0 3584,oD 0 8160,oR 0 16383,oD 0 32767,oR 0 65535,oD 0 131071]
def Dr:List OpI:=[oD 0 0,oD 0 1,oD 0 3,oL 0 7,oD 0 0,oL 0 16,oD 0 48,oL 0 112,oD 0 255,oD 0 511,oD 0 1023,oW 0 2047]
def Ds:List OpI:=[oD 0 0,oD 0 1,oD 0 3,oL 0 7,oR 0 15,oD 0 0,oD 0 32,oD 0 96,oL 0 224,oD 0 480,oR 0 1023,oD 0 2047,oR 0 4095,oD 0 8191]
def Dt:List OpI:=[oD 0 0,oL 0 1,oD 0 3,oL 0 7,oR 0 15,oD 0 0,oD 0 32,oD 0 96,oL 0 224,oD 0 480,oR 0 1023,oD 0 2047,oR 0 4095,oD 0 8191]
def Du:List OpI:=[oD 0 0,oD 0 0,oD 0 0,oD 0 0,oD 0 8,oD 0 24,oL 0 56,oD 0 120,oD 0 0,oL 0 256,oD 0 768,oL 0 1792,oD 0 3961,oD 0 8057,oW 0 16249,oD 1 32763,oD 1 65531,oW 1 131067,oD 2 262143,oD 2 524287,oW 2 1048575]
def Dv:List OpI:=[oD 0 0,oD 0 0,oD 0 2,oD 0 6,oL 0 14,oR 0 31,oD 0 63,oD 0 127,oR 0 255,oD 0 0,oD 0 512,oD 0 1536,oL 0 3584,oD 0 7680,oR 0 16383,oD 0 32767,oR 0 65535,oD 0 131071]
def Dw:List OpI:=[oD 0 0,oD 0 1,oD 0 3,oL 0 7,oD 0 15,oR 0 31,oD 0 0,oL 0 64,oD 0 192,oL 0 448,oR 0 1023,oD 0 0,oL 0 2048,oD 0 6144,oL 0 14336,oD 0 0,oD 0 32768,oD 0 98304,oL 0 229376,oD 0 522240,oR 0 1048575,oD 0 2097151,oR 0 4194303,oD 0 8388607]
def Dx:List OpI:=[oD 0 0,oL 0 1,oD 0 3,oL 0 7,oD 0 0,oL 0 16,oD 0 63]
def Ea:List OpI:=[oD 0 0,oL 0 1,oR 0 3,oD 0 0,oL 0 8,oD 0 31,oD 0 0,oL 0 64,oW 0 255,oD 1 511]
def Eb:List OpI:=[oD 0 0,oD 0 0,oD 0 3,oD 0 0,oD 0 0,oD 0 0,oD 0 32,oD 0 112,oD 0 248,oD 0 7,oD 0 1023,oD 0 2047]
def Ec:List OpI:=[oD 0 0,oD 0 0,oD 0 2,oR 0 7,oD 0 0,oD 0 16,oR 0 63,oD 0 127]
def Ed:List OpI:=[oD 0 0,oD 0 0,oD 0 2,oD 0 6,oD 0 14,oD 0 30,oD 0 62,oD 0 126,oD 0 254,oD 0 510,oD 0 1022,oD 0 2046,oD 0 4094,oD 0 255,oD 0 16383]
def Dy:List OpI:=[oD 0 0,oD 0 0,oR 0 3,oD 0 0,oL 0 8,oD 0 0,oD 0 56,oL 0 120,oR 0 255,oD 0 511]
def Dz:List OpI:=[oD 0 0,oD 0 1,oD 0 3,oL 0 7,oD 0 0,oR 0 16,oD 0 0,oR 0 112,oD 0 255,oD 0 511]
def Ee:List OpI:=[oD 0 0,oD 0 1,oD 0 3,oD 0 7,oD 0 7,oD 0 7,oD 0 39,oD 0 119,oL 0 247,oD 0 7,oD 0 7,oD 0 1543,oL 0 3591,⟨.write,0,8191,[]⟩,oD 1 16383,oD 1 32767,oD 1 65535]
def DA:List OpI:=[oL 0 0,oD 0 0,oD 0 0,oL 0 4,oD 0 12,oL 0 28,oF 0 62,oL 0 0,⟨.write,1,255,[]⟩]
def DB:List OpI:=[oD 0 0,oD 0 0,oD 0 3,oD 0 7,oD 0 15,oL 0 31,oD 0 31,oD 0 31,oD 0 223,oD 0 31,oL 0 543,oD 0 31,oD 0 3615,oL 0 7711,oR 0 16383,oD 0 32767,oD 0 65535]
def DC:List OpI:=[oD 0 0,oD 0 1,oD 0 3,oD 0 7,oD 0 15,oD 0 31,oD 0 63,oD 0 127,oD 0 255,oL 0 511,oD 0 511,oD 0 1535,oD 0 3583,oD 0 7679,oD 0 511,oL 0 16895,oD 0 49663,oL 0 115199,oR 0 262143,oD 0 524287,oD 0 1048575]
def DD:List OpI:=[oD 0 0,oL 0 1,oD 0 0,oL 0 4,oD 0 12,oL 0 28,oD 0 0,oD 0 64,oL 0 192,oD 0 508,oD 0 1020,oW 0 2047,oD 1 4095,oW 1 8191]
def DE:List OpI:=[oD 0 0,oD 0 1,oL 0 3,oD 0 0,oD 0 8,oL 0 24,oD 0 63,oD 0 127,oD 0 255,oD 0 511,oL 0 1023,oD 0 2047,oD 0 4095]
def DF:List OpI:=[oD 0 0,oL 0 1,oD 0 0,oL 0 4,oD 0 12,oL 0 28,oD 0 0,oL 0 64,oD 0 192,oL 0 448,oD 0 0,oD 0 1024,oL 0 3072,oD 0 0,oD 0 8192,oL 0 24576,oD 0 64512,oD 0 0,oD 0 131072,oL 0 393216,oD 0 1048572,oD 0 2097148,oW 0 4194303,oD 1 8388607,oW 1 16777215]
def DG:List OpI:=[oL 0 0,oD 0 0,oL 0 2,oD 0 6,oL 0 14,oR 0 31,oD 0 63]
def DH:List OpI:=[oL 0 0,oD 0 0,oL 0 2,oD 0 6,oL 0 14,oR 0 31,oD 0 63]
def DI:List OpI:=[oD 0 0,oL 0 1,oD 0 0,oD 0 7,oL 0 15,oD 0 0,oL 0 32,oL 0 0,oD 0 0,oL 0 256,oD 0 768,oL 0 1792,oR 0 3968,oD 0 8160,oL 0 16352,oF 0 0,oF 0 0,⟨.writeAt,2,106399,[14,6]⟩,oW 3 262143]
def DJ:List OpI:=[oL 0 0,oD 0 0,oL 0 2,oD 0 6,oL 0 14,oR 0 31,oD 0 63]
def DK:List OpI:=[oD 0 0,oD 0 1,oL 0 3,oD 0 7,oD 0 15,oD 0 31,oD 0 63,oL 0 127,oL 0 31,oD 0 31,oL 0 543,oD 0 1567,oL 0 3615,oR 0 7967,oD 0 16383,oD 0 32767]
def DL:List OpI:=[oD 0 0,oL 0 1,oD 0 0,oL 0 4,oD 0 12,oL 0 28,oD 0 0,oL 0 64,oD 0 192,oL 0 448,oD 0 0,oD 0 1024,oL 0 3072,oD 0 8188,oD 0 16380,oW 0 32767,oD 1 65535,oW 1 131071]
def DM:List OpI:=[oL 0 0,oD 0 0,oL 0 2,oD 0 6,oL 0 14,oR 0 31,oD 0 63]
def DN:List OpI:=[oD 0 0,oD 0 0,oL 0 2,oD 0 0,oD 0 14,oW 0 31,oD 0 0,⟨.load,0,64,[5]⟩,oD 0 0,oD 0 256,oD 0 960,oW 1 2047,oD 2 4095,oW 2 8191]
def DO:List OpI:=[oD 0 0,oD 0 1,oL 0 3,oD 0 0,oD 0 8,oL 0 24,oD 0 63,oF 0 0,oW 1 255]
def DP:List OpI:=[oD 0 0,oL 0 1,oD 0 0,oD 0 7,oD 0 15,oL 0 31,oD 0 0,oL 0 64,oD 0 192,oL 0 448,oD 0 1023]
def DQ:List OpI:=[oD 0 0,oL 0 1,oD 0 3,oD 0 7,oD 0 15,oL 0 31,oD 0 15,oL 0 79,oD 0 207,oL 0 463,oD 0 1023,oD 0 2047,oD 0 4095,oD 0 8191,oD 0 16383,oL 0 32767,oD 0 8191,oL 0 73727,oD 0 262143,oD 0 524287,oD 0 1048575,oD 0 2097151,oL 0 4194303,oD 0 2097151,oD 0 10485759,oL 0 27262975,oD 0 67108863,oD 0 134217727]
def DR:List OpI:=[oD 0 0,oL 0 1,oD 0 0,oL 0 4,oD 0 12,oL 0 28,oD 0 0,oL 0 64,oD 0 192,oL 0 448,oL 0 0,oD 0 2044,oD 0 4092,oW 0 8191,oD 1 16383,oW 1 32767]
def DS:List OpI:=[oL 0 0,oD 0 0,oL 0 2,oD 0 6,oL 0 14,oR 0 31,oD 0 63]
def DT:List OpI:=[oD 0 0,oD 0 0,oL 0 2,oD 0 0,oD 0 14,oW 0 31,oD 0 0,⟨.load,0,64,[5]⟩,oD 0 0,oD 0 256,oD 0 960,oW 1 2047,oD 2 4095,oW 2 8191]
def DU:List OpI:=[oL 0 0,oD 0 0,oL 0 2,oD 0 0,oL 0 8,oD 0 24,oD 0 56,oD 0 126,oL 0 254,oR 0 511,oD 0 1023]
def DV:List OpI:=[oD 0 0,oD 0 1,oL 0 3,oD 0 0,oL 0 8,oD 0 31]
def DW:List OpI:=[oD 0 0,oL 0 1,oD 0 0,oD 0 0,oD 0 8,oL 0 24,oD 0 63,oD 0 127,oW 0 255]
def DX:List OpI:=[oD 0 0,oL 0 1,oD 0 0,oL 0 4,oD 0 12,oL 0 28,oD 0 0,oL 0 64,oD 0 252,oD 0 508,oW 0 1023,oD 1 2047,oW 1 4095]
def DY:List OpI:=[oD 0 0,oL 0 1,oD 0 0,oD 0 4,oL 0 12,oD 0 31,oD 0 63]
def DZ:List OpI:=[oD 0 0,oL 0 1,oD 0 0,oD 0 4,oL 0 12,oD 0 31,oD 0 63,oW 0 127]
def C0:List OpI:=[oD 0 0,oD 0 1,oL 0 3,oD 0 0,oL 0 8,oD 0 31]
def C1:List OpI:=[oD 0 0,oL 0 1,oD 0 0,oD 0 4,oL 0 12,oD 0 31,oD 0 63,oW 0 127]
def C3:List OpI:=[oD 0 0,oL 0 1,oD 0 3,oD 0 0,oD 0 8,oL 0 24,oD 0 3,⟨.writeAt,0,67,[5]⟩,oD 1 199,⟨.writeAt,1,455,[5]⟩,oD 2 1023,oW 2 2047]
def Ef:List OpI:=[oD 0 0,oD 0 0,oD 0 3,oD 0 7,oD 0 15,oD 0 15,oD 0 15,oD 0 111,oL 0 239,oD 0 15,oD 0 15,oD 0 1039,oD 0 3599,oL 0 7695,⟨.write,0,16383,[]⟩,oD 1 32767,oD 1 65535]
def Eg:List OpI:=[oD 0 0,oD 0 0,oD 0 0,oD 0 0,oD 0 8,oD 0 0,oD 0 0,oD 0 64,oD 0 224,oL 0 480,oD 0 0,oD 0 0,oD 0 3072,oL 0 7168,oD 0 16355,oW 0 32739,oD 1 65535,oW 1 131071]
def Eh:List OpI:=[oD 0 0,oD 0 0,oD 0 0,oD 0 0,oD 0 0,oD 0 24,oD 0 0,oD 0 0,oD 0 0,oD 0 384,oD 0 960,oL 0 1984,oD 0 0,oD 0 0,oD 0 12288,oL 0 28672,oD 0 65475,oW 0 131011,oD 1 262143,oW 1 524287]
def Ei:List OpI:=[oD 0 0,oD 0 0,oD 0 0,oD 0 0,oD 0 0,oD 0 24,oD 0 0,oD 0 0,oD 0 0,oD 0 384,oD 0 960,oL 0 1984,oD 0 0,oD 0 0,oD 0 12288,oL 0 28672,oD 0 65475,oW 0 131011,oD 1 262143,oW 1 524287]
def Ej:List OpI:=[oD 0 0,oD 0 0,oD 0 0,oD 0 0,oD 0 0,oD 0 0,oD 0 48,oL 0 112,oD 0 0,oD 0 0,oD 0 768,oL 0 1792,oD 0 4083,oW 0 8179,oD 1 16383,oW 1 32767]
def Ek:List OpI:=[oD 0 0,oD 0 0,oD 0 3,oD 0 7,oD 0 15,oD 0 15,oD 0 15,oD 0 111,oL 0 239,oD 0 15,oD 0 15,oD 0 1039,oD 0 3599,oL 0 7695,⟨.write,0,16383,[]⟩,oD 1 32767,oD 1 65535,oD 1 131071]
def El:List OpI:=[oD 0 0,oD 0 0,oD 0 0,oD 0 0,oD 0 8,oD 0 0,oD 0 0,oD 0 64,oD 0 224,oL 0 480,oD 0 0,oD 0 0,oD 0 3072,oL 0 7168,oD 0 16355,oW 0 32739,oD 1 65535,oW 1 131071]
def Em:List OpI:=[oD 0 0,oD 0 0,oD 0 0,oD 0 6,oL 0 14,oD 0 0,oD 0 0,oD 0 64,oD 0 224,oL 0 480,⟨.write,0,1023,[]⟩,oD 1 2047,oD 1 4095]
def Eo:List OpI:=[oD 0 0,oD 0 0,oD 0 0,oD 0 0,oD 0 8,oD 0 0,oD 0 0,oD 0 64,oD 0 224,oL 0 480,oD 0 0,oD 0 0,oD 0 3072,oL 0 7168,oD 0 16355,oW 0 32739,oD 1 65535,oW 1 131071]
def Ep:List OpI:=[oD 0 0,oD 0 0,oD 0 0,oD 0 6,oL 0 14,oD 0 0,oD 0 0,oD 0 64,oD 0 224,oL 0 480,⟨.write,0,1023,[]⟩,oD 1 2047,oD 1 4095]
def Er:List OpI:=[oD 0 0,oD 0 0,oD 0 0,oD 0 0,oD 0 8,oD 0 0,oD 0 0,oD 0 64,oD 0 224,oL 0 480,oD 0 0,oD 0 0,oD 0 3072,oL 0 7168,oD 0 16355,oW 0 32739,oD 1 65535,oW 1 131071]
def Es:List OpI:=[oD 0 0,oD 0 0,oD 0 0,oD 0 0,oD 0 0,oD 0 0,oD 0 48,oL 0 112,oD 0 0,oD 0 0,oD 0 768,oL 0 1792,oD 0 4083,oW 0 8179,oD 1 16383,oW 1 32767]
def Et:List OpI:=[oD 0 0,oD 0 0,oD 0 3,oD 0 7,oD 0 15,oD 0 15,oD 0 15,oD 0 111,oL 0 239,oD 0 15,oD 0 15,oD 0 1551,oL 0 3599,⟨.write,0,8191,[]⟩,oD 1 16383,oD 1 32767,oD 1 65535]
def Eu:List OpI:=[oD 0 0,oD 0 0,oD 0 3,oD 0 7,oD 0 15,oD 0 15,oD 0 15,oD 0 111,oL 0 239,oD 0 15,oD 0 15,oD 0 1551,oL 0 3599,⟨.write,0,8191,[]⟩,oD 1 16383,oD 1 32767]
def Ew:List OpI:=[oD 0 0,oD 0 0,oD 0 0,oD 0 0,oD 0 0,oD 0 0,oD 0 48,oL 0 112,oD 0 0,oD 0 0,oD 0 768,oL 0 1792,oD 0 4083,oW 0 8179,oD 1 16383,oW 1 32767]
def Ex:List OpI:=[oD 0 0,oD 0 0,oD 0 0,oD 0 0,oD 0 0,oD 0 0,oD 0 48,oL 0 112,oD 0 0,oD 0 0,oD 0 768,oL 0 1792,oD 0 4083,oW 0 8179,oD 1 16383,oW 1 32767]
def Ey:List OpI:=[oD 0 0,oD 0 0,oD 0 3,oD 0 7,oD 0 15,oD 0 15,oD 0 15,oD 0 111,oL 0 239,oD 0 15,oD 0 15,oD 0 1551,oL 0 3599,⟨.write,0,8191,[]⟩,oD 1 16383,oD 1 32767]
def Ez:List OpI:=[oD 0 0,oD 0 0,oD 0 3,oD 0 7,oD 0 15,oD 0 15,oD 0 15,oD 0 111,oL 0 239,oD 0 15,oD 0 15,oD 0 1551,oL 0 3599,⟨.write,0,8191,[]⟩,oD 1 16383,oD 1 32767,oD 1 65535]
def EA:List OpI:=[oD 0 0,oD 0 0,oD 0 0,oD 0 0,oD 0 0,oD 0 0,oD 0 48,oL 0 112,oD 0 0,oD 0 0,oD 0 768,oL 0 1792,oD 0 4083,oW 0 8179,oD 1 16383,oW 1 32767]
def EB:List OpI:=[oD 0 0,oD 0 0,oD 0 0,oD 0 0,oD 0 0,oD 0 0,oD 0 48,oL 0 112,oD 0 0,oD 0 0,oD 0 768,oL 0 1792,oD 0 4083,oW 0 8179,oD 1 16383,oW 1 32767]
def EC:List OpI:=[oD 0 0,oD 0 0,oD 0 3,oD 0 7,oD 0 15,oD 0 15,oD 0 15,oD 0 111,oL 0 239,oD 0 15,oD 0 15,oD 0 1551,oL 0 3599,⟨.write,0,8191,[]⟩,oD 1 16383,oD 1 32767]
def ED:List OpI:=[oD 0 0,oD 0 0,oD 0 3,oD 0 7,oD 0 15,oD 0 15,oD 0 15,oD 0 111,oL 0 239,oD 0 15,oD 0 15,oD 0 1551,oL 0 3599,⟨.write,0,8191,[]⟩,oD 1 16383,oD 1 32767,oD 1 65535]
def EF:List OpI:=[oD 0 0,oD 0 0,oD 0 0,oD 0 0,oD 0 0,oD 0 0,oD 0 48,oL 0 112,oD 0 0,oD 0 0,oD 0 768,oL 0 1792,oD 0 4083,oW 0 8179,oD 1 16383,oW 1 32767]
def EG:List OpI:=[oD 0 0,oD 0 0,oD 0 0,oD 0 0,oD 0 0,oD 0 0,oD 0 48,oL 0 112,oD 0 0,oD 0 0,oD 0 768,oL 0 1792,oD 0 4083,oW 0 8179,oD 1 16383,oW 1 32767]
def EH:List OpI:=[oD 0 0,oD 0 0,oD 0 2,oD 0 0,oD 0 0,oD 0 16,oD 0 0,oD 0 64,oD 0 192,oD 0 0,oD 0 512,oD 0 455,oW 0 2503,oD 1 8191,oW 1 16383]
def EI:List OpI:=[oD 0 0,oD 0 0,oD 0 2,oD 0 0,oD 0 0,oD 0 16,oD 0 0,oD 0 64,oD 0 192,oD 0 0,oD 0 512,oD 0 455,oW 0 2503,oD 1 8191,oW 1 16383]
def EJ:List OpI:=[oD 0 0,oD 0 0,oD 0 2,oD 0 0,oD 0 0,oD 0 16,oD 0 0,oD 0 64,oD 0 192,oD 0 0,oD 0 512,oD 0 455,oW 0 2503,oD 1 8191,oW 1 16383]
def EK:List OpI:=[oD 0 0,oD 0 0,oD 0 2,oD 0 0,oD 0 0,oD 0 16,oD 0 0,oD 0 64,oD 0 192,oD 0 0,oD 0 512,oD 0 455,oW 0 2503,oD 1 8191,oW 1 16383]
def EL:List OpI:=[oD 0 0,oD 0 0,oD 0 2,oD 0 0,oD 0 0,oD 0 16,oD 0 0,oD 0 64,oD 0 192,oD 0 0,oD 0 512,oD 0 455,oW 0 2503,oD 1 8191,oW 1 16383]
def EM:List OpI:=[oD 0 0,oD 0 0,oD 0 2,oD 0 0,oD 0 0,oD 0 16,oD 0 0,oD 0 64,oD 0 192,oD 0 0,oD 0 512,oD 0 455,oW 0 2503,oD 1 8191,oW 1 16383]
def EN:List OpI:=[oD 0 0,oD 0 0,oD 0 2,oD 0 0,oD 0 0,oD 0 16,oD 0 0,oD 0 64,oD 0 192,oD 0 0,oD 0 512,oD 0 455,oW 0 2503,oD 1 8191,oW 1 16383]
def EO:List OpI:=[oD 0 0,oD 0 1,oD 0 0,oD 0 7,oD 0 15,oD 0 31,oD 0 31,oD 0 31,oD 0 31,oD 0 415,oD 0 991,oL 0 2015,oD 0 31,oD 0 31,oD 0 31,oD 0 24607,oD 0 57375,oD 0 127007,oL 0 258079,⟨.write,0,524287,[]⟩,oD 1 1048575,oD 1 2097151]
def EP:List OpI:=[oD 0 0,oD 0 0,oD 0 0,oD 0 0,oD 0 12,oD 0 30,oL 0 62,oD 0 0,oD 0 0,oD 0 0,oD 0 768,oD 0 1920,oL 0 3968,⟨.write,0,8191,[]⟩,oD 1 16383,oD 1 32767]
def EQ:List OpI:=[oD 0 0,oD 0 0,oD 0 0,oD 0 6,oD 0 0,oD 0 0,oD 0 0,oD 0 96,oD 0 0,oD 0 0,oD 0 0,oD 0 1536,oD 0 3840,oL 0 7936,oD 0 0,oD 0 0,oD 0 0,oD 0 98304,oD 0 245760,oL 0 507904,oD 0 1048335,oW 0 2096911,oD 1 4194303,oW 1 8388607]
def ER:List OpI:=[oD 0 0,oD 0 1,oL 0 3,oD 0 0,oD 0 8,oL 0 24,oD 0 56,oD 0 127,oD 0 255,oW 0 511]
def ES:List OpI:=[oD 0 0,oD 0 1,oL 0 3,oD 0 0,oD 0 8,oL 0 24,oD 0 56,oD 0 127,oD 0 255,oW 0 511]
def ET:List OpI:=[oD 0 0,oD 0 1,oL 0 3,oD 0 0,oD 0 8,oL 0 24,oD 0 56,oD 0 127,oD 0 255,oW 0 511]
def EU:List OpI:=[oD 0 0,oD 0 0,oD 0 3,oD 0 0,oD 0 0,oD 0 24,oD 0 63]
def EV:List OpI:=[oD 0 0,oD 0 0,oD 0 2,oD 0 7,oD 0 0,oD 0 0,oD 0 48,oR 0 127,oD 0 255]
def EW:List OpI:=[oD 0 0,oD 0 0,oD 0 0,oD 0 6,oD 0 15,oD 0 0,oD 0 0,oD 0 0,oD 0 192,oD 0 480,oD 0 1023]
def EX:List OpI:=[oD 0 0,oD 0 0,oD 0 0,oD 0 6,oD 0 15,oD 0 0,oD 0 0,oD 0 0,oD 0 192,oD 0 480,oD 0 1023]
def EY:List OpI:=[oD 0 0,oD 0 0,oD 0 0,oD 0 6,oL 0 14,oD 0 0,oD 0 0,oD 0 96,oL 0 224,⟨.write,0,511,[]⟩,oD 1 1023]
def planT:TT (List (Nat × List OpI)) :=
 (.node [] (.node [] (.node [] (.node [] (.node [] (.node [] .leaf
 (.node [] (.node [(2,D9)] .leaf
 .leaf)
 .leaf))
 (.node [] .leaf
 (.node [] (.node [(1,Dj)] .leaf
 .leaf)
 .leaf)))
 (.node [] (.node [] .leaf
 (.node [(6,E6),(10,E7)] (.node [] (.node [(10,Ei)] .leaf
 .leaf)
 .leaf)
 (.node [(9,Dy)] .leaf
 .leaf)))
 (.node [] .leaf
 (.node [] (.node [(1,Dp)] .leaf
 .leaf)
 .leaf))))
 (.node [] (.node [] (.node [] (.node [] .leaf
 (.node [(1,Dx)] .leaf
 .leaf))
 (.node [] (.node [(1,Dd),(2,De)] .leaf
 .leaf)
 .leaf))
 (.node [] (.node [(6,E3)] (.node [] (.node [(5,DB),(7,DC)] .leaf
 .leaf)
 .leaf)
 .leaf)
 .leaf))
 (.node [] (.node [] (.node [(12,E1),(16,E2)] .leaf
 (.node [(4,Ec)] .leaf
 .leaf))
 (.node [] (.node [] (.node [(1,Es),(3,Et),(5,Eu),(8,Ew)] .leaf
 .leaf)
 .leaf)
 .leaf))
 (.node [] (.node [(4,E4),(11,E5)] (.node [(1,D4)] .leaf
 .leaf)
 .leaf)
 .leaf))))
 (.node [(16,FD)] (.node [] (.node [] (.node [] .leaf
 (.node [] (.node [(1,Da),(2,Db),(3,Dc)] .leaf
 .leaf)
 .leaf))
 (.node [(6,E0)] .leaf
 (.node [] (.node [(1,Dk)] .leaf
 .leaf)
 (.node [(17,Ee)] .leaf
 .leaf))))
 (.node [] (.node [] (.node [(4,FI)] .leaf
 .leaf)
 (.node [(1,FQ),(6,FR),(8,FT),(10,FU),(11,FV),(14,FW)] (.node [(4,Dh)] (.node [(3,Ej)] .leaf
 .leaf)
 .leaf)
 .leaf))
 (.node [(1,FG),(2,FH)] .leaf
 (.node [] (.node [(1,Dr)] .leaf
 .leaf)
 .leaf))))
 (.node [] (.node [] (.node [] .leaf
 (.node [] (.node [] (.node [(4,Ef),(6,Eg)] .leaf
 .leaf)
 .leaf)
 .leaf))
 (.node [] (.node [] (.node [] (.node [(25,DD),(27,DE),(33,DF),(35,DG),(42,DH),(43,DI),(52,DJ),(55,DK),(59,DL),(61,DM),(62,DN),(3,DO),(9,DP),(15,DQ),(19,DR)] .leaf
 .leaf)
 .leaf)
 .leaf)
 (.node [] (.node [(1,Dm)] .leaf
 .leaf)
 .leaf)))
 (.node [] (.node [(1,FF)] .leaf
 .leaf)
 (.node [] (.node [] (.node [(1,D6),(2,D7)] .leaf
 .leaf)
 .leaf)
 (.node [] (.node [(1,Du)] .leaf
 .leaf)
 .leaf))))))
 (.node [] (.node [] (.node [] (.node [(14,BS)] (.node [] (.node [] .leaf
 (.node [(2,Dw)] (.node [(7,EH),(8,EI),(9,EJ),(10,EK),(17,EL),(18,EM),(23,EN)] .leaf
 .leaf)
 .leaf))
 .leaf)
 .leaf)
 (.node [] (.node [] (.node [] .leaf
 (.node [(1,Ea)] .leaf
 .leaf))
 (.node [(4,E8),(16,E9)] (.node [(1,Dg)] .leaf
 .leaf)
 .leaf))
 (.node [] (.node [] (.node [(1,D2)] .leaf
 .leaf)
 .leaf)
 (.node [] (.node [(1,Dq)] .leaf
 .leaf)
 .leaf))))
 (.node [] (.node [] (.node [] (.node [] .leaf
 (.node [] (.node [(3,EO),(5,EP),(6,EQ)] .leaf
 .leaf)
 .leaf))
 (.node [] (.node [(1,Df)] .leaf
 .leaf)
 .leaf))
 (.node [] (.node [(1,FP)] .leaf
 .leaf)
 .leaf))
 (.node [] (.node [] (.node [(1,FJ)] .leaf
 (.node [(8,Ed)] (.node [(6,EU),(7,EV),(14,EW),(31,EX)] .leaf
 .leaf)
 .leaf))
 (.node [] (.node [] (.node [(1,Ex),(3,Ey),(5,Ez),(8,EA),(10,EB),(13,EC),(15,ED),(18,EF),(21,EG)] .leaf
 .leaf)
 .leaf)
 (.node [(1,Dz)] .leaf
 .leaf)))
 (.node [] (.node [] (.node [(2,D5)] .leaf
 .leaf)
 .leaf)
 (.node [] (.node [(1,Dt)] .leaf
 .leaf)
 .leaf)))))
 (.node [] (.node [] (.node [] .leaf
 (.node [] (.node [] (.node [] (.node [(1,DA)] .leaf
 .leaf)
 .leaf)
 (.node [] (.node [(1,EY)] .leaf
 .leaf)
 .leaf))
 (.node [] (.node [(1,Dl)] .leaf
 .leaf)
 .leaf)))
 (.node [] (.node [] (.node [] .leaf
 (.node [(3,Eb)] .leaf
 .leaf))
 (.node [(2,FX),(4,FY),(6,FZ),(7,D0)] (.node [(2,Di)] (.node [(5,Ek),(11,El),(16,Em),(17,Eo),(22,Ep),(23,Er)] .leaf
 .leaf)
 .leaf)
 .leaf))
 (.node [] (.node [] (.node [(1,D3)] .leaf
 .leaf)
 .leaf)
 (.node [] (.node [(1,Ds)] .leaf
 .leaf)
 .leaf))))
 (.node [] (.node [(6,BT)] (.node [(7,BU),(9,BV),(10,BW),(14,BX),(20,BY),(23,BZ)] (.node [] .leaf
 (.node [] (.node [(1,ER),(2,ES),(3,ET)] .leaf
 .leaf)
 .leaf))
 (.node [] (.node [] (.node [(10,Eh)] .leaf
 .leaf)
 .leaf)
 .leaf))
 (.node [] (.node [] (.node [] (.node [(3,DS),(4,DT),(6,DU),(13,DV),(15,DW),(40,DX),(46,DY),(48,DZ),(52,C0),(54,C1),(66,C3)] .leaf
 .leaf)
 .leaf)
 .leaf)
 (.node [] (.node [(1,Do)] .leaf
 .leaf)
 .leaf)))
 (.node [(6,FE)] (.node [] (.node [(16,FK),(19,FM),(22,FN),(23,FO)] .leaf
 .leaf)
 .leaf)
 (.node [] (.node [] (.node [(2,D8)] .leaf
 .leaf)
 .leaf)
 (.node [(5,D1)] (.node [(1,Dv)] .leaf
 .leaf)
 .leaf)))))))
def EZ {α:Type}:List (Nat × List α)->Nat->List α
 | [],_=>[]
 | (i,x)::r,n=>cond (Nat.beq i n) x (EZ r n)
def NC:Cfg where
 P:=Proofs.Tryz.prog
 good:=fun f=>Vf.testBit f
 mode:=fun f=>cond (R8.testBit f) .fresh (cond (freeM.testBit f) .free .pure)
 refApp:=fun f t=>refM.testBit f && refT.testBit t
 frz:=fun _ _=>false
 glob:=fun x=>cond (Nat.beq x 1) (some KC) none
 memo:=fun _ _=>none
 prim:=fun f=>cond (Nat.beq f 107) (some FB) (cond (Nat.beq f 109) (some FC) none)
 hprim:=fun _=>none
 nilArg:=fun f=>decide (f=239) || decide (f=277) || decide (f=278)
 twice:=fun f=>R9.testBit f
 plans:=fun f id=>EZ (planT.get [] f) id
end Go.Sim
